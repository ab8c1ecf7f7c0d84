/- Made from wip. -/
import Derived.Test.YtciohfkjabeooaaGreatDoorSpOpsx

namespace Go.Sp

theorem PX {R R':Ren} {x y x' y':Value} {b:Bool} (h:DK x y=some b) (hx:VR R x x') (hy:VR R' y y'):DK x' y'=some b:=by
 cases x <;> simp only[DK,vv] at h <;> try (cases h;done)
 case bool a=>obtain⟨c,hc,_⟩:=Ab h;have:=BV hc;subst this;rw[hx.bool_l,hy.bool_l];exact h
 case int k a=>obtain⟨c,hc,_⟩:=Ab h;have:=Cm hc;subst this;rw[hx.int_l,hy.int_l];exact h
 case string a=>obtain⟨c,hc,_⟩:=Ab h;have:=Cw hc;subst this;rw[hx.string_l,hy.string_l];exact h
theorem IP {R R':Ren} {xs ys xs' ys':List Value} {b:Bool} (h:Cj xs ys=some b) (hx:Cf R xs xs') (hy:Cf R' ys ys'):Cj xs' ys'=some b:=by
 induction xs generalizing ys xs' ys' b with
 | nil =>
  rw[hx.unnil]
  cases ys with
  | nil=>rw[hy.unnil];exact h
  | cons y ys=>exact absurd h (by intro h;cases h)
 | cons x xs ih =>
  obtain⟨u,us,rfl,h1,h2⟩:=hx.uncons
  cases ys with
  | nil=>exact absurd h (by intro h;cases h)
  | cons y ys =>
   obtain⟨z,zs,rfl,h3,h4⟩:=hy.uncons
   have h:oo (DK x y) none (fun b=>oo (Cj xs ys) none fun c=>some (an b c))=some b:=h
   obtain⟨p,hp,h⟩:=Ab h
   obtain⟨q,hq,h⟩:=Ab h
   show oo (DK u z) none (fun b=>oo (Cj us zs) none fun c=>some (an b c))=some b
   rw[PX hp h1 h3,Ac,ih hq h2 h4]
   exact h

section
variable {P:Program} {tt:TT} (hT:Jm P tt) {H:Aa} {R:Ren} {w:World}

noncomputable def Mf (v:Value):Option (Nat×Bool):=
 vv v (fun _=>none) (fun _ _=>none) (fun _=>none) (fun a=>some (4,nt (isS a))) (fun a _ _=>some (2,nt (isS a))) (fun m=>some (5,nt (isS m))) (fun _ _ _=>some (6,false)) (some (6,true)) (fun _ _=>none) none (fun _=>none) (fun _=>none) none
theorem Ls {sz n fl:Nat} {cs:List Value} {b:Nat×Bool} (h:YE (.iface sz (.agg ⟨.slice none n fl::cs⟩))=some b):(fl=2∧(2,true)=b)∨(fl≠2∧(fl=3∨1≤n)∧(2,false)=b):=by
 have h:bb (Nat.beq fl 2) (some (2,true)) (bb (Dp (Nat.beq fl 3) (Nat.ble 1 n)) (some (2,false)) none)=some b:=h
 rw[BL] at h
 split at h
 ·rename_i hb
  injection h with h
  exact .inl ⟨Nat.eq_of_beq_eq_true hb,h⟩
 ·rename_i hb
  obtain⟨h1,h2⟩:=Ae h
  injection h2 with h2
  rw[Ed,Bool.or_eq_true] at h1
  exact .inr ⟨fun e=>hb (by rw[e];rfl),h1.imp Nat.eq_of_beq_eq_true Nat.le_of_ble_eq_true,h2⟩
theorem Lt {a:Addr} {l c:Nat} {b:Nat×Bool} (h:YE (.slice (some a) l c)=some b):2≤c∧(2,false)=b:=by
 obtain⟨h1,h2⟩:=Ae (show bb (Nat.ble 2 c) (some (2,false)) none=some b from h)
 injection h2 with h2
 exact⟨Nat.le_of_ble_eq_true h1,h2⟩
theorem Xv {R:Ren} {x x':Value} {b:Nat×Bool} (h:YE x=some b) (hx:VR R x x'):Mf x'=some b:=by
 cases hx
 case any=>cases h
 case fs hfl _ _ _ _ _=>
  rcases Ls h with⟨h1,_⟩ | ⟨_,_,h1⟩
  ·exact absurd h1 (by assumption)
  ·rw[←h1];rfl
 case fsN h3=>
  rcases Ls h with⟨_,h1⟩ | ⟨_,h1 | h1,_⟩
  ·rw[←h1];rfl
  ·exact absurd h1 h3
  ·omega
 case fsE=>
  rcases Ls h with⟨h1,_⟩ | ⟨_,_,h1⟩
  ·exact absurd h1 (by assumption)
  ·rw[←h1];rfl
 case sl=>obtain⟨_,h1⟩:=Lt h;rw[←h1];rfl
 case slE h0=>obtain⟨h1,_⟩:=Lt h;omega
 case slN h0=>obtain⟨h1,_⟩:=Lt h;omega
 case fp=>exact h
 all_goals first | exact h | (simp[YE,Mf,vv] at h ⊢;exact h)

theorem Mg {d:TypeDesc} (h:H6 d=1):d = .bool:=by
 cases d <;> first | rfl | (simp[H6,dd] at h)
theorem Kt {t:TypeId} {x y:Value} {b:Bool} (h:∀ d,(Op.equalIn (d+1) t x y).run P w = .ok b w):(Op.equal t x y).run P w = .ok b w:=h 9999

theorem YS {t:TypeId} {d:TypeDesc} (hu:P.underlying t=some d) {x y:Value} {p q:Nat×Bool} {b:Bool} (hp:Mf x=some p) (hq:Mf y=some q) (h1:p.1=H6 d) (h2:q.1=H6 d)
 (h:bb p.2 (some q.2) (bb q.2 (some false) none)=some b):(Op.equal t x y).run P w = .ok b w:=by
 have hrun:=run_underlying hu
 refine Kt fun n=>?_
 cases x <;> simp only [Mf, vv] at hp <;> (try (cases hp; done)) <;> cases y <;> simp only [Mf, vv] at hq <;> (try (cases hq; done)) <;> (injection hp with hp; injection hq with hq; subst hp; subst hq; simp only at h1 h2 h) <;>
  (try (exfalso;omega)) <;> cases d <;> (try (exfalso;simp[H6,dd] at h1;done)) <;> simp only[Op.equalIn,Sem.run_bind,hrun,Result.andThen_ok]
 case pointer.pointer.pointer a c e=>cases a <;> cases c <;> simp at h ⊢ <;> exact h
 case slice.slice.slice a _ _ c _ _ e=>cases a <;> cases c <;> simp at h ⊢ <;> exact h
 case map.map.map a c k e=>cases a <;> cases c <;> simp at h ⊢ <;> exact h
 case func.func.func=>simp at h
 all_goals (simp at h ⊢;try exact h)

theorem jS {t:TypeId} {y:Value}:wD tt t (.iface 0 .nilIface) y=none:=by
 unfold wD
 cases tt t with
 | none=>rfl
 | some i =>
  rw[Ac,BL]
  split
  ·rfl
  ·rw[BL];split <;> rfl

include hT in
theorem qM {t:TypeId} {x y x' y':Value} {b:Bool} (h:wD tt t x y=some b) (hx:VR R x x') (hy:VR R y y') :
 (Op.equal t x' y').run P w = .ok b w∧((∀ a c,¬ (x' = .agg a∧y' = .agg c))∨P.eqGuardType P.depth t=false)∧¬ (x' = .nilIface∧y' = .nilIface):=by
 obtain⟨i,hi,h⟩:=Ab h
 have hu:=hT.und hi
 rw[BL] at h
 split at h
 ·rename_i hk
  obtain⟨a,ha,h⟩:=Ab h
  obtain⟨c,hc,h⟩:=Ab h
  have:=BV ha;subst this
  have:=BV hc;subst this
  rw[hx.bool_l,hy.bool_l]
  injection h with h;subst h
  have hd:i.und = .bool:=Mg (Nat.eq_of_beq_eq_true hk)
  refine⟨?_,.inl (by simp),by simp⟩
  rw[hd] at hu
  refine Kt fun d=>?_
  simp only[Op.equalIn,Sem.run_bind,run_underlying hu,Result.andThen_ok]
  simp
 ·rw[BL] at h
  split at h
  ·rename_i hk
   obtain⟨xs,hxs,h5⟩:=Ab h
   obtain⟨ys,hys,h6⟩:=Ab h5
   obtain⟨hc,h7⟩:=Ae h6
   clear h h5 h6
   obtain⟨hfl,zs,hz,hlike⟩:=JE hc
   have:=BQ hxs;subst this
   have:=BQ hys;subst this
   obtain⟨us,rfl,h1⟩:=hx.agg_l
   obtain⟨vs,rfl,h2⟩:=hy.agg_l
   have hf:=hT.flat t i zs hi hfl hz
   exact⟨hf.1 us vs b w (JD hlike h1) (IP h7 h1 h2),.inr hf.2.1,by simp⟩
  ·obtain⟨p,hp,h⟩:=Ab h
   obtain⟨q,hq,h⟩:=Ab h
   obtain⟨hc,h⟩:=Ae h
   simp only[CF,Bool.and_eq_true] at hc
   have hp':=Xv hp hx
   have hq':=Xv hq hy
   refine⟨YS hu hp' hq' (Nat.eq_of_beq_eq_true hc.1) (Nat.eq_of_beq_eq_true hc.2) h,.inl ?_,?_⟩
   ·rintro a c ⟨rfl,_⟩;simp[Mf,vv] at hp'
   ·rintro⟨rfl,_⟩;simp[Mf,vv] at hp'

theorem jT {op:BinOp} {a b:ByteArray} {v:Value} (h:qF op a b=some v) (t:TypeId):(binOp op t (.string a) (.string b)).run P w = .ok v w∧BR v=true:=by
 unfold qF at h
 rw[BL] at h
 split at h
 ·rename_i ha
  obtain⟨hs,h⟩:=Ae h
  injection h with h;subst h
  have:op = .add:=by cases op <;> first | rfl | (exact absurd ha (by decide))
  subst this
  have hs:=Nat.le_of_ble_eq_true hs
  have hmax:IntKind.i64.max=9223372036854775807:=rfl
  have hle:¬ (((a.size+b.size:Nat):Int) > IntKind.i64.max):=by rw[hmax];omega
  refine⟨?_,rfl⟩
  simp only[binOp,Op.stringOp]
  rw[if_neg hle];rfl
 ·obtain⟨r,hr,h1⟩:=Ab h
  injection h1 with h1;subst h1
  refine⟨?_,rfl⟩
  cases op <;> simp[yX,BinOp.pick] at hr <;> simp[binOp,Op.stringOp,hr]

theorem Tf {op:BinOp} {k:IntKind} {x y:Int} {v:Value} (h:SV op k x y=some v):BR v=true:=by
 cases op <;> simp only[SV,BinOp.pick,iv,bv] at h
 case quo=>have h:=(FQ h).2;injection h with h;subst h;rfl
 case rem=>have h:=(FQ h).2;injection h with h;subst h;rfl
 case shl=>cases h
 case shr=>cases h
 all_goals (injection h with h;subst h;rfl)

include hT in
theorem jU {op:BinOp} {t:TypeId} {x y x' y' v:Value} (h:qG tt op t x y=some v) (hx:VR R x x') (hy:VR R y y') (xo yo:Operand) :
 (do eqGuard op t xo yo x' y';binOp op t x' y':Sem Value).run P w = .ok v w∧BR v=true:=by
 unfold qG at h
 cases hi:ES x with
 | some p =>
  rw[hi,Ac,Bg] at h
  obtain⟨q,hq,h0⟩:=Ab h
  rw[Bg] at h0
  have e1:=Cm hi
  have e2:=Cm hq
  subst e1;subst e2
  clear h
  have h:=h0
  clear h0
  rw[hx.int_l,hy.int_l]
  have hg:(eqGuard op t xo yo (.int p.1 p.2) (.int q.1 q.2)).run P w = .ok () w:=by
   cases op <;> simp[eqGuard]
  rw[Sem.run_bind,hg,Result.andThen_ok]
  rw[BL] at h
  split at h
  ·rename_i hs
   refine⟨YR h hs t,?_⟩
   unfold Ld at h
   cases hq2:q.2 with
   | ofNat n=>rw[hq2] at h;simp only[F6,iv] at h;injection h with h;subst h;rfl
   | negSucc n=>rw[hq2] at h;simp at h
  ·rename_i hs
   obtain⟨hk,h⟩:=Ae h
   have hk:=CZ hk
   rw[←hk]
   exact⟨aF h (by simpa using hs) t,Tf h⟩
 | none =>
  rw[hi,Az] at h
  cases hs:Gx x with
  | some a =>
   rw[hs,Ac] at h
   obtain⟨b,hb,h⟩:=Ab h
   have e1:=Cw hs
   have e2:=Cw hb
   subst e1;subst e2
   rw[hx.string_l,hy.string_l]
   have hg:(eqGuard op t xo yo (.string a) (.string b)).run P w = .ok () w:=by
    cases op <;> simp[eqGuard]
   rw[Sem.run_bind,hg,Result.andThen_ok]
   exact jT h t
  | none =>
   rw[hs,Az] at h
   obtain⟨wt,hw,h⟩:=Ab h
   obtain⟨b,hb,h⟩:=Ab h
   obtain⟨h1,h2,h3⟩:=qM (w:=w) hT hb hx hy
   have hg:(eqGuard op t xo yo x' y').run P w = .ok () w:=by
    unfold eqGuard
    cases x' <;> cases y' <;> first
     | (exact absurd ⟨rfl,rfl⟩ h3)
     | (cases op <;> simp;done)
     | (rcases h2 with h2 | h2
        ·exact absurd ⟨rfl,rfl⟩ (h2 _ _)
        ·cases op <;> simp[h2])
   rw[Sem.run_bind,hg,Result.andThen_ok]
   have hany:x ≠ .iface 0 .nilIface:=fun e=>by subst e;rw[jS] at hb;cases hb
   have hni:∀ k n,x' ≠ .int k n:=fun k n e=>by subst e;cases hx <;> first | exact hany rfl | (simp[ES,vv] at hi)
   have hns:∀ s,x' ≠ .string s:=fun s e=>by subst e;cases hx <;> first | exact hany rfl | (simp[Gx,vv] at hs)
   have hop:op = .eql∧wt=true∨op = .neq∧wt=false:=by cases op <;> simp[ZX,BinOp.pick] at hw <;> simp[hw]
   injection h with h
   subst h
   refine⟨?_,rfl⟩
   have hnf:∀ k n,x' ≠ .float k n:=fun k n e=>by subst e;cases hx;exact hany rfl
   have hnc:∀ k n m,x' ≠ .complex k n m:=fun k n m e=>by subst e;cases hx;exact hany rfl
   rcases hop with⟨rfl,rfl⟩ | ⟨rfl,rfl⟩
   ·have : binOp .eql t x' y' = (do pure (.bool (← Op.equal t x' y'))) := by
     cases x' <;> first | rfl | (exact absurd rfl (hni _ _)) | (exact absurd rfl (hns _)) | (exact absurd rfl (hnf _ _)) | (exact absurd rfl (hnc _ _ _)) | (cases y' <;> rfl)
    rw[this];simp[h1]
   ·have : binOp .neq t x' y' = (do pure (.bool (!(← Op.equal t x' y')))) := by
     cases x' <;> first | rfl | (exact absurd rfl (hni _ _)) | (exact absurd rfl (hns _)) | (exact absurd rfl (hnf _ _)) | (exact absurd rfl (hnc _ _ _)) | (cases y' <;> rfl)
    rw[this];simp[h1]

theorem qN {op:UnOp} {x x' v:Value} (h:wX op x=some v) (hx:VR R x x'):(Op.unary op x').run P w = .ok v w∧BR v=true:=by
 cases op <;> simp only[wX] at h
 ·obtain⟨p,hp,h⟩:=Ab h
  rw[Bg] at h
  have:=Cm hp;subst this
  rw[hx.int_l]
  injection h with h;subst h
  refine⟨?_,rfl⟩
  rw[IM,show Int.sub (Int.ofNat 0) p.2=0 - p.2 from rfl]
  simp[Op.unary,Op.intArith]
 ·obtain⟨p,hp,h⟩:=Ab h
  rw[Bg] at h
  have:=Cm hp;subst this
  rw[hx.int_l]
  injection h with h;subst h
  refine⟨?_,rfl⟩
  rw[Xu]
  simp[Op.unary,Op.intBits,Nn]
 ·obtain⟨p,hp,h⟩:=Ab h
  have:=BV hp;subst this
  rw[hx.bool_l]
  injection h with h;subst h
  refine⟨?_,rfl⟩
  simp[Op.unary]
 ·cases h

theorem Lu {d:TypeDesc} {k:IntKind} (h:YG d=some k):d = .int k:=by cases d <;> simp[YG,dd] at h;subst h;rfl
theorem F9 {d:TypeDesc} {k:Nat} (h:Xi d=some k):d = .slice k:=by cases d <;> simp[Xi,dd] at h;subst h;rfl
theorem Hg {d:TypeDesc} {k:Nat×Nat} (h:MO d=some k):d = .array k.1 k.2:=by cases d <;> simp[MO,dd] at h;subst h;rfl
theorem PY {d:TypeDesc} {k:Nat×Nat} (h:YF d=some k):d = .map k.1 k.2:=by cases d <;> simp[YF,dd] at h;subst h;rfl
theorem Ku {d:TypeDesc} {k:Array Field} (h:Kj d=some k):d = .struct k:=by cases d <;> simp[Kj,dd] at h;subst h;rfl
theorem Er {d:TypeDesc} (h:IE d=true):d = .string:=by cases d <;> first | rfl | (simp[IE,dd] at h)

include hT in
theorem aG {s d:TypeId} {x x' v:Value} (h:mU tt s d x=some v) (hx:VR R x x'):(convert s d x').run P w = .ok v w∧BR v=true:=by
 obtain⟨si,hsi,h1⟩:=Ab h
 obtain⟨di,hdi,h2⟩:=Ab h1
 clear h h1
 have hus:=hT.run_und hsi w
 have hud:=hT.run_und hdi w
 cases hi:ES x with
 | some p =>
  rw[hi,Ac,Bg] at h2
  obtain⟨k,hk,h3⟩:=Ab h2
  have:=Cm hi;subst this
  rw[hx.int_l]
  have hdk:=Lu hk
  rw[hdk] at hud
  injection h3 with h3;subst h3
  rw[IM]
  refine⟨?_,rfl⟩
  simp only[convert,Sem.run_bind,hus,hud,Result.andThen_ok]
  cases si.und <;> simp[Conv.intToInt]
 | none =>
  rw[hi,Az] at h2
  obtain⟨b,hb,h3⟩:=Ab h2
  obtain⟨hc,h4⟩:=Ae h3
  have:=Cw hb;subst this
  rw[hx.string_l]
  obtain⟨hc1,hc2⟩:=Av hc
  rw[Er hc1] at hus
  rw[Er hc2] at hud
  injection h4 with h4;subst h4
  refine⟨?_,rfl⟩
  simp[convert,hus,hud]
end
end Go.Sp
namespace Go.Sp

theorem add_plain (c o j:Nat):(⟨c,o,none⟩:Addr).add j=⟨c,o+j,none⟩:=by unfold Addr.add;split <;> simp_all
theorem Et {o:AJ} {x:H7} (h:Bv o=some x):o = .cells x.xs x.imm x.spent x.anc:=by
 cases o <;> simp[Bv] at h;subst h;rfl
theorem DI {o:AJ} {x:Lf} (h:JU o=some x):o = .map x.es x.clock:=by
 cases o <;> simp[JU] at h;subst h;rfl

theorem Dh {b:Bool} (h:nt b=true):b=false:=by cases b with
 | false=>rfl
 | true=>cases h

section
variable {P:Program} {tt:TT} (hT:Jm P tt) {H:Aa} {R:Ren} {w:World}

theorem Ck.cells (hs:Ck H R w) {id c β:Nat} (hid:R.f id=some (c,β)) {o:H7} (ho:Bv (H.get id)=some o) :
 ∃ C t fz,w.heap[c]?=some (.cells C t fz)∧C.size=R.sz c∧β+o.xs.length≤C.size∧Du R o.xs β C:=by
 have h:=hs.obj id c β hid
 rw[Et ho] at h
 obtain⟨C,t,fz,h1,h2,h3,h4,_⟩:=h
 exact⟨C,t,fz,h1,h2,h3,h4⟩

theorem Jo {R:Ren} {xs:List Value} {β:Nat} {C:Array Value} (h:Du R xs β C) (hfit:β+xs.length≤C.size) (off n:Nat) (hn:off+n≤xs.length) :
 Cf R ((xs.drop off).take n) ((C.toList.drop (β+off)).take n):=by
 refine⟨by simp;omega,fun i x y hx hy=>?_⟩
 rw[List.getElem?_take] at hx hy
 split at hx
 ·rename_i hi
  rw[if_pos hi,List.getElem?_drop] at hy
  rw[List.getElem?_drop] at hx
  obtain⟨z,hz,hv⟩:=h (off+i) x hx
  rw[Array.getElem?_toList,show β+off+i=β+(off+i) by omega,hz] at hy
  injection hy with hy;subst hy;exact hv
 ·cases hx
theorem Py {c o n:Nat} {C:Array Value} {t:TypeId} {fz:Nat×Nat} (hC:w.heap[c]?=some (.cells C t fz)) :
 ∀ (j:Nat) (v:Value),((C.toList.drop o).take n)[j]?=some v→w.cell? ((⟨c,o,none⟩:Addr).add j)=some v:=fun j v h=>by
 rw[List.getElem?_take] at h
 split at h
 ·rw[List.getElem?_drop,Array.getElem?_toList] at h
  rw[add_plain]
  simp[World.cell?,hC,h]
 ·cases h
theorem Fv {c o n:Nat} {C:Array Value} {t:TypeId} {fz:Nat×Nat} (hC:w.heap[c]?=some (.cells C t fz)) (hn:o+n≤C.size) :
 (loadCells ⟨c,o,none⟩ n).run P w = .ok ((C.toList.drop o).take n).toArray w:=by
 have h:=run_loadCells_list (P:=P) w ⟨c,o,none⟩ ((C.toList.drop o).take n) (Py hC)
 have e:((C.toList.drop o).take n).length=n:=by simp;omega
 rw[e] at h
 exact h

include hT in
theorem Ia {t:TypeId} {i:TI} (hi:tt t=some i) {xs:List Value} {off c β:Nat} {v:Value} (h:L9 i xs off=some v) {C:Array Value} {ty:TypeId} {fz:Nat×Nat}
 (hC:w.heap[c]?=some (.cells C ty fz)) (hfit:β+xs.length≤C.size) (hc:Du R xs β C):∃ u,(loadVar t ⟨c,β+off,none⟩).run P w = .ok u w∧VR R v u:=by
 unfold L9 at h
 have ha:=hT.run_isAgg hi w
 have hz:=hT.run_size hi w
 rw[BL] at h
 split at h
 ·rename_i hag
  obtain⟨hle,h⟩:=Ae h
  simp only[Cg,Bz,AV] at h hle
  have hle:=Nat.le_of_ble_eq_true hle
  injection h with h;subst h
  refine⟨.agg ((C.toList.drop (β+off)).take i.size).toArray,?_,?_⟩
  ·simp only[loadVar,Sem.run_bind,ha,hag,Result.andThen_ok,if_true,hz,Fv hC (show β+off+i.size≤C.size by omega),Sem.run_pure]
  ·exact .agg (Jo hc hfit off i.size hle).1 (Jo hc hfit off i.size hle).2
 ·rename_i hag
  have hag:DU i.und=false:=by simpa using hag
  simp only[BZ] at h
  obtain⟨y,hy,hv⟩:=hc off v h
  refine⟨y,?_,hv⟩
  simp only[loadVar,Sem.run_bind,ha,hag,Result.andThen_ok,Bool.false_eq_true,if_false,run_load]
  simp[World.cell?,hC,hy]

include hT in
theorem aH (hs:Ck H R w) {t:TypeId} {a a' v:Value} (h:Ma tt H t a=some v) (ha:VR R a a'):∃ u,(Instr.loadAt t a').run P w = .ok u w∧VR R v u:=by
 obtain⟨i,hi,h1⟩:=Ab h
 cases hp:FO a with
 | some p =>
  rw[hp,Ac,Bg] at h1
  obtain⟨o,ho,h3⟩:=Ab h1
  have:=Dg hp;subst this
  obtain⟨c,β,hid,rfl⟩:=ha.ptr_l
  obtain⟨C,ty,fz,hC,_,hfit,hc⟩:=hs.cells hid ho
  obtain⟨u,hu,hv⟩:=Ia hT hi h3 hC hfit hc
  exact⟨u,by simp[Instr.loadAt,Instr.sureAddr,hu],hv⟩
 | none =>
  rw[hp,Az] at h1
  obtain⟨q,hq,h2⟩:=Ab h1
  obtain⟨c,o,C,hc,rfl,hfit,hcr,_⟩:=ha.fp_l hq
  obtain⟨⟨ty,fz,hC⟩,_⟩:=hs.ro c C hc
  obtain⟨u,hu,hv⟩:=Ia hT hi h2 hC hfit hcr
  exact⟨u,by simp[Instr.loadAt,Instr.sureAddr,hu],hv⟩

include hT in
theorem YT {H':Aa} (hs:Ck H R w) {t:TypeId} {a a' v v':Value} (h:ZY tt H t a v=some H') (ha:VR R a a') (hv:VR R v v') :
 ∃ w',(Instr.storeAt t a' v').run P w = .ok () w'∧Ba H R w H' R w':=by
 obtain⟨p,hp,h1⟩:=Ab h
 rw[Bg] at h1
 obtain⟨i,hi,h2⟩:=Ab h1
 obtain⟨hsz,h3⟩:=Ae h2
 obtain⟨htup,hsz⟩:=Av hsz
 have:=Dg hp;subst this
 obtain⟨c,β,hid,rfl⟩:=ha.ptr_l
 have hl:=EX hv (Dh htup)
 obtain⟨C,ty,hC,hfit,hone,hpost⟩:=F8 hs h3 hid hl
 refine⟨_,?_,hpost⟩
 have hlen:v'.cells.size=i.size:=by
  rw[←Array.length_toList,←hl.1]
  simp only[AV] at hsz
  exact Nat.eq_of_beq_eq_true hsz
 simp only[Instr.storeAt,Instr.sureAddr,storeVar,Sem.run_bind,Sem.run_pure,Result.andThen_ok,hT.run_size hi w,hlen,ne_eq,not_true,if_false]
 have:=run_storeCells_at P c (β+p.2) ty v'.cells.toList 0 C w hC (by simpa using hfit) hone
 simpa using this

theorem Vj (hs:Ck H R w) (t:TypeId) {xs ys:List Value} (h:Cf R xs ys) :
 Ba H R w (H.push (.cells xs false false [])) (R.ext H.next w.heap.size 0 ys.length) (w.alloc (.cells ys.toArray t)):=by
 have:=EY (w:=w) t [] false hs h false [] (by simp)
 simpa using this

theorem PZ (hs:Ck H R w) (t:TypeId) {v v':Value} (hl:Cf R (cellsOf v) v'.cells.toList) :
 ∃ w' R', (do pure (.pointer (some (← newVar t v'))) : Sem Value).run P w = .ok (.pointer (some ⟨w.heap.size, 0, none⟩)) w' ∧
  VR R' (.pointer (some ⟨H.next,0,none⟩)) (.pointer (some ⟨w.heap.size,0,none⟩))∧Ba H R w (H.push (.cells (cellsOf v) false false [])) R' w':=by
 refine⟨_,_,?_,?_,Vj hs t hl⟩
 ·simp[newVar,newRow]
 ·have:=VR.ptr (off:=0) (Ren.ext_new R H.next w.heap.size 0 v'.cells.toList.length)
  simpa using this

theorem EZ {v:Value} {g:wF} (h:GH v=some g):v = .func (.func g.f) ⟨g.first⟩ ⟨g.rest⟩:=by
 cases v <;> simp[GH,vv] at h
 rename_i f a b
 cases f <;> simp[AbZ] at h
 obtain⟨l⟩:=a;obtain⟨m⟩:=b
 simp[JS] at h;subst h;rfl

theorem Tg {t t' v:Value} {i:Nat} (h:SY t i=some v) (ht:VR R t t'):∃ u,(Instr.extract t' i).run P w = .ok u w∧VR R v u:=by
 obtain⟨vs,hvs,h1⟩:=Ab h
 have:=EU hvs;subst this
 rw[BZ] at h1
 obtain⟨us,rfl,hl⟩:=ht.tuple_l
 obtain⟨u,hu,hv⟩:=hl.get h1
 refine⟨u,?_,hv⟩
 simp[Instr.extract,hu]

theorem JF {β:Type} {t:TypeId} {f:Nat} {k:Field→TI→Option β} {r:β} (h:Nu tt t f k=some r) :
 ∃ i fs fd ie,tt t=some i∧i.und = .struct fs∧fs[f]?=some fd∧tt fd.type=some ie∧k fd ie=some r:=by
 obtain⟨i,hi,h1⟩:=Ab h
 obtain⟨fs,hfs,h2⟩:=Ab h1
 obtain⟨fd,hfd,h3⟩:=Ab h2
 obtain⟨ie,hie,h4⟩:=Ab h3
 exact⟨i,fs,fd,ie,hi,Ku hfs,by simpa using hfd,hie,h4⟩

include hT in
theorem Pz {t:TypeId} {x x' v:Value} {f:Nat} (h:Nv tt t x f=some v) (hx:VR R x x'):∃ u,(Instr.fieldAt t x' f).run P w = .ok u w∧VR R v u:=by
 obtain⟨i,fs,fd,ie,hi,hd,hfd,hie,h1⟩:=JF h
 obtain⟨hz,h2⟩:=FQ h1
 have hz:ie.size≠0:=fun e=>by rw[e] at hz;cases hz
 have hu:=hT.run_und hi w
 rw[hd] at hu
 cases hp:FO x with
 | none =>
  rw[hp,Az] at h2
  obtain⟨q,hq,h3⟩:=Ab h2
  injection h3 with h3;subst h3
  obtain⟨c,o,C,hc,rfl,hfit,hcr,hcl⟩:=hx.fp_l hq
  refine⟨.pointer (some ⟨c,o+(q.off+fd.offset),none⟩),?_,.mkFp hc hfit hcr hcl⟩
  simp[Instr.fieldAt,hu,hfd,Instr.sureAddr,fieldPlace,hT.run_size hie w,hz,add_plain,Nat.add_assoc]
 | some p=>
 rw[hp,Ac,Bg] at h2
 injection h2 with h3;subst h3
 have:=Dg hp;subst this
 obtain⟨c,β,hid,rfl⟩:=hx.ptr_l
 refine⟨.pointer (some ⟨c,β+(p.2+fd.offset),none⟩),?_,.ptr hid⟩
 simp[Instr.fieldAt,hu,hfd,Instr.sureAddr,fieldPlace,hT.run_size hie w,hz,add_plain,Nat.add_assoc]

include hT in
theorem Xw {t:TypeId} {i:TI} (hi:tt t=some i) {xs ys:List Value} {off:Nat} {v:Value} (h:L9 i xs off=some v) (hl:Cf R xs ys):∃ u,(part t ⟨ys⟩ off).run P w = .ok u w∧VR R v u:=by
 unfold L9 at h
 have ha:=hT.run_isAgg hi w
 have hz:=hT.run_size hi w
 rw[BL] at h
 split at h
 ·rename_i hag
  obtain⟨hle,h⟩:=Ae h
  simp only[Cg,Bz,AV] at h hle
  have hle:=Nat.le_of_ble_eq_true hle
  injection h with h;subst h
  refine⟨.agg ((ys.drop off).take i.size).toArray,?_,?_⟩
  ·simp only[part,Sem.run_bind,ha,hag,Result.andThen_ok,if_true,hz,Sem.run_pure]
   congr 2
   simp[List.extract_toArray,List.extract_eq_take_drop]
  ·have:=(hl.drop off).take i.size
   exact .agg this.1 this.2
 ·rename_i hag
  have hag:DU i.und=false:=by simpa using hag
  simp only[BZ] at h
  obtain⟨y,hy,hv⟩:=hl.get h
  refine⟨y,?_,hv⟩
  simp only[part,Sem.run_bind,ha,hag,Result.andThen_ok,Bool.false_eq_true,if_false]
  simp[hy]

include hT in
theorem YU {t:TypeId} {x x' v:Value} {f:Nat} (h:ZZ tt t x f=some v) (hx:VR R x x'):∃ u,(Instr.field t x' f).run P w = .ok u w∧VR R v u:=by
 obtain⟨i,fs,fd,ie,hi,hd,hfd,hie,h1⟩:=JF h
 obtain⟨cs,hcs,h2⟩:=Ab h1
 have:=BQ hcs;subst this
 obtain⟨us,rfl,hl⟩:=hx.agg_l
 have hu:=hT.run_und hi w
 rw[hd] at hu
 obtain⟨u,hr,hv⟩:=Xw (w:=w) hT hie h2 hl
 exact⟨u,by simp[Instr.field,hu,hfd,asAgg,hr],hv⟩

theorem VR.nat_l {R:Ren} {x x':Value} {n:Nat} (h:MN x=some n) (hx:VR R x x'):∃ k,x' = .int k n:=by
 obtain⟨k,rfl⟩:=PW h
 exact⟨k,hx.int_l⟩

theorem VR.sl_l {R:Ren} {x x':Value} {s:qE} (h:IA x=some s) (hx:VR R x x') :
 (∃ c β cap,R.f s.id=some (c,β)∧x' = .slice (some ⟨c,β+s.off,none⟩) s.len cap∧s.len≤s.cap / 2∧s.cap / 2≤cap∧(s.cap % 2=1→cap=s.cap / 2)∧β+s.off+cap*s.sz≤R.sz c) ∨
 (∃ c o,x' = .slice (some ⟨c,o,none⟩) 0 0∧s.len=0∧s.cap / 2=0)∨(x' = .slice none 0 0∧s.len=0∧s.cap / 2=0):=by
 have:=Ko h;subst this
 generalize hl:s.len=ln at hx
 cases hx with
 | sl h h1 h2 h3 h4=>exact .inl ⟨_,_,_,h,by simp,h1,h2,h3,h4⟩
 | slE h=>exact .inr (.inl ⟨_,_,rfl,by omega,h⟩)
 | slN h=>exact .inr (.inr ⟨rfl,by omega,h⟩)

include hT in
theorem PD {t:TypeId} {x x' ix ix' v:Value} (h:Nt tt t x ix=some v) (hx:VR R x x') (hix:VR R ix ix'):∃ u,(Instr.indexAt t x' ix').run P w = .ok u w∧VR R v u:=by
 obtain⟨i,hi,h1⟩:=Ab h
 obtain⟨n,hn,h2⟩:=Ab h1
 obtain⟨k,rfl⟩:=hix.nat_l hn
 have hu:=hT.run_und hi w
 cases hd:Xi i.und with
 | some e =>
  rw[hd,Ac] at h2
  obtain⟨ie,hie,h3⟩:=Ab h2
  cases hsl:IA x with
  | none =>
   rw[hsl,Az] at h3
   obtain⟨f,hf,h4⟩:=Ab h3
   obtain⟨hc,h5⟩:=Ae h4
   obtain⟨hc1,hc2⟩:=Av hc
   rw[Nat.blt_eq] at hc1
   have hc2:=Nat.eq_of_beq_eq_true hc2
   injection h5 with h5;subst h5
   rw[F9 hd] at hu
   rcases hx.fs_l hf with⟨h0,_⟩ | ⟨_,h0,_⟩ | ⟨c,o,cap,C,hro,rfl,hn,k1,k2,k3,hfit,hcr,hcl⟩
   ·omega
   ·omega
   ·refine⟨.pointer (some ⟨c,o+n*f.sz,none⟩),?_,.mkFp hro hfit hcr hcl⟩
    simp[Instr.indexAt,asIntOf,hu,hc1,hT.run_size hie w,add_plain,hc2]
  | some s=>
  rw[hsl,Ac] at h3
  have h4:=h3
  obtain⟨hc,h5⟩:=Ae (show bb (an (Nat.blt n s.len) (Nat.beq ie.size s.sz)) (jN s.id (s.off+n*s.sz)) none=some v from h4)
  obtain⟨hc1,hc2⟩:=Av hc
  rw[Nat.blt_eq] at hc1
  have hc2:=Nat.eq_of_beq_eq_true hc2
  injection h5 with h5;subst h5
  rw[F9 hd] at hu
  rcases hx.sl_l hsl with⟨c,β,cap,hid,rfl,_⟩ | ⟨c,o,rfl,h0,_⟩ | ⟨rfl,h0,_⟩
  ·refine⟨.pointer (some ⟨c,β+(s.off+n*s.sz),none⟩),?_,.ptr hid⟩
   simp[Instr.indexAt,asIntOf,hu,hc1,hT.run_size hie w,add_plain,hc2,Nat.add_assoc]
  ·omega
  ·omega
 | none =>
  rw[hd,Az] at h2
  obtain⟨p,hp,h3⟩:=Ab h2
  rw[Bg] at h3
  obtain⟨ie,hie,h4⟩:=Ab h3
  rw[Hg hp] at hu
  cases hq:FO x with
  | none =>
   rw[hq,Az] at h4
   obtain⟨q,hq2,h5⟩:=Ab h4
   obtain⟨hc,h6⟩:=Ae h5
   rw[Nat.blt_eq] at hc
   injection h6 with h6;subst h6
   obtain⟨c,o,C,hro,rfl,hfit,hcr,hcl⟩:=hx.fp_l hq2
   refine⟨.pointer (some ⟨c,o+(q.off+n*ie.size),none⟩),?_,.mkFp hro hfit hcr hcl⟩
   simp[Instr.indexAt,asIntOf,hu,Instr.sureAddr,hc,hT.run_size hie w,add_plain,Nat.add_assoc]
  | some q=>
  rw[hq,Ac,Bg] at h4
  obtain⟨hc,h6⟩:=Ae h4
  rw[Nat.blt_eq] at hc
  injection h6 with h6;subst h6
  have:=Dg hq;subst this
  obtain⟨c,β,hid,rfl⟩:=hx.ptr_l
  refine⟨.pointer (some ⟨c,β+(q.2+n*ie.size),none⟩),?_,.ptr hid⟩
  simp[Instr.indexAt,asIntOf,hu,Instr.sureAddr,hc,hT.run_size hie w,add_plain,Nat.add_assoc]

include hT in
theorem YV {t:TypeId} {x x' ix ix' v:Value} (h:Z0 tt t x ix=some v) (hx:VR R x x') (hix:VR R ix ix'):∃ u,(Instr.index t x' ix').run P w = .ok u w∧VR R v u:=by
 obtain⟨i,hi,h1⟩:=Ab h
 obtain⟨n,hn,h2⟩:=Ab h1
 obtain⟨k,rfl⟩:=hix.nat_l hn
 have hu:=hT.run_und hi w
 cases hd:MO i.und with
 | some p =>
  rw[hd,Ac,Bg] at h2
  obtain⟨cs,hcs,h3⟩:=Ab h2
  obtain⟨ie,hie,h4⟩:=Ab h3
  obtain⟨hc,h5⟩:=Ae h4
  rw[Nat.blt_eq] at hc
  rw[Hg hd] at hu
  have:=BQ hcs;subst this
  obtain⟨us,rfl,hl⟩:=hx.agg_l
  obtain⟨u,hr,hv⟩:=Xw (w:=w) hT hie h5 hl
  exact⟨u,by simp[Instr.index,asIntOf,hu,hc,hT.run_size hie w,hr],hv⟩
 | none =>
  rw[hd,Az] at h2
  obtain⟨hstr,h3⟩:=Ae h2
  obtain⟨s,hs,h4⟩:=Ab h3
  obtain⟨b,hb,h5⟩:=Ab h4
  injection h5 with h5;subst h5
  rw[Er hstr] at hu
  have:=Cw hs;subst this
  rw[hx.string_l]
  refine⟨.int .u8 b.toNat,?_,.int _ _⟩
  have hb':s[n]?=some b:=by
   have:s.data[n]?=some b:=by simpa using hb
   have hlt:n < s.size:=by
    have:=(Array.getElem?_eq_some_iff.1 this).1;exact this
   rw[getElem?_pos s n hlt]
   have e:=(Array.getElem?_eq_some_iff.1 this).2
   exact congrArg some e
  simp[Instr.index,asIntOf,hu,hb']
end
end Go.Sp
namespace Go.Sp

section
variable {P:Program} {tt:TT} (hT:Jm P tt) {H:Aa} {R:Ren} {w:World}

def Jy (R:Ren) (x x':Option Value):Prop:=match x,x' with
 | none,none=>True
 | some a,some b=>VR R a b
 | _,_=>False

theorem D8 {v:Value} {m n:Nat} (h:qH v m=some n):(∃ k,v = .int k n)∧n≤m:=by
 obtain⟨i,hi,h1⟩:=Ab h
 obtain⟨hc,h2⟩:=Ae h1
 injection h2 with h2;subst h2
 exact⟨PW hi,Nat.le_of_ble_eq_true hc⟩
theorem DJ {v v':Value} {m n y:Nat} (h:qH v m=some n) (hv:VR R v v') (hy:m≤y) (code:BoundsCode):(Instr.sliceBound v' y code).run P w = .ok n w:=by
 obtain⟨⟨k,rfl⟩,hle⟩:=D8 h
 rw[hv.int_l]
 have:n≤y:=by omega
 simp[Instr.sliceBound,asIntOf,this]

theorem D9 {β:Type} {lo hi mx:Option Value} {len cap:Nat} {k:Nat→Nat→Nat→Option β} {r:β} (h:Fq lo hi mx len cap k=some r) :
 ∃ l h' m,C9 mx cap cap=some m∧(mx.isSome=true→hi.isSome=true)∧C9 hi len m=some h'∧C9 lo 0 h'=some l∧k l h' m=some r:=by
 obtain⟨m,hm,h1⟩:=Ab h
 obtain⟨h',hh,h2⟩:=Ab h1
 obtain⟨l,hl,h3⟩:=Ab h2
 obtain⟨hc,hh⟩:=FQ hh
 refine⟨l,h',m,hm,?_,hh,hl,h3⟩
 intro hmx
 simp only[qJ,CF,Km,hmx,Bool.true_and,Bool.not_eq_false'] at hc
 exact hc

theorem Eg {v:Option Value} {d m n:Nat} (h:C9 v d m=some n) (hd:d≤m):n≤m:=by
 cases v with
 | none=>simp[C9] at h;omega
 | some v=>exact(D8 h).2

theorem Cb {lo hi mx lo' hi' mx':Option Value} {isS:Bool} {ln cap cap' l h m:Nat} (hlo:Jy R lo lo') (hhi:Jy R hi hi') (hmx:Jy R mx mx') (hcap:cap≤cap') (hln:ln≤cap')
 (h1:C9 mx cap cap=some m) (h2:mx.isSome=true→hi.isSome=true) (h3:C9 hi ln m=some h) (h4:C9 lo 0 h=some l) :
 (Instr.sliceBounds isS ln cap' lo' hi' mx').run P w = .ok (l,h,bb mx.isSome m cap') w:=by
 unfold Instr.sliceBounds
 cases mx with
 | none =>
  cases mx' with
  | some=>exact hmx.elim
  | none =>
   simp[C9] at h1;subst h1
   cases hi with
   | none =>
    cases hi' with
    | some=>exact hhi.elim
    | none =>
     simp[C9] at h3;subst h3
     cases lo with
     | none => cases lo' with
      | some=>exact hlo.elim
      | none=>simp[C9] at h4;subst h4;simp
     | some lo => cases lo' with
      | none=>exact hlo.elim
      | some lo' =>
       have:=DJ (P:=P) (w:=w) h4 hlo (Nat.le_refl _) .sliceB
       simp[this]
   | some hi => cases hi' with
    | none=>exact hhi.elim
    | some hi' =>
     have e1:=DJ (P:=P) (w:=w) (y:=cap') h3 hhi hcap (if isS then .sliceAcap else .sliceAlen)
     cases lo with
     | none => cases lo' with
      | some=>exact hlo.elim
      | none=>simp[C9] at h4;subst h4;simp[e1]
     | some lo => cases lo' with
      | none=>exact hlo.elim
      | some lo' =>
       have:=DJ (P:=P) (w:=w) h4 hlo (Nat.le_refl _) .sliceB
       simp[this,e1]
 | some mx => cases mx' with
  | none=>exact hmx.elim
  | some mx' =>
   have e0:=DJ (P:=P) (w:=w) (y:=cap') h1 hmx hcap (if isS then .slice3Acap else .slice3Alen)
   cases hi with
   | none=>exact absurd (h2 rfl) (by simp)
   | some hi => cases hi' with
    | none=>exact hhi.elim
    | some hi' =>
     have e1:=DJ (P:=P) (w:=w) (y:=m) h3 hhi (Nat.le_refl _) .slice3B
     cases lo with
     | none => cases lo' with
      | some=>exact hlo.elim
      | none=>simp[C9] at h4;subst h4;simp[e1,e0]
     | some lo => cases lo' with
      | none=>exact hlo.elim
      | some lo' =>
       have:=DJ (P:=P) (w:=w) h4 hlo (Nat.le_refl _) .slice3C
       simp[this,e1,e0]

theorem Bc (m:Nat) (e:Bool):(2*m+bb e 1 0) / 2=m:=by cases e <;> simp[bb] <;> omega
theorem Fw (m:Nat) (e:Bool):(2*m+bb e 1 0) % 2=1↔e=true:=by cases e <;> simp[bb] <;> omega

include hT in
theorem Rb (hs:Ck H R w) {t n e:Nat} {i:TI} (hi:tt t=some i) (hd:i.und = .array n e) {x x' v:Value} {lo hi' mx lo' hi'' mx':Option Value}
 (h:Lg tt H n e x lo hi' mx=some v) (hx:VR R x x') (hlo:Jy R lo lo') (hhi:Jy R hi' hi'') (hmx:Jy R mx mx'):∃ u,(Instr.sliceAt t x' lo' hi'' mx').run P w = .ok u w∧VR R v u:=by
 obtain⟨p,hp,h1⟩:=Ab h
 rw[Bg] at h1
 obtain⟨ie,hie,h2⟩:=Ab h1
 obtain⟨o,ho,h3⟩:=Ab h2
 obtain⟨l,hh,m,b1,b2,b3,b4,h4⟩:=D9 h3
 obtain⟨hfit,h5⟩:=Ae h4
 injection h5 with h5;subst h5
 have:=Dg hp;subst this
 obtain⟨c,β,hid,rfl⟩:=hx.ptr_l
 obtain⟨C,ty,fz,hC,hsz,hcf,hc⟩:=hs.cells hid ho
 simp only[AV] at hfit
 have hfit:=Nat.le_of_ble_eq_true hfit
 have hu:=hT.run_und hi w
 rw[hd] at hu
 have hb:=Cb (P:=P) (w:=w) (isS:=false) hlo hhi hmx (Nat.le_refl n) (Nat.le_refl n) b1 b2 b3 b4
 have hm:bb mx.isSome m n=m:=by
  cases mx with
  | none=>simp[C9] at b1;exact b1
  | some mx=>rfl
 rw[hm] at hb
 have hmn:=Eg b1 (Nat.le_refl n)
 have hhm:hh≤m:=by
  cases hi' with
  | none => cases mx with
   | none=>simp[C9] at b1 b3;omega
   | some mx=>exact absurd (b2 rfl) (by simp)
  | some hi'=>exact(D8 b3).2
 have hlh:=Eg b4 (Nat.zero_le _)
 have hrun : (Instr.sliceAt t (.pointer (some ⟨c, β + p.2, none⟩)) lo' hi'' mx').run P w =
  .ok (.slice (some (if m=l then ⟨c,β+p.2,none⟩ else ⟨c,β+p.2+l*ie.size,none⟩)) (hh - l) (m - l)) w:=by
  simp[Instr.sliceAt,hu,Instr.sureAddr,hb,hT.run_size hie w,add_plain]
 refine⟨_,hrun,?_⟩
 unfold sliceAt
 by_cases hml:m=l
 ·subst hml
  have:hh - m=0:=by omega
  rw[if_pos rfl,this,Nat.sub_self]
  exact .slE (by simp[bb])
 ·rw[if_neg hml,Nat.add_assoc]
  have hmul:(m - l)*ie.size+l*ie.size≤n*ie.size:=by
   rw[←Nat.add_mul];exact Nat.mul_le_mul_right _ (by omega)
  exact .sl hid (by rw[Bc];omega) (by rw[Bc];omega) (fun _=>by rw[Bc]) (by omega)

include hT in
theorem Ti {t e:Nat} {i ie:TI} (hi:tt t=some i) (hd:i.und = .slice e) (hie:tt e=some ie) {x x' v:Value} {f:mR} (hf:Le x=some f) {lo hi' mx lo' hi'' mx':Option Value}
 (h:Ns ie f lo hi' mx=some v) (hx:VR R x x') (hlo:Jy R lo lo') (hhi:Jy R hi' hi'') (hmx:Jy R mx mx'):∃ u,(Instr.sliceAt t x' lo' hi'' mx').run P w = .ok u w∧VR R v u:=by
 have hu:=hT.run_und hi w
 rw[hd] at hu
 unfold Ns at h
 rw[BL] at h
 split at h
 ·rename_i h2
  have h2:=Nat.eq_of_beq_eq_true h2
  obtain⟨l,hh,m,b1,b2,b3,b4,h3⟩:=D9 h
  injection h3 with h3;subst h3
  have hb:=Cb (P:=P) (w:=w) (isS:=true) hlo hhi hmx (Nat.le_refl 0) (Nat.le_refl 0) b1 b2 b3 b4
  have hm0:m=0:=by have:=Eg b1 (Nat.le_refl 0);omega
  subst hm0
  have hh0:hh=0:=by
   cases hi' with
   | none=>simp[C9] at b3;omega
   | some hi'=>have:=(D8 b3).2;omega
  subst hh0
  have hl0:l=0:=by have:=Eg b4 (Nat.le_refl 0);omega
  subst hl0
  have hbb:bb mx.isSome 0 0=0:=by cases mx.isSome <;> rfl
  rw[hbb] at hb
  rcases hx.fs_l hf with⟨_,_,rfl⟩ | ⟨h9,_⟩ | ⟨_,_,_,_,_,_,_,_,_,h9,_⟩
  ·refine⟨.slice none 0 0,?_,.fsN _ _ (by decide)⟩
   simp[Instr.sliceAt,Instr.slice,hu,hb,hT.run_size hie w]
  ·exact absurd h2 h9
  ·exact absurd h2 h9
 ·rename_i h2
  have h2:f.fl≠2:=fun e=>h2 (by rw[e];rfl)
  obtain⟨hz,h3⟩:=Ae h
  have hz:=Nat.eq_of_beq_eq_true hz
  obtain⟨l,hh,m,b1,b2,b3,b4,h4⟩:=D9 h3
  injection h4 with h4;subst h4
  simp only[Cg,Bz]
  have hlh:=Eg b4 (Nat.zero_le _)
  have hmc:=Eg b1 (Nat.le_refl _)
  have hhm:hh≤m:=by
   cases hi' with
   | none => cases mx with
    | none=>simp[C9] at b1 b3;omega
    | some mx=>exact absurd (b2 rfl) (by simp)
   | some hi'=>exact(D8 b3).2
  have hflag:∀ b:Bool,bb b 1 0≠2:=fun b=>by cases b <;> simp
  have hflag3:∀ b:Bool,bb b 1 0≠3:=fun b=>by cases b <;> simp
  rcases hx.fs_l hf with⟨h0,hcs,rfl⟩ | ⟨_,h0,hcs,c,o,sp,rfl⟩ | ⟨c,o,cap,C,hro,rfl,hn,k1,k2,k3,hfit,hcr,hcl⟩
  ·rw[h0] at b1 b3 hmc
   have hb:=Cb (P:=P) (w:=w) (isS:=true) hlo hhi hmx (cap':=0) (by omega) (by omega) b1 b2 b3 b4
   have hm0:m=0:=by omega
   subst hm0
   have hh0:hh=0:=by omega
   subst hh0
   have hl0:l=0:=by omega
   subst hl0
   have hbb:bb mx.isSome 0 0=0:=by cases mx.isSome <;> rfl
   rw[hbb] at hb
   refine⟨.slice none 0 0,?_,?_⟩
   ·simp[Instr.sliceAt,Instr.slice,hu,hb,hT.run_size hie w]
   ·rw[hcs];simp;exact .fsN _ _ (hflag3 _)
  ·rw[h0] at b1 b3 hmc
   have hb:=Cb (P:=P) (w:=w) (isS:=true) hlo hhi hmx (cap':=0) (by omega) (by omega) b1 b2 b3 b4
   have hm0:m=0:=by omega
   subst hm0
   have hh0:hh=0:=by omega
   subst hh0
   have hl0:l=0:=by omega
   subst hl0
   have hbb:bb mx.isSome 0 0=0:=by cases mx.isSome <;> rfl
   rw[hbb] at hb
   refine⟨.slice (some ⟨c,o,sp⟩) 0 0,?_,?_⟩
   ·simp[Instr.sliceAt,Instr.slice,hu,hb,hT.run_size hie w]
   ·rw[hcs];simp;exact .fsE (hflag _)
  ·have hb:=Cb (P:=P) (w:=w) (isS:=true) hlo hhi hmx k1 k1 b1 b2 b3 b4
   generalize hM:bb mx.isSome m cap=M at hb
   have hMm:m≤M:=by
    cases mx with
    | none=>simp[C9] at b1;simp at hM;omega
    | some mx=>simp at hM;omega
   have hMe:(Dp (isS mx) (Nat.beq f.fl 1))=true→M=m:=fun he=>by
    cases mx with
    | none =>
     simp[C9] at b1
     simp at hM he
     have:=k2 he
     omega
    | some mx=>simp at hM;omega
   have hrun : (Instr.sliceAt t (.slice (some ⟨c, o, none⟩) f.n cap) lo' hi'' mx').run P w =
    .ok (.slice (some (if M=l then ⟨c,o,none⟩ else ⟨c,o+l*f.sz,none⟩)) (hh - l) (M - l)) w:=by
    simp[Instr.sliceAt,Instr.slice,hu,hb,hT.run_size hie w,hz,add_plain]
    split <;> rfl
   refine⟨_,hrun,?_⟩
   by_cases hml:M=l
   ·have e1:hh - l=0:=by omega
    rw[if_pos hml,e1,hml,Nat.sub_self]
    simp
    exact .fsE (hflag _)
   ·rw[if_neg hml]
    have hmul:(hh - l)*f.sz+l*f.sz≤f.n*f.sz:=by
     rw[←Nat.add_mul];exact Nat.mul_le_mul_right _ (by omega)
    refine .mkFs hro (by simp;omega) (by omega) (fun he=>?_) (hflag _) (by simp;omega) (hcr.part _ _) (fun x hx=>hcl x (List.mem_of_mem_drop (List.mem_of_mem_take hx)))
    cases hb9:an (Nat.beq hh m) (Dp (isS mx) (Nat.beq f.fl 1)) with
    | false=>rw[hb9] at he;simp at he
    | true =>
     obtain⟨g1,g2⟩:=Av hb9
     have g1:=Nat.eq_of_beq_eq_true g1
     have:=hMe g2
     omega

include hT in
theorem Tj {t e:Nat} {i:TI} (hi:tt t=some i) (hd:i.und = .slice e) {x x' v:Value} {lo hi' mx lo' hi'' mx':Option Value}
 (h:SX tt e x lo hi' mx=some v) (hx:VR R x x') (hlo:Jy R lo lo') (hhi:Jy R hi' hi'') (hmx:Jy R mx mx'):∃ u,(Instr.sliceAt t x' lo' hi'' mx').run P w = .ok u w∧VR R v u:=by
 obtain⟨ie,hie,h1⟩:=Ab h
 have hu:=hT.run_und hi w
 rw[hd] at hu
 cases hsl:IA x with
 | none =>
  rw[hsl,Az] at h1
  cases hf:Le x with
  | some f=>rw[hf,Ac] at h1;exact Ti hT hi hd hie hf h1 hx hlo hhi hmx
  | none=>
  rw[hf,Az] at h1
  obtain⟨hnil,h2⟩:=Ae h1
  obtain⟨l,hh,m,b1,b2,b3,b4,h3⟩:=D9 h2
  injection h3 with h3;subst h3
  have:=CB hnil;subst this
  rw[hx.slNil_l]
  have hb:=Cb (P:=P) (w:=w) (isS:=true) hlo hhi hmx (Nat.le_refl 0) (Nat.le_refl 0) b1 b2 b3 b4
  have hm0:m=0:=by have:=Eg b1 (Nat.le_refl 0);omega
  subst hm0
  have hh0:hh=0:=by
   cases hi' with
   | none=>simp[C9] at b3;omega
   | some hi'=>have:=(D8 b3).2;omega
  subst hh0
  have hl0:l=0:=by have:=Eg b4 (Nat.le_refl 0);omega
  subst hl0
  have hbb:bb mx.isSome 0 0=0:=by cases mx.isSome <;> rfl
  rw[hbb] at hb
  refine⟨.slice none 0 0,?_,.slNil⟩
  simp[Instr.sliceAt,Instr.slice,hu,hb,hT.run_size hie w]
 | some s =>
  rw[hsl,Ac] at h1
  obtain⟨hz,h2⟩:=Ae (show bb (Nat.beq ie.size s.sz) (Fq lo hi' mx s.len (s.cap / 2) fun l h m=>some (sliceAt s.id (s.off+l*s.sz) s.sz (h - l) (m - l) (Dp (isS mx) (Nat.beq (s.cap % 2) 1)))) none=some v from h1)
  have hz:=Nat.eq_of_beq_eq_true hz
  obtain⟨l,hh,m,b1,b2,b3,b4,h3⟩:=D9 h2
  injection h3 with h3;subst h3
  have hlh:=Eg b4 (Nat.zero_le _)
  have hmc:=Eg b1 (Nat.le_refl _)
  rcases hx.sl_l hsl with⟨c,β,cap,hid,rfl,k1,k2,k3,k4⟩ | ⟨c,o,rfl,h0,h00⟩ | ⟨rfl,h0,h00⟩
  ·have hb:=Cb (P:=P) (w:=w) (isS:=true) hlo hhi hmx k2 (Nat.le_trans k1 k2) b1 b2 b3 b4
   have hhm:hh≤m:=by
    cases hi' with
    | none => cases mx with
     | none=>simp[C9] at b1 b3;omega
     | some mx=>exact absurd (b2 rfl) (by simp)
    | some hi'=>exact(D8 b3).2
   generalize hM:bb mx.isSome m cap=M at hb
   have hMm:m≤M∧M≤cap:=by
    cases mx with
    | none=>simp[C9] at b1;simp at hM;omega
    | some mx=>simp at hM;omega
   have hMe:(Dp (isS mx) (Nat.beq (s.cap % 2) 1))=true→M=m:=fun he=>by
    cases mx with
    | none =>
     simp[C9] at b1
     simp at hM he
     have:=k3 he
     omega
    | some mx=>simp at hM;omega
   have hrun : (Instr.sliceAt t (.slice (some ⟨c, β + s.off, none⟩) s.len cap) lo' hi'' mx').run P w =
    .ok (.slice (some (if M=l then ⟨c,β+s.off,none⟩ else ⟨c,β+s.off+l*s.sz,none⟩)) (hh - l) (M - l)) w:=by
    simp[Instr.sliceAt,Instr.slice,hu,hb,hT.run_size hie w,hz,add_plain]
    split <;> rfl
   refine⟨_,hrun,?_⟩
   unfold sliceAt
   by_cases hml:M=l
   ·have e1:hh - l=0:=by omega
    have e2:m - l=0:=by omega
    rw[if_pos hml,e1,hml,Nat.sub_self,e2]
    exact .slE (by cases (Dp (isS mx) (Nat.beq (s.cap % 2) 1)) <;> simp[bb])
   ·rw[if_neg hml,Nat.add_assoc]
    have hmul:(M - l)*s.sz+l*s.sz≤cap*s.sz:=by
     rw[←Nat.add_mul];exact Nat.mul_le_mul_right _ (by omega)
    exact .sl hid (by rw[Bc];omega) (by rw[Bc];omega) (fun ho=>by rw[Bc];rw[Fw] at ho;have:=hMe ho;omega) (by omega)
  ·have hb:=Cb (P:=P) (w:=w) (isS:=true) hlo hhi hmx (cap':=0) (by omega) (by omega) b1 b2 b3 b4
   rw[h0] at hb
   have hm0:m=0:=by omega
   subst hm0
   have hh0:hh=0:=by
    cases hi' with
    | none=>simp[C9] at b3;omega
    | some hi'=>have:=(D8 b3).2;omega
   subst hh0
   have hl0:l=0:=by omega
   subst hl0
   have hbb:bb mx.isSome 0 0=0:=by cases mx.isSome <;> rfl
   rw[hbb] at hb
   refine⟨.slice (some ⟨c,o,none⟩) 0 0,?_,?_⟩
   ·simp[Instr.sliceAt,Instr.slice,hu,hb,hT.run_size hie w]
   ·exact .slE (by cases (Dp (isS mx) (Nat.beq (s.cap % 2) 1)) <;> simp[bb])
  ·have hb:=Cb (P:=P) (w:=w) (isS:=true) hlo hhi hmx (cap':=0) (by omega) (by omega) b1 b2 b3 b4
   rw[h0] at hb
   have hm0:m=0:=by omega
   subst hm0
   have hh0:hh=0:=by
    cases hi' with
    | none=>simp[C9] at b3;omega
    | some hi'=>have:=(D8 b3).2;omega
   subst hh0
   have hl0:l=0:=by omega
   subst hl0
   have hbb:bb mx.isSome 0 0=0:=by cases mx.isSome <;> rfl
   rw[hbb] at hb
   refine⟨.slice none 0 0,?_,?_⟩
   ·simp[Instr.sliceAt,Instr.slice,hu,hb,hT.run_size hie w]
   ·exact .slN (by cases (Dp (isS mx) (Nat.beq (s.cap % 2) 1)) <;> simp[bb])

include hT in
theorem YW (hs:Ck H R w) {t:Nat} {x x' v:Value} {lo hi mx lo' hi' mx':Option Value}
 (h:Lh tt H t x lo hi mx=some v) (hx:VR R x x') (hlo:Jy R lo lo') (hhi:Jy R hi hi') (hmx:Jy R mx mx'):∃ u,(Instr.sliceAt t x' lo' hi' mx').run P w = .ok u w∧VR R v u:=by
 obtain⟨i,hti,h1⟩:=Ab h
 cases hd:Xi i.und with
 | some e =>
  rw[hd,Ac] at h1
  exact Tj hT hti (F9 hd) h1 hx hlo hhi hmx
 | none =>
  rw[hd,Az] at h1
  cases hd2:MO i.und with
  | some p =>
   rw[hd2,Ac,Bg] at h1
   exact Rb hT hs hti (Hg hd2) h1 hx hlo hhi hmx
  | none =>
   rw[hd2,Az] at h1
   obtain⟨hstr,h2⟩:=Ae h1
   obtain⟨s,hss,h3⟩:=Ab h2
   obtain⟨hnm,h4⟩:=FQ h3
   obtain⟨l,hh,m,b1,b2,b3,b4,h5⟩:=D9 h4
   injection h5 with h5;subst h5
   have:=Cw hss;subst this
   rw[hx.string_l]
   have hu:=hT.run_und hti w
   rw[Er hstr] at hu
   have hmn:mx=none:=by cases mx with
    | none=>rfl
    | some mx=>simp at hnm
   subst hmn
   cases mx' with
   | some=>exact hmx.elim
   | none =>
    have hb:=Cb (P:=P) (w:=w) (isS:=false) (mx:=none) (mx':=none) hlo hhi trivial (Nat.le_refl s.size) (Nat.le_refl s.size) b1 b2 b3 b4
    refine⟨.string (s.extract l hh),?_,.string _⟩
    simp[Instr.sliceAt,Instr.slice,hu,hb]
end
end Go.Sp
namespace Go.Sp

section
variable {P:Program} {tt:TT} (hT:Jm P tt) {H H':Aa} {R:Ren} {w:World}

def CJ (elem:TypeId) (size:Nat) (base:Option Addr) (sLen sCap n:Nat) (zeros:Bool) (appended:Sem (Array Value)) (x:Value):Sem Value:=do
 let need:=sLen+n
 if need ≤ sCap then
  let new ←appended
  if let some a:=base then storeCells (a.add (sLen*size)) new.toList
  pure (.slice base need sCap)
 else
  if (need : Int) > IntKind.i64.max ∧ (zeros ∨ (← typeInfo elem).bytes = 0) then runtimePanic (.error "growslice: len out of range")
  if Builtin.nextslicecap need sCap * (← typeInfo elem).bytes > 2 ^ 48 then (if zeros then runtimePanic (.error "growslice: len out of range") else do
   if !(←Builtin.mayShare size sLen n base x) then mark .noRoom
   unsupported (.resourceLimit "append: a slice or a string whose bytes no memory bears"))
  let newCap ←choose (.appendCap need sCap elem)
  askRoom (newCap*(←typeInfo elem).bytes)
  let old ←Builtin.firstCells size sLen (.slice base sLen sCap)
  let new ←appended
  let rest:=Builtin.zeroCells (←zeroValue elem).cells (newCap - need)
  pure (.slice (some (←newRow elem (old++new++rest))) need newCap)

theorem Vk {n bytes old:Nat} (h:EQ n bytes=true) (ho:old < n):Builtin.nextslicecap n old*bytes≤281474976710656:=by
 have h:=Nat.le_of_ble_eq_true h
 have h1:=nextslicecap_le ho
 have:Builtin.nextslicecap n old*bytes≤(4*n+4096)*bytes:=Nat.mul_le_mul_right _ (by omega)
 omega
theorem YX {n bytes:Nat} (h:EQ n bytes=true) (hb:0 < bytes):(n:Int)≤9223372036854775807:=by
 have h:=Nat.le_of_ble_eq_true h
 have:(4*n+4096)*1≤(4*n+4096)*bytes:=Nat.mul_le_mul_left _ hb
 omega

include hT in
theorem Lv {elem:TypeId} {ie:TI} (hie:tt elem=some ie) {z:Value} (hz:ie.zero=some z) {base:Option Addr} {sLen sCap n:Nat} {zeros:Bool} {appended:Sem (Array Value)} {x:Value}
 {olds news:List Value} (hold:∀ w2:World,w2.heap=w.heap→(Builtin.firstCells ie.size sLen (.slice base sLen sCap)).run P w2 = .ok olds.toArray w2)
 (hnew:∀ w2:World,w2.heap=w.heap→appended.run P w2 = .ok news.toArray w2) (hg:sCap < sLen+n) (hroom:EQ (sLen+n) ie.bytes=true) (hb:0 < ie.bytes) :
 (CJ elem ie.size base sLen sCap n zeros appended x).run P w = .ok (.slice (some ⟨w.heap.size, 0, none⟩) (sLen + n) (grownCap w (sLen + n) sCap elem))
   (w.drew.alloc (.cells (olds++news++(Builtin.zeroCells z.cells (grownCap w (sLen+n) sCap elem - (sLen+n))).toList).toArray elem)):=by
 have h0:¬ (sLen+n≤sCap):=by omega
 have h1:=YX hroom hb
 have h1':¬ (9223372036854775807 < ((sLen:Int)+(n:Int))):=by omega
 have h2:=Vk hroom hg
 obtain⟨inf,hinf,_,hbt,_⟩:=hT.run_bytes hie w
 have hti:∀ w2:World,(typeInfo elem).run P w2 = .ok inf w2:=fun w2=>by
  obtain⟨inf2,hinf2,_⟩:=hT.run_bytes hie w2
  have:P.info? elem=some inf:=by
   simp only[typeInfo,Sem.run_bind,run_program,Result.andThen_ok] at hinf
   cases hq:P.info? elem with
   | none=>rw[hq] at hinf;simp at hinf
   | some i=>rw[hq] at hinf;simp at hinf;rw[hinf]
  simp[typeInfo,this]
 have h2':¬ (281474976710656 < Builtin.nextslicecap (sLen+n) sCap*inf.bytes):=by rw[hbt];omega
 have hmax:IntKind.i64.max=9223372036854775807:=rfl
 have hq:(Question.appendCap (sLen+n) sCap elem).forced=false:=rfl
 have e1:=hold w.drew rfl
 have e2:=hnew w.drew rfl
 have e3:=hT.run_zero hie hz w.drew
 simp[CJ,h0,hmax,h1',hti,h2',hq,e1,e2,e3,newRow,grownCap]
 congr 2
 apply Array.ext'
 simp[List.append_assoc]

theorem P5 {elem:TypeId} {size:Nat} {c o sLen sCap n:Nat} {zeros:Bool} {appended:Sem (Array Value)} {x:Value} {news:List Value}
 (hnew:appended.run P w = .ok news.toArray w) (hg:sLen+n≤sCap) {C:Array Value} {t:TypeId} (hC:w.heap[c]?=some (.cells C t (0,0))) (hfit:o+sLen*size+news.length≤C.size)
 (hone:∀ v∈news,v.oneCell'=true) :
 (CJ elem size (some ⟨c, o, none⟩) sLen sCap n zeros appended x).run P w = .ok (.slice (some ⟨c, o, none⟩) (sLen + n) sCap)
   (w.setRow c (C.toList.take (o+sLen*size)++news++C.toList.drop (o+sLen*size+news.length)).toArray):=by
 have:=run_storeCells_at P c (o+sLen*size) t news 0 C w hC (by simpa using hfit) hone
 simp[CJ,hg,hnew,add_plain,this]

theorem E5 {elem:TypeId} {size:Nat} {base:Option Addr} {sLen sCap:Nat} {zeros:Bool} {appended:Sem (Array Value)} {x:Value}
 (hnew:appended.run P w = .ok #[] w) (hg:sLen≤sCap) :
 (CJ elem size base sLen sCap 0 zeros appended x).run P w = .ok (.slice base sLen sCap) w:=by
 cases base <;> simp[CJ,hg,hnew,storeCells]

theorem Lx (z:Array Value) (n:Nat):(Builtin.zeroCells z n).toList.length=n*z.size:=by simp[Builtin.zeroCells]
theorem GL (w:World) (n old:Nat) (e:TypeId):n≤grownCap w n old e:=by
 unfold grownCap Question.cut;exact Nat.le_add_right _ _

include hT in
theorem Mh (hs:Ck H R w) {elem:TypeId} {ie:TI} (hie:tt elem=some ie) {z:Value} (hz:ie.zero=some z) (hzs:(cellsOf z).length=ie.size) (hb:0 < ie.bytes)
 {s s' v:Value} (hsv:VR R s s') {n:Nat} {new zs:List Value} (hnz:Cf R new zs) (hnl:new.length=n*ie.size) (h:D7 H ie.size ie.bytes s n new=some (v,H')) {zeros:Bool} {appended:Sem (Array Value)} {x:Value}
 (happ:∀ w2:World,w2.heap=w.heap→appended.run P w2 = .ok zs.toArray w2) :
 ∃ base sLen sCap,s' = .slice base sLen sCap∧∃ u w' R',(CJ elem ie.size base sLen sCap n zeros appended x).run P w = .ok u w'∧VR R' v u∧Ba H R w H' R' w':=by
 have hzlen:z.cells.size=ie.size:=by
  rw[←Array.length_toList,←(Bw (R:=R) (hT.plain _ _ _ hie hz)).1];exact hzs
 have hnil:n=0→zs=[]:=fun e=>by
  have:=hnz.1;rw[hnl,e] at this;simp at this;exact List.eq_nil_of_length_eq_zero this.symm
 have grown : ∀ (sLen cap' : Nat) (olds : List Value), olds.length = sLen * ie.size →
  0+(grownCap w (sLen+n) cap' elem)*ie.size≤(olds++zs++(Builtin.zeroCells z.cells (grownCap w (sLen+n) cap' elem - (sLen+n))).toList).length:=fun sLen cap' olds ho=>by
  have hge:=GL w (sLen+n) cap' elem
  simp only[List.length_append,Lx,ho,←hnz.1,hnl,hzlen,←Nat.add_mul]
  rw[Nat.zero_add]
  exact Nat.mul_le_mul_right _ (by omega)
 cases hsl:IA s with
 | none =>
  unfold D7 at h
  rw[hsl,Az] at h
  cases hf:Le s with
  | some f =>
   rw[hf,Ac] at h
   unfold PU at h
   rw[BL] at h
   split at h
   ·rename_i h0
    have h0:=Nat.eq_of_beq_eq_true h0
    subst h0
    injection h with h;injection h with e1 e2;subst e1;subst e2
    have hz0:=hnil rfl
    subst hz0
    rcases hsv.fs_l hf with⟨_,_,rfl⟩ | ⟨_,_,_,c,o,sp,rfl⟩ | ⟨c,o,cap,C,hro,rfl,hn,k1,k2,k3,hfit,hcr,hcl⟩
    ·exact⟨_,_,_,rfl,_,_,R,E5 (happ w rfl) (Nat.le_refl 0),hsv,.refl hs⟩
    ·exact⟨_,_,_,rfl,_,_,R,E5 (happ w rfl) (Nat.le_refl 0),hsv,.refl hs⟩
    ·exact⟨_,_,_,rfl,_,_,R,E5 (happ w rfl) k1,hsv,.refl hs⟩
   ·rename_i h0
    have h0:n≠0:=fun e=>h0 (by rw[e];rfl)
    obtain⟨hc,h1⟩:=Ae h
    obtain⟨hfl,hc⟩:=Av hc
    obtain⟨hszz,hroom⟩:=Av hc
    injection h1 with h1;injection h1 with e1 e2;subst e1;subst e2
    simp only[BH]
    have fresh : ∀ (base : Option Addr) (olds : List Value), Cf R f.cs olds → f.cs.length = f.n * ie.size →
     (∀ w2:World,w2.heap=w.heap→(Builtin.firstCells ie.size f.n (.slice base f.n f.n)).run P w2 = .ok olds.toArray w2) →
     ∃ u w' R', (CJ elem ie.size base f.n f.n n zeros appended x).run P w = .ok u w' ∧ VR R' (sliceAt H.next 0 ie.size (f.n + n) (f.n + n) false) u ∧
      Ba H R w (H.push (.cells (f.cs++new) false false [])) R' w':=fun base olds hxo hxl hold=>by
     have hrun:=Lv (P:=P) (w:=w) (n:=n) (sLen:=f.n) (sCap:=f.n) (base:=base) (zeros:=zeros) (x:=x) hT hie hz hold happ (by omega) hroom hb
     have hd:Ck H R w.drew:=hs.of_heap rfl
     have hpost:=EY (w:=w.drew) (xs:=f.cs++new) (ys:=olds++zs) elem (Builtin.zeroCells z.cells (grownCap w (f.n+n) f.n elem - (f.n+n))).toList false hd (hxo.append hnz) false [] (by simp)
     refine⟨_,_,_,hrun,?_,hpost.from_heap rfl rfl rfl⟩
     have := VR.sl (R := R.ext H.next w.drew.heap.size 0 ((olds ++ zs) ++ (Builtin.zeroCells z.cells (grownCap w (f.n + n) f.n elem - (f.n + n))).toList).length) (off := 0) (sz := ie.size) (ln := f.n + n) (c2 := 2 * (f.n + n) + bb false 1 0) (cap := grownCap w (f.n + n) f.n elem)
      (Ren.ext_new R H.next w.drew.heap.size 0 _) (by rw[Bc];exact Nat.le_refl _) (by rw[Bc];exact GL w (f.n+n) f.n elem) (fun ho=>by rw[Fw] at ho;cases ho)
      (by rw[Ren.ext_sz];have:=grown f.n f.n olds (by rw[←hxo.1,hxl]);simpa using this)
     simpa [sliceAt] using this
    rcases hsv.fs_l hf with⟨hn0,hcs,rfl⟩ | ⟨_,hn0,hcs,c,o,sp,rfl⟩ | ⟨c,o,cap,C,hro,rfl,hn,k1,k2,k3,hfit,hcr,hcl⟩
    ·have f0 : ∀ w2 : World, w2.heap = w.heap → (Builtin.firstCells ie.size f.n (.slice none f.n f.n)).run P w2 = .ok ([] : List Value).toArray w2 := fun w2 _ => by
      rw[hn0];simp[run_firstCells_none]
     obtain⟨u,w',R',hr,hv,hp⟩:=fresh none [] (by rw[hcs];exact .nil) (by rw[hcs,hn0];simp) f0
     rw[hn0] at hr
     exact⟨_,_,_,rfl,u,w',R',hr,hv,hp⟩
    ·have f0 : ∀ w2 : World, w2.heap = w.heap → (Builtin.firstCells ie.size f.n (.slice (some ⟨c, o, sp⟩) f.n f.n)).run P w2 = .ok ([] : List Value).toArray w2 := fun w2 _ => by
      rw[hn0];simp[Builtin.firstCells,loadCells,loadCellsFrom]
     obtain⟨u,w',R',hr,hv,hp⟩:=fresh (some ⟨c,o,sp⟩) [] (by rw[hcs];exact .nil) (by rw[hcs,hn0];simp) f0
     rw[hn0] at hr
     exact⟨_,_,_,rfl,u,w',R',hr,hv,hp⟩
    ·have hfl1 : f.fl = 1 := by
      rw[Ed,Bool.or_eq_true] at hfl
      rcases hfl with h9 | h9
      ·exact Nat.eq_of_beq_eq_true h9
      ·exact absurd (Nat.eq_of_beq_eq_true h9) k3
     have hcap:=k2 hfl1
     subst hcap
     have hsz:f.sz=ie.size:=by
      rw[Ed,Bool.or_eq_true] at hszz
      rcases hszz with h9 | h9
      ·exact absurd (Nat.eq_of_beq_eq_true h9) k3
      ·exact Nat.eq_of_beq_eq_true h9
     rw[hsz] at hn
     obtain⟨⟨ty,fz,hC⟩,_⟩:=hs.ro c C hro
     have hst:=Jo hcr hfit 0 f.cs.length (by omega)
     simp only[List.drop_zero,Nat.add_zero,List.take_length] at hst
     have f0:∀ w2:World,w2.heap=w.heap→(Builtin.firstCells ie.size f.n (.slice (some ⟨c,o,none⟩) f.n f.n)).run P w2 = .ok ((C.toList.drop o).take f.cs.length).toArray w2:=fun w2 hw2=>by
      simp only[Builtin.firstCells]
      rw[hn]
      exact Fv (by rw[hw2];exact hC) (by omega)
     obtain⟨u,w',R',hr,hv,hp⟩:=fresh _ _ hst hn f0
     exact⟨_,_,_,rfl,u,w',R',hr,hv,hp⟩
  | none=>
  rw[hf,Az] at h
  obtain⟨hn,h1⟩:=Ae h
  have:=CB hn;subst this
  have:=hsv.slNil_l;subst this
  refine⟨none,0,0,rfl,?_⟩
  rw[BL] at h1
  split at h1
  ·rename_i h0
   have h0:=Nat.eq_of_beq_eq_true h0
   subst h0
   injection h1 with h1;injection h1 with e1 e2;subst e1;subst e2
   have hz0:=hnil rfl
   subst hz0
   exact⟨_,_,R,E5 (happ w rfl) (Nat.le_refl 0),.slNil,.refl hs⟩
  ·rename_i h0
   have h0:n≠0:=fun e=>h0 (by rw[e];rfl)
   obtain⟨hroom,h2⟩:=Ae h1
   injection h2 with h2;injection h2 with e1 e2;subst e1;subst e2
   have hrun:=Lv (P:=P) (w:=w) (n:=n) (sLen:=0) (sCap:=0) (base:=none) (zeros:=zeros) (x:=x) (olds:=[]) hT hie hz (fun w2 _=>by simp[run_firstCells_none]) happ (by omega) (by simpa using hroom) hb
   have hd:Ck H R w.drew:=hs.of_heap rfl
   have hpost:=EY (w:=w.drew) (xs:=new) (ys:=[]++zs) elem (Builtin.zeroCells z.cells (grownCap w (0+n) 0 elem - (0+n))).toList false hd (by simpa using hnz) false [] (by simp)
   refine⟨_,_,_,hrun,?_,hpost.from_heap rfl rfl rfl⟩
   have := VR.sl (R := R.ext H.next w.drew.heap.size 0 (([] ++ zs) ++ (Builtin.zeroCells z.cells (grownCap w (0 + n) 0 elem - (0 + n))).toList).length) (off := 0) (sz := ie.size) (ln := n) (c2 := 2 * n + bb false 1 0) (cap := grownCap w (0 + n) 0 elem)
    (Ren.ext_new R H.next w.drew.heap.size 0 _) (by rw[Bc];exact Nat.le_refl _) (by rw[Bc];have:=GL w (0+n) 0 elem;omega) (fun ho=>by rw[Fw] at ho;cases ho)
    (by rw[Ren.ext_sz];have:=grown 0 0 [] (by simp);simpa using this)
   simpa [sliceAt] using this
 | some sv =>
  have hsv0:=Ko hsl
  unfold D7 at h
  rw[hsl,Ac] at h
  have h : bb (Nat.beq n 0) (some (s, H)) (bb (an (Nat.beq sv.sz ie.size) (EQ (sv.len + n) ie.bytes))
   (bb (Nat.ble (sv.len + n) (sv.cap / 2)) (oo (Ej H sv.id (sv.off + sv.len * ie.size) new) none fun H' => some (.slice (some ⟨sv.id, sv.off, some ie.size⟩) (sv.len + n) sv.cap, H'))
     (oo (Bv (H.get sv.id)) none fun o =>
       bb (Nat.ble (sv.off + sv.len * ie.size) (len o.xs))
        (bb (Nat.beq (sv.cap % 2) 1) (some (sliceAt H.next 0 ie.size (sv.len + n) (sv.len + n) false, H.push (.cells (Br (Aq (sv.len * ie.size) (Am sv.off o.xs)) new) false false [])))
          (bb (an (nt o.imm) (an (nt o.spent) (an (Nat.blt sv.id H.next) (an (Nat.beq (sv.off + sv.len * ie.size) (len o.xs)) (Au D6 new)))))
            (some (sliceAt H.next 0 ie.size (sv.len+n) (sv.len+n) false,(H.set sv.id (.cells o.xs false true o.anc)).push (.cells (Br (Am sv.off o.xs) new) false false (sv.id::o.anc)))) none)) none)) none)=some (v,H'):=h
  rw[BL] at h
  split at h
  ·rename_i h0
   have h0:=Nat.eq_of_beq_eq_true h0
   subst h0
   injection h with h;injection h with e1 e2;subst e1;subst e2
   have hz0:=hnil rfl
   subst hz0
   rcases hsv.sl_l hsl with⟨c,β,cap,hid,rfl,k1,k2,k3,k4⟩ | ⟨c,o,rfl,k0,k00⟩ | ⟨rfl,k0,k00⟩
   ·exact⟨_,_,_,rfl,_,_,R,E5 (happ w rfl) (Nat.le_trans k1 k2),hsv,.refl hs⟩
   ·exact⟨_,_,_,rfl,_,_,R,E5 (happ w rfl) (Nat.le_refl 0),hsv,.refl hs⟩
   ·exact⟨_,_,_,rfl,_,_,R,E5 (happ w rfl) (Nat.le_refl 0),hsv,.refl hs⟩
  ·rename_i h0
   have h0:n≠0:=fun e=>h0 (by rw[e];rfl)
   obtain⟨hc,h1⟩:=Ae h
   obtain⟨hc1,hroom⟩:=Av hc
   have hc1:=Nat.eq_of_beq_eq_true hc1
   rw[BL] at h1
   split at h1
   ·rename_i hfit
    have hfit:=Nat.le_of_ble_eq_true hfit
    obtain⟨H1,hw,h2⟩:=Ab h1
    injection h2 with h2;injection h2 with e1 e2;subst e1;subst e2
    rcases hsv.sl_l hsl with⟨c,β,cap,hid,rfl,k1,k2,k3,k4⟩ | ⟨c,o,rfl,k0,k00⟩ | ⟨rfl,k0,k00⟩
    ·obtain⟨C,t,hC,hcf,hone,hpost⟩:=F8 hs hw hid hnz
     refine⟨_,_,_,rfl,_,_,R,P5 (happ w rfl) (by omega) hC (by rw[←Nat.add_assoc] at hcf;exact hcf) hone,.sl hid hfit k2 k3 (by rw[←hc1];exact k4),?_⟩
     rw[show β+sv.off+sv.len*ie.size=β+(sv.off+sv.len*ie.size) by omega]
     exact hpost
    ·omega
    ·omega
   ·rename_i hfit
    have hfit:¬ (sv.len+n≤sv.cap / 2):=fun e=>hfit (by rw[Nat.ble_eq];exact e)
    obtain⟨o,ho,h2⟩:=Ab h1
    obtain⟨hle,h3⟩:=Ae h2
    simp only[AV] at hle
    have hle:=Nat.le_of_ble_eq_true hle
    have ho':=Et ho
    have hlt1:((o.xs.drop sv.off).take (sv.len*ie.size)).length=sv.len*ie.size:=by simp;omega
    -- the new array, whatever the slice's kind
    have fresh : ∀ (base : Option Addr) (cap : Nat) (H1 : Aa) (anc : List Nat) (olds : List Value) (xs1 : List Value), cap < sv.len + n → H1.next = H.next → Ck H1 R w → Cf R xs1 olds → xs1.length = sv.len * ie.size →
     (∀ a,a∈anc→a < H1.next∧(H1.get a).immB=false∧(H1.get a).writable=false) →
     (∀ w2:World,w2.heap=w.heap→(Builtin.firstCells ie.size sv.len (.slice base sv.len cap)).run P w2 = .ok olds.toArray w2) →
     ∃ u w' R', (CJ elem ie.size base sv.len cap n zeros appended x).run P w = .ok u w' ∧ VR R' (sliceAt H.next 0 ie.size (sv.len + n) (sv.len + n) false) u ∧
      Ba H1 R w (H1.push (.cells (xs1++new) false false anc)) R' w':=fun base cap H1 anc olds xs1 hcap hnx hs1 hxo hxl hanc hold=>by
     have hrun:=Lv (P:=P) (w:=w) (n:=n) (sLen:=sv.len) (sCap:=cap) (base:=base) (zeros:=zeros) (x:=x) hT hie hz hold happ hcap hroom hb
     have hd:Ck H1 R w.drew:=hs1.of_heap rfl
     have hpost:=EY (w:=w.drew) (xs:=xs1++new) (ys:=olds++zs) elem (Builtin.zeroCells z.cells (grownCap w (sv.len+n) cap elem - (sv.len+n))).toList false hd (hxo.append hnz) false anc hanc
     refine⟨_,_,_,hrun,?_,hpost.from_heap rfl rfl rfl⟩
     have := VR.sl (R := R.ext H1.next w.drew.heap.size 0 ((olds ++ zs) ++ (Builtin.zeroCells z.cells (grownCap w (sv.len + n) cap elem - (sv.len + n))).toList).length) (off := 0) (sz := ie.size) (ln := sv.len + n) (c2 := 2 * (sv.len + n) + bb false 1 0) (cap := grownCap w (sv.len + n) cap elem)
      (Ren.ext_new R H1.next w.drew.heap.size 0 _) (by rw[Bc];exact Nat.le_refl _) (by rw[Bc];exact GL w (sv.len+n) cap elem) (fun ho=>by rw[Fw] at ho;cases ho)
      (by rw[Ren.ext_sz];have:=grown sv.len cap olds (by rw[←hxo.1,hxl]);simpa using this)
     rw[hnx] at this
     simpa [sliceAt,hnx] using this
    have E8 : ∀ (c β cap : Nat), R.f sv.id = some (c, β) → ∃ olds : List Value, Cf R ((o.xs.drop sv.off).take (sv.len * ie.size)) olds ∧
     ∀ w2:World,w2.heap=w.heap→(Builtin.firstCells ie.size sv.len (.slice (some ⟨c,β+sv.off,none⟩) sv.len cap)).run P w2 = .ok olds.toArray w2:=fun c β cap hid=>by
     obtain⟨C,t,fz,hC,hsz,hcf,hcr⟩:=hs.cells hid ho
     refine⟨_,Jo hcr hcf sv.off (sv.len*ie.size) hle,fun w2 hw2=>?_⟩
     simp only[Builtin.firstCells]
     exact Fv (by rw[hw2];exact hC) (by omega)
    rw[BL] at h3
    split at h3
    ·rename_i hex
     have hex:=Nat.eq_of_beq_eq_true hex
     injection h3 with h3;injection h3 with e1 e2;subst e1;subst e2
     simp only[BH,Cg,Bz]
     rcases hsv.sl_l hsl with⟨c,β,cap,hid,rfl,k1,k2,k3,k4⟩ | ⟨c,o2,rfl,k0,k00⟩ | ⟨rfl,k0,k00⟩
     ·obtain⟨olds,hol,hold⟩:=E8 c β cap hid
      obtain⟨u,w',R',hr,hv,hp⟩:=fresh _ cap H [] olds _ (by have:=k3 hex;omega) rfl hs hol hlt1 (by simp) hold
      exact⟨_,_,_,rfl,u,w',R',hr,hv,hp⟩
     ·have hnone:(o.xs.drop sv.off).take (sv.len*ie.size)=[]:=by rw[k0];simp
      have f0:∀ w2:World,w2.heap=w.heap→(Builtin.firstCells ie.size sv.len (.slice (some ⟨c,o2,none⟩) sv.len 0)).run P w2 = .ok ([]:List Value).toArray w2:=fun w2 _=>by
       rw[k0];simp[Builtin.firstCells,loadCells,loadCellsFrom]
      obtain⟨u,w',R',hr,hv,hp⟩:=fresh (some ⟨c,o2,none⟩) 0 H [] [] [] (by omega) rfl hs .nil (by rw[k0];simp) (by simp) f0
      rw[hnone]
      rw[k0] at hr
      exact⟨_,_,_,rfl,u,w',R',by rw[k0] at *;exact hr,hv,hp⟩
     ·have hnone:(o.xs.drop sv.off).take (sv.len*ie.size)=[]:=by rw[k0];simp
      have f0:∀ w2:World,w2.heap=w.heap→(Builtin.firstCells ie.size sv.len (.slice none sv.len 0)).run P w2 = .ok ([]:List Value).toArray w2:=fun w2 _=>by
       rw[k0];simp[run_firstCells_none]
      obtain⟨u,w',R',hr,hv,hp⟩:=fresh none 0 H [] [] [] (by omega) rfl hs .nil (by rw[k0];simp) (by simp) f0
      rw[hnone]
      rw[k0] at hr
      exact⟨_,_,_,rfl,u,w',R',by rw[k0] at *;exact hr,hv,hp⟩
    ·rename_i hex
     obtain⟨hcond,h4⟩:=Ae h3
     simp only[CF,Km,AV,Bh,Bool.and_eq_true,Bool.not_eq_true'] at hcond
     obtain⟨himm,hsp,hltn,htip,hall⟩:=hcond
     rw[Nat.blt_eq] at hltn
     have htip:=Nat.eq_of_beq_eq_true htip
     injection h4 with h4;injection h4 with e1 e2;subst e1;subst e2
     simp only[BH,Bz]
     rw[himm,hsp] at ho'
     have htake:(o.xs.drop sv.off).take (sv.len*ie.size)=o.xs.drop sv.off:=List.take_of_length_le (by simp;omega)
     have hspend:=U9 hs ho'
     have hanc:∀ a,a∈sv.id::o.anc→a < (H.set sv.id (.cells o.xs false true o.anc)).next∧((H.set sv.id (.cells o.xs false true o.anc)).get a).immB=false∧((H.set sv.id (.cells o.xs false true o.anc)).get a).writable=false:=by
      intro a ha
      rw[Aa.next_set,Aa.get_set]
      simp only[List.mem_cons] at ha
      rcases ha with rfl | ha
      ·rw[if_pos rfl];exact⟨hltn,rfl,rfl⟩
      ·have h9:=hs.anc sv.id a (by rw[ho'];exact ha)
       split
       ·exact⟨h9.1,rfl,rfl⟩
       ·exact h9
     rcases hsv.sl_l hsl with⟨c,β,cap,hid,rfl,k1,k2,k3,k4⟩ | ⟨c,o2,rfl,k0,k00⟩ | ⟨rfl,k0,k00⟩
     ·by_cases hin:sv.len+n≤cap
      ·obtain⟨C,t,fz,hC,hsz,hcf,hcr,hfz⟩:=(by have h9:=hs.obj sv.id c β hid;rw[ho'] at h9;exact h9)
       have hfz:=hfz rfl;subst hfz
       have hmul:(sv.len+n)*ie.size≤cap*ie.size:=Nat.mul_le_mul_right _ hin
       rw[Nat.add_mul] at hmul
       have hzl:=hnz.1
       have hfit2:β+o.xs.length+zs.length≤C.size:=by rw[hc1] at k4;omega
       have hpost:=aB (off:=sv.off) hs ho' hid (by omega) hnz hC hfit2
       have hrun:=P5 (P:=P) (w:=w) (elem:=elem) (size:=ie.size) (zeros:=zeros) (x:=x) (n:=n) (sLen:=sv.len) (o:=β+sv.off) (happ w rfl) hin hC (by omega) (Me hnz hall)
       rw[show β+sv.off+sv.len*ie.size=β+o.xs.length by omega] at hrun
       refine⟨_,_,_,rfl,_,_,_,hrun,?_,hpost⟩
       have := VR.sl (R := R.ext H.next c (β + sv.off) (R.sz c)) (off := 0) (sz := ie.size) (ln := sv.len + n) (c2 := 2 * (sv.len + n) + bb false 1 0) (cap := cap) (Ren.ext_new R H.next c (β + sv.off) _)
        (by rw[Bc];exact Nat.le_refl _) (by rw[Bc];exact hin) (fun ho=>by rw[Fw] at ho;cases ho) (by rw[Ren.ext_sz];rw[hc1] at k4;simpa using k4)
       simpa [sliceAt] using this
      ·obtain⟨olds,hol,hold⟩:=E8 c β cap hid
       rw[htake] at hol
       obtain⟨u,w',R',hr,hv,hp⟩:=fresh _ cap (H.set sv.id (.cells o.xs false true o.anc)) (sv.id::o.anc) olds _ (by omega) (by simp) hspend.sim hol (by simp;omega) hanc hold
       exact⟨_,_,_,rfl,u,w',R',hr,hv,hspend.trans hp hs⟩
     ·have hdrop:o.xs.drop sv.off=[]:=by apply List.drop_eq_nil_of_le;rw[k0] at htip;omega
      have f0:∀ w2:World,w2.heap=w.heap→(Builtin.firstCells ie.size sv.len (.slice (some ⟨c,o2,none⟩) sv.len 0)).run P w2 = .ok ([]:List Value).toArray w2:=fun w2 _=>by
       rw[k0];simp[Builtin.firstCells,loadCells,loadCellsFrom]
      obtain⟨u,w',R',hr,hv,hp⟩:=fresh (some ⟨c,o2,none⟩) 0 (H.set sv.id (.cells o.xs false true o.anc)) (sv.id::o.anc) [] [] (by omega) (by simp) hspend.sim .nil (by rw[k0];simp) hanc f0
      rw[hdrop]
      rw[k0] at hr
      exact⟨_,_,_,rfl,u,w',R',by rw[k0] at *;exact hr,hv,hspend.trans hp hs⟩
     ·have hdrop:o.xs.drop sv.off=[]:=by apply List.drop_eq_nil_of_le;rw[k0] at htip;omega
      have f0:∀ w2:World,w2.heap=w.heap→(Builtin.firstCells ie.size sv.len (.slice none sv.len 0)).run P w2 = .ok ([]:List Value).toArray w2:=fun w2 _=>by
       rw[k0];simp[run_firstCells_none]
      obtain⟨u,w',R',hr,hv,hp⟩:=fresh none 0 (H.set sv.id (.cells o.xs false true o.anc)) (sv.id::o.anc) [] [] (by omega) (by simp) hspend.sim .nil (by rw[k0];simp) hanc f0
      rw[hdrop]
      rw[k0] at hr
      exact⟨_,_,_,rfl,u,w',R',by rw[k0] at *;exact hr,hv,hspend.trans hp hs⟩
end
end Go.Sp
