/- Made from wip. -/
import Derived.Test.YtenlanbdolnhhaaSpOpsx

namespace Go.Sp

theorem cellEq_VR {R R':Ren} {x y x' y':Value} {b:Bool} (h:cellEq x y=some b) (hx:VR R x x') (hy:VR R' y y'):cellEq x' y'=some b:=by
 cases x <;> simp only[cellEq,vv] at h <;> try (cases h;done)
 case bool a=>obtain⟨c,hc,_⟩:=oo_inv h;have:=vBool_some hc;subst this;rw[hx.bool_l,hy.bool_l];exact h
 case int k a=>obtain⟨c,hc,_⟩:=oo_inv h;have:=vInt_some hc;subst this;rw[hx.int_l,hy.int_l];exact h
 case string a=>obtain⟨c,hc,_⟩:=oo_inv h;have:=vStr_some hc;subst this;rw[hx.string_l,hy.string_l];exact h
theorem cellsEq_VRL {R R':Ren} {xs ys xs' ys':List Value} {b:Bool} (h:cellsEq xs ys=some b) (hx:VRL R xs xs') (hy:VRL R' ys ys'):cellsEq xs' ys'=some b:=by
 induction xs generalizing ys xs' ys' b with
 | nil =>
  rw[hx.unnil]
  cases ys with
  | nil=>rw[hy.unnil];exact h
  | cons y ys=>exact absurd h (by intro h;cases h)
 | cons x xs ih =>
  obtain⟨u,us,rfl,h1,h2⟩:=hx.uncons
  cases ys with
  | nil=>exact absurd h (by intro h;cases h)
  | cons y ys =>
   obtain⟨z,zs,rfl,h3,h4⟩:=hy.uncons
   have h:oo (cellEq x y) none (fun b=>oo (cellsEq xs ys) none fun c=>some (an b c))=some b:=h
   obtain⟨p,hp,h⟩:=oo_inv h
   obtain⟨q,hq,h⟩:=oo_inv h
   show oo (cellEq u z) none (fun b=>oo (cellsEq us zs) none fun c=>some (an b c))=some b
   rw[cellEq_VR hp h1 h3,oo_some,ih hq h2 h4]
   exact h

section
variable {P:Program} {tt:TT} (hT:TOk P tt) {H:AHeap} {R:Ren} {w:World}

noncomputable def vNilC (v:Value):Option (Nat×Bool):=
 vv v (fun _=>none) (fun _ _=>none) (fun _=>none) (fun a=>some (4,nt (isS a))) (fun a _ _=>some (2,nt (isS a))) (fun m=>some (5,nt (isS m))) (fun _ _ _=>some (6,false)) (some (6,true)) (fun _ _=>none) none (fun _=>none) (fun _=>none) none
theorem nilF_some {sz n fl:Nat} {cs:List Value} {b:Nat×Bool} (h:vNil (.iface sz (.agg ⟨.slice none n fl::cs⟩))=some b):(fl=2∧(2,true)=b)∨(fl≠2∧(fl=3∨1≤n)∧(2,false)=b):=by
 have h:bb (Nat.beq fl 2) (some (2,true)) (bb (orr (Nat.beq fl 3) (Nat.ble 1 n)) (some (2,false)) none)=some b:=h
 rw[bb_eq] at h
 split at h
 ·rename_i hb
  injection h with h
  exact .inl ⟨Nat.eq_of_beq_eq_true hb,h⟩
 ·rename_i hb
  obtain⟨h1,h2⟩:=bb_inv h
  injection h2 with h2
  rw[orr_eq,Bool.or_eq_true] at h1
  exact .inr ⟨fun e=>hb (by rw[e];rfl),h1.imp Nat.eq_of_beq_eq_true Nat.le_of_ble_eq_true,h2⟩
theorem nilS_some {a:Addr} {l c:Nat} {b:Nat×Bool} (h:vNil (.slice (some a) l c)=some b):2≤c∧(2,false)=b:=by
 obtain⟨h1,h2⟩:=bb_inv (show bb (Nat.ble 2 c) (some (2,false)) none=some b from h)
 injection h2 with h2
 exact⟨Nat.le_of_ble_eq_true h1,h2⟩
theorem vNil_VR {R:Ren} {x x':Value} {b:Nat×Bool} (h:vNil x=some b) (hx:VR R x x'):vNilC x'=some b:=by
 cases hx
 case any=>cases h
 case fs hfl _ _ _ _ _=>
  rcases nilF_some h with⟨h1,_⟩ | ⟨_,_,h1⟩
  ·exact absurd h1 (by assumption)
  ·rw[←h1];rfl
 case fsN h3=>
  rcases nilF_some h with⟨_,h1⟩ | ⟨_,h1 | h1,_⟩
  ·rw[←h1];rfl
  ·exact absurd h1 h3
  ·omega
 case fsE=>
  rcases nilF_some h with⟨h1,_⟩ | ⟨_,_,h1⟩
  ·exact absurd h1 (by assumption)
  ·rw[←h1];rfl
 case sl=>obtain⟨_,h1⟩:=nilS_some h;rw[←h1];rfl
 case slE h0=>obtain⟨h1,_⟩:=nilS_some h;omega
 case slN h0=>obtain⟨h1,_⟩:=nilS_some h;omega
 case fp=>exact h
 all_goals first | exact h | (simp[vNil,vNilC,vv] at h ⊢;exact h)

theorem eqKind_bool {d:TypeDesc} (h:eqKind d=1):d = .bool:=by
 cases d <;> first | rfl | (simp[eqKind,dd] at h)
theorem run_equal_of {t:TypeId} {x y:Value} {b:Bool} (h:∀ d,(Op.equalIn (d+1) t x y).run P w = .ok b w):(Op.equal t x y).run P w = .ok b w:=h 9999

theorem equal_nil {t:TypeId} {d:TypeDesc} (hu:P.underlying t=some d) {x y:Value} {p q:Nat×Bool} {b:Bool} (hp:vNilC x=some p) (hq:vNilC y=some q) (h1:p.1=eqKind d) (h2:q.1=eqKind d)
 (h:bb p.2 (some q.2) (bb q.2 (some false) none)=some b):(Op.equal t x y).run P w = .ok b w:=by
 have hrun:=run_underlying hu
 refine run_equal_of fun n=>?_
 cases x <;> simp only [vNilC, vv] at hp <;> (try (cases hp; done)) <;> cases y <;> simp only [vNilC, vv] at hq <;> (try (cases hq; done)) <;> (injection hp with hp; injection hq with hq; subst hp; subst hq; simp only at h1 h2 h) <;>
  (try (exfalso;omega)) <;> cases d <;> (try (exfalso;simp[eqKind,dd] at h1;done)) <;> simp only[Op.equalIn,Sem.run_bind,hrun,Result.andThen_ok]
 case pointer.pointer.pointer a c e=>cases a <;> cases c <;> simp at h ⊢ <;> exact h
 case slice.slice.slice a _ _ c _ _ e=>cases a <;> cases c <;> simp at h ⊢ <;> exact h
 case map.map.map a c k e=>cases a <;> cases c <;> simp at h ⊢ <;> exact h
 case func.func.func=>simp at h
 all_goals (simp at h ⊢;try exact h)

theorem eqV_any {t:TypeId} {y:Value}:eqV tt t (.iface 0 .nilIface) y=none:=by
 unfold eqV
 cases tt t with
 | none=>rfl
 | some i =>
  rw[oo_some,bb_eq]
  split
  ·rfl
  ·rw[bb_eq];split <;> rfl

include hT in
theorem eqV_ok {t:TypeId} {x y x' y':Value} {b:Bool} (h:eqV tt t x y=some b) (hx:VR R x x') (hy:VR R y y') :
 (Op.equal t x' y').run P w = .ok b w∧((∀ a c,¬ (x' = .agg a∧y' = .agg c))∨P.eqGuardType P.depth t=false)∧¬ (x' = .nilIface∧y' = .nilIface):=by
 obtain⟨i,hi,h⟩:=oo_inv h
 have hu:=hT.und hi
 rw[bb_eq] at h
 split at h
 ·rename_i hk
  obtain⟨a,ha,h⟩:=oo_inv h
  obtain⟨c,hc,h⟩:=oo_inv h
  have:=vBool_some ha;subst this
  have:=vBool_some hc;subst this
  rw[hx.bool_l,hy.bool_l]
  injection h with h;subst h
  have hd:i.und = .bool:=eqKind_bool (Nat.eq_of_beq_eq_true hk)
  refine⟨?_,.inl (by simp),by simp⟩
  rw[hd] at hu
  refine run_equal_of fun d=>?_
  simp only[Op.equalIn,Sem.run_bind,run_underlying hu,Result.andThen_ok]
  simp
 ·rw[bb_eq] at h
  split at h
  ·rename_i hk
   obtain⟨xs,hxs,h5⟩:=oo_inv h
   obtain⟨ys,hys,h6⟩:=oo_inv h5
   obtain⟨hc,h7⟩:=bb_inv h6
   clear h h5 h6
   obtain⟨hfl,zs,hz,hlike⟩:=flatLike_some hc
   have:=vAgg_some hxs;subst this
   have:=vAgg_some hys;subst this
   obtain⟨us,rfl,h1⟩:=hx.agg_l
   obtain⟨vs,rfl,h2⟩:=hy.agg_l
   have hf:=hT.flat t i zs hi hfl hz
   exact⟨hf.1 us vs b w (kindsLike_VRL hlike h1) (cellsEq_VRL h7 h1 h2),.inr hf.2.1,by simp⟩
  ·obtain⟨p,hp,h⟩:=oo_inv h
   obtain⟨q,hq,h⟩:=oo_inv h
   obtain⟨hc,h⟩:=bb_inv h
   simp only[an_eq,Bool.and_eq_true] at hc
   have hp':=vNil_VR hp hx
   have hq':=vNil_VR hq hy
   refine⟨equal_nil hu hp' hq' (Nat.eq_of_beq_eq_true hc.1) (Nat.eq_of_beq_eq_true hc.2) h,.inl ?_,?_⟩
   ·rintro a c ⟨rfl,_⟩;simp[vNilC,vv] at hp'
   ·rintro⟨rfl,_⟩;simp[vNilC,vv] at hp'

theorem astr_ok {op:BinOp} {a b:ByteArray} {v:Value} (h:astr op a b=some v) (t:TypeId):(binOp op t (.string a) (.string b)).run P w = .ok v w∧plain1 v=true:=by
 unfold astr at h
 rw[bb_eq] at h
 split at h
 ·rename_i ha
  obtain⟨hs,h⟩:=bb_inv h
  injection h with h;subst h
  have:op = .add:=by cases op <;> first | rfl | (exact absurd ha (by decide))
  subst this
  have hs:=Nat.le_of_ble_eq_true hs
  have hmax:IntKind.i64.max=9223372036854775807:=rfl
  have hle:¬ (((a.size+b.size:Nat):Int) > IntKind.i64.max):=by rw[hmax];omega
  refine⟨?_,rfl⟩
  simp only[binOp,Op.stringOp]
  rw[if_neg hle];rfl
 ·obtain⟨r,hr,h1⟩:=oo_inv h
  injection h1 with h1;subst h1
  refine⟨?_,rfl⟩
  cases op <;> simp[rel,BinOp.pick] at hr <;> simp[binOp,Op.stringOp,hr]

theorem aintF_plain {op:BinOp} {k:IntKind} {x y:Int} {v:Value} (h:aintF op k x y=some v):plain1 v=true:=by
 cases op <;> simp only[aintF,BinOp.pick,iv,bv] at h
 case quo=>have h:=(bb_inv' h).2;injection h with h;subst h;rfl
 case rem=>have h:=(bb_inv' h).2;injection h with h;subst h;rfl
 case shl=>cases h
 case shr=>cases h
 all_goals (injection h with h;subst h;rfl)

include hT in
theorem abin_ok {op:BinOp} {t:TypeId} {x y x' y' v:Value} (h:abin tt op t x y=some v) (hx:VR R x x') (hy:VR R y y') (xo yo:Operand) :
 (do eqGuard op t xo yo x' y';binOp op t x' y':Sem Value).run P w = .ok v w∧plain1 v=true:=by
 unfold abin at h
 cases hi:vInt x with
 | some p =>
  rw[hi,oo_some,pp_eta] at h
  obtain⟨q,hq,h0⟩:=oo_inv h
  rw[pp_eta] at h0
  have e1:=vInt_some hi
  have e2:=vInt_some hq
  subst e1;subst e2
  clear h
  have h:=h0
  clear h0
  rw[hx.int_l,hy.int_l]
  have hg:(eqGuard op t xo yo (.int p.1 p.2) (.int q.1 q.2)).run P w = .ok () w:=by
   cases op <;> simp[eqGuard]
  rw[Sem.run_bind,hg,Result.andThen_ok]
  rw[bb_eq] at h
  split at h
  ·rename_i hs
   refine⟨ashift_ok h hs t,?_⟩
   unfold ashift at h
   cases hq2:q.2 with
   | ofNat n=>rw[hq2] at h;simp only[ii_ofNat,iv] at h;injection h with h;subst h;rfl
   | negSucc n=>rw[hq2] at h;simp at h
  ·rename_i hs
   obtain⟨hk,h⟩:=bb_inv h
   have hk:=intKindEq_iff hk
   rw[←hk]
   exact⟨aintF_ok h (by simpa using hs) t,aintF_plain h⟩
 | none =>
  rw[hi,oo_none] at h
  cases hs:vStr x with
  | some a =>
   rw[hs,oo_some] at h
   obtain⟨b,hb,h⟩:=oo_inv h
   have e1:=vStr_some hs
   have e2:=vStr_some hb
   subst e1;subst e2
   rw[hx.string_l,hy.string_l]
   have hg:(eqGuard op t xo yo (.string a) (.string b)).run P w = .ok () w:=by
    cases op <;> simp[eqGuard]
   rw[Sem.run_bind,hg,Result.andThen_ok]
   exact astr_ok h t
  | none =>
   rw[hs,oo_none] at h
   obtain⟨wt,hw,h⟩:=oo_inv h
   obtain⟨b,hb,h⟩:=oo_inv h
   obtain⟨h1,h2,h3⟩:=eqV_ok (w:=w) hT hb hx hy
   have hg:(eqGuard op t xo yo x' y').run P w = .ok () w:=by
    unfold eqGuard
    cases x' <;> cases y' <;> first
     | (exact absurd ⟨rfl,rfl⟩ h3)
     | (cases op <;> simp;done)
     | (rcases h2 with h2 | h2
        ·exact absurd ⟨rfl,rfl⟩ (h2 _ _)
        ·cases op <;> simp[h2])
   rw[Sem.run_bind,hg,Result.andThen_ok]
   have hany:x ≠ .iface 0 .nilIface:=fun e=>by subst e;rw[eqV_any] at hb;cases hb
   have hni:∀ k n,x' ≠ .int k n:=fun k n e=>by subst e;cases hx <;> first | exact hany rfl | (simp[vInt,vv] at hi)
   have hns:∀ s,x' ≠ .string s:=fun s e=>by subst e;cases hx <;> first | exact hany rfl | (simp[vStr,vv] at hs)
   have hop:op = .eql∧wt=true∨op = .neq∧wt=false:=by cases op <;> simp[eqWant,BinOp.pick] at hw <;> simp[hw]
   injection h with h
   subst h
   refine⟨?_,rfl⟩
   have hnf:∀ k n,x' ≠ .float k n:=fun k n e=>by subst e;cases hx;exact hany rfl
   have hnc:∀ k n m,x' ≠ .complex k n m:=fun k n m e=>by subst e;cases hx;exact hany rfl
   rcases hop with⟨rfl,rfl⟩ | ⟨rfl,rfl⟩
   ·have : binOp .eql t x' y' = (do pure (.bool (← Op.equal t x' y'))) := by
     cases x' <;> first | rfl | (exact absurd rfl (hni _ _)) | (exact absurd rfl (hns _)) | (exact absurd rfl (hnf _ _)) | (exact absurd rfl (hnc _ _ _)) | (cases y' <;> rfl)
    rw[this];simp[h1]
   ·have : binOp .neq t x' y' = (do pure (.bool (!(← Op.equal t x' y')))) := by
     cases x' <;> first | rfl | (exact absurd rfl (hni _ _)) | (exact absurd rfl (hns _)) | (exact absurd rfl (hnf _ _)) | (exact absurd rfl (hnc _ _ _)) | (cases y' <;> rfl)
    rw[this];simp[h1]

theorem aun_ok {op:UnOp} {x x' v:Value} (h:aun op x=some v) (hx:VR R x x'):(Op.unary op x').run P w = .ok v w∧plain1 v=true:=by
 cases op <;> simp only[aun] at h
 ·obtain⟨p,hp,h⟩:=oo_inv h
  rw[pp_eta] at h
  have:=vInt_some hp;subst this
  rw[hx.int_l]
  injection h with h;subst h
  refine⟨?_,rfl⟩
  rw[wrapF_eq,show Int.sub (Int.ofNat 0) p.2=0 - p.2 from rfl]
  simp[Op.unary,Op.intArith]
 ·obtain⟨p,hp,h⟩:=oo_inv h
  rw[pp_eta] at h
  have:=vInt_some hp;subst this
  rw[hx.int_l]
  injection h with h;subst h
  refine⟨?_,rfl⟩
  rw[axor_eq]
  simp[Op.unary,Op.intBits,axorS]
 ·obtain⟨p,hp,h⟩:=oo_inv h
  have:=vBool_some hp;subst this
  rw[hx.bool_l]
  injection h with h;subst h
  refine⟨?_,rfl⟩
  simp[Op.unary]
 ·cases h

theorem dInt_some {d:TypeDesc} {k:IntKind} (h:dInt d=some k):d = .int k:=by cases d <;> simp[dInt,dd] at h;subst h;rfl
theorem dSl_some {d:TypeDesc} {k:Nat} (h:dSl d=some k):d = .slice k:=by cases d <;> simp[dSl,dd] at h;subst h;rfl
theorem dArr_some {d:TypeDesc} {k:Nat×Nat} (h:dArr d=some k):d = .array k.1 k.2:=by cases d <;> simp[dArr,dd] at h;subst h;rfl
theorem dMap_some {d:TypeDesc} {k:Nat×Nat} (h:dMap d=some k):d = .map k.1 k.2:=by cases d <;> simp[dMap,dd] at h;subst h;rfl
theorem dStruct_some {d:TypeDesc} {k:Array Field} (h:dStruct d=some k):d = .struct k:=by cases d <;> simp[dStruct,dd] at h;subst h;rfl
theorem isStrT_true {d:TypeDesc} (h:isStrT d=true):d = .string:=by cases d <;> first | rfl | (simp[isStrT,dd] at h)

include hT in
theorem aconv_ok {s d:TypeId} {x x' v:Value} (h:aconv tt s d x=some v) (hx:VR R x x'):(convert s d x').run P w = .ok v w∧plain1 v=true:=by
 obtain⟨si,hsi,h1⟩:=oo_inv h
 obtain⟨di,hdi,h2⟩:=oo_inv h1
 clear h h1
 have hus:=hT.run_und hsi w
 have hud:=hT.run_und hdi w
 cases hi:vInt x with
 | some p =>
  rw[hi,oo_some,pp_eta] at h2
  obtain⟨k,hk,h3⟩:=oo_inv h2
  have:=vInt_some hi;subst this
  rw[hx.int_l]
  have hdk:=dInt_some hk
  rw[hdk] at hud
  injection h3 with h3;subst h3
  rw[wrapF_eq]
  refine⟨?_,rfl⟩
  simp only[convert,Sem.run_bind,hus,hud,Result.andThen_ok]
  cases si.und <;> simp[Conv.intToInt]
 | none =>
  rw[hi,oo_none] at h2
  obtain⟨b,hb,h3⟩:=oo_inv h2
  obtain⟨hc,h4⟩:=bb_inv h3
  have:=vStr_some hb;subst this
  rw[hx.string_l]
  obtain⟨hc1,hc2⟩:=an_inv hc
  rw[isStrT_true hc1] at hus
  rw[isStrT_true hc2] at hud
  injection h4 with h4;subst h4
  refine⟨?_,rfl⟩
  simp[convert,hus,hud]
end
end Go.Sp
namespace Go.Sp

theorem add_plain (c o j:Nat):(⟨c,o,none⟩:Addr).add j=⟨c,o+j,none⟩:=by unfold Addr.add;split <;> simp_all
theorem oCells_some {o:AObj} {x:CellObj} (h:oCells o=some x):o = .cells x.xs x.imm x.spent x.anc:=by
 cases o <;> simp[oCells] at h;subst h;rfl
theorem oMap_some {o:AObj} {x:MapObj} (h:oMap o=some x):o = .map x.es x.clock:=by
 cases o <;> simp[oMap] at h;subst h;rfl

theorem nt_false {b:Bool} (h:nt b=true):b=false:=by cases b with
 | false=>rfl
 | true=>cases h

section
variable {P:Program} {tt:TT} (hT:TOk P tt) {H:AHeap} {R:Ren} {w:World}

theorem Sim.cells (hs:Sim H R w) {id c β:Nat} (hid:R.f id=some (c,β)) {o:CellObj} (ho:oCells (H.get id)=some o) :
 ∃ C t fz,w.heap[c]?=some (.cells C t fz)∧C.size=R.sz c∧β+o.xs.length≤C.size∧CellsR R o.xs β C:=by
 have h:=hs.obj id c β hid
 rw[oCells_some ho] at h
 obtain⟨C,t,fz,h1,h2,h3,h4,_⟩:=h
 exact⟨C,t,fz,h1,h2,h3,h4⟩

theorem stretch {R:Ren} {xs:List Value} {β:Nat} {C:Array Value} (h:CellsR R xs β C) (hfit:β+xs.length≤C.size) (off n:Nat) (hn:off+n≤xs.length) :
 VRL R ((xs.drop off).take n) ((C.toList.drop (β+off)).take n):=by
 refine⟨by simp;omega,fun i x y hx hy=>?_⟩
 rw[List.getElem?_take] at hx hy
 split at hx
 ·rename_i hi
  rw[if_pos hi,List.getElem?_drop] at hy
  rw[List.getElem?_drop] at hx
  obtain⟨z,hz,hv⟩:=h (off+i) x hx
  rw[Array.getElem?_toList,show β+off+i=β+(off+i) by omega,hz] at hy
  injection hy with hy;subst hy;exact hv
 ·cases hx
theorem stretch_cells {c o n:Nat} {C:Array Value} {t:TypeId} {fz:Nat×Nat} (hC:w.heap[c]?=some (.cells C t fz)) :
 ∀ (j:Nat) (v:Value),((C.toList.drop o).take n)[j]?=some v→w.cell? ((⟨c,o,none⟩:Addr).add j)=some v:=fun j v h=>by
 rw[List.getElem?_take] at h
 split at h
 ·rw[List.getElem?_drop,Array.getElem?_toList] at h
  rw[add_plain]
  simp[World.cell?,hC,h]
 ·cases h
theorem run_stretch {c o n:Nat} {C:Array Value} {t:TypeId} {fz:Nat×Nat} (hC:w.heap[c]?=some (.cells C t fz)) (hn:o+n≤C.size) :
 (loadCells ⟨c,o,none⟩ n).run P w = .ok ((C.toList.drop o).take n).toArray w:=by
 have h:=run_loadCells_list (P:=P) w ⟨c,o,none⟩ ((C.toList.drop o).take n) (stretch_cells hC)
 have e:((C.toList.drop o).take n).length=n:=by simp;omega
 rw[e] at h
 exact h

include hT in
theorem loadVar_ok {t:TypeId} {i:TI} (hi:tt t=some i) {xs:List Value} {off c β:Nat} {v:Value} (h:partV i xs off=some v) {C:Array Value} {ty:TypeId} {fz:Nat×Nat}
 (hC:w.heap[c]?=some (.cells C ty fz)) (hfit:β+xs.length≤C.size) (hc:CellsR R xs β C):∃ u,(loadVar t ⟨c,β+off,none⟩).run P w = .ok u w∧VR R v u:=by
 unfold partV at h
 have ha:=hT.run_isAgg hi w
 have hz:=hT.run_size hi w
 rw[bb_eq] at h
 split at h
 ·rename_i hag
  obtain⟨hle,h⟩:=bb_inv h
  simp only[takeL_eq,dropL_eq,len_eq] at h hle
  have hle:=Nat.le_of_ble_eq_true hle
  injection h with h;subst h
  refine⟨.agg ((C.toList.drop (β+off)).take i.size).toArray,?_,?_⟩
  ·simp only[loadVar,Sem.run_bind,ha,hag,Result.andThen_ok,if_true,hz,run_stretch hC (show β+off+i.size≤C.size by omega),Sem.run_pure]
  ·exact .agg (stretch hc hfit off i.size hle).1 (stretch hc hfit off i.size hle).2
 ·rename_i hag
  have hag:isAggT i.und=false:=by simpa using hag
  simp only[nthL_eq] at h
  obtain⟨y,hy,hv⟩:=hc off v h
  refine⟨y,?_,hv⟩
  simp only[loadVar,Sem.run_bind,ha,hag,Result.andThen_ok,Bool.false_eq_true,if_false,run_load]
  simp[World.cell?,hC,hy]

include hT in
theorem aload_ok (hs:Sim H R w) {t:TypeId} {a a' v:Value} (h:aload tt H t a=some v) (ha:VR R a a'):∃ u,(Instr.loadAt t a').run P w = .ok u w∧VR R v u:=by
 obtain⟨i,hi,h1⟩:=oo_inv h
 cases hp:vPtr a with
 | some p =>
  rw[hp,oo_some,pp_eta] at h1
  obtain⟨o,ho,h3⟩:=oo_inv h1
  have:=vPtr_some hp;subst this
  obtain⟨c,β,hid,rfl⟩:=ha.ptr_l
  obtain⟨C,ty,fz,hC,_,hfit,hc⟩:=hs.cells hid ho
  obtain⟨u,hu,hv⟩:=loadVar_ok hT hi h3 hC hfit hc
  exact⟨u,by simp[Instr.loadAt,Instr.sureAddr,hu],hv⟩
 | none =>
  rw[hp,oo_none] at h1
  obtain⟨q,hq,h2⟩:=oo_inv h1
  obtain⟨c,o,C,hc,rfl,hfit,hcr,_⟩:=ha.fp_l hq
  obtain⟨⟨ty,fz,hC⟩,_⟩:=hs.ro c C hc
  obtain⟨u,hu,hv⟩:=loadVar_ok hT hi h2 hC hfit hcr
  exact⟨u,by simp[Instr.loadAt,Instr.sureAddr,hu],hv⟩

include hT in
theorem astore_ok {H':AHeap} (hs:Sim H R w) {t:TypeId} {a a' v v':Value} (h:astore tt H t a v=some H') (ha:VR R a a') (hv:VR R v v') :
 ∃ w',(Instr.storeAt t a' v').run P w = .ok () w'∧Post H R w H' R w':=by
 obtain⟨p,hp,h1⟩:=oo_inv h
 rw[pp_eta] at h1
 obtain⟨i,hi,h2⟩:=oo_inv h1
 obtain⟨hsz,h3⟩:=bb_inv h2
 obtain⟨htup,hsz⟩:=an_inv hsz
 have:=vPtr_some hp;subst this
 obtain⟨c,β,hid,rfl⟩:=ha.ptr_l
 have hl:=cellsOf_VR hv (nt_false htup)
 obtain⟨C,ty,hC,hfit,hone,hpost⟩:=post_write hs h3 hid hl
 refine⟨_,?_,hpost⟩
 have hlen:v'.cells.size=i.size:=by
  rw[←Array.length_toList,←hl.1]
  simp only[len_eq] at hsz
  exact Nat.eq_of_beq_eq_true hsz
 simp only[Instr.storeAt,Instr.sureAddr,storeVar,Sem.run_bind,Sem.run_pure,Result.andThen_ok,hT.run_size hi w,hlen,ne_eq,not_true,if_false]
 have:=run_storeCells_at P c (β+p.2) ty v'.cells.toList 0 C w hC (by simpa using hfit) hone
 simpa using this

theorem alloc_post (hs:Sim H R w) (t:TypeId) {xs ys:List Value} (h:VRL R xs ys) :
 Post H R w (H.push (.cells xs false false [])) (R.ext H.next w.heap.size 0 ys.length) (w.alloc (.cells ys.toArray t)):=by
 have:=post_cells (w:=w) t [] false hs h false [] (by simp)
 simpa using this

theorem newVar_ok (hs:Sim H R w) (t:TypeId) {v v':Value} (hl:VRL R (cellsOf v) v'.cells.toList) :
 ∃ w' R', (do pure (.pointer (some (← newVar t v'))) : Sem Value).run P w = .ok (.pointer (some ⟨w.heap.size, 0, none⟩)) w' ∧
  VR R' (.pointer (some ⟨H.next,0,none⟩)) (.pointer (some ⟨w.heap.size,0,none⟩))∧Post H R w (H.push (.cells (cellsOf v) false false [])) R' w':=by
 refine⟨_,_,?_,?_,alloc_post hs t hl⟩
 ·simp[newVar,newRow]
 ·have:=VR.ptr (off:=0) (Ren.ext_new R H.next w.heap.size 0 v'.cells.toList.length)
  simpa using this

theorem vFunc_some {v:Value} {g:FnV} (h:vFunc v=some g):v = .func (.func g.f) ⟨g.first⟩ ⟨g.rest⟩:=by
 cases v <;> simp[vFunc,vv] at h
 rename_i f a b
 cases f <;> simp[fnOf] at h
 obtain⟨l⟩:=a;obtain⟨m⟩:=b
 simp[arrL] at h;subst h;rfl

theorem aextract_ok {t t' v:Value} {i:Nat} (h:aextract t i=some v) (ht:VR R t t'):∃ u,(Instr.extract t' i).run P w = .ok u w∧VR R v u:=by
 obtain⟨vs,hvs,h1⟩:=oo_inv h
 have:=vTup_some hvs;subst this
 rw[nthL_eq] at h1
 obtain⟨us,rfl,hl⟩:=ht.tuple_l
 obtain⟨u,hu,hv⟩:=hl.get h1
 refine⟨u,?_,hv⟩
 simp[Instr.extract,hu]

theorem fieldOfK_some {β:Type} {t:TypeId} {f:Nat} {k:Field→TI→Option β} {r:β} (h:fieldOfK tt t f k=some r) :
 ∃ i fs fd ie,tt t=some i∧i.und = .struct fs∧fs[f]?=some fd∧tt fd.type=some ie∧k fd ie=some r:=by
 obtain⟨i,hi,h1⟩:=oo_inv h
 obtain⟨fs,hfs,h2⟩:=oo_inv h1
 obtain⟨fd,hfd,h3⟩:=oo_inv h2
 obtain⟨ie,hie,h4⟩:=oo_inv h3
 exact⟨i,fs,fd,ie,hi,dStruct_some hfs,by simpa using hfd,hie,h4⟩

include hT in
theorem afieldAddr_ok {t:TypeId} {x x' v:Value} {f:Nat} (h:afieldAddr tt t x f=some v) (hx:VR R x x'):∃ u,(Instr.fieldAt t x' f).run P w = .ok u w∧VR R v u:=by
 obtain⟨i,fs,fd,ie,hi,hd,hfd,hie,h1⟩:=fieldOfK_some h
 obtain⟨hz,h2⟩:=bb_inv' h1
 have hz:ie.size≠0:=fun e=>by rw[e] at hz;cases hz
 have hu:=hT.run_und hi w
 rw[hd] at hu
 cases hp:vPtr x with
 | none =>
  rw[hp,oo_none] at h2
  obtain⟨q,hq,h3⟩:=oo_inv h2
  injection h3 with h3;subst h3
  obtain⟨c,o,C,hc,rfl,hfit,hcr,hcl⟩:=hx.fp_l hq
  refine⟨.pointer (some ⟨c,o+(q.off+fd.offset),none⟩),?_,.mkFp hc hfit hcr hcl⟩
  simp[Instr.fieldAt,hu,hfd,Instr.sureAddr,fieldPlace,hT.run_size hie w,hz,add_plain,Nat.add_assoc]
 | some p=>
 rw[hp,oo_some,pp_eta] at h2
 injection h2 with h3;subst h3
 have:=vPtr_some hp;subst this
 obtain⟨c,β,hid,rfl⟩:=hx.ptr_l
 refine⟨.pointer (some ⟨c,β+(p.2+fd.offset),none⟩),?_,.ptr hid⟩
 simp[Instr.fieldAt,hu,hfd,Instr.sureAddr,fieldPlace,hT.run_size hie w,hz,add_plain,Nat.add_assoc]

include hT in
theorem part_ok {t:TypeId} {i:TI} (hi:tt t=some i) {xs ys:List Value} {off:Nat} {v:Value} (h:partV i xs off=some v) (hl:VRL R xs ys):∃ u,(part t ⟨ys⟩ off).run P w = .ok u w∧VR R v u:=by
 unfold partV at h
 have ha:=hT.run_isAgg hi w
 have hz:=hT.run_size hi w
 rw[bb_eq] at h
 split at h
 ·rename_i hag
  obtain⟨hle,h⟩:=bb_inv h
  simp only[takeL_eq,dropL_eq,len_eq] at h hle
  have hle:=Nat.le_of_ble_eq_true hle
  injection h with h;subst h
  refine⟨.agg ((ys.drop off).take i.size).toArray,?_,?_⟩
  ·simp only[part,Sem.run_bind,ha,hag,Result.andThen_ok,if_true,hz,Sem.run_pure]
   congr 2
   simp[List.extract_toArray,List.extract_eq_take_drop]
  ·have:=(hl.drop off).take i.size
   exact .agg this.1 this.2
 ·rename_i hag
  have hag:isAggT i.und=false:=by simpa using hag
  simp only[nthL_eq] at h
  obtain⟨y,hy,hv⟩:=hl.get h
  refine⟨y,?_,hv⟩
  simp only[part,Sem.run_bind,ha,hag,Result.andThen_ok,Bool.false_eq_true,if_false]
  simp[hy]

include hT in
theorem afield_ok {t:TypeId} {x x' v:Value} {f:Nat} (h:afield tt t x f=some v) (hx:VR R x x'):∃ u,(Instr.field t x' f).run P w = .ok u w∧VR R v u:=by
 obtain⟨i,fs,fd,ie,hi,hd,hfd,hie,h1⟩:=fieldOfK_some h
 obtain⟨cs,hcs,h2⟩:=oo_inv h1
 have:=vAgg_some hcs;subst this
 obtain⟨us,rfl,hl⟩:=hx.agg_l
 have hu:=hT.run_und hi w
 rw[hd] at hu
 obtain⟨u,hr,hv⟩:=part_ok (w:=w) hT hie h2 hl
 exact⟨u,by simp[Instr.field,hu,hfd,asAgg,hr],hv⟩

theorem VR.nat_l {R:Ren} {x x':Value} {n:Nat} (h:vNat x=some n) (hx:VR R x x'):∃ k,x' = .int k n:=by
 obtain⟨k,rfl⟩:=vNat_some h
 exact⟨k,hx.int_l⟩

theorem VR.sl_l {R:Ren} {x x':Value} {s:SlV} (h:vSl x=some s) (hx:VR R x x') :
 (∃ c β cap,R.f s.id=some (c,β)∧x' = .slice (some ⟨c,β+s.off,none⟩) s.len cap∧s.len≤s.cap / 2∧s.cap / 2≤cap∧(s.cap % 2=1→cap=s.cap / 2)∧β+s.off+cap*s.sz≤R.sz c) ∨
 (∃ c o,x' = .slice (some ⟨c,o,none⟩) 0 0∧s.len=0∧s.cap / 2=0)∨(x' = .slice none 0 0∧s.len=0∧s.cap / 2=0):=by
 have:=vSl_some h;subst this
 generalize hl:s.len=ln at hx
 cases hx with
 | sl h h1 h2 h3 h4=>exact .inl ⟨_,_,_,h,by simp,h1,h2,h3,h4⟩
 | slE h=>exact .inr (.inl ⟨_,_,rfl,by omega,h⟩)
 | slN h=>exact .inr (.inr ⟨rfl,by omega,h⟩)

include hT in
theorem aindexAddr_ok {t:TypeId} {x x' ix ix' v:Value} (h:aindexAddr tt t x ix=some v) (hx:VR R x x') (hix:VR R ix ix'):∃ u,(Instr.indexAt t x' ix').run P w = .ok u w∧VR R v u:=by
 obtain⟨i,hi,h1⟩:=oo_inv h
 obtain⟨n,hn,h2⟩:=oo_inv h1
 obtain⟨k,rfl⟩:=hix.nat_l hn
 have hu:=hT.run_und hi w
 cases hd:dSl i.und with
 | some e =>
  rw[hd,oo_some] at h2
  obtain⟨ie,hie,h3⟩:=oo_inv h2
  cases hsl:vSl x with
  | none =>
   rw[hsl,oo_none] at h3
   obtain⟨f,hf,h4⟩:=oo_inv h3
   obtain⟨hc,h5⟩:=bb_inv h4
   obtain⟨hc1,hc2⟩:=an_inv hc
   rw[Nat.blt_eq] at hc1
   have hc2:=Nat.eq_of_beq_eq_true hc2
   injection h5 with h5;subst h5
   rw[dSl_some hd] at hu
   rcases hx.fs_l hf with⟨h0,_⟩ | ⟨_,h0,_⟩ | ⟨c,o,cap,C,hro,rfl,hn,k1,k2,k3,hfit,hcr,hcl⟩
   ·omega
   ·omega
   ·refine⟨.pointer (some ⟨c,o+n*f.sz,none⟩),?_,.mkFp hro hfit hcr hcl⟩
    simp[Instr.indexAt,asIntOf,hu,hc1,hT.run_size hie w,add_plain,hc2]
  | some s=>
  rw[hsl,oo_some] at h3
  have h4:=h3
  obtain⟨hc,h5⟩:=bb_inv (show bb (an (Nat.blt n s.len) (Nat.beq ie.size s.sz)) (aptr s.id (s.off+n*s.sz)) none=some v from h4)
  obtain⟨hc1,hc2⟩:=an_inv hc
  rw[Nat.blt_eq] at hc1
  have hc2:=Nat.eq_of_beq_eq_true hc2
  injection h5 with h5;subst h5
  rw[dSl_some hd] at hu
  rcases hx.sl_l hsl with⟨c,β,cap,hid,rfl,_⟩ | ⟨c,o,rfl,h0,_⟩ | ⟨rfl,h0,_⟩
  ·refine⟨.pointer (some ⟨c,β+(s.off+n*s.sz),none⟩),?_,.ptr hid⟩
   simp[Instr.indexAt,asIntOf,hu,hc1,hT.run_size hie w,add_plain,hc2,Nat.add_assoc]
  ·omega
  ·omega
 | none =>
  rw[hd,oo_none] at h2
  obtain⟨p,hp,h3⟩:=oo_inv h2
  rw[pp_eta] at h3
  obtain⟨ie,hie,h4⟩:=oo_inv h3
  rw[dArr_some hp] at hu
  cases hq:vPtr x with
  | none =>
   rw[hq,oo_none] at h4
   obtain⟨q,hq2,h5⟩:=oo_inv h4
   obtain⟨hc,h6⟩:=bb_inv h5
   rw[Nat.blt_eq] at hc
   injection h6 with h6;subst h6
   obtain⟨c,o,C,hro,rfl,hfit,hcr,hcl⟩:=hx.fp_l hq2
   refine⟨.pointer (some ⟨c,o+(q.off+n*ie.size),none⟩),?_,.mkFp hro hfit hcr hcl⟩
   simp[Instr.indexAt,asIntOf,hu,Instr.sureAddr,hc,hT.run_size hie w,add_plain,Nat.add_assoc]
  | some q=>
  rw[hq,oo_some,pp_eta] at h4
  obtain⟨hc,h6⟩:=bb_inv h4
  rw[Nat.blt_eq] at hc
  injection h6 with h6;subst h6
  have:=vPtr_some hq;subst this
  obtain⟨c,β,hid,rfl⟩:=hx.ptr_l
  refine⟨.pointer (some ⟨c,β+(q.2+n*ie.size),none⟩),?_,.ptr hid⟩
  simp[Instr.indexAt,asIntOf,hu,Instr.sureAddr,hc,hT.run_size hie w,add_plain,Nat.add_assoc]

include hT in
theorem aindex_ok {t:TypeId} {x x' ix ix' v:Value} (h:aindex tt t x ix=some v) (hx:VR R x x') (hix:VR R ix ix'):∃ u,(Instr.index t x' ix').run P w = .ok u w∧VR R v u:=by
 obtain⟨i,hi,h1⟩:=oo_inv h
 obtain⟨n,hn,h2⟩:=oo_inv h1
 obtain⟨k,rfl⟩:=hix.nat_l hn
 have hu:=hT.run_und hi w
 cases hd:dArr i.und with
 | some p =>
  rw[hd,oo_some,pp_eta] at h2
  obtain⟨cs,hcs,h3⟩:=oo_inv h2
  obtain⟨ie,hie,h4⟩:=oo_inv h3
  obtain⟨hc,h5⟩:=bb_inv h4
  rw[Nat.blt_eq] at hc
  rw[dArr_some hd] at hu
  have:=vAgg_some hcs;subst this
  obtain⟨us,rfl,hl⟩:=hx.agg_l
  obtain⟨u,hr,hv⟩:=part_ok (w:=w) hT hie h5 hl
  exact⟨u,by simp[Instr.index,asIntOf,hu,hc,hT.run_size hie w,hr],hv⟩
 | none =>
  rw[hd,oo_none] at h2
  obtain⟨hstr,h3⟩:=bb_inv h2
  obtain⟨s,hs,h4⟩:=oo_inv h3
  obtain⟨b,hb,h5⟩:=oo_inv h4
  injection h5 with h5;subst h5
  rw[isStrT_true hstr] at hu
  have:=vStr_some hs;subst this
  rw[hx.string_l]
  refine⟨.int .u8 b.toNat,?_,.int _ _⟩
  have hb':s[n]?=some b:=by
   have:s.data[n]?=some b:=by simpa using hb
   have hlt:n < s.size:=by
    have:=(Array.getElem?_eq_some_iff.1 this).1;exact this
   rw[getElem?_pos s n hlt]
   have e:=(Array.getElem?_eq_some_iff.1 this).2
   exact congrArg some e
  simp[Instr.index,asIntOf,hu,hb']
end
end Go.Sp
namespace Go.Sp

section
variable {P:Program} {tt:TT} (hT:TOk P tt) {H:AHeap} {R:Ren} {w:World}

def OptR (R:Ren) (x x':Option Value):Prop:=match x,x' with
 | none,none=>True
 | some a,some b=>VR R a b
 | _,_=>False

theorem anat_some {v:Value} {m n:Nat} (h:anat v m=some n):(∃ k,v = .int k n)∧n≤m:=by
 obtain⟨i,hi,h1⟩:=oo_inv h
 obtain⟨hc,h2⟩:=bb_inv h1
 injection h2 with h2;subst h2
 exact⟨vNat_some hi,Nat.le_of_ble_eq_true hc⟩
theorem sliceBound_ok {v v':Value} {m n y:Nat} (h:anat v m=some n) (hv:VR R v v') (hy:m≤y) (code:BoundsCode):(Instr.sliceBound v' y code).run P w = .ok n w:=by
 obtain⟨⟨k,rfl⟩,hle⟩:=anat_some h
 rw[hv.int_l]
 have:n≤y:=by omega
 simp[Instr.sliceBound,asIntOf,this]

theorem abounds_some {β:Type} {lo hi mx:Option Value} {len cap:Nat} {k:Nat→Nat→Nat→Option β} {r:β} (h:aboundsK lo hi mx len cap k=some r) :
 ∃ l h' m,anatO mx cap cap=some m∧(mx.isSome=true→hi.isSome=true)∧anatO hi len m=some h'∧anatO lo 0 h'=some l∧k l h' m=some r:=by
 obtain⟨m,hm,h1⟩:=oo_inv h
 obtain⟨h',hh,h2⟩:=oo_inv h1
 obtain⟨l,hl,h3⟩:=oo_inv h2
 obtain⟨hc,hh⟩:=bb_inv' hh
 refine⟨l,h',m,hm,?_,hh,hl,h3⟩
 intro hmx
 simp only[isS_eq,an_eq,nt_eq,hmx,Bool.true_and,Bool.not_eq_false'] at hc
 exact hc

theorem anatO_le {v:Option Value} {d m n:Nat} (h:anatO v d m=some n) (hd:d≤m):n≤m:=by
 cases v with
 | none=>simp[anatO] at h;omega
 | some v=>exact(anat_some h).2

theorem sliceBounds_ok {lo hi mx lo' hi' mx':Option Value} {isS:Bool} {ln cap cap' l h m:Nat} (hlo:OptR R lo lo') (hhi:OptR R hi hi') (hmx:OptR R mx mx') (hcap:cap≤cap') (hln:ln≤cap')
 (h1:anatO mx cap cap=some m) (h2:mx.isSome=true→hi.isSome=true) (h3:anatO hi ln m=some h) (h4:anatO lo 0 h=some l) :
 (Instr.sliceBounds isS ln cap' lo' hi' mx').run P w = .ok (l,h,bb mx.isSome m cap') w:=by
 unfold Instr.sliceBounds
 cases mx with
 | none =>
  cases mx' with
  | some=>exact hmx.elim
  | none =>
   simp[anatO] at h1;subst h1
   cases hi with
   | none =>
    cases hi' with
    | some=>exact hhi.elim
    | none =>
     simp[anatO] at h3;subst h3
     cases lo with
     | none => cases lo' with
      | some=>exact hlo.elim
      | none=>simp[anatO] at h4;subst h4;simp
     | some lo => cases lo' with
      | none=>exact hlo.elim
      | some lo' =>
       have:=sliceBound_ok (P:=P) (w:=w) h4 hlo (Nat.le_refl _) .sliceB
       simp[this]
   | some hi => cases hi' with
    | none=>exact hhi.elim
    | some hi' =>
     have e1:=sliceBound_ok (P:=P) (w:=w) (y:=cap') h3 hhi hcap (if isS then .sliceAcap else .sliceAlen)
     cases lo with
     | none => cases lo' with
      | some=>exact hlo.elim
      | none=>simp[anatO] at h4;subst h4;simp[e1]
     | some lo => cases lo' with
      | none=>exact hlo.elim
      | some lo' =>
       have:=sliceBound_ok (P:=P) (w:=w) h4 hlo (Nat.le_refl _) .sliceB
       simp[this,e1]
 | some mx => cases mx' with
  | none=>exact hmx.elim
  | some mx' =>
   have e0:=sliceBound_ok (P:=P) (w:=w) (y:=cap') h1 hmx hcap (if isS then .slice3Acap else .slice3Alen)
   cases hi with
   | none=>exact absurd (h2 rfl) (by simp)
   | some hi => cases hi' with
    | none=>exact hhi.elim
    | some hi' =>
     have e1:=sliceBound_ok (P:=P) (w:=w) (y:=m) h3 hhi (Nat.le_refl _) .slice3B
     cases lo with
     | none => cases lo' with
      | some=>exact hlo.elim
      | none=>simp[anatO] at h4;subst h4;simp[e1,e0]
     | some lo => cases lo' with
      | none=>exact hlo.elim
      | some lo' =>
       have:=sliceBound_ok (P:=P) (w:=w) h4 hlo (Nat.le_refl _) .slice3C
       simp[this,e1,e0]

theorem sliceAt_half (m:Nat) (e:Bool):(2*m+bb e 1 0) / 2=m:=by cases e <;> simp[bb] <;> omega
theorem sliceAt_odd (m:Nat) (e:Bool):(2*m+bb e 1 0) % 2=1↔e=true:=by cases e <;> simp[bb] <;> omega

include hT in
theorem asliceArr_ok (hs:Sim H R w) {t n e:Nat} {i:TI} (hi:tt t=some i) (hd:i.und = .array n e) {x x' v:Value} {lo hi' mx lo' hi'' mx':Option Value}
 (h:asliceArr tt H n e x lo hi' mx=some v) (hx:VR R x x') (hlo:OptR R lo lo') (hhi:OptR R hi' hi'') (hmx:OptR R mx mx'):∃ u,(Instr.sliceAt t x' lo' hi'' mx').run P w = .ok u w∧VR R v u:=by
 obtain⟨p,hp,h1⟩:=oo_inv h
 rw[pp_eta] at h1
 obtain⟨ie,hie,h2⟩:=oo_inv h1
 obtain⟨o,ho,h3⟩:=oo_inv h2
 obtain⟨l,hh,m,b1,b2,b3,b4,h4⟩:=abounds_some h3
 obtain⟨hfit,h5⟩:=bb_inv h4
 injection h5 with h5;subst h5
 have:=vPtr_some hp;subst this
 obtain⟨c,β,hid,rfl⟩:=hx.ptr_l
 obtain⟨C,ty,fz,hC,hsz,hcf,hc⟩:=hs.cells hid ho
 simp only[len_eq] at hfit
 have hfit:=Nat.le_of_ble_eq_true hfit
 have hu:=hT.run_und hi w
 rw[hd] at hu
 have hb:=sliceBounds_ok (P:=P) (w:=w) (isS:=false) hlo hhi hmx (Nat.le_refl n) (Nat.le_refl n) b1 b2 b3 b4
 have hm:bb mx.isSome m n=m:=by
  cases mx with
  | none=>simp[anatO] at b1;exact b1
  | some mx=>rfl
 rw[hm] at hb
 have hmn:=anatO_le b1 (Nat.le_refl n)
 have hhm:hh≤m:=by
  cases hi' with
  | none => cases mx with
   | none=>simp[anatO] at b1 b3;omega
   | some mx=>exact absurd (b2 rfl) (by simp)
  | some hi'=>exact(anat_some b3).2
 have hlh:=anatO_le b4 (Nat.zero_le _)
 have hrun : (Instr.sliceAt t (.pointer (some ⟨c, β + p.2, none⟩)) lo' hi'' mx').run P w =
  .ok (.slice (some (if m=l then ⟨c,β+p.2,none⟩ else ⟨c,β+p.2+l*ie.size,none⟩)) (hh - l) (m - l)) w:=by
  simp[Instr.sliceAt,hu,Instr.sureAddr,hb,hT.run_size hie w,add_plain]
 refine⟨_,hrun,?_⟩
 unfold sliceAt
 by_cases hml:m=l
 ·subst hml
  have:hh - m=0:=by omega
  rw[if_pos rfl,this,Nat.sub_self]
  exact .slE (by simp[bb])
 ·rw[if_neg hml,Nat.add_assoc]
  have hmul:(m - l)*ie.size+l*ie.size≤n*ie.size:=by
   rw[←Nat.add_mul];exact Nat.mul_le_mul_right _ (by omega)
  exact .sl hid (by rw[sliceAt_half];omega) (by rw[sliceAt_half];omega) (fun _=>by rw[sliceAt_half]) (by omega)

include hT in
theorem asliceFs_ok {t e:Nat} {i ie:TI} (hi:tt t=some i) (hd:i.und = .slice e) (hie:tt e=some ie) {x x' v:Value} {f:FsV} (hf:vFs x=some f) {lo hi' mx lo' hi'' mx':Option Value}
 (h:asliceFs ie f lo hi' mx=some v) (hx:VR R x x') (hlo:OptR R lo lo') (hhi:OptR R hi' hi'') (hmx:OptR R mx mx'):∃ u,(Instr.sliceAt t x' lo' hi'' mx').run P w = .ok u w∧VR R v u:=by
 have hu:=hT.run_und hi w
 rw[hd] at hu
 unfold asliceFs at h
 rw[bb_eq] at h
 split at h
 ·rename_i h2
  have h2:=Nat.eq_of_beq_eq_true h2
  obtain⟨l,hh,m,b1,b2,b3,b4,h3⟩:=abounds_some h
  injection h3 with h3;subst h3
  have hb:=sliceBounds_ok (P:=P) (w:=w) (isS:=true) hlo hhi hmx (Nat.le_refl 0) (Nat.le_refl 0) b1 b2 b3 b4
  have hm0:m=0:=by have:=anatO_le b1 (Nat.le_refl 0);omega
  subst hm0
  have hh0:hh=0:=by
   cases hi' with
   | none=>simp[anatO] at b3;omega
   | some hi'=>have:=(anat_some b3).2;omega
  subst hh0
  have hl0:l=0:=by have:=anatO_le b4 (Nat.le_refl 0);omega
  subst hl0
  have hbb:bb mx.isSome 0 0=0:=by cases mx.isSome <;> rfl
  rw[hbb] at hb
  rcases hx.fs_l hf with⟨_,_,rfl⟩ | ⟨h9,_⟩ | ⟨_,_,_,_,_,_,_,_,_,h9,_⟩
  ·refine⟨.slice none 0 0,?_,.fsN _ _ (by decide)⟩
   simp[Instr.sliceAt,Instr.slice,hu,hb,hT.run_size hie w]
  ·exact absurd h2 h9
  ·exact absurd h2 h9
 ·rename_i h2
  have h2:f.fl≠2:=fun e=>h2 (by rw[e];rfl)
  obtain⟨hz,h3⟩:=bb_inv h
  have hz:=Nat.eq_of_beq_eq_true hz
  obtain⟨l,hh,m,b1,b2,b3,b4,h4⟩:=abounds_some h3
  injection h4 with h4;subst h4
  simp only[takeL_eq,dropL_eq]
  have hlh:=anatO_le b4 (Nat.zero_le _)
  have hmc:=anatO_le b1 (Nat.le_refl _)
  have hhm:hh≤m:=by
   cases hi' with
   | none => cases mx with
    | none=>simp[anatO] at b1 b3;omega
    | some mx=>exact absurd (b2 rfl) (by simp)
   | some hi'=>exact(anat_some b3).2
  have hflag:∀ b:Bool,bb b 1 0≠2:=fun b=>by cases b <;> simp
  have hflag3:∀ b:Bool,bb b 1 0≠3:=fun b=>by cases b <;> simp
  rcases hx.fs_l hf with⟨h0,hcs,rfl⟩ | ⟨_,h0,hcs,c,o,sp,rfl⟩ | ⟨c,o,cap,C,hro,rfl,hn,k1,k2,k3,hfit,hcr,hcl⟩
  ·rw[h0] at b1 b3 hmc
   have hb:=sliceBounds_ok (P:=P) (w:=w) (isS:=true) hlo hhi hmx (cap':=0) (by omega) (by omega) b1 b2 b3 b4
   have hm0:m=0:=by omega
   subst hm0
   have hh0:hh=0:=by omega
   subst hh0
   have hl0:l=0:=by omega
   subst hl0
   have hbb:bb mx.isSome 0 0=0:=by cases mx.isSome <;> rfl
   rw[hbb] at hb
   refine⟨.slice none 0 0,?_,?_⟩
   ·simp[Instr.sliceAt,Instr.slice,hu,hb,hT.run_size hie w]
   ·rw[hcs];simp;exact .fsN _ _ (hflag3 _)
  ·rw[h0] at b1 b3 hmc
   have hb:=sliceBounds_ok (P:=P) (w:=w) (isS:=true) hlo hhi hmx (cap':=0) (by omega) (by omega) b1 b2 b3 b4
   have hm0:m=0:=by omega
   subst hm0
   have hh0:hh=0:=by omega
   subst hh0
   have hl0:l=0:=by omega
   subst hl0
   have hbb:bb mx.isSome 0 0=0:=by cases mx.isSome <;> rfl
   rw[hbb] at hb
   refine⟨.slice (some ⟨c,o,sp⟩) 0 0,?_,?_⟩
   ·simp[Instr.sliceAt,Instr.slice,hu,hb,hT.run_size hie w]
   ·rw[hcs];simp;exact .fsE (hflag _)
  ·have hb:=sliceBounds_ok (P:=P) (w:=w) (isS:=true) hlo hhi hmx k1 k1 b1 b2 b3 b4
   generalize hM:bb mx.isSome m cap=M at hb
   have hMm:m≤M:=by
    cases mx with
    | none=>simp[anatO] at b1;simp at hM;omega
    | some mx=>simp at hM;omega
   have hMe:(orr (isS mx) (Nat.beq f.fl 1))=true→M=m:=fun he=>by
    cases mx with
    | none =>
     simp[anatO] at b1
     simp at hM he
     have:=k2 he
     omega
    | some mx=>simp at hM;omega
   have hrun : (Instr.sliceAt t (.slice (some ⟨c, o, none⟩) f.n cap) lo' hi'' mx').run P w =
    .ok (.slice (some (if M=l then ⟨c,o,none⟩ else ⟨c,o+l*f.sz,none⟩)) (hh - l) (M - l)) w:=by
    simp[Instr.sliceAt,Instr.slice,hu,hb,hT.run_size hie w,hz,add_plain]
    split <;> rfl
   refine⟨_,hrun,?_⟩
   by_cases hml:M=l
   ·have e1:hh - l=0:=by omega
    rw[if_pos hml,e1,hml,Nat.sub_self]
    simp
    exact .fsE (hflag _)
   ·rw[if_neg hml]
    have hmul:(hh - l)*f.sz+l*f.sz≤f.n*f.sz:=by
     rw[←Nat.add_mul];exact Nat.mul_le_mul_right _ (by omega)
    refine .mkFs hro (by simp;omega) (by omega) (fun he=>?_) (hflag _) (by simp;omega) (hcr.part _ _) (fun x hx=>hcl x (List.mem_of_mem_drop (List.mem_of_mem_take hx)))
    cases hb9:an (Nat.beq hh m) (orr (isS mx) (Nat.beq f.fl 1)) with
    | false=>rw[hb9] at he;simp at he
    | true =>
     obtain⟨g1,g2⟩:=an_inv hb9
     have g1:=Nat.eq_of_beq_eq_true g1
     have:=hMe g2
     omega

include hT in
theorem asliceSl_ok {t e:Nat} {i:TI} (hi:tt t=some i) (hd:i.und = .slice e) {x x' v:Value} {lo hi' mx lo' hi'' mx':Option Value}
 (h:asliceSl tt e x lo hi' mx=some v) (hx:VR R x x') (hlo:OptR R lo lo') (hhi:OptR R hi' hi'') (hmx:OptR R mx mx'):∃ u,(Instr.sliceAt t x' lo' hi'' mx').run P w = .ok u w∧VR R v u:=by
 obtain⟨ie,hie,h1⟩:=oo_inv h
 have hu:=hT.run_und hi w
 rw[hd] at hu
 cases hsl:vSl x with
 | none =>
  rw[hsl,oo_none] at h1
  cases hf:vFs x with
  | some f=>rw[hf,oo_some] at h1;exact asliceFs_ok hT hi hd hie hf h1 hx hlo hhi hmx
  | none=>
  rw[hf,oo_none] at h1
  obtain⟨hnil,h2⟩:=bb_inv h1
  obtain⟨l,hh,m,b1,b2,b3,b4,h3⟩:=abounds_some h2
  injection h3 with h3;subst h3
  have:=isNilSl_true hnil;subst this
  rw[hx.slNil_l]
  have hb:=sliceBounds_ok (P:=P) (w:=w) (isS:=true) hlo hhi hmx (Nat.le_refl 0) (Nat.le_refl 0) b1 b2 b3 b4
  have hm0:m=0:=by have:=anatO_le b1 (Nat.le_refl 0);omega
  subst hm0
  have hh0:hh=0:=by
   cases hi' with
   | none=>simp[anatO] at b3;omega
   | some hi'=>have:=(anat_some b3).2;omega
  subst hh0
  have hl0:l=0:=by have:=anatO_le b4 (Nat.le_refl 0);omega
  subst hl0
  have hbb:bb mx.isSome 0 0=0:=by cases mx.isSome <;> rfl
  rw[hbb] at hb
  refine⟨.slice none 0 0,?_,.slNil⟩
  simp[Instr.sliceAt,Instr.slice,hu,hb,hT.run_size hie w]
 | some s =>
  rw[hsl,oo_some] at h1
  obtain⟨hz,h2⟩:=bb_inv (show bb (Nat.beq ie.size s.sz) (aboundsK lo hi' mx s.len (s.cap / 2) fun l h m=>some (sliceAt s.id (s.off+l*s.sz) s.sz (h - l) (m - l) (orr (isS mx) (Nat.beq (s.cap % 2) 1)))) none=some v from h1)
  have hz:=Nat.eq_of_beq_eq_true hz
  obtain⟨l,hh,m,b1,b2,b3,b4,h3⟩:=abounds_some h2
  injection h3 with h3;subst h3
  have hlh:=anatO_le b4 (Nat.zero_le _)
  have hmc:=anatO_le b1 (Nat.le_refl _)
  rcases hx.sl_l hsl with⟨c,β,cap,hid,rfl,k1,k2,k3,k4⟩ | ⟨c,o,rfl,h0,h00⟩ | ⟨rfl,h0,h00⟩
  ·have hb:=sliceBounds_ok (P:=P) (w:=w) (isS:=true) hlo hhi hmx k2 (Nat.le_trans k1 k2) b1 b2 b3 b4
   have hhm:hh≤m:=by
    cases hi' with
    | none => cases mx with
     | none=>simp[anatO] at b1 b3;omega
     | some mx=>exact absurd (b2 rfl) (by simp)
    | some hi'=>exact(anat_some b3).2
   generalize hM:bb mx.isSome m cap=M at hb
   have hMm:m≤M∧M≤cap:=by
    cases mx with
    | none=>simp[anatO] at b1;simp at hM;omega
    | some mx=>simp at hM;omega
   have hMe:(orr (isS mx) (Nat.beq (s.cap % 2) 1))=true→M=m:=fun he=>by
    cases mx with
    | none =>
     simp[anatO] at b1
     simp at hM he
     have:=k3 he
     omega
    | some mx=>simp at hM;omega
   have hrun : (Instr.sliceAt t (.slice (some ⟨c, β + s.off, none⟩) s.len cap) lo' hi'' mx').run P w =
    .ok (.slice (some (if M=l then ⟨c,β+s.off,none⟩ else ⟨c,β+s.off+l*s.sz,none⟩)) (hh - l) (M - l)) w:=by
    simp[Instr.sliceAt,Instr.slice,hu,hb,hT.run_size hie w,hz,add_plain]
    split <;> rfl
   refine⟨_,hrun,?_⟩
   unfold sliceAt
   by_cases hml:M=l
   ·have e1:hh - l=0:=by omega
    have e2:m - l=0:=by omega
    rw[if_pos hml,e1,hml,Nat.sub_self,e2]
    exact .slE (by cases (orr (isS mx) (Nat.beq (s.cap % 2) 1)) <;> simp[bb])
   ·rw[if_neg hml,Nat.add_assoc]
    have hmul:(M - l)*s.sz+l*s.sz≤cap*s.sz:=by
     rw[←Nat.add_mul];exact Nat.mul_le_mul_right _ (by omega)
    exact .sl hid (by rw[sliceAt_half];omega) (by rw[sliceAt_half];omega) (fun ho=>by rw[sliceAt_half];rw[sliceAt_odd] at ho;have:=hMe ho;omega) (by omega)
  ·have hb:=sliceBounds_ok (P:=P) (w:=w) (isS:=true) hlo hhi hmx (cap':=0) (by omega) (by omega) b1 b2 b3 b4
   rw[h0] at hb
   have hm0:m=0:=by omega
   subst hm0
   have hh0:hh=0:=by
    cases hi' with
    | none=>simp[anatO] at b3;omega
    | some hi'=>have:=(anat_some b3).2;omega
   subst hh0
   have hl0:l=0:=by omega
   subst hl0
   have hbb:bb mx.isSome 0 0=0:=by cases mx.isSome <;> rfl
   rw[hbb] at hb
   refine⟨.slice (some ⟨c,o,none⟩) 0 0,?_,?_⟩
   ·simp[Instr.sliceAt,Instr.slice,hu,hb,hT.run_size hie w]
   ·exact .slE (by cases (orr (isS mx) (Nat.beq (s.cap % 2) 1)) <;> simp[bb])
  ·have hb:=sliceBounds_ok (P:=P) (w:=w) (isS:=true) hlo hhi hmx (cap':=0) (by omega) (by omega) b1 b2 b3 b4
   rw[h0] at hb
   have hm0:m=0:=by omega
   subst hm0
   have hh0:hh=0:=by
    cases hi' with
    | none=>simp[anatO] at b3;omega
    | some hi'=>have:=(anat_some b3).2;omega
   subst hh0
   have hl0:l=0:=by omega
   subst hl0
   have hbb:bb mx.isSome 0 0=0:=by cases mx.isSome <;> rfl
   rw[hbb] at hb
   refine⟨.slice none 0 0,?_,?_⟩
   ·simp[Instr.sliceAt,Instr.slice,hu,hb,hT.run_size hie w]
   ·exact .slN (by cases (orr (isS mx) (Nat.beq (s.cap % 2) 1)) <;> simp[bb])

include hT in
theorem aslice_ok (hs:Sim H R w) {t:Nat} {x x' v:Value} {lo hi mx lo' hi' mx':Option Value}
 (h:aslice tt H t x lo hi mx=some v) (hx:VR R x x') (hlo:OptR R lo lo') (hhi:OptR R hi hi') (hmx:OptR R mx mx'):∃ u,(Instr.sliceAt t x' lo' hi' mx').run P w = .ok u w∧VR R v u:=by
 obtain⟨i,hti,h1⟩:=oo_inv h
 cases hd:dSl i.und with
 | some e =>
  rw[hd,oo_some] at h1
  exact asliceSl_ok hT hti (dSl_some hd) h1 hx hlo hhi hmx
 | none =>
  rw[hd,oo_none] at h1
  cases hd2:dArr i.und with
  | some p =>
   rw[hd2,oo_some,pp_eta] at h1
   exact asliceArr_ok hT hs hti (dArr_some hd2) h1 hx hlo hhi hmx
  | none =>
   rw[hd2,oo_none] at h1
   obtain⟨hstr,h2⟩:=bb_inv h1
   obtain⟨s,hss,h3⟩:=oo_inv h2
   obtain⟨hnm,h4⟩:=bb_inv' h3
   obtain⟨l,hh,m,b1,b2,b3,b4,h5⟩:=abounds_some h4
   injection h5 with h5;subst h5
   have:=vStr_some hss;subst this
   rw[hx.string_l]
   have hu:=hT.run_und hti w
   rw[isStrT_true hstr] at hu
   have hmn:mx=none:=by cases mx with
    | none=>rfl
    | some mx=>simp at hnm
   subst hmn
   cases mx' with
   | some=>exact hmx.elim
   | none =>
    have hb:=sliceBounds_ok (P:=P) (w:=w) (isS:=false) (mx:=none) (mx':=none) hlo hhi trivial (Nat.le_refl s.size) (Nat.le_refl s.size) b1 b2 b3 b4
    refine⟨.string (s.extract l hh),?_,.string _⟩
    simp[Instr.sliceAt,Instr.slice,hu,hb]
end
end Go.Sp
namespace Go.Sp

section
variable {P:Program} {tt:TT} (hT:TOk P tt) {H H':AHeap} {R:Ren} {w:World}

def appendTail (elem:TypeId) (size:Nat) (base:Option Addr) (sLen sCap n:Nat) (zeros:Bool) (appended:Sem (Array Value)) (x:Value):Sem Value:=do
 let need:=sLen+n
 if need ≤ sCap then
  let new ←appended
  if let some a:=base then storeCells (a.add (sLen*size)) new.toList
  pure (.slice base need sCap)
 else
  if (need : Int) > IntKind.i64.max ∧ (zeros ∨ (← typeInfo elem).bytes = 0) then runtimePanic (.error "growslice: len out of range")
  if Builtin.nextslicecap need sCap * (← typeInfo elem).bytes > 2 ^ 48 then (if zeros then runtimePanic (.error "growslice: len out of range") else do
   if !(←Builtin.mayShare size sLen n base x) then mark .noRoom
   unsupported (.resourceLimit "append: a slice or a string whose bytes no memory bears"))
  let newCap ←choose (.appendCap need sCap elem)
  askRoom (newCap*(←typeInfo elem).bytes)
  let old ←Builtin.firstCells size sLen (.slice base sLen sCap)
  let new ←appended
  let rest:=Builtin.zeroCells (←zeroValue elem).cells (newCap - need)
  pure (.slice (some (←newRow elem (old++new++rest))) need newCap)

theorem roomy_fits {n bytes old:Nat} (h:roomy n bytes=true) (ho:old < n):Builtin.nextslicecap n old*bytes≤281474976710656:=by
 have h:=Nat.le_of_ble_eq_true h
 have h1:=nextslicecap_le ho
 have:Builtin.nextslicecap n old*bytes≤(4*n+4096)*bytes:=Nat.mul_le_mul_right _ (by omega)
 omega
theorem roomy_len {n bytes:Nat} (h:roomy n bytes=true) (hb:0 < bytes):(n:Int)≤9223372036854775807:=by
 have h:=Nat.le_of_ble_eq_true h
 have:(4*n+4096)*1≤(4*n+4096)*bytes:=Nat.mul_le_mul_left _ hb
 omega

include hT in
theorem tail_grow {elem:TypeId} {ie:TI} (hie:tt elem=some ie) {z:Value} (hz:ie.zero=some z) {base:Option Addr} {sLen sCap n:Nat} {zeros:Bool} {appended:Sem (Array Value)} {x:Value}
 {olds news:List Value} (hold:∀ w2:World,w2.heap=w.heap→(Builtin.firstCells ie.size sLen (.slice base sLen sCap)).run P w2 = .ok olds.toArray w2)
 (hnew:∀ w2:World,w2.heap=w.heap→appended.run P w2 = .ok news.toArray w2) (hg:sCap < sLen+n) (hroom:roomy (sLen+n) ie.bytes=true) (hb:0 < ie.bytes) :
 (appendTail elem ie.size base sLen sCap n zeros appended x).run P w = .ok (.slice (some ⟨w.heap.size, 0, none⟩) (sLen + n) (grownCap w (sLen + n) sCap elem))
   (w.drew.alloc (.cells (olds++news++(Builtin.zeroCells z.cells (grownCap w (sLen+n) sCap elem - (sLen+n))).toList).toArray elem)):=by
 have h0:¬ (sLen+n≤sCap):=by omega
 have h1:=roomy_len hroom hb
 have h1':¬ (9223372036854775807 < ((sLen:Int)+(n:Int))):=by omega
 have h2:=roomy_fits hroom hg
 obtain⟨inf,hinf,_,hbt,_⟩:=hT.run_bytes hie w
 have hti:∀ w2:World,(typeInfo elem).run P w2 = .ok inf w2:=fun w2=>by
  obtain⟨inf2,hinf2,_⟩:=hT.run_bytes hie w2
  have:P.info? elem=some inf:=by
   simp only[typeInfo,Sem.run_bind,run_program,Result.andThen_ok] at hinf
   cases hq:P.info? elem with
   | none=>rw[hq] at hinf;simp at hinf
   | some i=>rw[hq] at hinf;simp at hinf;rw[hinf]
  simp[typeInfo,this]
 have h2':¬ (281474976710656 < Builtin.nextslicecap (sLen+n) sCap*inf.bytes):=by rw[hbt];omega
 have hmax:IntKind.i64.max=9223372036854775807:=rfl
 have hq:(Question.appendCap (sLen+n) sCap elem).forced=false:=rfl
 have e1:=hold w.drew rfl
 have e2:=hnew w.drew rfl
 have e3:=hT.run_zero hie hz w.drew
 simp[appendTail,h0,hmax,h1',hti,h2',hq,e1,e2,e3,newRow,grownCap]
 congr 2
 apply Array.ext'
 simp[List.append_assoc]

theorem tail_room {elem:TypeId} {size:Nat} {c o sLen sCap n:Nat} {zeros:Bool} {appended:Sem (Array Value)} {x:Value} {news:List Value}
 (hnew:appended.run P w = .ok news.toArray w) (hg:sLen+n≤sCap) {C:Array Value} {t:TypeId} (hC:w.heap[c]?=some (.cells C t (0,0))) (hfit:o+sLen*size+news.length≤C.size)
 (hone:∀ v∈news,v.oneCell'=true) :
 (appendTail elem size (some ⟨c, o, none⟩) sLen sCap n zeros appended x).run P w = .ok (.slice (some ⟨c, o, none⟩) (sLen + n) sCap)
   (w.setRow c (C.toList.take (o+sLen*size)++news++C.toList.drop (o+sLen*size+news.length)).toArray):=by
 have:=run_storeCells_at P c (o+sLen*size) t news 0 C w hC (by simpa using hfit) hone
 simp[appendTail,hg,hnew,add_plain,this]

theorem tail_none {elem:TypeId} {size:Nat} {base:Option Addr} {sLen sCap:Nat} {zeros:Bool} {appended:Sem (Array Value)} {x:Value}
 (hnew:appended.run P w = .ok #[] w) (hg:sLen≤sCap) :
 (appendTail elem size base sLen sCap 0 zeros appended x).run P w = .ok (.slice base sLen sCap) w:=by
 cases base <;> simp[appendTail,hg,hnew,storeCells]

theorem zeroCells_length (z:Array Value) (n:Nat):(Builtin.zeroCells z n).toList.length=n*z.size:=by simp[Builtin.zeroCells]
theorem le_grownCap (w:World) (n old:Nat) (e:TypeId):n≤grownCap w n old e:=by
 unfold grownCap Question.cut;exact Nat.le_add_right _ _

include hT in
theorem append_core (hs:Sim H R w) {elem:TypeId} {ie:TI} (hie:tt elem=some ie) {z:Value} (hz:ie.zero=some z) (hzs:(cellsOf z).length=ie.size) (hb:0 < ie.bytes)
 {s s' v:Value} (hsv:VR R s s') {n:Nat} {new zs:List Value} (hnz:VRL R new zs) (hnl:new.length=n*ie.size) (h:aappendCells H ie.size ie.bytes s n new=some (v,H')) {zeros:Bool} {appended:Sem (Array Value)} {x:Value}
 (happ:∀ w2:World,w2.heap=w.heap→appended.run P w2 = .ok zs.toArray w2) :
 ∃ base sLen sCap,s' = .slice base sLen sCap∧∃ u w' R',(appendTail elem ie.size base sLen sCap n zeros appended x).run P w = .ok u w'∧VR R' v u∧Post H R w H' R' w':=by
 have hzlen:z.cells.size=ie.size:=by
  rw[←Array.length_toList,←(cellsOf_plain (R:=R) (hT.plain _ _ _ hie hz)).1];exact hzs
 have hnil:n=0→zs=[]:=fun e=>by
  have:=hnz.1;rw[hnl,e] at this;simp at this;exact List.eq_nil_of_length_eq_zero this.symm
 have grown : ∀ (sLen cap' : Nat) (olds : List Value), olds.length = sLen * ie.size →
  0+(grownCap w (sLen+n) cap' elem)*ie.size≤(olds++zs++(Builtin.zeroCells z.cells (grownCap w (sLen+n) cap' elem - (sLen+n))).toList).length:=fun sLen cap' olds ho=>by
  have hge:=le_grownCap w (sLen+n) cap' elem
  simp only[List.length_append,zeroCells_length,ho,←hnz.1,hnl,hzlen,←Nat.add_mul]
  rw[Nat.zero_add]
  exact Nat.mul_le_mul_right _ (by omega)
 cases hsl:vSl s with
 | none =>
  unfold aappendCells at h
  rw[hsl,oo_none] at h
  cases hf:vFs s with
  | some f =>
   rw[hf,oo_some] at h
   unfold aappendFs at h
   rw[bb_eq] at h
   split at h
   ·rename_i h0
    have h0:=Nat.eq_of_beq_eq_true h0
    subst h0
    injection h with h;injection h with e1 e2;subst e1;subst e2
    have hz0:=hnil rfl
    subst hz0
    rcases hsv.fs_l hf with⟨_,_,rfl⟩ | ⟨_,_,_,c,o,sp,rfl⟩ | ⟨c,o,cap,C,hro,rfl,hn,k1,k2,k3,hfit,hcr,hcl⟩
    ·exact⟨_,_,_,rfl,_,_,R,tail_none (happ w rfl) (Nat.le_refl 0),hsv,.refl hs⟩
    ·exact⟨_,_,_,rfl,_,_,R,tail_none (happ w rfl) (Nat.le_refl 0),hsv,.refl hs⟩
    ·exact⟨_,_,_,rfl,_,_,R,tail_none (happ w rfl) k1,hsv,.refl hs⟩
   ·rename_i h0
    have h0:n≠0:=fun e=>h0 (by rw[e];rfl)
    obtain⟨hc,h1⟩:=bb_inv h
    obtain⟨hfl,hc⟩:=an_inv hc
    obtain⟨hszz,hroom⟩:=an_inv hc
    injection h1 with h1;injection h1 with e1 e2;subst e1;subst e2
    simp only[appL_eq]
    have fresh : ∀ (base : Option Addr) (olds : List Value), VRL R f.cs olds → f.cs.length = f.n * ie.size →
     (∀ w2:World,w2.heap=w.heap→(Builtin.firstCells ie.size f.n (.slice base f.n f.n)).run P w2 = .ok olds.toArray w2) →
     ∃ u w' R', (appendTail elem ie.size base f.n f.n n zeros appended x).run P w = .ok u w' ∧ VR R' (sliceAt H.next 0 ie.size (f.n + n) (f.n + n) false) u ∧
      Post H R w (H.push (.cells (f.cs++new) false false [])) R' w':=fun base olds hxo hxl hold=>by
     have hrun:=tail_grow (P:=P) (w:=w) (n:=n) (sLen:=f.n) (sCap:=f.n) (base:=base) (zeros:=zeros) (x:=x) hT hie hz hold happ (by omega) hroom hb
     have hd:Sim H R w.drew:=hs.of_heap rfl
     have hpost:=post_cells (w:=w.drew) (xs:=f.cs++new) (ys:=olds++zs) elem (Builtin.zeroCells z.cells (grownCap w (f.n+n) f.n elem - (f.n+n))).toList false hd (hxo.append hnz) false [] (by simp)
     refine⟨_,_,_,hrun,?_,hpost.from_heap rfl rfl rfl⟩
     have := VR.sl (R := R.ext H.next w.drew.heap.size 0 ((olds ++ zs) ++ (Builtin.zeroCells z.cells (grownCap w (f.n + n) f.n elem - (f.n + n))).toList).length) (off := 0) (sz := ie.size) (ln := f.n + n) (c2 := 2 * (f.n + n) + bb false 1 0) (cap := grownCap w (f.n + n) f.n elem)
      (Ren.ext_new R H.next w.drew.heap.size 0 _) (by rw[sliceAt_half];exact Nat.le_refl _) (by rw[sliceAt_half];exact le_grownCap w (f.n+n) f.n elem) (fun ho=>by rw[sliceAt_odd] at ho;cases ho)
      (by rw[Ren.ext_sz];have:=grown f.n f.n olds (by rw[←hxo.1,hxl]);simpa using this)
     simpa [sliceAt] using this
    rcases hsv.fs_l hf with⟨hn0,hcs,rfl⟩ | ⟨_,hn0,hcs,c,o,sp,rfl⟩ | ⟨c,o,cap,C,hro,rfl,hn,k1,k2,k3,hfit,hcr,hcl⟩
    ·have f0 : ∀ w2 : World, w2.heap = w.heap → (Builtin.firstCells ie.size f.n (.slice none f.n f.n)).run P w2 = .ok ([] : List Value).toArray w2 := fun w2 _ => by
      rw[hn0];simp[run_firstCells_none]
     obtain⟨u,w',R',hr,hv,hp⟩:=fresh none [] (by rw[hcs];exact .nil) (by rw[hcs,hn0];simp) f0
     rw[hn0] at hr
     exact⟨_,_,_,rfl,u,w',R',hr,hv,hp⟩
    ·have f0 : ∀ w2 : World, w2.heap = w.heap → (Builtin.firstCells ie.size f.n (.slice (some ⟨c, o, sp⟩) f.n f.n)).run P w2 = .ok ([] : List Value).toArray w2 := fun w2 _ => by
      rw[hn0];simp[Builtin.firstCells,loadCells,loadCellsFrom]
     obtain⟨u,w',R',hr,hv,hp⟩:=fresh (some ⟨c,o,sp⟩) [] (by rw[hcs];exact .nil) (by rw[hcs,hn0];simp) f0
     rw[hn0] at hr
     exact⟨_,_,_,rfl,u,w',R',hr,hv,hp⟩
    ·have hfl1 : f.fl = 1 := by
      rw[orr_eq,Bool.or_eq_true] at hfl
      rcases hfl with h9 | h9
      ·exact Nat.eq_of_beq_eq_true h9
      ·exact absurd (Nat.eq_of_beq_eq_true h9) k3
     have hcap:=k2 hfl1
     subst hcap
     have hsz:f.sz=ie.size:=by
      rw[orr_eq,Bool.or_eq_true] at hszz
      rcases hszz with h9 | h9
      ·exact absurd (Nat.eq_of_beq_eq_true h9) k3
      ·exact Nat.eq_of_beq_eq_true h9
     rw[hsz] at hn
     obtain⟨⟨ty,fz,hC⟩,_⟩:=hs.ro c C hro
     have hst:=stretch hcr hfit 0 f.cs.length (by omega)
     simp only[List.drop_zero,Nat.add_zero,List.take_length] at hst
     have f0:∀ w2:World,w2.heap=w.heap→(Builtin.firstCells ie.size f.n (.slice (some ⟨c,o,none⟩) f.n f.n)).run P w2 = .ok ((C.toList.drop o).take f.cs.length).toArray w2:=fun w2 hw2=>by
      simp only[Builtin.firstCells]
      rw[hn]
      exact run_stretch (by rw[hw2];exact hC) (by omega)
     obtain⟨u,w',R',hr,hv,hp⟩:=fresh _ _ hst hn f0
     exact⟨_,_,_,rfl,u,w',R',hr,hv,hp⟩
  | none=>
  rw[hf,oo_none] at h
  obtain⟨hn,h1⟩:=bb_inv h
  have:=isNilSl_true hn;subst this
  have:=hsv.slNil_l;subst this
  refine⟨none,0,0,rfl,?_⟩
  rw[bb_eq] at h1
  split at h1
  ·rename_i h0
   have h0:=Nat.eq_of_beq_eq_true h0
   subst h0
   injection h1 with h1;injection h1 with e1 e2;subst e1;subst e2
   have hz0:=hnil rfl
   subst hz0
   exact⟨_,_,R,tail_none (happ w rfl) (Nat.le_refl 0),.slNil,.refl hs⟩
  ·rename_i h0
   have h0:n≠0:=fun e=>h0 (by rw[e];rfl)
   obtain⟨hroom,h2⟩:=bb_inv h1
   injection h2 with h2;injection h2 with e1 e2;subst e1;subst e2
   have hrun:=tail_grow (P:=P) (w:=w) (n:=n) (sLen:=0) (sCap:=0) (base:=none) (zeros:=zeros) (x:=x) (olds:=[]) hT hie hz (fun w2 _=>by simp[run_firstCells_none]) happ (by omega) (by simpa using hroom) hb
   have hd:Sim H R w.drew:=hs.of_heap rfl
   have hpost:=post_cells (w:=w.drew) (xs:=new) (ys:=[]++zs) elem (Builtin.zeroCells z.cells (grownCap w (0+n) 0 elem - (0+n))).toList false hd (by simpa using hnz) false [] (by simp)
   refine⟨_,_,_,hrun,?_,hpost.from_heap rfl rfl rfl⟩
   have := VR.sl (R := R.ext H.next w.drew.heap.size 0 (([] ++ zs) ++ (Builtin.zeroCells z.cells (grownCap w (0 + n) 0 elem - (0 + n))).toList).length) (off := 0) (sz := ie.size) (ln := n) (c2 := 2 * n + bb false 1 0) (cap := grownCap w (0 + n) 0 elem)
    (Ren.ext_new R H.next w.drew.heap.size 0 _) (by rw[sliceAt_half];exact Nat.le_refl _) (by rw[sliceAt_half];have:=le_grownCap w (0+n) 0 elem;omega) (fun ho=>by rw[sliceAt_odd] at ho;cases ho)
    (by rw[Ren.ext_sz];have:=grown 0 0 [] (by simp);simpa using this)
   simpa [sliceAt] using this
 | some sv =>
  have hsv0:=vSl_some hsl
  unfold aappendCells at h
  rw[hsl,oo_some] at h
  have h : bb (Nat.beq n 0) (some (s, H)) (bb (an (Nat.beq sv.sz ie.size) (roomy (sv.len + n) ie.bytes))
   (bb (Nat.ble (sv.len + n) (sv.cap / 2)) (oo (awrite H sv.id (sv.off + sv.len * ie.size) new) none fun H' => some (.slice (some ⟨sv.id, sv.off, some ie.size⟩) (sv.len + n) sv.cap, H'))
     (oo (oCells (H.get sv.id)) none fun o =>
       bb (Nat.ble (sv.off + sv.len * ie.size) (len o.xs))
        (bb (Nat.beq (sv.cap % 2) 1) (some (sliceAt H.next 0 ie.size (sv.len + n) (sv.len + n) false, H.push (.cells (appL (takeL (sv.len * ie.size) (dropL sv.off o.xs)) new) false false [])))
          (bb (an (nt o.imm) (an (nt o.spent) (an (Nat.blt sv.id H.next) (an (Nat.beq (sv.off + sv.len * ie.size) (len o.xs)) (allL scalarB new)))))
            (some (sliceAt H.next 0 ie.size (sv.len+n) (sv.len+n) false,(H.set sv.id (.cells o.xs false true o.anc)).push (.cells (appL (dropL sv.off o.xs) new) false false (sv.id::o.anc)))) none)) none)) none)=some (v,H'):=h
  rw[bb_eq] at h
  split at h
  ·rename_i h0
   have h0:=Nat.eq_of_beq_eq_true h0
   subst h0
   injection h with h;injection h with e1 e2;subst e1;subst e2
   have hz0:=hnil rfl
   subst hz0
   rcases hsv.sl_l hsl with⟨c,β,cap,hid,rfl,k1,k2,k3,k4⟩ | ⟨c,o,rfl,k0,k00⟩ | ⟨rfl,k0,k00⟩
   ·exact⟨_,_,_,rfl,_,_,R,tail_none (happ w rfl) (Nat.le_trans k1 k2),hsv,.refl hs⟩
   ·exact⟨_,_,_,rfl,_,_,R,tail_none (happ w rfl) (Nat.le_refl 0),hsv,.refl hs⟩
   ·exact⟨_,_,_,rfl,_,_,R,tail_none (happ w rfl) (Nat.le_refl 0),hsv,.refl hs⟩
  ·rename_i h0
   have h0:n≠0:=fun e=>h0 (by rw[e];rfl)
   obtain⟨hc,h1⟩:=bb_inv h
   obtain⟨hc1,hroom⟩:=an_inv hc
   have hc1:=Nat.eq_of_beq_eq_true hc1
   rw[bb_eq] at h1
   split at h1
   ·rename_i hfit
    have hfit:=Nat.le_of_ble_eq_true hfit
    obtain⟨H1,hw,h2⟩:=oo_inv h1
    injection h2 with h2;injection h2 with e1 e2;subst e1;subst e2
    rcases hsv.sl_l hsl with⟨c,β,cap,hid,rfl,k1,k2,k3,k4⟩ | ⟨c,o,rfl,k0,k00⟩ | ⟨rfl,k0,k00⟩
    ·obtain⟨C,t,hC,hcf,hone,hpost⟩:=post_write hs hw hid hnz
     refine⟨_,_,_,rfl,_,_,R,tail_room (happ w rfl) (by omega) hC (by rw[←Nat.add_assoc] at hcf;exact hcf) hone,.sl hid hfit k2 k3 (by rw[←hc1];exact k4),?_⟩
     rw[show β+sv.off+sv.len*ie.size=β+(sv.off+sv.len*ie.size) by omega]
     exact hpost
    ·omega
    ·omega
   ·rename_i hfit
    have hfit:¬ (sv.len+n≤sv.cap / 2):=fun e=>hfit (by rw[Nat.ble_eq];exact e)
    obtain⟨o,ho,h2⟩:=oo_inv h1
    obtain⟨hle,h3⟩:=bb_inv h2
    simp only[len_eq] at hle
    have hle:=Nat.le_of_ble_eq_true hle
    have ho':=oCells_some ho
    have hlt1:((o.xs.drop sv.off).take (sv.len*ie.size)).length=sv.len*ie.size:=by simp;omega
    -- the new array, whatever the slice's kind
    have fresh : ∀ (base : Option Addr) (cap : Nat) (H1 : AHeap) (anc : List Nat) (olds : List Value) (xs1 : List Value), cap < sv.len + n → H1.next = H.next → Sim H1 R w → VRL R xs1 olds → xs1.length = sv.len * ie.size →
     (∀ a,a∈anc→a < H1.next∧(H1.get a).immB=false∧(H1.get a).writable=false) →
     (∀ w2:World,w2.heap=w.heap→(Builtin.firstCells ie.size sv.len (.slice base sv.len cap)).run P w2 = .ok olds.toArray w2) →
     ∃ u w' R', (appendTail elem ie.size base sv.len cap n zeros appended x).run P w = .ok u w' ∧ VR R' (sliceAt H.next 0 ie.size (sv.len + n) (sv.len + n) false) u ∧
      Post H1 R w (H1.push (.cells (xs1++new) false false anc)) R' w':=fun base cap H1 anc olds xs1 hcap hnx hs1 hxo hxl hanc hold=>by
     have hrun:=tail_grow (P:=P) (w:=w) (n:=n) (sLen:=sv.len) (sCap:=cap) (base:=base) (zeros:=zeros) (x:=x) hT hie hz hold happ hcap hroom hb
     have hd:Sim H1 R w.drew:=hs1.of_heap rfl
     have hpost:=post_cells (w:=w.drew) (xs:=xs1++new) (ys:=olds++zs) elem (Builtin.zeroCells z.cells (grownCap w (sv.len+n) cap elem - (sv.len+n))).toList false hd (hxo.append hnz) false anc hanc
     refine⟨_,_,_,hrun,?_,hpost.from_heap rfl rfl rfl⟩
     have := VR.sl (R := R.ext H1.next w.drew.heap.size 0 ((olds ++ zs) ++ (Builtin.zeroCells z.cells (grownCap w (sv.len + n) cap elem - (sv.len + n))).toList).length) (off := 0) (sz := ie.size) (ln := sv.len + n) (c2 := 2 * (sv.len + n) + bb false 1 0) (cap := grownCap w (sv.len + n) cap elem)
      (Ren.ext_new R H1.next w.drew.heap.size 0 _) (by rw[sliceAt_half];exact Nat.le_refl _) (by rw[sliceAt_half];exact le_grownCap w (sv.len+n) cap elem) (fun ho=>by rw[sliceAt_odd] at ho;cases ho)
      (by rw[Ren.ext_sz];have:=grown sv.len cap olds (by rw[←hxo.1,hxl]);simpa using this)
     rw[hnx] at this
     simpa [sliceAt,hnx] using this
    have oldsOf : ∀ (c β cap : Nat), R.f sv.id = some (c, β) → ∃ olds : List Value, VRL R ((o.xs.drop sv.off).take (sv.len * ie.size)) olds ∧
     ∀ w2:World,w2.heap=w.heap→(Builtin.firstCells ie.size sv.len (.slice (some ⟨c,β+sv.off,none⟩) sv.len cap)).run P w2 = .ok olds.toArray w2:=fun c β cap hid=>by
     obtain⟨C,t,fz,hC,hsz,hcf,hcr⟩:=hs.cells hid ho
     refine⟨_,stretch hcr hcf sv.off (sv.len*ie.size) hle,fun w2 hw2=>?_⟩
     simp only[Builtin.firstCells]
     exact run_stretch (by rw[hw2];exact hC) (by omega)
    rw[bb_eq] at h3
    split at h3
    ·rename_i hex
     have hex:=Nat.eq_of_beq_eq_true hex
     injection h3 with h3;injection h3 with e1 e2;subst e1;subst e2
     simp only[appL_eq,takeL_eq,dropL_eq]
     rcases hsv.sl_l hsl with⟨c,β,cap,hid,rfl,k1,k2,k3,k4⟩ | ⟨c,o2,rfl,k0,k00⟩ | ⟨rfl,k0,k00⟩
     ·obtain⟨olds,hol,hold⟩:=oldsOf c β cap hid
      obtain⟨u,w',R',hr,hv,hp⟩:=fresh _ cap H [] olds _ (by have:=k3 hex;omega) rfl hs hol hlt1 (by simp) hold
      exact⟨_,_,_,rfl,u,w',R',hr,hv,hp⟩
     ·have hnone:(o.xs.drop sv.off).take (sv.len*ie.size)=[]:=by rw[k0];simp
      have f0:∀ w2:World,w2.heap=w.heap→(Builtin.firstCells ie.size sv.len (.slice (some ⟨c,o2,none⟩) sv.len 0)).run P w2 = .ok ([]:List Value).toArray w2:=fun w2 _=>by
       rw[k0];simp[Builtin.firstCells,loadCells,loadCellsFrom]
      obtain⟨u,w',R',hr,hv,hp⟩:=fresh (some ⟨c,o2,none⟩) 0 H [] [] [] (by omega) rfl hs .nil (by rw[k0];simp) (by simp) f0
      rw[hnone]
      rw[k0] at hr
      exact⟨_,_,_,rfl,u,w',R',by rw[k0] at *;exact hr,hv,hp⟩
     ·have hnone:(o.xs.drop sv.off).take (sv.len*ie.size)=[]:=by rw[k0];simp
      have f0:∀ w2:World,w2.heap=w.heap→(Builtin.firstCells ie.size sv.len (.slice none sv.len 0)).run P w2 = .ok ([]:List Value).toArray w2:=fun w2 _=>by
       rw[k0];simp[run_firstCells_none]
      obtain⟨u,w',R',hr,hv,hp⟩:=fresh none 0 H [] [] [] (by omega) rfl hs .nil (by rw[k0];simp) (by simp) f0
      rw[hnone]
      rw[k0] at hr
      exact⟨_,_,_,rfl,u,w',R',by rw[k0] at *;exact hr,hv,hp⟩
    ·rename_i hex
     obtain⟨hcond,h4⟩:=bb_inv h3
     simp only[an_eq,nt_eq,len_eq,allL_eq,Bool.and_eq_true,Bool.not_eq_true'] at hcond
     obtain⟨himm,hsp,hltn,htip,hall⟩:=hcond
     rw[Nat.blt_eq] at hltn
     have htip:=Nat.eq_of_beq_eq_true htip
     injection h4 with h4;injection h4 with e1 e2;subst e1;subst e2
     simp only[appL_eq,dropL_eq]
     rw[himm,hsp] at ho'
     have htake:(o.xs.drop sv.off).take (sv.len*ie.size)=o.xs.drop sv.off:=List.take_of_length_le (by simp;omega)
     have hspend:=post_spend hs ho'
     have hanc:∀ a,a∈sv.id::o.anc→a < (H.set sv.id (.cells o.xs false true o.anc)).next∧((H.set sv.id (.cells o.xs false true o.anc)).get a).immB=false∧((H.set sv.id (.cells o.xs false true o.anc)).get a).writable=false:=by
      intro a ha
      rw[AHeap.next_set,AHeap.get_set]
      simp only[List.mem_cons] at ha
      rcases ha with rfl | ha
      ·rw[if_pos rfl];exact⟨hltn,rfl,rfl⟩
      ·have h9:=hs.anc sv.id a (by rw[ho'];exact ha)
       split
       ·exact⟨h9.1,rfl,rfl⟩
       ·exact h9
     rcases hsv.sl_l hsl with⟨c,β,cap,hid,rfl,k1,k2,k3,k4⟩ | ⟨c,o2,rfl,k0,k00⟩ | ⟨rfl,k0,k00⟩
     ·by_cases hin:sv.len+n≤cap
      ·obtain⟨C,t,fz,hC,hsz,hcf,hcr,hfz⟩:=(by have h9:=hs.obj sv.id c β hid;rw[ho'] at h9;exact h9)
       have hfz:=hfz rfl;subst hfz
       have hmul:(sv.len+n)*ie.size≤cap*ie.size:=Nat.mul_le_mul_right _ hin
       rw[Nat.add_mul] at hmul
       have hzl:=hnz.1
       have hfit2:β+o.xs.length+zs.length≤C.size:=by rw[hc1] at k4;omega
       have hpost:=post_tip (off:=sv.off) hs ho' hid (by omega) hnz hC hfit2
       have hrun:=tail_room (P:=P) (w:=w) (elem:=elem) (size:=ie.size) (zeros:=zeros) (x:=x) (n:=n) (sLen:=sv.len) (o:=β+sv.off) (happ w rfl) hin hC (by omega) (oneCells_of hnz hall)
       rw[show β+sv.off+sv.len*ie.size=β+o.xs.length by omega] at hrun
       refine⟨_,_,_,rfl,_,_,_,hrun,?_,hpost⟩
       have := VR.sl (R := R.ext H.next c (β + sv.off) (R.sz c)) (off := 0) (sz := ie.size) (ln := sv.len + n) (c2 := 2 * (sv.len + n) + bb false 1 0) (cap := cap) (Ren.ext_new R H.next c (β + sv.off) _)
        (by rw[sliceAt_half];exact Nat.le_refl _) (by rw[sliceAt_half];exact hin) (fun ho=>by rw[sliceAt_odd] at ho;cases ho) (by rw[Ren.ext_sz];rw[hc1] at k4;simpa using k4)
       simpa [sliceAt] using this
      ·obtain⟨olds,hol,hold⟩:=oldsOf c β cap hid
       rw[htake] at hol
       obtain⟨u,w',R',hr,hv,hp⟩:=fresh _ cap (H.set sv.id (.cells o.xs false true o.anc)) (sv.id::o.anc) olds _ (by omega) (by simp) hspend.sim hol (by simp;omega) hanc hold
       exact⟨_,_,_,rfl,u,w',R',hr,hv,hspend.trans hp hs⟩
     ·have hdrop:o.xs.drop sv.off=[]:=by apply List.drop_eq_nil_of_le;rw[k0] at htip;omega
      have f0:∀ w2:World,w2.heap=w.heap→(Builtin.firstCells ie.size sv.len (.slice (some ⟨c,o2,none⟩) sv.len 0)).run P w2 = .ok ([]:List Value).toArray w2:=fun w2 _=>by
       rw[k0];simp[Builtin.firstCells,loadCells,loadCellsFrom]
      obtain⟨u,w',R',hr,hv,hp⟩:=fresh (some ⟨c,o2,none⟩) 0 (H.set sv.id (.cells o.xs false true o.anc)) (sv.id::o.anc) [] [] (by omega) (by simp) hspend.sim .nil (by rw[k0];simp) hanc f0
      rw[hdrop]
      rw[k0] at hr
      exact⟨_,_,_,rfl,u,w',R',by rw[k0] at *;exact hr,hv,hspend.trans hp hs⟩
     ·have hdrop:o.xs.drop sv.off=[]:=by apply List.drop_eq_nil_of_le;rw[k0] at htip;omega
      have f0:∀ w2:World,w2.heap=w.heap→(Builtin.firstCells ie.size sv.len (.slice none sv.len 0)).run P w2 = .ok ([]:List Value).toArray w2:=fun w2 _=>by
       rw[k0];simp[run_firstCells_none]
      obtain⟨u,w',R',hr,hv,hp⟩:=fresh none 0 (H.set sv.id (.cells o.xs false true o.anc)) (sv.id::o.anc) [] [] (by omega) (by simp) hspend.sim .nil (by rw[k0];simp) hanc f0
      rw[hdrop]
      rw[k0] at hr
      exact⟨_,_,_,rfl,u,w',R',by rw[k0] at *;exact hr,hv,hspend.trans hp hs⟩
end
end Go.Sp
