/- Made from wip. -/
import Derived.KernelRfl
import Derived.Test.YtciohfkjabeooaaGreatDoorSpReadx
import Derived.Test.YtciohfkjabeooaaGreatDoorSpNextx
import Derived.ChangeKeysEq
import Derived.RowKit3
import Derived.Lib.LaidTab
import Derived.WalkKit
import Derived.ProofKit
import Derived.OpenShut
import Derived.Deep.DeepHandedRow
import Derived.ReadAgain

namespace Go.Sp
noncomputable section
structure Sl where
 n:Nat
 fl:Nat
 cs:List Value
def Sl.v (sz:Nat) (s:Sl):Value:=FP sz s.n s.fl s.cs
def Bj (sz:Nat) (v:Value):Option Sl:=oo (Le v) none fun f=>bb (Nat.beq f.sz sz) (some ⟨f.n,f.fl,f.cs⟩) none
def Bi (k:IntKind) (v:Value):Option Int:=oo (ES v) none fun p=>pp p fun j n=>bb (De j k) (some n) none
def EA (z:Int):Option Nat:=ii z (fun n=>some n) fun _=>none

def Fr.puts (F:Fr) (l:List (Nat×Value)):Fr:=List.rec (motive:=fun _=>Fr→Fr) (fun F=>F) (fun p _ ih F=>ih (F.put (some p.1) p.2)) l F

def opAt (ops:List Fs) (tt:TT) (call:A8) (F:Fr) (H:Aa):Option (Value×Aa):=ll ops none fun o _=>S9 o.op tt call F.eval H
def Ab6 (ops:List Fs) (F:Fr) (H H':Aa):Bool:=ll ops false fun o _=>an (o.gdOk F) (an (o.wanted F) (Au (fun x=>sameAt H H' (F.eval x)) o.watch))
def putAt (ops:List Fs) (F:Fr) (v:Value):Fr:=ll ops F fun o _=>F.put o.dst v
def Oa (o:Option (Fr×Aa)):Fr:=oo o ⟨0,.nil⟩ fun p=>p.1
def RI (o:Option (Fr×Aa)):Aa:=oo o ⟨0,.nil,true⟩ fun p=>p.2
end

theorem Qh {sz:Nat} {v:Value} {s:Sl} (h:Bj sz v=some s):v=s.v sz:=by
 obtain⟨f,hf,h1⟩:=Ab h
 obtain⟨h2,h3⟩:=Ae h1
 injection h3 with h3;subst h3
 rw[Kq hf,←Nat.eq_of_beq_eq_true h2];rfl
theorem Eh {k:IntKind} {v:Value} {n:Int} (h:Bi k v=some n):v = .int k n:=by
 obtain⟨p,hp,h1⟩:=Ab h
 rw[Bg] at h1
 obtain⟨h2,h3⟩:=Ae h1
 injection h3 with h3;subst h3
 rw[Cm hp,←CZ h2]
theorem AR {z:Int} {n:Nat} (h:EA z=some n):z = .ofNat n:=by
 cases z with
 | ofNat m=>injection h with h;subst h;rfl
 | negSucc m=>cases h
theorem Ad {α β:Type} {l:List α} {s:α→List α→Option β} {v:β} (h:ll l none s=some v):∃ a r,l=a::r∧s a r=some v:=by
 cases l with
 | nil=>cases h
 | cons a r=>exact⟨a,r,rfl,h⟩
theorem AC {α β:Type} {l:List α} {x:Option β} {v:β} (h:ll l x (fun _ _=>none)=some v):l=[]∧x=some v:=by
 cases l with
 | nil=>exact⟨rfl,h⟩
 | cons a r=>cases h
theorem Ag {β:Type} {c:Bool} {a b:Option β} {v:β} (h:bb c a b=some v):(c=true∧a=some v)∨(c=false∧b=some v):=by
 cases c
 ·exact .inr ⟨rfl,h⟩
 ·exact .inl ⟨rfl,h⟩

noncomputable def Dz (H:Aa) (v:Value):Option (List Value):=oo (FO v) none fun p=>pp p fun id _=>oo (Bv (H.get id)) none fun o=>some o.xs
noncomputable def Qi (ops:List Fs) (F:Fr) (H:Aa):List (Option (List Value)):=ll ops [] fun o _=>AP (fun x=>Dz H (F.eval x)) o.watch
noncomputable def LH (H:Aa) (v:Value):Bool:=oo (FO v) (oo (IC v) true fun m=>nt (isS m)) fun _=>isS (Dz H v)
noncomputable def bB (ops:List Fs) (F:Fr) (H:Aa):Bool:=ll ops false fun o _=>an (o.gdOk F) (an (o.wanted F) (Au (fun x=>LH H (F.eval x)) o.watch))
theorem Zc {H H':Aa} {v:Value} (h:LH H v=true) (he:Dz H v=Dz H' v):sameAt H H' v=true:=by
 unfold LH Dz at h
 unfold Dz at he
 unfold sameAt
 cases hp:FO v with
 | none=>rw[hp] at h;exact h
 | some p =>
  rw[hp] at h he
  simp only[Ac,Bg] at h he ⊢
  cases ho:Bv (H.get p.1) with
  | none=>rw[ho] at h;cases h
  | some o =>
   cases ho':Bv (H'.get p.1) with
   | none=>rw[ho,ho'] at he;cases he
   | some o' =>
    rw[ho,ho'] at he
    simp only[Ac] at he ⊢
    injection he with he
    cases FE o.xs o'.xs with
    | true=>rfl
    | false=>exact @decide_eq_true (Lj o.xs o'.xs) (Classical.propDecidable _) he
theorem XG {ops:List Fs} {F:Fr} {H H':Aa} (h:bB ops F H=true) (he:Qi ops F H=Qi ops F H'):Ab6 ops F H H'=true:=by
 cases ops with
 | nil=>cases h
 | cons o os =>
  obtain⟨g1,g2⟩:=Av (show an (o.gdOk F) (an (o.wanted F) (Au (fun x=>LH H (F.eval x)) o.watch))=true from h)
  obtain⟨g2,g3⟩:=Av g2
  have he:AP (fun x=>Dz H (F.eval x)) o.watch=AP (fun x=>Dz H' (F.eval x)) o.watch:=he
  show an (o.gdOk F) (an (o.wanted F) (Au (fun x=>sameAt H H' (F.eval x)) o.watch))=true
  have:Au (fun x=>sameAt H H' (F.eval x)) o.watch=true:=by
   generalize o.watch=l at g3 he ⊢
   induction l with
   | nil=>rfl
   | cons x r ih =>
    obtain⟨k1,k2⟩:=Av (show an (LH H (F.eval x)) (Au (fun x=>LH H (F.eval x)) r)=true from g3)
    injection (show Dz H (F.eval x)::AP (fun x=>Dz H (F.eval x)) r=Dz H' (F.eval x)::AP (fun x=>Dz H' (F.eval x)) r from he) with e1 e2
    show an (sameAt H H' (F.eval x)) (Au (fun x=>sameAt H H' (F.eval x)) r)=true
    rw[Zc k1 e1,ih k2 e2];rfl
  rw[g1,g2,this];rfl

theorem Qj {tt:TT} {call:A8} {ops:List Fs} {F:Fr} {H:Aa} (i:Nat):BD tt call ops F H=oo (BD tt call (Aq i ops) F H) none fun p=>BD tt call (Am i ops) p.1 p.2:=by
 induction i generalizing ops F H with
 | zero=>rfl
 | succ i ih =>
  cases ops with
  | nil=>rfl
  | cons o os =>
   show bb (o.gdOk F) (bb (o.wanted F) (oo (S9 o.op tt call F.eval H) none fun p => pp p fun v H' => HZ H v fun v => JR H' fun H' => bb (Au (fun x => sameAt H H' (F.eval x)) o.watch) (F.putK o.dst v fun F => BD tt call os F H') none) (F.putK o.dst undef fun F => BD tt call os F H)) none =
    oo (bb (o.gdOk F) (bb (o.wanted F) (oo (S9 o.op tt call F.eval H) none fun p=>pp p fun v H'=>HZ H v fun v=>JR H' fun H'=>bb (Au (fun x=>sameAt H H' (F.eval x)) o.watch) (F.putK o.dst v fun F=>BD tt call (Aq i os) F H') none) (F.putK o.dst undef fun F=>BD tt call (Aq i os) F H)) none) none fun p=>BD tt call (Am i os) p.1 p.2
   cases o.gdOk F
   ·rfl
   ·cases o.wanted F
    ·simp only[Ak,AA,Fr.putK_eq];exact ih
    ·simp only[Ak]
     cases S9 o.op tt call F.eval H with
     | none=>rfl
     | some p =>
      simp only[Ac,Bg,JW,Lp,Fr.putK_eq]
      cases Au (fun x=>sameAt H p.2 (F.eval x)) o.watch
      ·rfl
      ·simp only[Ak];exact ih
theorem Zd {tt:TT} {call:A8} {ops:List Fs} {F:Fr} {H:Aa} {r:Option (Fr×Aa)} (i:Nat) (h:isS (BD tt call (Aq i ops) F H)=true)
 (h2:BD tt call (Am i ops) (Oa (BD tt call (Aq i ops) F H)) (RI (BD tt call (Aq i ops) F H))=r):BD tt call ops F H=r:=by
 rw[Qj i]
 cases he:BD tt call (Aq i ops) F H with
 | none=>rw[he] at h;cases h
 | some p=>rw[he] at h2;exact h2
theorem Ob {tt:TT} {call:A8} {ops:List Fs} {F:Fr} {H H1:Aa} {v:Value} {r:Option (Fr×Aa)} (D:Option (Value×Aa)) (h1:opAt ops tt call F H=D) (hD:D=some (v,H1)) (hch:Ab6 ops F H H1=true)
 (h:BD tt call (Am 1 ops) (putAt ops F v) H1=r):BD tt call ops F H=r:=by
 cases ops with
 | nil=>cases hch
 | cons o os =>
  obtain⟨g1,g2⟩:=Av (show an (o.gdOk F) (an (o.wanted F) (Au (fun x=>sameAt H H1 (F.eval x)) o.watch))=true from hch)
  obtain⟨g2,g3⟩:=Av g2
  have h1:S9 o.op tt call F.eval H=D:=h1
  show bb (o.gdOk F) (bb (o.wanted F) (oo (S9 o.op tt call F.eval H) none fun p=>pp p fun v H'=>HZ H v fun v=>JR H' fun H'=>bb (Au (fun x=>sameAt H H' (F.eval x)) o.watch) (F.putK o.dst v fun F=>BD tt call os F H') none) (F.putK o.dst undef fun F=>BD tt call os F H)) none=r
  rw[g1,g2,h1,hD]
  simp only[Ak,Ac,GJ,JW,Lp,g3,Fr.putK_eq]
  exact h

theorem AZ {H:Aa} {x:Option Value} {v:Value} (h:x=some v):keep H x=some (v,H):=by rw[h];rfl
theorem AX {H:Aa} {c:Bool} {v:Value} (h:c=true):keep H (bb c (some v) none)=some (v,H):=by rw[h];rfl
theorem XH {H:Aa} {c:Bool} {v:Value} (h:nt c=true):keep H (bb c none (some v))=some (v,H):=by rw[Dh h];rfl
theorem Js {c:Bool} {H1:Aa} {v:Value} (h:c=true):done (bb c (some H1) none) v=some (v,H1):=by rw[h];rfl
theorem kH {α:Type} {c:Bool} {x:α} (h:c=true):bb c (some x) none=some x:=by rw[h];rfl
theorem AB {H:Aa} {x:Option Value} {v:Value} (h:x=some v):(oo x none fun v=>some (v,H))=some (v,H):=by rw[h];rfl

section
variable {tt:TT} {call:A8} {n0:Nat}
inductive E9 (n0 : Nat) : Fr → Aa → Fr → Aa → Prop
 | id (F:Fr) (H:Aa):E9 n0 F H F H
 | step {F F1 F':Fr} {H H1 H':Aa} (h:Iu n0 F H F1 H1) (r:E9 n0 F1 H1 F' H'):E9 n0 F H F' H'
def bC (H:Aa):List Nat→Prop
 | []=>True
 | i::r=>iQ (H.get i)=true∧bC H r
theorem bC.get {H:Aa} {l:List Nat} (h:bC H l):∀ id,ED id l=true→iQ (H.get id)=true:=by
 induction l with
 | nil=>intro id h;cases h
 | cons i r ih =>
  intro id hm
  have hm:bb (Nat.beq i id) true (ED id r)=true:=hm
  rw[BL] at hm
  split at hm
  ·rename_i he;rw[←Nat.eq_of_beq_eq_true he];exact h.1
  ·exact ih h.2 id hm
theorem sF {a b:Bool} (h:a=b) (hb:b=true):a=true:=h.trans hb
theorem E9.gc (trs:List Nat) (ents:List Bool) (rs:List Rt) (live:List Nat) {F F':Fr} {H H':Aa} (hn:Nat.ble n0 (len ents)=true) (htr:bC H trs) (h:Go.Sp.gc trs ents rs live F H=some (F',H')):E9 n0 F H F' H':=
 .step (.gc (by have:=Nat.le_of_ble_eq_true hn;rwa [AV] at this) htr.get h) (.id F' H')
theorem M6 {o:Option (Fr×Aa)} (h:isS o=true):o=some (Oa o,RI o):=by
 cases o with
 | none=>cases h
 | some p=>rfl
theorem E9.thaw (t sz:Nat) {F F':Fr} {H H':Aa} (h:isS (Go.Sp.thaw t sz F H)=true) (r:E9 n0 (Oa (Go.Sp.thaw t sz F H)) (RI (Go.Sp.thaw t sz F H)) F' H'):E9 n0 F H F' H':=.step (.thaw (M6 h)) r
theorem E9.freeze (m t sz:Nat) {F F':Fr} {H H':Aa} (hn:Nat.ble n0 m=true) (h:isS (Go.Sp.freeze m t sz false F H)=true) (r:E9 n0 (Oa (Go.Sp.freeze m t sz false F H)) (RI (Go.Sp.freeze m t sz false F H)) F' H'):E9 n0 F H F' H':=
 .step (.freeze (Nat.le_of_ble_eq_true hn) (M6 h)) r
theorem E9.freezeC (m t sz:Nat) (c:Bool) {F F1 F':Fr} {H H1 H':Aa} (hn:Nat.ble n0 m=true) (h:Go.Sp.freeze m t sz false F H=bb c (some (F1,H1)) none) (hc:c=true) (r:E9 n0 F1 H1 F' H'):E9 n0 F H F' H':=
 .step (.freeze (Nat.le_of_ble_eq_true hn) (by rw[h,hc];rfl)) r
theorem E9.weak (t:Nat) (v':Value) {F F':Fr} {H H':Aa} {v:Value} (hv:F.get t=v) (h:PG v v') (r:E9 n0 (F.put (some t) v') H F' H'):E9 n0 F H F' H':=.step (.weak (by rw[hv];exact h)) r
theorem E9.thawC (id j sz:Nat) (xs:List Value) {F F':Fr} {H H':Aa} {imm spent:Bool} {anc:List Nat} (hn:Nat.ble n0 id=true) (h:H.get id = .cells xs imm spent anc) (hj:AL xs j=some (.slice none 0 0))
 (h1:(H.push (.cells [] false false [])).get id = .cells xs imm spent anc) (r:E9 n0 F ((H.push (.cells [] false false [])).set id (.cells (xs.set j (.slice (some ⟨H.next,0,some sz⟩) 0 0)) imm spent anc)) F' H'):E9 n0 F H F' H':=
 .step (.cell (xs:=(xs,anc)) (Nat.le_of_ble_eq_true hn) h (by rw[←BZ];exact hj) (.plain (v:=.slice none 0 0) rfl (.thaw H.next sz)) (.thaw _ sz) h1) r
theorem E9.frzC (m id j : Nat) (xs : List Value) (c : Bool) {F F' : Fr} {H H1 H' : Aa} {imm spent : Bool} {anc : List Nat} {v v' : Value} (hc : c = true) (r : E9 n0 F (H1.set id (.cells (xs.set j v') imm spent anc)) F' H') (hf : Cq m false v H = bb c (some (v', H1)) none := by kernel_rfl)
 (hn:Nat.ble n0 id=true:=by kernel_rfl) (hm:Nat.ble n0 m=true:=by kernel_rfl) (h:H.get id = .cells xs imm spent anc:=by kernel_rfl) (hj:AL xs j=some v:=by kernel_rfl) (h1:H1.get id = .cells xs imm spent anc:=by kernel_rfl):E9 n0 F H F' H':=
 .step (.cell (xs:=(xs,anc)) (Nat.le_of_ble_eq_true hn) h (by rw[←BZ];exact hj) (.frz m false hm (by rw[hf,hc];rfl)) (.frz m false c hm hf hc) h1) r
theorem E9.run {c:RC} {F F':Fr} {H H':Aa} {Q:Ex→Fr→Aa→Prop} (h:E9 n0 F H F' H') (hr:BN tt call n0 c F' H' Q):BN tt call n0 c F H Q:=by
 induction h with
 | id=>exact hr
 | step hg _ ih=>exact .gh hg (ih hr)
theorem BN.ghs {c:RC} {F:Fr} {H:Aa} {Q:Ex→Fr→Aa→Prop} (F':Fr) (H':Aa) (h:E9 n0 F H F' H') (hr:BN tt call n0 c F' H' Q):BN tt call n0 c F H Q:=h.run hr
theorem BN.same {c:RC} {F F':Fr} {H H':Aa} {Q:Ex→Fr→Aa→Prop} (hF:F=F') (hH:H=H') (hr:BN tt call n0 c F' H' Q):BN tt call n0 c F H Q:=by rw[hF,hH];exact hr
theorem BN.ifT {c:Operand} {a b:RC} {F:Fr} {H:Aa} {Q:Ex→Fr→Aa→Prop} (e:Bool) (he:Bf (F.eval c)=some e) (hb:e=true) (h:BN tt call n0 a F H Q):BN tt call n0 (.cond c a b) F H Q:=.condT (by rw[he,hb]) h
theorem BN.ifF {c:Operand} {a b:RC} {F:Fr} {H:Aa} {Q:Ex→Fr→Aa→Prop} (e:Bool) (he:Bf (F.eval c)=some e) (hb:e=false) (h:BN tt call n0 b F H Q):BN tt call n0 (.cond c a b) F H Q:=.condF (by rw[he,hb]) h
def At {α:Type} (n0:Nat) (S:α→Fr×Aa) (M:α→Option Value) (v:Value) (F:Fr) (H:Aa):Prop:=∃ y:α,M y=some v∧E9 n0 F H (S y).1 (S y).2
theorem BN.join {α:Type} (S:α→Fr×Aa) (M:α→Option Value) {v:Value} {a b:RC} {F:Fr} {H:Aa} {Q:Ex→Fr→Aa→Prop} (hrest:∀ y,M y=some v→BN tt call n0 b (S y).1 (S y).2 Q)
 (ha:BN tt call n0 a F H (wG Q (At n0 S M v))):BN tt call n0 (.seq a b) F H Q:=
 .then (.mono ha fun e F H h=>by
  cases e with
  | normal=>obtain⟨y,h2,h3⟩:=h;exact h3.run (hrest y h2)
  | exit j=>exact h
  | goto j=>exact h
  | ret=>exact h)
theorem BN.loopM {α:Type} (S:α→Fr×Aa) (M:Nat→α→Option Value) {v:Value} {b:RC} {F:Fr} {H:Aa} {Q:Ex→Fr→Aa→Prop} (n:Nat) (h0:At n0 S (M n) v F H) (hz:∀ y,M 0 y=none)
 (hstep:∀ m y,M (m+1) y=some v→BN tt call n0 b (S y).1 (S y).2 (wG Q (At n0 S (M m) v))):BN tt call n0 (.loop b) F H Q:=by
 refine .loop (fun m F H=>At n0 S (M m) v F H) n h0 fun m F H hI=>?_
 obtain⟨y,h2,h3⟩:=hI
 cases m with
 | zero=>rw[hz] at h2;cases h2
 | succ m =>
  refine h3.run (.mono (hstep m y h2) fun e F H h=>?_)
  cases e with
  | normal=>exact⟨m,by omega,h⟩
  | exit j=>exact h
  | goto j=>exact h
  | ret=>exact h
noncomputable def GV (sz bytes n c2 k:Nat) (xs:List Value):Bool:=an (EQ (n+k) bytes) (an (nt (Nat.ble (n+k) (c2 / 2))) (an (Nat.ble (0+n*sz) (len xs)) (an (nt (Nat.beq (c2 % 2) 1)) (Nat.beq (0+n*sz) (len xs)))))
theorem VF {sz bytes n c2 k:Nat} {xs:List Value} (h:GV sz bytes n c2 k xs=true):EQ (n+k) bytes=true∧Nat.ble (n+k) (c2 / 2)=false∧Nat.ble (0+n*sz) (len xs)=true∧Nat.beq (c2 % 2) 1=false∧Nat.beq (0+n*sz) (len xs)=true:=by
 obtain⟨h1,h⟩:=Av h
 obtain⟨h2,h⟩:=Av h
 obtain⟨h3,h⟩:=Av h
 obtain⟨h4,h5⟩:=Av h
 exact⟨h1,Dh h2,h3,Dh h4,h5⟩
noncomputable def Qk (sz n k id:Nat) (xs new:List Value) (anc:List Nat) (H:Aa):Value×Aa:=
 (sliceAt H.next 0 sz (n+k) (n+k) false,(H.set id (.cells xs false true anc)).push (.cells (Br (Am 0 xs) new) false false (id::anc)))
noncomputable def Oc (sz bytes n c2 k id:Nat) (xs new:List Value) (anc:List Nat) (H:Aa):Option (Value×Aa):=
 bb (EQ (n + k) bytes) (bb (Nat.ble (n + k) (c2 / 2)) (oo (Ej H id (0 + n * sz) new) none fun H' => some (.slice (some ⟨id, 0, some sz⟩) (n + k) c2, H'))
  (bb (Nat.ble (0 + n * sz) (len xs)) (bb (Nat.beq (c2 % 2) 1) (some (sliceAt H.next 0 sz (n + k) (n + k) false, H.push (.cells (Br (Aq (n * sz) (Am 0 xs)) new) false false [])))
    (bb (an (Nat.beq (0+n*sz) (len xs)) true) (some (Qk sz n k id xs new anc H)) none)) none)) none
theorem I1 {sz bytes n c2 k id:Nat} {xs new:List Value} {anc:List Nat} {H:Aa} (h:GV sz bytes n c2 k xs=true):Oc sz bytes n c2 k id xs new anc H=some ((Qk sz n k id xs new anc H).1,(Qk sz n k id xs new anc H).2):=by
 obtain⟨h1,h2,h3,h4,h5⟩:=VF h
 unfold Oc
 rw[h1,h2,h3,h4,h5];rfl

noncomputable def Ql (H:Aa) (sz bytes:Nat) (s:Value) (x:Sl):Option (Value×Aa):=oo (Dt H sz x.n (x.v sz)) none fun new=>D7 H sz bytes s x.n new
theorem PH {H:Aa} {sz:Nat} {x:Sl} (h:Nat.beq x.n 0=false):Dt H sz x.n (x.v sz)=some (Aq (x.n*sz) x.cs):=by
 show bb (Nat.beq x.n 0) (some []) (bb (an (Nat.beq sz sz) (Nat.ble x.n x.n)) (some (Aq (x.n*sz) x.cs)) none)=_
 rw[h,Nat.beq_refl,Nat.ble_eq_true_of_le (Nat.le_refl _)];rfl
theorem Od {H:Aa} {sz:Nat} {x:Sl} (h:Nat.beq x.n 0=true):Dt H sz x.n (x.v sz)=some []:=by
 show bb (Nat.beq x.n 0) (some []) (bb (an (Nat.beq sz sz) (Nat.ble x.n x.n)) (some (Aq (x.n*sz) x.cs)) none)=_
 rw[h];rfl
theorem Ze {H:Aa} {id o sz bytes ln c2:Nat} {x:Sl} (h:Nat.beq x.n 0=true):Ql H sz bytes (.slice (some ⟨id,o,some sz⟩) ln c2) x=some (.slice (some ⟨id,o,some sz⟩) ln c2,H):=by
 unfold Ql;rw[Od h]
 show bb (Nat.beq x.n 0) _ _=_
 rw[h];rfl
theorem Zf {H:Aa} {id sz bytes:Nat} {x:Sl} (h:Nat.beq x.n 0=false) (hr:EQ (0+x.n) bytes=true) (ho:Bv (H.get id)=some ⟨[],false,false,[]⟩) :
 Ql H sz bytes (.slice (some ⟨id,0,some sz⟩) 0 1) x=some (sliceAt H.next 0 sz (0+x.n) (0+x.n) false,H.push (.cells (Aq (x.n*sz) x.cs) false false [])):=by
 have hb:Nat.ble (0+x.n) (1 / 2)=false:=by
  cases hb:Nat.ble (0+x.n) (1 / 2) with
  | false=>rfl
  | true =>
   have:=Nat.le_of_ble_eq_true hb
   rw[show x.n=0 by omega] at h;cases h
 unfold Ql;rw[PH h]
 show bb (Nat.beq x.n 0) _ (bb (an (Nat.beq sz sz) (EQ (0+x.n) bytes)) (bb (Nat.ble (0+x.n) (1 / 2)) _ (oo (Bv (H.get id)) none fun o=>H7.rec (motive:=fun _=>Option (Value×Aa)) (fun xs imm spent anc=>
  bb (Nat.ble (0+0*sz) (len xs)) (bb (Nat.beq (1 % 2) 1) (some (sliceAt H.next 0 sz (0+x.n) (0+x.n) false,H.push (.cells (Br (Aq (0*sz) (Am 0 xs)) (Aq (x.n*sz) x.cs)) false false []))) _) none) o)) none)=_
 rw[h,Nat.beq_refl,hr,hb,ho,Nat.zero_mul];rfl

theorem kI {rs:List ResultVar} {v:Value} {F:Fr} {H:Aa} (r:Value) (h:DV tt F H rs=some r) (hc:Fe r=true) (hm:some r=some v):Fin tt n0 rs v .ret F H:=by injection hm with hm;subst hm;exact⟨r,H,h,.refl _ _ r,hc⟩
end
section
variable {tt:TT} {call:A8} {n0:Nat}
theorem eC {ops:List Fs} {F:Fr} {H H1:Aa} {v:Value} {r:Option (Fr×Aa)} (i:Nat) (D:Option (Value×Aa)) (hD:D=some (v,H1))
 (h2:BD tt call (Am 1 (Am i ops)) (putAt (Am i ops) (Oa (BD tt call (Aq i ops) F H)) v) H1=r)
 (h0:isS (BD tt call (Aq i ops) F H)=true:=by kernel_rfl)
 (h1:opAt (Am i ops) tt call (Oa (BD tt call (Aq i ops) F H)) (RI (BD tt call (Aq i ops) F H))=D:=by kernel_rfl)
 (hw:bB (Am i ops) (Oa (BD tt call (Aq i ops) F H)) (RI (BD tt call (Aq i ops) F H))=true:=by kernel_rfl)
 (hs:Qi (Am i ops) (Oa (BD tt call (Aq i ops) F H)) (RI (BD tt call (Aq i ops) F H))=Qi (Am i ops) (Oa (BD tt call (Aq i ops) F H)) H1:=by kernel_rfl):BD tt call ops F H=r:=
 Zd i h0 (Ob D h1 hD (XG hw hs) h2)
theorem eD {ops:List Fs} {F:Fr} {H H1:Aa} {v:Value} {r:Option (Fr×Aa)} (D:Option (Value×Aa)) (hD:D=some (v,H1)) (h2:BD tt call (Am 1 ops) (putAt ops F v) H1=r)
 (h1:opAt ops tt call F H=D:=by kernel_rfl) (hw:bB ops F H=true:=by kernel_rfl) (hs:Qi ops F H=Qi ops F H1:=by kernel_rfl):BD tt call ops F H=r:=Ob D h1 hD (XG hw hs) h2
theorem eE {o:Option (Fr×Aa)} (h:isS o=true:=by kernel_rfl):o=some (Oa o,RI o):=M6 h
theorem BN.rK {ord:List Nat} {ops:List Fs} {F:Fr} {H:Aa} {Q:Ex→Fr→Aa→Prop} (h:Q .normal (Oa (BD tt call ops F H)) (RI (BD tt call ops F H))) (he:isS (BD tt call ops F H)=true:=by kernel_rfl):BN tt call n0 (.reg ord ops) F H Q:=.reg (M6 he) h
theorem E9.k (trs:List Nat) (ents:List Bool) (rs:List Rt) (live:List Nat) {F F':Fr} {H H':Aa} (htr:bC H trs) (h:Go.Sp.gc trs ents rs live F H=some (F',H'):=by kernel_rfl) (hn:Nat.ble n0 (len ents)=true:=by kernel_rfl):E9 n0 F H F' H':=.gc trs ents rs live hn htr h
theorem E9.k0 (ents:List Bool) (rs:List Rt) (live:List Nat) {F F':Fr} {H H':Aa} (h:Go.Sp.gc [] ents rs live F H=some (F',H'):=by kernel_rfl) (hn:Nat.ble n0 (len ents)=true:=by kernel_rfl):E9 n0 F H F' H':=.gc [] ents rs live hn trivial h
end
theorem Ai {β:Type} {k:IntKind} {v:Value} {f:Int→Option β} {r:β} (h:oo (Bi k v) none f=some r):∃ x,v = .int k x∧f x=some r:=by obtain⟨x,h1,h2⟩:=Ab h;exact⟨x,Eh h1,h2⟩
theorem Al {β:Type} {k:Nat} {v:Value} {f:Sl→Option β} {r:β} (h:oo (Bj k v) none f=some r):∃ x,v=Sl.v k x∧f x=some r:=by obtain⟨x,h1,h2⟩:=Ab h;exact⟨x,Qh h1,h2⟩
theorem Be {β:Type} {v:Value} {f:Bool→Option β} {r:β} (h:oo (Bf v) none f=some r):∃ x,v = .bool x∧f x=some r:=by obtain⟨x,h1,h2⟩:=Ab h;exact⟨x,BV h1,h2⟩
theorem Ch {β:Type} {v:Value} {f:List Value→Option β} {r:β} (h:oo (CQ v) none f=some r):∃ x:List Value,v = .tuple ⟨x⟩∧f x=some r:=by obtain⟨x,h1,h2⟩:=Ab h;exact⟨x,EU h1,h2⟩
theorem BG {β:Type} {v:Value} {f:List Value→Option β} {r:β} (h:oo (Bt v) none f=some r):∃ x:List Value,v = .agg ⟨x⟩∧f x=some r:=by obtain⟨x,h1,h2⟩:=Ab h;exact⟨x,BQ h1,h2⟩
end Go.Sp
namespace Go.Sp

def kJ (p:TypeId→List Value→Prop):List Field→Nat→List Value→Prop
 | [],_,zs=>zs=[]
 | f :: r, off, zs => f.name ≠ "_" ∧ f.offset = off ∧ ∃ z1 z2, zs = z1 ++ z2 ∧ p f.type z1 ∧ kJ p r (off + z1.length) z2

def Fl (P:Program):Nat→TypeId→List Value→Prop
 | 0,_,_=>False
 | d + 1, t, zs => P.cellsOf t = zs.length ∧ (
  ((∃ k,P.underlying t=some (.int k))∧(∃ k n,zs=[.int k n]))∨(P.underlying t=some .bool∧∃ b,zs=[.bool b])∨(P.underlying t=some .string∧∃ s,zs=[.string s]) ∨
  (∃ l e z1,P.underlying t=some (.array l e)∧Fl P d e z1∧zs=AF z1 l) ∨
  (∃ fs,P.underlying t=some (.struct fs)∧P.stoodInHeld t=false∧kJ (Fl P d) fs.toList 0 zs))

theorem Iw {z1 z2 xs:List Value} (h:Bo (z1++z2) xs=true):Bo z1 (xs.take z1.length)=true∧Bo z2 (xs.drop z1.length)=true:=by
 induction z1 generalizing xs with
 | nil=>exact⟨rfl,h⟩
 | cons z z1 ih => cases xs with
  | nil=>cases h
  | cons x xs =>
   obtain⟨h3,h4⟩:=Av (show an (EB z x) (Bo (z1++z2) xs)=true from h)
   obtain⟨h5,h6⟩:=ih h4
   exact⟨by show an (EB z x) (Bo z1 (xs.take z1.length))=true;rw[h3,h5];rfl,h6⟩

theorem JL {n:Nat} {xs ys:List Value} {b:Bool} (h:Cj xs ys=some b):∃ p q,Cj (xs.take n) (ys.take n)=some p∧Cj (xs.drop n) (ys.drop n)=some q∧b=(p && q):=by
 induction xs generalizing ys b n with
 | nil => cases ys with
  | nil=>refine⟨true,true,?_,?_,?_⟩ <;> first | (simp;rfl) | (injection h with h;simp[←h])
  | cons y ys=>cases h
 | cons x xs ih => cases ys with
  | nil=>cases h
  | cons y ys =>
   cases n with
   | zero=>exact⟨true,b,rfl,h,by simp⟩
   | succ n =>
    obtain⟨p,hp,h1⟩:=Ab (show oo (DK x y) none (fun b=>oo (Cj xs ys) none fun c=>some (an b c))=some b from h)
    obtain⟨q,hq,h2⟩:=Ab h1
    obtain⟨p',q',h3,h4,rfl⟩:=ih (n:=n) hq
    injection h2 with h2
    refine⟨an p p',q',?_,h4,?_⟩
    ·show oo (DK x y) none (fun b=>oo (Cj (xs.take n) (ys.take n)) none fun c=>some (an b c))=_
     rw[hp,Ac,h3,Ac]
    ·rw[←h2];simp[CF,Bool.and_assoc]

section
variable {P:Program}

theorem Qm {t:TypeId} {d:TypeDesc} (h:P.underlying t=some d) (w:World):(isAgg t).run P w = .ok (DU d) w:=by
 simp only[isAgg,Sem.run_bind,run_underlying h,Result.andThen_ok]
 cases d <;> rfl

def Boxed (P:Program) (t:TypeId) (zs:List Value) (v:Value):Prop:=∃ d,P.underlying t=some d∧((DU d=true∧v = .agg ⟨zs⟩)∨(DU d=false∧zs=[v]))

theorem Fl.info {d:Nat} {t:TypeId} {zs:List Value} (h:Fl P d t zs):∃ k i,P.underlying t=some k∧P.info? t=some i∧P.cellsOf t=zs.length:=by
 cases d with
 | zero=>exact h.elim
 | succ d =>
  obtain⟨hc,h⟩:=h
  have:∃ k,P.underlying t=some k:=by
   rcases h with⟨⟨k,h⟩,_⟩ | ⟨h,_⟩ | ⟨h,_⟩ | ⟨l,e,z1,h,_⟩ | ⟨fs,h,_⟩ <;> exact⟨_,h⟩
  obtain⟨k,hk⟩:=this
  obtain⟨i,hi⟩:=info_of_underlying hk
  exact⟨k,i,hk,hi,hc⟩

theorem Fl.part {d:Nat} {t:TypeId} {zs:List Value} (h:Fl P d t zs) {xs:List Value} {off:Nat} (hle:off+zs.length≤xs.length) (w:World) :
 ∃ v,(Go.part t ⟨xs⟩ off).run P w = .ok v w∧Boxed P t ((xs.drop off).take zs.length) v:=by
 obtain⟨k,i,hk,hi,hc⟩:=h.info
 by_cases ha:DU k=true
 ·refine⟨.agg ⟨(xs.drop off).take zs.length⟩,?_,k,hk,.inl ⟨ha,rfl⟩⟩
  simp only[Go.part,Sem.run_bind,Qm hk,ha,Result.andThen_ok,if_true,run_sizeOf w hi,Sem.run_pure,hc]
  congr 2
  simp[List.extract_toArray,List.extract_eq_take_drop]
 ·have ha:DU k=false:=by simpa using ha
  have hn:zs.length=1:=by
   cases d with
   | zero=>exact h.elim
   | succ d =>
    rcases h.2 with⟨_,_,_,h⟩ | ⟨_,_,h⟩ | ⟨_,_,h⟩ | ⟨l,e,z1,h,_⟩ | ⟨fs,h,_⟩
    ·rw[h];rfl
    ·rw[h];rfl
    ·rw[h];rfl
    ·rw[hk] at h;cases h;cases ha
    ·rw[hk] at h;cases h;cases ha
  rw[hn] at hle ⊢
  have hlt:off < xs.length:=by omega
  refine⟨xs[off],?_,k,hk,.inr ⟨ha,?_⟩⟩
  ·simp only[Go.part,Sem.run_bind,Qm hk,ha,Result.andThen_ok,Bool.false_eq_true,if_false]
   simp[List.getElem?_eq_getElem hlt]
  ·rw[List.drop_eq_getElem_cons hlt];rfl

theorem Mv (z:List Value) (n:Nat):(AF z n).length=n*z.length:=by
 induction n with
 | zero=>show ([]:List Value).length=_;simp
 | succ n ih=>show (Br z (AF z n)).length=_;rw[BH,List.length_append,ih,Nat.succ_mul];omega

theorem VG {d:Nat} {e:TypeId} {z1:List Value} (he:Fl P d e z1) {D:Nat}
 (ih:∀ (xs ys:List Value) (x y:Value) (b:Bool) (w:World),Bo z1 xs=true→Boxed P e xs x→Boxed P e ys y→Cj xs ys=some b→(Op.equalIn D e x y).run P w = .ok b w) (w:World) :
 ∀ (k i : Nat) (xs ys : List Value) (b : Bool), xs.length = (i + k) * z1.length → Bo (AF z1 k) (xs.drop (i * z1.length)) = true → Cj (xs.drop (i * z1.length)) (ys.drop (i * z1.length)) = some b → ys.length = xs.length →
  (Op.eqItems D e z1.length ⟨xs⟩ ⟨ys⟩ (List.range' i k)).run P w = .ok b w:=by
 intro k
 induction k with
 | zero =>
  intro i xs ys b hl _ h hy
  rw[List.drop_eq_nil_of_le (by simp at hl;omega),List.drop_eq_nil_of_le (by simp at hl;omega)] at h
  injection h with h;subst h
  simp[Op.eqItems]
 | succ k ihk =>
  intro i xs ys b hl hk h hy
  have e1:(i+(k+1))*z1.length=i*z1.length+z1.length+k*z1.length:=by rw[Nat.add_mul,Nat.succ_mul];omega
  have hl':=hl
  rw[e1] at hl'
  obtain⟨x,hx,bx⟩:=he.part (xs:=xs) (off:=i*z1.length) (by omega) w
  obtain⟨y,hy',byy⟩:=he.part (xs:=ys) (off:=i*z1.length) (by omega) w
  obtain⟨p,q,h1,h2,rfl⟩:=JL (n:=z1.length) h
  have hk:Bo (z1++AF z1 k) (xs.drop (i*z1.length))=true:=by have:=hk;rwa [show AF z1 (k+1)=Br z1 (AF z1 k) from rfl,BH] at this
  obtain⟨hk1,hk2⟩:=Iw hk
  rw[List.drop_drop] at hk2
  rw[List.drop_drop,List.drop_drop] at h2
  have hrun:=ih _ _ x y p w hk1 bx byy h1
  simp only[List.range',Op.eqItems,Sem.run_bind,hx,hy',hrun,Result.andThen_ok]
  cases p with
  | false=>simp
  | true =>
   simp only[Bool.true_and,if_true]
   have e2:(i+1)*z1.length=i*z1.length+z1.length:=by rw[Nat.succ_mul]
   refine ihk (i+1) xs ys q (by rw[hl];congr 1;omega) (by rw[e2];exact hk2) ?_ hy
   rw[e2]
   exact h2

theorem Jz (D:Nat) {t:TypeId} {fs:Array Field} (xs ys:Array Value) (hu:P.underlying t=some (.struct fs)) (hst:P.stoodInHeld t=false) (w:World) :
 (Op.equalIn (D+1) t (.agg xs) (.agg ys)).run P w=(Op.eqFields D xs ys fs.toList).run P w:=by
 have hf:P.fieldsOf t=fs:=by unfold Program.fieldsOf;rw[hu]
 have:=run_equalIn_struct w D t xs ys (by rw[hf];exact hu) hst
 rw[this,hf]

theorem TJ {d:Nat} {D:Nat}
 (ih:∀ (t:TypeId) (zs:List Value),Fl P d t zs→∀ (xs ys:List Value) (x y:Value) (b:Bool) (w:World),Bo zs xs=true→Boxed P t xs x→Boxed P t ys y→Cj xs ys=some b→(Op.equalIn D t x y).run P w = .ok b w) (w:World) :
 ∀ (fs : List Field) (off : Nat) (zs xs ys : List Value) (b : Bool), kJ (Fl P d) fs off zs → Bo zs (xs.drop off) = true → off ≤ xs.length → Cj (xs.drop off) (ys.drop off) = some b → ys.length = xs.length →
  (Op.eqFields D ⟨xs⟩ ⟨ys⟩ fs).run P w = .ok b w:=by
 intro fs
 induction fs with
 | nil =>
  intro off zs xs ys b hf hk ho h hy
  have hf:zs=[]:=hf
  subst hf
  have hl:=Fg hk
  simp only[List.length_drop,List.length_nil] at hl
  rw[List.drop_eq_nil_of_le (by omega),List.drop_eq_nil_of_le (by omega)] at h
  injection h with h;subst h
  simp[Op.eqFields]
 | cons f fs ihf =>
  intro off zs xs ys b hf hk ho h hy
  obtain⟨h1,h2,z1,z2,rfl,h3,h4⟩:=hf
  have hl:=Fg hk
  simp only[List.length_drop,List.length_append] at hl
  obtain⟨x,hx,bx⟩:=h3.part (xs:=xs) (off:=off) (by omega) w
  obtain⟨y,hy',byy⟩:=h3.part (xs:=ys) (off:=off) (by omega) w
  obtain⟨p,q,g1,g2,rfl⟩:=JL (n:=z1.length) h
  obtain⟨hk1,hk2⟩:=Iw hk
  rw[List.drop_drop] at hk2
  rw[List.drop_drop,List.drop_drop] at g2
  have hrun:=ih f.type z1 h3 _ _ x y p w hk1 bx byy g1
  simp only[Op.eqFields,if_pos h1,Sem.run_bind,h2,hx,hy',hrun,Result.andThen_ok]
  cases p with
  | false=>simp
  | true =>
   simp only[Bool.not_true,Bool.false_eq_true,if_false,Sem.run_pure,Result.andThen_ok,Bool.true_and]
   exact ihf _ z2 xs ys q h4 hk2 (by omega) g2 hy

theorem Fl.equal {d:Nat}:∀ {t:TypeId} {zs:List Value},Fl P d t zs→∀ (D:Nat) (xs ys:List Value) (x y:Value) (b:Bool) (w:World),Bo zs xs=true→Boxed P t xs x→Boxed P t ys y→Cj xs ys=some b →
 (Op.equalIn (D+d) t x y).run P w = .ok b w:=by
 induction d with
 | zero=>intro t zs h;exact h.elim
 | succ d ih =>
  intro t zs h D xs ys x y b w hn hx hy hb
  obtain⟨kx,hkx,hx⟩:=hx
  obtain⟨ky,hky,hy⟩:=hy
  rw[hkx] at hky;cases hky
  have hlen:=Mj hb
  have hlz:=Fg hn
  have leaf:DU kx=false→xs=[x]∧ys=[y]∧DK x y=some b:=fun hag=>by
   rcases hx with⟨h',_⟩ | ⟨_,rfl⟩
   ·rw[hag] at h';cases h'
   rcases hy with⟨h',_⟩ | ⟨_,rfl⟩
   ·rw[hag] at h';cases h'
   obtain⟨p,hp,h1⟩:=Ab (show oo (DK x y) none (fun b=>oo (Cj [] []) none fun c=>some (an b c))=some b from hb)
   have h1:some (an p true)=some b:=h1
   injection h1 with h1
   have hpb:p=b:=by simpa [CF] using h1
   exact⟨rfl,rfl,by rw[hp,hpb]⟩
  have agg:DU kx=true→x = .agg ⟨xs⟩∧y = .agg ⟨ys⟩:=fun hag=>by
   rcases hx with⟨_,h1⟩ | ⟨h',_⟩
   ·rcases hy with⟨_,h2⟩ | ⟨h',_⟩
    ·exact⟨h1,h2⟩
    ·rw[hag] at h';cases h'
   ·rw[hag] at h';cases h'
  show (Op.equalIn ((D+d)+1) t x y).run P w=_
  rcases h.2 with⟨⟨k,hu⟩,_,_,rfl⟩ | ⟨hu,_,rfl⟩ | ⟨hu,_,rfl⟩ | ⟨l,e,z1,hu,he,rfl⟩ | ⟨fs,hu,hst,hf⟩
  ·rw[hkx] at hu;cases hu
   obtain⟨rfl,rfl,hc⟩:=leaf rfl
   obtain⟨h3,_⟩:=Av (show an (isS (ES x)) _=true from hn)
   cases hv:ES x with
   | none=>rw[hv] at h3;cases h3
   | some p =>
    have:=Cm hv;subst this
    obtain⟨q,hq,h5⟩:=Ab (show oo (ES y) none (fun q=>pp q fun j b=>bb (De p.1 j) (some (Bd p.2 b)) none)=some b from hc)
    rw[Bg] at h5
    obtain⟨h6,h7⟩:=Ae h5
    have:=Cm hq;subst this
    have:=CZ h6
    rw[←this,run_equalIn_int w (D+d) t p.1 k p.2 q.2 hkx]
    injection h7 with h7
    rw[←h7,Lr]
  ·rw[hkx] at hu;cases hu
   obtain⟨rfl,rfl,hc⟩:=leaf rfl
   obtain⟨h3,_⟩:=Av (show an (isS (Bf x)) _=true from hn)
   cases hv:Bf x with
   | none=>rw[hv] at h3;cases h3
   | some p =>
    have:=BV hv;subst this
    obtain⟨q,hq,h5⟩:=Ab (show oo (Bf y) none (fun b=>some (bq p b))=some b from hc)
    have:=BV hq;subst this
    rw[run_equalIn_bool w (D+d) t p q hkx]
    injection h5 with h5
    rw[←h5];cases p <;> cases q <;> rfl
  ·rw[hkx] at hu;cases hu
   obtain⟨rfl,rfl,hc⟩:=leaf rfl
   obtain⟨h3,_⟩:=Av (show an (isS (Gx x)) _=true from hn)
   cases hv:Gx x with
   | none=>rw[hv] at h3;cases h3
   | some p =>
    have:=Cw hv;subst this
    obtain⟨q,hq,h5⟩:=Ab (show oo (Gx y) none (fun b=>some (p == b))=some b from hc)
    have:=Cw hq;subst this
    rw[run_equalIn_string w (D+d) t p q hkx]
    injection h5 with h5
    rw[←h5,beq_toListBytes]
  ·rw[hkx] at hu;cases hu
   obtain⟨rfl,rfl⟩:=agg rfl
   obtain⟨k,i,hk,hi,hc⟩:=he.info
   rw[run_equalIn_array (d:=D+d) w ⟨xs⟩ ⟨ys⟩ hkx hi,List.range_eq_range',hc]
   exact VG he (fun xs ys x y b w hk bx byy hb=>ih he D xs ys x y b w hk bx byy hb) w l 0 xs ys b (by rw[hlz,Mv,Nat.zero_add]) (by simpa using hn) (by simpa using hb) hlen.symm
  ·rw[hkx] at hu;cases hu
   obtain⟨rfl,rfl⟩:=agg rfl
   rw[Jz (D+d) ⟨xs⟩ ⟨ys⟩ hkx hst w]
   exact TJ (fun t zs hf xs ys x y b w hk bx byy hb=>ih hf D xs ys x y b w hk bx byy hb) w fs.toList 0 zs xs ys b hf (by simpa using hn) (Nat.zero_le _) (by simpa using hb) hlen.symm

theorem TK {α:Type} {l:List α} {f:α→Unit→Sem (ForInStep Unit)} {w:World} (h:∀ a∈l,(f a ()).run P w = .ok (.yield ()) w):(forIn l () f).run P w = .ok () w:=by
 induction l with
 | nil=>simp
 | cons a l ih =>
  simp only[List.forIn_cons,Sem.run_bind,h a (by simp),Result.andThen_ok]
  exact ih fun b hb=>h b (by simp[hb])

theorem Fl.check {d:Nat}:∀ {t:TypeId} {zs:List Value},Fl P d t zs→∀ (e:Bool) (D:Nat) (xs:List Value) (x:Value) (w:World),xs.length=zs.length→Boxed P t xs x →
 (Instr.checkKey e (D+d) t x).run P w = .ok () w:=by
 induction d with
 | zero=>intro t zs h;exact h.elim
 | succ d ih =>
  intro t zs h e D xs x w hn hx
  obtain⟨kx,hkx,hx⟩:=hx
  have agg:DU kx=true→x = .agg ⟨xs⟩:=fun hag=>by
   rcases hx with⟨_,h1⟩ | ⟨h',_⟩
   ·exact h1
   ·rw[hag] at h';cases h'
  show (Instr.checkKey e ((D+d)+1) t x).run P w=_
  rcases h.2 with⟨⟨k,hu⟩,_⟩ | ⟨hu,_⟩ | ⟨hu,_⟩ | ⟨l,el,z1,hu,he,rfl⟩ | ⟨fs,hu,hst,hf⟩
  ·simp[Instr.checkKey,run_underlying hu]
  ·simp[Instr.checkKey,run_underlying hu]
  ·simp[Instr.checkKey,run_underlying hu]
  ·rw[hkx] at hu;cases hu
   obtain rfl:=agg rfl
   obtain⟨k,i,hk,hi,hc⟩:=he.info
   rw[Mv] at hn
   simp only[Instr.checkKey,Sem.run_bind,run_underlying hkx,Result.andThen_ok,Std.Legacy.Range.forIn_eq_forIn_range',Std.Legacy.Range.size,Nat.sub_zero,Nat.add_one_sub_one,Nat.div_one]
   have hall:∀ j∈List.range' 0 l,(do let n ←sizeOf el;let v ←Go.part el ⟨xs⟩ (j*n);Instr.checkKey e (D+d) el v;pure (ForInStep.yield PUnit.unit):Sem (ForInStep PUnit)).run P w = .ok (.yield ()) w:=fun j hj=>by
    have hj:j < l:=by simpa using hj
    have hle:j*z1.length+z1.length≤xs.length:=by
     rw[hn,←Nat.succ_mul];exact Nat.mul_le_mul_right _ hj
    obtain⟨v,hv,bv⟩:=he.part (xs:=xs) (off:=j*z1.length) hle w
    have:=ih he e D _ v w (by simp;omega) bv
    simp[run_sizeOf w hi,hc,hv,this]
   rw[TK hall];rfl
  ·rw[hkx] at hu;cases hu
   obtain rfl:=agg rfl
   have main:∀ (fs:List Field) (off:Nat) (zs:List Value),kJ (Fl P d) fs off zs→off+zs.length=xs.length→∀ f∈fs,∃ v,(Go.part f.type ⟨xs⟩ f.offset).run P w = .ok v w∧(Instr.checkKey e (D+d) f.type v).run P w = .ok () w:=by
    intro fs
    induction fs with
    | nil=>intro _ _ _ _ f hf;cases hf
    | cons g gs ihg =>
     intro off zs hf hl f hfm
     obtain⟨h1,h2,z1,z2,rfl,h3,h4⟩:=hf
     simp only[List.length_append] at hl
     rcases List.mem_cons.1 hfm with rfl | hm
     ·obtain⟨v,hv,bv⟩:=h3.part (xs:=xs) (off:=off) (by omega) w
      exact⟨v,by rw[h2];exact hv,ih h3 e D _ v w (by simp;omega) bv⟩
     ·exact ihg _ _ h4 (by omega) f hm
   simp only[Instr.checkKey,Sem.run_bind,run_underlying hkx,Result.andThen_ok]
   rw[←Array.forIn_toList]
   have hall : ∀ f ∈ fs.toList, (if f.name ≠ "_" then do let v ← Go.part f.type ⟨xs⟩ f.offset; Instr.checkKey e (D + d) f.type v; pure (ForInStep.yield PUnit.unit) else pure (ForInStep.yield PUnit.unit) : Sem (ForInStep PUnit)).run P w = .ok (.yield ()) w := fun f hfm => by
    by_cases hne : f.name ≠ "_"
    ·obtain⟨v,hv,hc⟩:=main fs.toList 0 zs hf (by omega) f hfm
     simp[hne,hv,hc]
    ·simp[hne]
   rw[TK hall];rfl

theorem Fl.ok {d:Nat} {t:TypeId} {zs:List Value} (h:Fl P d t zs) (hd:d≤10000) (hag:∃ k,P.underlying t=some k∧DU k=true) (hg:P.eqGuardType P.depth t=false):Q7 P t zs:=by
 obtain⟨k,hk,ha⟩:=hag
 refine⟨fun xs ys b w hl hb=>?_,hg,fun xs w e hl=>?_⟩
 ·have:=h.equal (10000 - d) xs ys (.agg ⟨xs⟩) (.agg ⟨ys⟩) b w hl ⟨k,hk,.inl ⟨ha,rfl⟩⟩ ⟨k,hk,.inl ⟨ha,rfl⟩⟩ hb
  rwa [Nat.sub_add_cancel hd] at this
 ·have:=h.check e (10000 - d) xs (.agg ⟨xs⟩) w hl ⟨k,hk,.inl ⟨ha,rfl⟩⟩
  rwa [Nat.sub_add_cancel hd] at this
end
end Go.Sp
namespace Go.Sp

def Tr.All {α:Type} (p:Nat→α→Prop):Tr α→Prop
 | .nil=>True
 | .node v l r=>(match v with | some a=>p 0 a | none=>True)∧Tr.All (fun i=>p (2*i+1)) l∧Tr.All (fun i=>p (2*i+2)) r

theorem Tr.All.get {α:Type} {t:Tr α}:∀ {p:Nat→α→Prop},t.All p→∀ {i:Nat} {a:α},t.get i=some a→p i a:=by
 induction t with
 | nil=>intro p _ i a h;cases h
 | node v l r ihl ihr =>
  intro p h i a hg
  obtain⟨h0,h1,h2⟩:=h
  cases i with
  | zero =>
   have:v=some a:=hg
   subst this;exact h0
  | succ j =>
   have hg:Bool.rec (motive:=fun _=>Option α) (r.get (Nat.div j 2)) (l.get (Nat.div j 2)) (Nat.beq (Nat.mod j 2) 0)=some a:=hg
   have e1:Nat.div j 2=j / 2:=rfl
   have e2:Nat.mod j 2=j % 2:=rfl
   rw[e1,e2] at hg
   cases hb:Nat.beq (j % 2) 0 with
   | true =>
    rw[hb] at hg
    have:=ihl h1 hg
    have hm:=Nat.eq_of_beq_eq_true hb
    have:p (2*(j / 2)+1) a:=this
    rwa [show 2*(j / 2)+1=j+1 by omega] at this
   | false =>
    rw[hb] at hg
    have:=ihr h2 hg
    have hm:j % 2≠0:=fun e=>by rw[e] at hb;cases hb
    have:p (2*(j / 2)+2) a:=this
    rwa [show 2*(j / 2)+2=j+1 by omega] at this

theorem Ar.by {P : Program} {gl : List Nat} {f : FuncId} {n : Nat} {x : RC} {rs : List ResultVar} {fd : Func} (h1 : P.funcs[f]? = some fd)
 (h2:(match fd.body with | some c=>BF c x | none=>none)=some x) (h3:(match fd.body with | some c=>AU gl c | none=>false)=true)
 (h4 : fd.ntmps = n) (h5 : fd.results.toList = rs) (h6 : (fd.name == "runtime.NumGoroutine") = false) : Ar P gl f ⟨n, x, rs⟩ := by
 cases hb:fd.body with
 | none=>rw[hb] at h2;cases h2
 | some c =>
  rw[hb] at h2 h3
  exact⟨fd,c,h1,hb,h4,h5,h6,Y7 h2,h3⟩

structure Cu (P:Program) (t:TypeId) (i:TI):Prop where
 ok:P.underlying t=some i.und∧∃ inf,P.info? t=some inf∧inf.size=i.size∧inf.bytes=i.bytes∧inf.zero=i.zero
 plain:oo i.zero true Ee=true
 flat:i.flat=true→∃ zs,i.zero=some (.agg ⟨zs⟩)∧Q7 P t zs
theorem Cu.by {P : Program} {t : TypeId} {i : TI} {inf : TypeInfo} (h1 : P.underlying t = some i.und) (h2 : P.info? t = some inf) (h3 : inf.size = i.size) (h4 : inf.bytes = i.bytes) (h5 : inf.zero = i.zero)
 (h6:oo i.zero true Ee=true) (h7:i.flat=true→∃ zs,i.zero=some (.agg ⟨zs⟩)∧Q7 P t zs):Cu P t i:=⟨⟨h1,inf,h2,h3,h4,h5⟩,h6,h7⟩
theorem Jm.of_all {P:Program} {t:Tr TI} (h:t.All (Cu P)):Jm P t.get where
 ok:=fun _ _ e=>(h.get e).ok
 plain:=fun _ i z e hz=>by have:=(h.get e).plain;rw[hz] at this;exact this
 flat:=fun _ _ zs e hf hz=>by
  obtain⟨zs',h1,h2⟩:=(h.get e).flat hf
  rw[hz] at h1;cases h1;exact h2
end Go.Sp
namespace Go.Sp
open Go.RowKit

def J9 (W w':World):Prop:=W.keptBut w' (fun _=>False)∧(∀ a,a.block < W.heap.size→w'.frozen? a=W.frozen? a)∧W.heap.size≤w'.heap.size
theorem grown_of {H H':Aa} {R R':Ren} {w w':World} (hp:Ba H R w H' R' w') (himm:∀ id p,R.f id=some p→(H.get id).immB=true):J9 w w':=by
 have hk:∀ c,c < w.heap.size→w'.heap[c]?=w.heap[c]?:=fun c hc=>hp.frame c hc fun id β h=>himm id _ h
 refine⟨⟨hp.side.1,hp.side.2.1,fun i hi=>?_⟩,hp.side.2.2,hp.grow⟩
 rw[hk i hi]
 cases w.heap[i]? with
 | none=>trivial
 | some o=>cases o <;> simp

theorem bD {H:Aa} {R:Ren} {w:World} (hwf:H.wf) (hR:∀ id c β,R.f id=some (c,β)→id=c∧β=0∧∃ xs C t fz,H.get id = .cells xs true false []∧w.heap[c]?=some (.cells C t fz)∧C.size=R.sz c∧xs.length≤C.size∧Du R xs 0 C)
 (hanc:∀ id,(H.get id).ancOf=[]) (hro:∀ c C,R.ro c=some C→(∃ t fz,w.heap[c]?=some (.cells C t fz))):Ck H R w:=by
 refine ⟨fun id c β h => ?_, fun id c β h => ?_, fun id c β id' β' h h' hne => ?_, fun id a ha => ?_, hwf, fun c C hc => ⟨hro c C hc, fun id β h => ?_⟩⟩
 ·obtain⟨rfl,rfl,xs,C,t,fz,h1,h2,_⟩:=hR id c β h
  exact⟨hwf.lt (by rw[h1];simp),(Array.getElem?_eq_some_iff.1 h2).1⟩
 ·obtain⟨rfl,rfl,xs,C,t,fz,h1,h2,h3,h4,h5⟩:=hR id c β h
  rw[h1]
  exact⟨C,t,fz,h2,h3,by omega,h5,fun e=>by cases e⟩
 ·exact absurd ((hR id c β h).1.trans (hR id' c β' h').1.symm) hne
 ·rw[hanc id] at ha;cases ha
 ·obtain⟨_,_,xs,C,t,fz,h1,_⟩:=hR id c β h
  rw[h1];rfl

noncomputable def M7 (xs:List Value):Aa:=(⟨0,.nil,false⟩:Aa).push (.cells xs true false [])
noncomputable def VH (n:Nat):Ren:=⟨fun i=>if i=0 then some (0,0) else none,fun _=>n,fun _=>none⟩

theorem kK {P:Program} {w:World} {name:String} {k:IntKind} {zs:List Int} (h:Lib.TabIs P w name k zs) (hg:P.globalNamed name=some 0) (hne:0 < zs.length) :
 ∃ n,Ck (M7 (zs.map fun z=>.int k z)) (VH n) w∧JH [0] (VH n):=by
 have h0:=h.cell hg 0 hne
 obtain⟨C,t,fz,hC⟩:∃ C t fz,w.heap[0]?=some (.cells C t fz):=by
  unfold World.cell? at h0
  split at h0
  ·rename_i c t fz hc;exact⟨c,t,fz,hc⟩
  ·cases h0
 have hcell:∀ i,i < zs.length→C[i]?=some (.int k (zs.getD i 0)):=fun i hi=>by
  have:=h.cell hg i hi
  unfold World.cell? at this
  rw[hC] at this
  simpa using this
 have hlen:zs.length≤C.size:=by
  have:=hcell (zs.length - 1) (by omega)
  have:=(Array.getElem?_eq_some_iff.1 this).1
  omega
 have hget:∀ i,(M7 (zs.map fun z=>.int k z)).get i=if 0=i then .cells (zs.map fun z=>.int k z) true false [] else .dead:=fun i=>by
  show (Aa.push ⟨0,.nil,false⟩ _).get i=_
  rw[Aa.get_push]
  rfl
 refine⟨C.size,bD (Aa.wf.push (fun id hid=>rfl) _) (fun id c β hid=>?_) (fun id=>?_) (fun c C h=>by cases h),fun g hg=>by simp at hg;subst hg;rfl⟩
 ·simp only[VH] at hid
  split at hid
  ·rename_i he;subst he
   injection hid with hid;injection hid with e1 e2;subst e1;subst e2
   refine⟨rfl,rfl,zs.map fun z=>.int k z,C,t,fz,by rw[hget,if_pos rfl],hC,rfl,by simpa using hlen,fun i x hx=>?_⟩
   rw[List.getElem?_map] at hx
   have hi:i < zs.length:=by
    cases hz:zs[i]? with
    | none=>rw[hz] at hx;cases hx
    | some z=>exact(List.getElem?_eq_some_iff.1 hz).1
   refine⟨.int k (zs.getD i 0),by rw[Nat.zero_add];exact hcell i hi,?_⟩
   simp[hi] at hx
   rw[←hx]
   simp[hi]
   exact .int k _
  ·cases hid
 ·rw[hget];split <;> rfl

end Go.Sp
namespace Go.Sp
open Go.ChangeShapes Go.WideShapes Go.ChangeAt Go.RowKit

theorem bE {H:Type} {enc:TypeId×Value→H} {P:Program} {f:Func} {s:ChangeSpec} {apart fresh handsOn again:Bool} {W W':World} {args:Array Value} {v:Value} {ds gs:List (DataW H)} {before pa pv:List MemPlace}
 (hW:DataW.Whole enc P f.params.toList s.vars apart W args.toList ds gs before)
 (hres:∀ (b:Nat) (sp:Nat→Bool) (hd:Bool),DataW.TrodAll enc P W' b sp hd f.resultTypes.toList (v.resultList f.resultTypes.size) (s.fn H (ds++gs)).results [])
 (hargs:∀ sp:Nat→Bool,(∀ p∈before,sp p.block=true)→DataW.TrodAll enc P W' 0 sp true f.params.toList args.toList (s.fn H (ds++gs)).args pa)
 (hvars:∀ sp:Nat→Bool,(∀ p∈before,sp p.block=true)→DataW.TrodVars enc P W' sp s.vars (s.fn H (ds++gs)).vars pv)
 (hps:before=pa++pv) (hg:J9 W W')
 (hok:∀ (j:Nat) (t:TypeId) (r:Value),f.resultTypes[j]?=some t→(v.resultList f.resultTypes.size)[j]?=some r→Value.okWide P W' .any 0 t r) :
 s.post enc P f apart fresh handsOn again W args v W':=by
 have hlt:=hW.lt
 have hold:∀ p∈before,(fun b=>decide (b < W.heap.size)) p.block=true:=fun p hp=>decide_eq_true (hlt p hp)
 have hkeep:W.keptBut W' (fun p=>p∈before∧p∈[]++pa++pv):=World.keptBut_mono (fun p hp=>hp.elim) hg.1
 subst hps
 have hW2:=hW
 obtain⟨_,_,_,_,_,hz,hn⟩:=hW2
 have hv0:=hvars (fun _=>true) (fun _ _=>rfl)
 have ha0:=hargs (fun _=>true) (fun _ _=>rfl)
 refine⟨ds,gs,pa++pv,[],pa,pv,hW,hres _ _ _,hargs _ hold,hvars _ hold,?_,fun _=>⟨hok,_,_,([]++pa)++pv,⟨[]++pa,pv,trodAll_append ha0 (hres _ _ _),hv0,rfl,fun b off hp=>?_,fun ha=>?_⟩,fun p hp _=>?_⟩⟩
 ·exact World.keptBut_mono (fun p hp=>by simpa using hp) hkeep
 ·have hp:MemPlace.cell b off∈pa++pv:=by simpa using hp
  rw[hg.2.1 _ (hlt _ hp)]
  exact hz b off hp
 ·simpa using hn ha
 ·simpa using hp

theorem Zg {H:Type} {enc:TypeId×Value→H} {P:Program} {f:Func} {s:ChangeSpec} {apart fresh handsOn again:Bool} {W W':World} {args:Array Value} {ds gs:List (DataW H)} {before pa pv:List MemPlace} {t:TypeId}
 (hW:DataW.Whole enc P f.params.toList s.vars apart W args.toList ds gs before)
 (hres:(s.fn H (ds++gs)).results=[.lit (.bool true)])
 (hargs:∀ sp:Nat→Bool,(∀ p∈before,sp p.block=true)→DataW.TrodAll enc P W' 0 sp true f.params.toList args.toList (s.fn H (ds++gs)).args pa)
 (hvars:∀ sp:Nat→Bool,(∀ p∈before,sp p.block=true)→DataW.TrodVars enc P W' sp s.vars (s.fn H (ds++gs)).vars pv)
 (hps:before=pa++pv) (hg:J9 W W') (hr:f.resultTypes = #[t]) (ht:P.underlying t=some .bool) :
 s.post enc P f apart fresh handsOn again W args (.bool true) W':=
 bE (pa:=pa) (pv:=pv) hW (fun _ _ _=>by rw[hr,hres];exact trodAll_cons_mk (shut_bool ht _) trodAll_mk0) hargs hvars hps hg (ok_one hr rfl (okWide_bool_mk ht _))

end Go.Sp
namespace Go.Sp
open Go.ChangeShapes Go.WideShapes Go.ChangeAt Go.RowKit

theorem XI {P:Program} {w:World} {R:Ren} (K:Kids P (· < P.types.size)) (hz:∀ t e,t < P.types.size→P.underlying t=some (.slice e)→0 < P.cellsOf e) (hR:R.ro=Hq w) {H:Type} {enc:TypeId×Value→H} {held:Bool} :
 ∀ (m n : Nat) (t : TypeId) (cs : List Value) (x : DataW H × List MemPlace), t < P.types.size → Io P m t = true → DataW.trod enc P w 0 (fun _ => true) held n t cs = some x →
  ∃ xs,Cf R xs cs∧(∀ y∈xs,Ah y=true)∧M5 P t xs:=by
 intro m
 induction m with
 | zero=>intro n t cs x _ h;cases h
 | succ m ih =>
  intro n t cs x ht hp h
  unfold Io at hp
  cases hu:P.underlying t with
  | none=>rw[hu] at hp;cases hp
  | some d =>
   rw[hu] at hp
   cases d <;> simp only at hp <;> first | (cases hp;done) | skip
   case bool=>
    obtain⟨b,rfl,_⟩:=DataW.trod_bool hu h
    exact⟨[.bool b],.one (.bool b),by simp[Ah,vv],.bool hu b⟩
   case int k=>
    obtain⟨z,rfl,_,hw⟩:=DataW.trod_int hu h
    exact⟨[.int k z],.one (.int k z),by simp[Ah,vv],.int hu z hw⟩
   case slice e=>
    have he:=K.slice ht hu
    have hpos:=hz t e ht hu
    rcases DataW.trod_slice hu h with⟨rfl,_⟩ | ⟨a,ln,cap,elems,rest,n',_,rfl,_,_,hlc,hcm,hel,h1,h2,_⟩
    ·exact⟨[FP (P.cellsOf e) 0 0 []],.one (.fsN _ 0 (by decide)),by intro y hy;simp at hy;subst hy;rfl,.slice hu [] (by simp) (by simp)⟩
    ·obtain⟨h2,h3⟩:=h2 rfl
     have cellOf:∀ (i:Nat) (ci:List Value),w.cells? 0 (a.add (i*P.cellsOf e)) (P.cellsOf e)=some ci→ci.length=P.cellsOf e∧∀ j,j < P.cellsOf e→w.cell? ((a.add (i*P.cellsOf e)).add j)=ci[j]?:=fun i ci hc=>by
      unfold World.cells? at hc
      rw[if_pos (Nat.zero_le _)] at hc
      have hl:=mapM_some_length hc
      refine⟨by simpa using hl,fun j hj=>?_⟩
      exact mapM_some_get hc j j (by simp[hj])
     -- the elements
     obtain⟨ls,hlen,hls⟩:=Gh (p:=fun i (l:List Value)=>∃ ci,w.cells? 0 (a.add (i*P.cellsOf e)) (P.cellsOf e)=some ci∧Cf R l ci∧(∀ y∈l,Ah y=true)∧M5 P e l) ln fun i hi=>by
      have h9:=h1 i hi
      have hlt:i < elems.length:=by omega
      rw[List.getElem?_eq_getElem hlt] at h9
      obtain⟨ci,hc,ht9⟩:=Option.bind_eq_some_iff.1 h9
      obtain⟨l,k1,k2,k3⟩:=ih n' e ci _ he hp ht9
      exact⟨l,ci,hc,k1,k2,k3⟩
     have hsz:∀ l∈ls,l.length=P.cellsOf e:=fun l hl=>by
      obtain⟨i,hi⟩:=List.mem_iff_getElem?.1 hl
      obtain⟨ci,hc,hv,_⟩:=hls i l hi
      rw[hv.1];exact(cellOf i ci hc).1
     have hcl:∀ y∈ls.flatten,Ah y=true:=fun y hy=>by
      obtain⟨l,hl,hy⟩:=FI hy
      obtain⟨i,hi⟩:=List.mem_iff_getElem?.1 hl
      obtain⟨ci,_,_,hc,_⟩:=hls i l hi
      exact hc y hy
     have hsh:∀ l∈ls,M5 P e l:=fun l hl=>by
      obtain⟨i,hi⟩:=List.mem_iff_getElem?.1 hl
      obtain⟨ci,_,_,_,hs⟩:=hls i l hi
      exact hs
     refine⟨[FP (P.cellsOf e) ls.length 0 ls.flatten],?_,by intro y hy;simp at hy;subst hy;rfl,.slice hu ls (by omega) hsh⟩
     obtain⟨hfl,hfg⟩:=TH hsz
     by_cases hcap:cap=0
     ·have:ln=0:=by omega
      subst hcap;subst this
      have:ls=[]:=List.eq_nil_of_length_eq_zero hlen
      subst this
      obtain⟨c,o,s⟩:=a
      exact .one (.fsE (by decide))
     ·-- there is a cell: the block is known
      have first:∃ ci,w.cells? 0 (a.add (0*P.cellsOf e)) (P.cellsOf e)=some ci:=by
       by_cases hl0:ln=0
       ·have h9:=h3 0 (by omega)
        rw[List.getElem?_eq_getElem (by omega)] at h9
        obtain⟨ci,hc,_⟩:=Option.bind_eq_some_iff.1 h9
        rw[hl0] at hc
        exact⟨ci,hc⟩
       ·have h9:=h1 0 (by omega)
        rw[List.getElem?_eq_getElem (by omega)] at h9
        obtain⟨ci,hc,_⟩:=Option.bind_eq_some_iff.1 h9
        exact⟨ci,hc⟩
      obtain⟨ci,hci⟩:=first
      obtain⟨k1,k2⟩:=cellOf 0 ci hci
      have hc0:=k2 0 hpos
      rw[List.getElem?_eq_getElem (by omega)] at hc0
      simp only[Nat.zero_mul] at hc0
      have hsp:=World.cell?_spot hc0
      obtain⟨c,o,s⟩:=a
      simp[Addr.add] at hsp
      subst hsp
      have hblock:∃ C ty fz,w.heap[c]?=some (.cells C ty fz):=by
       unfold World.cell? at hc0
       simp only[Addr.add,if_true] at hc0
       split at hc0
       ·rename_i C ty fz hC;exact⟨C,ty,fz,hC⟩
       ·cases hc0
      obtain⟨C,ty,fz,hC⟩:=hblock
      have cellC:∀ (i j:Nat) (ci:List Value),w.cells? 0 ((⟨c,o,none⟩:Addr).add (i*P.cellsOf e)) (P.cellsOf e)=some ci→j < P.cellsOf e→C[o+(i*P.cellsOf e+j)]?=ci[j]?:=fun i j ci hc hj=>by
       have h9:=(cellOf i ci hc).2 j hj
       rw[add_plain,add_plain] at h9
       unfold World.cell? at h9
       simp only[hC] at h9
       rw[←h9,Nat.add_assoc];rfl
      have hro:R.ro c=some C:=by rw[hR];simp[Hq,hC]
      -- the row
      have row:∀ q,q < ls.flatten.length→∃ y,C[o+q]?=some y∧VR R (ls.flatten[q]?.getD undef) y:=fun q hq=>by
       rw[hfl] at hq
       have hd:=Nat.div_add_mod q (P.cellsOf e)
       have hm:=Nat.mod_lt q hpos
       have hi:q / P.cellsOf e < ls.length:=(Nat.div_lt_iff_lt_mul hpos).2 hq
       have hq':q=q / P.cellsOf e*P.cellsOf e+q % P.cellsOf e:=by rw[Nat.mul_comm];exact hd.symm
       obtain⟨l,hl⟩:∃ l,ls[q / P.cellsOf e]?=some l:=⟨_,List.getElem?_eq_getElem hi⟩
       obtain⟨ci,hc,hv,_⟩:=hls _ l hl
       have hcl:=(cellOf _ ci hc).1
       refine ⟨ci[q % P.cellsOf e]'(by omega), ?_, ?_⟩
       ·have:=cellC _ _ ci hc hm
        rw[←hq'] at this
        rw[this,List.getElem?_eq_getElem (by omega)]
       ·have h9:=hfg _ _ hm hi
        rw[←hq',hl] at h9
        simp only[Option.bind_some] at h9
        rw[h9,List.getElem?_eq_getElem (by rw[hv.1];omega)]
        exact hv.2 _ _ _ (List.getElem?_eq_getElem (by rw[hv.1];omega)) (List.getElem?_eq_getElem (by omega))
      have hfit:o+ls.flatten.length≤C.size:=by
       by_cases h0:ls.flatten.length=0
       ·rw[h0]
        have h9:=cellC 0 0 ci hci hpos
        rw[List.getElem?_eq_getElem (by omega)] at h9
        have:=(Array.getElem?_eq_some_iff.1 h9).1
        omega
       ·obtain⟨y,hy,_⟩:=row (ls.flatten.length - 1) (by omega)
        have:=(Array.getElem?_eq_some_iff.1 hy).1
        omega
      obtain⟨ys,hyl,hys⟩:=Gh (p:=fun q y=>C[o+q]?=some y∧VR R (ls.flatten[q]?.getD undef) y) ls.flatten.length row
      refine .one ?_
      have:ln=ls.length:=hlen.symm
      subst this
      refine .fs hro hfl hlc (fun h=>by cases h) (by decide) hfit (fun i y hy=>(hys i y hy).1) hcl hyl.symm fun i x y hx hy=>?_
      have:=(hys i y hy).2
      rw[hx] at this
      exact this
   case array len e=>
    obtain⟨he,hce⟩:=K.array ht hu
    obtain⟨xs,n',_,_,hcl,hxl,hget⟩:=DataW.trod_array hu h
    obtain⟨ls,hlen,hls⟩:=Gh (p:=fun i (l:List Value)=>Cf R l ((cs.drop (i*P.cellsOf e)).take (P.cellsOf e))∧(∀ y∈l,Ah y=true)∧M5 P e l) len fun i hi=>by
     have h9:=hget i hi
     rw[List.getElem?_eq_getElem (by omega)] at h9
     obtain⟨l,k1,k2,k3⟩:=ih n' e _ _ he hp h9
     exact⟨l,k1,k2,k3⟩
    have hmem:∀ l∈ls,(∀ y∈l,Ah y=true)∧M5 P e l:=fun l hl=>by
     obtain⟨i,hi⟩:=List.mem_iff_getElem?.1 hl
     exact(hls i l hi).2
    refine⟨ls.flatten,pieces (szs:=List.replicate len (P.cellsOf e)) (by simp[hlen]) (by simp[hcl,hce]) fun i l hl=>?_,fun y hy=>?_,.array hu ls hlen fun l hl=>(hmem l hl).2⟩
    ·have hi:i < len:=by rw[←hlen];exact(List.getElem?_eq_some_iff.1 hl).1
     have h9:=(hls i l hl).1
     have e1:((List.replicate len (P.cellsOf e)).take i).sum=i*P.cellsOf e:=by rw[List.take_replicate,Nat.min_eq_left (by omega)];simp
     have e2:(List.replicate len (P.cellsOf e)).getD i 0=P.cellsOf e:=by simp[hi]
     rw[e1,e2];exact h9
    ·obtain⟨l,hl,hy⟩:=FI hy
     exact(hmem l hl).1 y hy
   case struct fs=>
    obtain⟨hk,hsum,hoff⟩:=K.struct ht hu
    obtain⟨xs,n',_,_,hcl,hxl,hget⟩:=DataW.trod_struct hu h
    rw[List.all_eq_true] at hp
    obtain⟨ls,hlen,hls⟩:=Gh (p:=fun i (l:List Value)=>∀ f,fs[i]?=some f→Cf R l ((cs.drop f.offset).take (P.cellsOf f.type))∧(∀ y∈l,Ah y=true)∧M5 P f.type l) fs.size fun i hi=>by
     have hf:=Array.getElem?_eq_getElem hi
     have h9:=hget i _ hf
     rw[List.getElem?_eq_getElem (by omega)] at h9
     have hmem:fs[i]∈fs.toList:=by simp
     obtain⟨l,k1,k2,k3⟩:=ih n' _ _ _ (hk _ hmem) (hp _ hmem) h9
     exact⟨l,fun f hf'=>by rw[hf] at hf';injection hf' with hf';subst hf';exact⟨k1,k2,k3⟩⟩
    refine⟨ls.flatten,pieces (szs:=fs.toList.map fun f=>P.cellsOf f.type) (by simp[hlen]) (by rw[hcl,hsum]) fun i l hl=>?_,fun y hy=>?_,.struct hu ls hlen fun i f l hf hl=>((hls i l hl) f hf).2.2⟩
    ·have hi:i < fs.size:=by rw[←hlen];exact(List.getElem?_eq_some_iff.1 hl).1
     have hf:=Array.getElem?_eq_getElem hi
     have h9:=((hls i l hl) _ hf).1
     rw[hoff i fs[i] (by simp)] at h9
     have e2:(fs.toList.map fun f=>P.cellsOf f.type).getD i 0=P.cellsOf fs[i].type:=by simp[hi]
     rw[e2,←List.map_take];exact h9
    ·obtain⟨l,hl,hy⟩:=FI hy
     obtain⟨i,hi⟩:=List.mem_iff_getElem?.1 hl
     have hlt:i < fs.size:=by rw[←hlen];exact(List.getElem?_eq_some_iff.1 hi).1
     exact((hls i l hi) _ (Array.getElem?_eq_getElem hlt)).2.1 y hy

theorem Ck.congr {H H2:Aa} {R:Ren} {w:World} (hg:∀ i,H2.get i=H.get i) (hn:H2.next=H.next) (hs:Ck H R w):Ck H2 R w:=
 ⟨fun id c β h => by rw [hn]; exact hs.dom id c β h, fun id c β h => by rw [hg]; exact hs.obj id c β h, fun id c β id' β' h h' hne hw => by rw [hg] at hw; rw [hg, hg]; exact hs.sep id c β id' β' h h' hne hw,
   fun id a ha=>by rw[hg] at ha;rw[hn,hg];exact hs.anc id a ha,fun id hid=>by rw[hn] at hid;rw[hg];exact hs.wf id hid,fun c C h=>⟨(hs.ro c C h).1,fun id β h'=>by rw[hg];exact(hs.ro c C h).2 id β h'⟩⟩
theorem Ba.congrL {H H2 H':Aa} {R R':Ren} {w w':World} (hg:∀ i,H2.get i=H.get i) (hn:H2.next=H.next) (hp:Ba H R w H' R' w'):Ba H2 R w H' R' w':=
 ⟨hp.le, fun id p h => by rw [hn]; exact hp.new id p h, hp.sim, by rw [hn]; exact hp.next, hp.grow, fun c hc h => hp.frame c hc fun id β hid => by rw [← hg]; exact h id β hid, fun id hi hr Q c β ob h => by rw [hn] at hi; rw [hg] at h; exact hp.calm id hi hr Q c β ob h,
   fun id hi h=>by rw[hn] at hi;rw[hg] at h ⊢;exact hp.imm id hi h,fun id c β h hr=>by rcases hp.fresh id c β h hr with h1 | ⟨i,b,h1,h2⟩;exact .inl h1;exact .inr ⟨i,b,h1,by rw[hg];exact h2⟩,hp.side,
   fun c C h=>by rcases hp.rofresh c C h with h1 | h1 | ⟨i,b,h1,h2⟩;exact .inl h1;exact .inr (.inl h1);exact .inr (.inr ⟨i,b,h1,by rw[hg];exact h2⟩)⟩

theorem bF {P:Program} {xs:List Value} {g:FuncId} {f:List Value→Option Value} (hpu:BA P [xs] g f) {args args':List Value} {W:World} {R:Ren} (hm:f args=some (.bool true)) (hcl:∀ x∈args,closed2 x=true)
 (hR:R.f=fun i=>if i < 1 then some (i,0) else none) (hs:Ck (Ao [xs]) R W) (ha:Cf R args args'):Calls P g ⟨args'⟩ W fun e W'=>e = .returned (.bool true)∧J9 W W':=
 (hpu.2 args _ hm hcl R W args' hR hs ha).mono fun e W' ⟨u, H', R', he, _, hu, hp⟩ => by
   rw[hu.bool_l] at he
   exact⟨he,grown_of hp fun id p h=>by rw[hR] at h;obtain⟨h1,_⟩:=Jr (show (if id < 1 then some (id,0) else none)=some (p.1,p.2) from h);exact FV h1⟩

theorem start {P:Program} {w:World} {name:String} {k:IntKind} {zs:List Int} (h:Lib.TabIs P w name k zs) (hg:P.globalNamed name=some 0) (hne:0 < zs.length) :
 ∃ R:Ren,R.f=(fun i=>if i < 1 then some (i,0) else none)∧R.ro=Hq w∧Ck (Ao [zs.map fun z=>.int k z]) R w:=by
 obtain⟨n,hs,hgl⟩:=kK h hg hne
 have := KE (tabs := [zs.map fun z => .int k z]) hs (by intro g hg; exact hgl g (by simpa using hg)) (by
  show an (isS (Bv ((M7 (zs.map fun z=>Value.int k z)).get 0))) (an (FE (Ei (M7 (zs.map fun z=>.int k z)) 0) (zs.map fun z=>.int k z)) true)=true
  have e0:isS (Bv ((M7 (zs.map fun z=>Value.int k z)).get 0))=true:=by
   show isS (Bv ((Aa.push ⟨0,.nil,false⟩ _).get 0))=true
   rw[Aa.get_push];rfl
  rw[e0]
  have e:Ei (M7 (zs.map fun z=>Value.int k z)) 0=zs.map fun z=>.int k z:=by
   unfold Ei
   show oo (Bv ((Aa.push ⟨0,.nil,false⟩ _).get 0)) _ _=_
   rw[Aa.get_push];rfl
  rw[e]
  have:∀ l:List Int,FE (l.map fun z=>Value.int k z) (l.map fun z=>.int k z)=true:=fun l=>by
   induction l with
   | nil=>rfl
   | cons z l ih =>
    show an (an (De k k) (Bd z z)) (FE (l.map fun z=>Value.int k z) (l.map fun z=>.int k z))=true
    rw[ih]
    have h1:De k k=true:=by cases k <;> rfl
    have h2:Bd z z=true:=by cases z <;> simp[Bd,ii]
    rw[h1,h2];rfl
  rw[this];rfl) (Hq w) (TF w) (N8 hs) (fun _ _=>rfl) (by intro t ht x hx;simp at ht;subst ht;simp at hx;obtain⟨z,_,rfl⟩:=hx;rfl)
 exact⟨_,rfl,rfl,this⟩

theorem VI {W W':World} (h:J9 W W') {p:MemPlace} (hp:p.block < W.heap.size):W.sameAt W' p:=by
 have hk:=h.1.2.2 p.block hp
 cases p with
 | cell b off =>
  show W'.cell? ⟨b,off,none⟩=W.cell? ⟨b,off,none⟩
  unfold World.cell?
  simp only
  show _=_
  have hk:match W.heap[b]?,W'.heap[b]? with
   | some (.cells c t fr),some (.cells c' t' fr')=>t'=t∧fr'=fr∧c'.size=c.size∧∀ j:Nat,¬ False→c'[j]?=c[j]?
   | some (.map es clock),some (.map es' clock')=>False∨(es'=es∧clock'=clock)
   | o,o'=>o'=o:=hk
  split at hk
  ·rename_i e1 e2;rw[e1,e2];simp[hk.2.2.2 off (fun h=>h)]
  ·rename_i e1 e2;rw[e1,e2]
  ·rw[hk]
 | map b =>
  show W'.heap[b]?=W.heap[b]?
  have hk:match W.heap[b]?,W'.heap[b]? with
   | some (.cells c t fr),some (.cells c' t' fr')=>t'=t∧fr'=fr∧c'.size=c.size∧∀ j:Nat,¬ False→c'[j]?=c[j]?
   | some (.map es clock),some (.map es' clock')=>False∨(es'=es∧clock'=clock)
   | o,o'=>o'=o:=hk
  split at hk
  ·rename_i e1 e2
   rw[e1,e2]
   obtain⟨rfl,rfl,h1,h2⟩:=hk
   congr 2
   exact Array.ext_getElem? fun j=>h2 j (fun h=>h)
  ·rename_i e1 e2
   rw[e1,e2]
   rcases hk with h9 | ⟨rfl,rfl⟩
   ·exact h9.elim
   ·rfl
  ·exact hk

theorem JM {H:Type} {enc:TypeId×Value→H} {P:Program} {w w':World} {base:Nat} {spare:Nat→Bool} {held:Bool}:∀ {ts:List TypeId} {vs:List Value} {ds:List (DataW H)} {ps:List MemPlace},
 DataW.TrodAll enc P w base spare held ts vs ds ps→(∀ p∈ps,w.sameAt w' p)→DataW.TrodAll enc P w' base spare held ts vs ds ps
 | [],[],[],_,h,_=>h
 | _::_,_::_,_::_,_,⟨p,q,⟨n,h1⟩,h2,e⟩,hs=>⟨p,q,⟨n,DataW.trod_carry n _ _ _ h1 fun x hx=>hs x (by rw[e];exact List.mem_append_left _ hx)⟩,JM h2 fun x hx=>hs x (by rw[e];exact List.mem_append_right _ hx),e⟩

theorem VJ {H:Type} {enc:TypeId×Value→H} {P:Program} {f:Func} {s:ChangeSpec} {W:World} {args:Array Value} {ds gs:List (DataW H)} {before:List MemPlace} {t:TypeId} {fid:FuncId} (K:Kids P (· < P.types.size))
 (hz:∀ t e,t < P.types.size→P.underlying t=some (.slice e)→0 < P.cellsOf e) (hp:∀ t∈f.params.toList,t < P.types.size)
 (hW:DataW.Whole enc P f.params.toList s.vars false W args.toList ds gs before) (hsv:s.vars=[])
 (hfn:s.fn H ds = { results:=[.lit (.bool true)],args:=ds })
 (hr:f.resultTypes = #[t]) (ht:P.underlying t=some .bool)
 (walk:Calls P fid args W fun e W'=>e = .returned (.bool true)∧J9 W W') :
 Calls P fid args W fun e W'=>∃ v,e = .returned v∧s.post enc P f false true false false W args v W':=by
 have hW':=hW
 obtain⟨p,q,hA,hV,rfl,hfz,hnd⟩:=hW
 rw[hsv] at hV
 obtain⟨rfl,rfl⟩:=trodVars_none hV
 refine walk.mono fun e W' ⟨he,hg⟩=>?_
 subst he
 refine⟨_,rfl,Zg (pa:=p) (pv:=[]) hW' (by rw[List.append_nil,hfn]) (fun sp hsp=>?_) (fun _ _=>by rw[hsv,List.append_nil,hfn];rfl) rfl hg hr ht⟩
 rw[List.append_nil,hfn]
 exact JM (hA.respare K hz hp fun x hx=>hsp x (List.mem_append_left _ hx)) fun x hx=>VI hg (hW'.lt x (List.mem_append_left _ hx))
end Go.Sp
namespace Go.Sp
noncomputable section
abbrev I (n:Int):Value:=.int .i64 n
def sl (fl:Nat) (l:List Int):Sl:=⟨l.length,fl,l.map I⟩
def S (fl:Nat) (l:List Int):Value:=Sl.v 1 (sl fl l)
end
@[simp] theorem I4 (fl:Nat) (l:List Int):(sl fl l).n=l.length:=rfl
@[simp] theorem GX (fl:Nat) (l:List Int):(sl fl l).cs=l.map I:=rfl
@[simp] theorem EG {α β:Type} (z:β) (s:α→List α→β):ll [] z s=z:=rfl
@[simp] theorem Dj {α β:Type} (a:α) (r:List α) (z:β) (s:α→List α→β):ll (a::r) z s=s a r:=rfl
@[simp] theorem BP (n:Int):Bi .i64 (.int .i64 n)=some n:=rfl
@[simp] theorem Ab7 (n:Int):Bi .u16 (.int .u16 n)=some n:=rfl
@[simp] theorem Aik (n:Int):Bi .u8 (.int .u8 n)=some n:=rfl
@[simp] theorem Dc (s:Sl):Bj 1 (s.v 1)=some s:=rfl
@[simp] theorem RL (l:List Value):Bt (.agg ⟨l⟩)=some l:=rfl
@[simp] theorem FW (l:List Value):CQ (.tuple ⟨l⟩)=some l:=rfl
@[simp] theorem BU (b:Bool):Bf (.bool b)=some b:=rfl
@[simp] theorem Cx (n:Nat):EA (Int.ofNat n)=some n:=rfl
@[simp] theorem Aj1:EA 0=some 0:=rfl
theorem blt_eq (a b:Nat):Nat.blt a b=decide (a < b):=by
 rw[Bool.eq_iff_iff,decide_eq_true_iff,Nat.blt_eq]
theorem ble_eq (a b:Nat):Nat.ble a b=decide (a≤b):=by
 rw[Bool.eq_iff_iff,decide_eq_true_iff,Nat.ble_eq]
theorem Oe (n:Int) (h1:-9223372036854775808≤n) (h2:n≤9223372036854775807):Aj .i64 n=n:=by rw[IM];exact IntWalk.i64_in _ ⟨h1,h2⟩
theorem DC (i:Nat) (h:i < 1000000):Aj .i64 (Int.add (Int.ofNat i) 1)=Int.ofNat (i+1):=by
 show Aj .i64 (Int.ofNat i+1)=_
 rw[Oe _ (by simp;omega) (by simp;omega)];simp
theorem kL (l:List Int):(l.map I).all Ah=true:=by
 rw[List.all_eq_true];intro x hx;simp at hx;obtain⟨z,_,rfl⟩:=hx;rfl
theorem Aja (l:List Int) (i:Nat) (h:i < l.length):(l.map I)[i]?=some (I l[i]):=by simp[h]
end Go.Sp
namespace Go.Sp
open Go.ChangeShapes Go.WideShapes Go.ChangeAt Go.RowKit

section
variable {H:Type} {enc:TypeId×Value→H} {P:Program} {W:World} {R:Ren} {held:Bool} {v:Value} {d:DataW H} {ps:List MemPlace} {t:TypeId} {base:Nat} {r:Reach}

theorem kM {k:IntKind} (ht:P.underlying t=some (.int k)) (hok:Value.okWide P W r base t v):∃ n,v = .int k n∧(Lit.int k n).wf=true:=by
 unfold Value.okWide at hok
 rw[ht] at hok
 unfold Cell.okWide at hok
 rw[ht] at hok
 cases v <;> simp[Cell.ok,ht] at hok
 rename_i k' n
 obtain⟨rfl,h⟩:=hok
 refine⟨n,rfl,?_⟩
 simp only[Lit.wf,Bool.and_eq_true,decide_eq_true_eq]
 exact h
theorem VK {fs:Array Field} (ht:P.underlying t=some (.struct fs)) (hok:Value.okWide P W r base t v):∃ cs:List Value,v = .agg ⟨cs⟩:=by
 unfold Value.okWide at hok
 rw[ht] at hok
 obtain⟨⟨cs⟩,rfl,_⟩:=hok
 exact⟨cs,rfl⟩
theorem Zh {e:TypeId} {n:Nat} (ht:P.underlying t=some (.array n e)) (hok:Value.okWide P W r base t v):∃ cs:List Value,v = .agg ⟨cs⟩:=by
 unfold Value.okWide at hok
 rw[ht] at hok
 obtain⟨⟨cs⟩,rfl,_⟩:=hok
 exact⟨cs,rfl⟩
theorem Zi {e:TypeId} (ht:P.underlying t=some (.slice e)) (hok:Value.okWide P W r base t v):∃ a l c,v = .slice a l c:=by
 unfold Value.okWide at hok
 rw[ht] at hok
 unfold Cell.okWide at hok
 rw[ht] at hok
 cases v <;> simp[Cell.ok,ht] at hok
 exact⟨_,_,_,rfl⟩
end

def Dw (P:Program) (f:Func) (W:World) (base:Nat) (args:Array Value):Prop:=∀ (j:Nat) t v,f.params[j]?=some t→args[j]?=some v→Value.okWide P W .any base t v
section
variable {P:Program} {f:Func} {W:World} {base:Nat} {t0 t1 t2 t3:TypeId} {v0 v1 v2 v3:Value}
theorem Dw.one (h:Dw P f W base #[v0]) (hp:f.params = #[t0]):Value.okWide P W .any base t0 v0:=h 0 _ _ (by rw[hp];rfl) rfl
theorem Dw.two (h:Dw P f W base #[v0,v1]) (hp:f.params = #[t0,t1]):Value.okWide P W .any base t0 v0∧Value.okWide P W .any base t1 v1:=⟨h 0 _ _ (by rw[hp];rfl) rfl,h 1 _ _ (by rw[hp];rfl) rfl⟩
theorem Dw.three (h:Dw P f W base #[v0,v1,v2]) (hp:f.params = #[t0,t1,t2]):Value.okWide P W .any base t0 v0∧Value.okWide P W .any base t1 v1∧Value.okWide P W .any base t2 v2:=
 ⟨h 0 _ _ (by rw[hp];rfl) rfl,h 1 _ _ (by rw[hp];rfl) rfl,h 2 _ _ (by rw[hp];rfl) rfl⟩
end
section
variable {P:Program} {f:Func} {W:World} {base:Nat} {args:Array Value} {t:TypeId} {v:Value}
theorem Dw.int {k:IntKind} (h:Dw P f W base args) (j:Nat) (hp:f.params[j]?=some t) (hv:args[j]?=some v) (ht:P.underlying t=some (.int k)):∃ n,v = .int k n∧(Lit.int k n).wf=true:=kM ht (h j t v hp hv)
theorem Dw.struct {fs:Array Field} (h:Dw P f W base args) (j:Nat) (hp:f.params[j]?=some t) (hv:args[j]?=some v) (ht:P.underlying t=some (.struct fs)):∃ cs:List Value,v = .agg ⟨cs⟩:=VK ht (h j t v hp hv)
theorem Dw.array {e:TypeId} {n:Nat} (h:Dw P f W base args) (j:Nat) (hp:f.params[j]?=some t) (hv:args[j]?=some v) (ht:P.underlying t=some (.array n e)):∃ cs:List Value,v = .agg ⟨cs⟩:=Zh ht (h j t v hp hv)
theorem Dw.slice {e:TypeId} (h:Dw P f W base args) (j:Nat) (hp:f.params[j]?=some t) (hv:args[j]?=some v) (ht:P.underlying t=some (.slice e)):∃ a l c,v = .slice a l c:=Zi ht (h j t v hp hv)
end
theorem Zj {H:Type} {enc:TypeId×Value→H} {a:Assume} {C:Checked} {os:Os} {f:FuncId} {fn:Func} {s:OpenSpec} {F:Stop.Interp} {conds:List PathCond} {apart fresh handsOn again:Bool} {laid:List (String×DataW Unit)}
 (own:ownKnob C.prog.godebug=none) (started:os.Started) (noInit:C.prog.inits.idxOf? f=none) (hfn:C.prog.funcs[f]?=some fn)
 (witness : ∃ (w : World) (tape : Tape) (i : Input), w.os = os ∧ (w.forCall tape i).Shaped C.prog ∧ i.vars = [] ∧ Input.okWide C.prog (w.forCall tape i) .any w.heap.size f i ∧
   s.preRow enc C.prog fn conds apart laid (w.forCall tape i).memory i.args∧a.holds C.prog (lone (Frame.enter C.prog f i.args .normal) [] (w.forCall tape i)))
 (contract : ∀ (W : World) (base : Nat) (args : Array Value) (ds gs : List (DataW H)) (before : List MemPlace), Dw C.prog fn W base args →
   DataW.Whole enc C.prog fn.params.toList s.vars apart W args.toList ds gs before→laidMetH C.prog laid W →
   Calls C.prog f args W fun e W'=>∃ v,e = .returned v∧(s.at F).post enc C.prog fn apart fresh handsOn again W args v W') :
 ReturnsInHanded a C os f .any (s.preRow enc C.prog fn conds apart laid) ((s.at F).post enc C.prog fn apart fresh handsOn again):=
 returnsInHanded_of_row own started noInit hfn witness fun W base args ds gs before hval hW _ _ _ hL _ _=>contract W base args ds gs before hval hW hL

section
variable {P:Program} {t:TypeId} {xs:List Value}
theorem M5.int_inv {k:IntKind} (ht:P.underlying t=some (.int k)) (h:M5 P t xs):∃ n,xs=[.int k n]∧(Lit.int k n).wf=true:=by
 cases h with
 | int h n hw=>rw[ht] at h;injection h with h;injection h with h;subst h;exact⟨n,rfl,hw⟩
 | _ h=>rw[ht] at h;cases h
theorem M5.slice_inv {e:TypeId} (ht:P.underlying t=some (.slice e)) (h:M5 P t xs):∃ ls:List (List Value),ls.length≤maxLen∧(∀ l∈ls,M5 P e l)∧xs=[FP (P.cellsOf e) ls.length 0 ls.flatten]:=by
 cases h with
 | slice h ls hl hs=>rw[ht] at h;injection h with h;injection h with h;subst h;exact⟨ls,hl,hs,rfl⟩
 | _ h=>rw[ht] at h;cases h
theorem M5.struct_inv {fs:Array Field} (ht:P.underlying t=some (.struct fs)) (h:M5 P t xs):∃ ls:List (List Value),ls.length=fs.size∧xs=ls.flatten∧∀ (i:Nat) (f:Field) (l:List Value),fs[i]?=some f→ls[i]?=some l→M5 P f.type l:=by
 cases h with
 | struct h ls hl hs=>rw[ht] at h;injection h with h;injection h with h;subst h;exact⟨ls,hl,rfl,hs⟩
 | _ h=>rw[ht] at h;cases h
theorem M5.ints {e:TypeId} (ht:P.underlying t=some (.slice e)) (he:P.underlying e=some (.int .i64)) (hc:P.cellsOf e=1) (h:M5 P t xs):∃ l:List Int,xs=[S 0 l]∧l.length≤maxLen∧∀ z∈l,(Lit.int .i64 z).wf=true:=by
 obtain⟨ls,hl,hs,rfl⟩:=h.slice_inv ht
 have:∃ l:List Int,l.length=ls.length∧ls.flatten=l.map I∧∀ z∈l,(Lit.int .i64 z).wf=true:=by
  clear hl h
  induction ls with
  | nil=>exact⟨[],rfl,rfl,by simp⟩
  | cons m ls ih =>
   obtain⟨l,h1,h2,h3⟩:=ih fun l hl=>hs l (by simp[hl])
   obtain⟨n,rfl,hw⟩:=(hs m (by simp)).int_inv he
   exact⟨n::l,by simp[h1],by simp[h2],by intro z hz;simp at hz;rcases hz with rfl | hz;exact hw;exact h3 z hz⟩
 obtain⟨l,h1,h2,h3⟩:=this
 refine⟨l,?_,by omega,h3⟩
 rw[hc,h2,←h1];rfl
end
end Go.Sp
namespace Go.Sp
section
variable {P:Program} {t:TypeId} {xs:List Value}
end
end Go.Sp
namespace Go.Sp
noncomputable section
def Mw (tabs:List (List Value)) (isP:FuncId→Bool) (pu:Af) (inl:A8) (tt:TT) (K7:FuncId→Option Xq) (n:Nat):A8:=
 Nat.rec (motive := fun _ => A8) (fun _ _ _ => none)
  (fun m ih f args H=>oo (Bb tabs isP pu inl f args H) (oo (K7 f) none fun fn=>bb (Nat.ble (len args) fn.n) (Xr tt fn.results (MZ tt ih m fn.body (Fr.made fn.n args) H)) none) fun r=>some r) n
def KF (tabs:List (List Value)):Aa:=⟨len tabs,JJ (KD tabs) 0 .nil,false⟩
def kN (k:Nat) (r:Option (Value×Aa)):Option Value:=oo r none fun p=>pp p fun q H1=>oo (Cq k false q H1) none fun p2=>pp p2 fun v' _=>some v'
def kP (r:Option (Value×Aa)):Option Value:=oo r none fun p=>pp p fun q _=>some q
end
section
variable {P:Program} {tt:TT} {tabs:List (List Value)}
theorem TL (hT:Jm P tt) (hne:∀ t∈tabs,t=t) (hpl:∀ t∈tabs,∀ x∈t,BR x=true) {K7:FuncId→Option Xq} (hf:∀ f r,K7 f=some r→Ar P (List.range tabs.length) f r) (hm:P.follows .mixedOrders=true)
 {isP:FuncId→Bool} {pu:Af} {inl:A8} (hpu:∀ g,isP g=true→BA P tabs g (pu g)) (hinl:CO P (List.range tabs.length) inl) (n:Nat):CO P (List.range tabs.length) (Mw tabs isP pu inl tt K7 n):=by
 induction n with
 | zero=>intro g args H v H' h;cases h
 | succ n ih =>
  intro g args H v H' h
  have h:oo (Bb tabs isP pu inl g args H) (aY tt K7 (Mw tabs isP pu inl tt K7 n) n g args H) (fun r=>some r)=some (v,H'):=h
  cases hc:Bb tabs isP pu inl g args H with
  | some r =>
   rw[hc,Ac] at h
   injection h with h;subst h
   exact TG hne hpl hinl hpu g args H v H' hc
  | none =>
   rw[hc,Az] at h
   exact Qd hT hf hm ih n g args H v H' h
theorem RN (i:Nat):(KF tabs).get i=(Ao tabs).get i:=by
 unfold KF Ao
 rw[Aa.get_mk,Aa.get_mk]
theorem I5 (hT:Jm P tt) (hne:∀ t∈tabs,t=t) (hpl:∀ t∈tabs,∀ x∈t,BR x=true) {K7:FuncId→Option Xq} (hf:∀ f r,K7 f=some r→Ar P (List.range tabs.length) f r) (hm:P.follows .mixedOrders=true)
 {isP:FuncId→Bool} {pu:Af} {inl:A8} (hpu:∀ g,isP g=true→BA P tabs g (pu g)) (hinl:CO P (List.range tabs.length) inl) {g n:Nat} {H:Aa} (hH:∀ i,H.get i=(Ao tabs).get i) (hHn:H.next=(Ao tabs).next) {f:List Value→Option Value}
 (hen:∀ (as:Array Value) (w:World),(callFunc g as).run P w = .ok (.enter g as) w)
 (hrun:∀ args v,f args=some v→Fe v=true∧(kP (Mw tabs isP pu inl tt K7 n g args H)=some v∨kN tabs.length (Mw tabs isP pu inl tt K7 n g args H)=some v)):BA P tabs g f:=by
 refine⟨hen,fun args v hv _ R w args' hR hs ha=>?_⟩
 obtain⟨hcv,hr⟩:=hrun args v hv
 have hs':Ck H R w:=hs.congr hH hHn
 have hgl:JH (List.range tabs.length) R:=fun g hg=>by rw[hR];simp at hg;simp[hg]
 rcases hr with hr | hr
 ·obtain⟨q,hq,h1⟩:=Ab (show oo (Mw tabs isP pu inl tt K7 n g args H) none (fun p=>pp p fun q _=>some q)=some v from hr)
  rw[Bg] at h1
  injection h1 with h1
  have hok:=(TL hT hne hpl hf hm hpu hinl n) g args H q.1 q.2 hq
  refine(hok.2 R w args' hs' hgl ha).mono fun e w' ⟨u,R',he,hu,hp⟩=>?_
  rw[h1] at hu
  exact⟨u,q.2,R',he,hcv,hu,Ba.congrL (fun i=>(hH i).symm) hHn.symm hp⟩
 ·obtain⟨q,hq,h1⟩:=Ab (show oo (Mw tabs isP pu inl tt K7 n g args H) none (fun p=>pp p fun q H1=>oo (Cq tabs.length false q H1) none fun p2=>pp p2 fun v' _=>some v')=some v from hr)
  rw[Bg] at h1
  obtain⟨p2,hp2,h2⟩:=Ab h1
  rw[Bg] at h2
  injection h2 with h2
  have hok:=(TL hT hne hpl hf hm hpu hinl n) g args H q.1 q.2 hq
  refine(hok.2 R w args' hs' hgl ha).mono fun e w' ⟨u,R',he,hu,hp⟩=>?_
  have hn:H.next≤tabs.length:=by rw[hHn];show len tabs≤_;rw[AV];exact Nat.le_refl _
  have hp2':Cq tabs.length false q.1 q.2=some (p2.1,p2.2):=hp2
  obtain⟨R2,_,_,k2,k3⟩:=Gg hp2' hs' hn hp hu
  rw[h2] at k3
  exact⟨u,p2.2,R2,he,hcv,k3,Ba.congrL (fun i=>(hH i).symm) hHn.symm k2⟩

end
end Go.Sp
