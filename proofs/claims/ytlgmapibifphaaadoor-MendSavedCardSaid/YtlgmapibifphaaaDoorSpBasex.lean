import Derived.WalkKit
namespace Go.Sp
noncomputable section
def bb {β:Type} (c:Bool) (t e:β):β:=Bool.rec (motive:=λ_=>β) e t c
def oo {α β:Type} (o:Option α) (n:β) (s:α→β):β:=Option.rec (motive:=λ_=>β) n s o
def pp {α β γ:Type} (p:α×β) (k:α→β→γ):γ:=Prod.rec (motive:=λ_=>γ) k p
def nn {β:Type} (n:Nat) (z:β) (s:Nat→β):β:=Nat.rec (motive:=λ_=>β) z (λm _=>s m) n
def ii {β:Type} (n:Int) (p:Nat→β) (q:Nat→β):β:=Int.rec (motive:=λ_=>β) p q n
def ll {α β:Type} (l:List α) (z:β) (s:α→List α→β):β:=List.rec (motive:=λ_=>β) z (λa r _=>s a r) l
def an (a b:Bool):Bool:=Bool.rec (motive:=λ_=>Bool) false b a
def nt (a:Bool):Bool:=Bool.rec (motive:=λ_=>Bool) true false a
def Dp (a b:Bool):Bool:=Bool.rec (motive:=λ_=>Bool) b true a
def bq (a b:Bool):Bool:=Bool.rec (motive:=λ_=>Bool) (nt b) b a
def isS {α:Type} (o:Option α):Bool:=Option.rec (motive:=λ_=>Bool) false (λ_=>true) o
def len {α:Type} (l:List α):Nat:=List.rec (motive:=λ_=>Nat) 0 (λ_ _ n=>Nat.succ n) l
def AP {α β:Type} (f:α→β) (l:List α):List β:=List.rec (motive:=λ_=>List β) [] (λa _ r=>f a::r) l
def Au {α:Type} (p:α→Bool) (l:List α):Bool:=List.rec (motive:=λ_=>Bool) true (λa _ r=>an (p a) r) l
def Br {α:Type} (l m:List α):List α:=List.rec (motive:=λ_=>List α) m (λa _ r=>a::r) l
def Am {α:Type} (n:Nat):List α→List α:=
 Nat.rec (motive:=λ_=>List α→List α) (λl=>l) (λ_ ih l=>ll l [] λ_ r=>ih r) n
def Aq {α:Type} (n:Nat):List α→List α:=
 Nat.rec (motive:=λ_=>List α→List α) (λ_=>[]) (λ_ ih l=>ll l [] λa r=>a::ih r) n
def AL {α:Type} (l:List α):Nat→Option α:=
 List.rec (motive:=λ_=>Nat→Option α) (λ_=>none) (λa _ ih i=>nn i (some a) ih) l
def BM {α:Type} (ys:List α) (i:Nat):List α→List α:=
 Nat.rec (motive:=λ_=>List α→List α) (λxs=>Br ys (Am (len ys) xs)) (λ_ ih xs=>ll xs [] λx r=>x::ih r) i
def SS {α:Type} (f:α→α) (i:Nat):List α→List α:=
 Nat.rec (motive:=λ_=>List α→List α) (λl=>ll l [] λa r=>f a::r) (λ_ ih l=>ll l [] λa r=>a::ih r) i
def qD {α:Type} (i:Nat):List α→List α:=
 Nat.rec (motive:=λ_=>List α→List α) (λl=>ll l [] λ_ r=>r) (λ_ ih l=>ll l [] λa r=>a::ih r) i
inductive Tr (α:Type) where
 | nil
 | node (v:Option α) (l r:Tr α)
def Tr.get {α:Type} (t:Tr α):Nat→Option α:=
 Tr.rec (motive := fun _ => Nat → Option α) (fun _ => none)
  (fun v _ _ gl gr i => Nat.rec (motive := fun _ => Option α) v
    (λj _=>Bool.rec (motive:=λ_=>Option α) (gr (Nat.div j 2)) (gl (Nat.div j 2)) (Nat.beq (Nat.mod j 2) 0)) i) t
def Tr.singK {α β:Type} (a:α) (f:Nat):Nat→(Tr α→β)→β:=
 Nat.rec (motive := fun _ => Nat → (Tr α → β) → β) (fun _ k => k .nil)
  (fun _ ih i k => Nat.rec (motive := fun _ => β) (k (.node (some a) .nil .nil))
    (λj _=>Bool.rec (motive:=λ_=>β) (ih (Nat.div j 2) λt=>k (.node none .nil t)) (ih (Nat.div j 2) λt=>k (.node none t .nil)) (Nat.beq (Nat.mod j 2) 0)) i) f
def Tr.setK {α β:Type} (t:Tr α):Nat→α→(Tr α→β)→β:=
 Tr.rec (motive := fun _ => Nat → α → (Tr α → β) → β) (fun i a k => Tr.singK a (Nat.succ i) i k)
  (fun v l r sl sr i a k => Nat.rec (motive := fun _ => β) (k (.node (some a) l r))
    (λj _=>Bool.rec (motive:=λ_=>β) (sr (Nat.div j 2) a λt=>k (.node v l t)) (sl (Nat.div j 2) a λt=>k (.node v t r)) (Nat.beq (Nat.mod j 2) 0)) i) t
def Tr.set {α:Type} (t:Tr α) (i:Nat) (a:α):Tr α:=t.setK i a id
def vv {β:Type} (v:Value) (hb:Bool→β) (hi:IntKind→Int→β) (hs:ByteArray→β) (hp:Option Addr→β) (hsl:Option Addr→Nat→Nat→β)
 (hm:Option Nat→β) (hf:Fn→Array Value→Array Value→β) (hnf:β) (hif:TypeId→Value→β) (hni:β) (ha:Array Value→β) (ht:Array Value→β) (d:β):β:=
 Value.rec (motive_1:=λ_=>β) (motive_2:=λ_=>Unit) (motive_3:=λ_=>Unit) hb hi (λ_ _=>d) (λ_ _ _=>d) hs hp hsl hm (λ_=>d) (λf a b _ _=>hf f a b) hnf (λt x _=>hif t x) hni (λa _=>ha a) (λa _=>ht a) (λ_ _=>()) () (λ_ _ _ _=>()) v
def Ec {β:Type} (n:Nat) (k:Nat→β):β:=Nat.rec (motive:=λ_=>β) (k 0) (λm _=>k (Nat.succ m)) n
def U1 {β:Type} (n:Int) (k:Int→β):β:=Int.rec (motive:=λ_=>β) (λn=>Ec n λn=>k (.ofNat n)) (λn=>Ec n λn=>k (.negSucc n)) n
def La {β:Type} (a:Option Addr) (k:Option Addr→β):β:=
 oo a (k none) λa=>Addr.rec (motive:=λ_=>β) (λb o s=>Ec b λb=>Ec o λo=>oo s (k (some ⟨b,o,none⟩)) λz=>Ec z λz=>k (some ⟨b,o,some z⟩)) a
def Lb {β:Type} (b:Bool) (k:Bool→β):β:=Bool.rec (motive:=λ_=>β) (k false) (k true) b
def QT {β:Type} (v:Value) (k:Value→β):β:=
 vv v (fun b => Lb b fun b => k (.bool b)) (fun j n => U1 n fun n => k (.int j n)) (fun s => k (.string s)) (fun a => La a fun a => k (.pointer a))
  (λa l c=>La a λa=>Ec l λl=>Ec c λc=>k (.slice a l c)) (λm=>k (.map m)) (λf a b=>k (.func f a b)) (k .nilFunc) (λt x=>k (.iface t x)) (k .nilIface)
  (λa=>k (.agg a)) (λa=>k (.tuple a)) (k v)
def Nj {β:Type} (l:List Value):(List Value→β)→β:=
 List.rec (motive:=λ_=>(List Value→β)→β) (λk=>k []) (λx _ ih k=>QT x λx=>ih λr=>k (x::r)) l
def Nk {β:Type} (a:Array Value) (k:Array Value→β):β:=Array.rec (motive:=λ_=>β) (λl=>Nj l λl=>k ⟨l⟩) a
def JQ {β:Type} (v:Value) (k:Value→β):β:=
 vv v (fun b => Lb b fun b => k (.bool b)) (fun j n => U1 n fun n => k (.int j n)) (fun s => k (.string s)) (fun a => La a fun a => k (.pointer a))
  (λa l c=>La a λa=>Ec l λl=>Ec c λc=>k (.slice a l c)) (λm=>k (.map m)) (λf a b=>k (.func f a b)) (k .nilFunc) (λt x=>k (.iface t x)) (k .nilIface)
  (λa=>Nk a λa=>k (.agg a)) (λa=>Nk a λa=>k (.tuple a)) (k v)
structure EO where
 key:Value
 val:Value
 born:Nat
inductive AJ where
 | cells (xs:List Value) (imm spent:Bool) (anc:List Nat)
 | map (es:List EO) (clock:Nat)
 | iter (m:Option Nat) (since:Nat) (seen:List Nat) (stepped:Nat)
 | dead
structure Aa where
 next:Nat
 objs:Tr AJ
 lz:Bool
def QU {β:Type} (l:List EO):(List EO→β)→β:=
 List.rec (motive := fun _ => (List EO → β) → β) (fun k => k [])
  (λe _ ih k=>EO.rec (motive:=λ_=>β) (λx y n=>JQ x λx=>JQ y λy=>Ec n λn=>ih λr=>k (⟨x,y,n⟩::r)) e) l
def Lc {β:Type} (o:AJ) (k:AJ→β):β:=
 AJ.rec (motive := fun _ => β) (fun xs i s a => Nj xs fun xs => Lb i fun i => Lb s fun s => k (.cells xs i s a))
  (λes c=>QU es λes=>Ec c λc=>k (.map es c)) (λm s l c=>k (.iter m s l c)) (k .dead) o
def ZV {β:Type} (t:Tr AJ) (k:Tr AJ→β):β:=Tr.rec (motive:=λ_=>β) (k .nil) (λv l r _ _=>k (.node v l r)) t
def JR {β:Type} (H:Aa) (k:Aa→β):β:=Aa.rec (motive:=λ_=>β) (λn t z=>bb z (k ⟨n,t,z⟩) (Ec n λn=>ZV t λt=>k ⟨n,t,z⟩)) H
def HZ {β:Type} (H:Aa) (v:Value) (k:Value→β):β:=Aa.rec (motive:=λ_=>β) (λ_ _ z=>bb z (k v) (JQ v k)) H
def Aa.get (H:Aa) (i:Nat):AJ:=Aa.rec (motive:=λ_=>AJ) (λ_ t _=>oo (t.get i) .dead λo=>o) H
def Aa.set (H:Aa) (i:Nat) (o:AJ):Aa:=Aa.rec (motive:=λ_=>Aa) (λn T z=>bb z (T.setK i o λt=>⟨n,t,z⟩) (Lc o λo=>T.setK i o λt=>⟨n,t,z⟩)) H
def Aa.push (H:Aa) (o:AJ):Aa:=Aa.rec (motive:=λ_=>Aa) (λn T z=>bb z (T.setK n o λt=>⟨Nat.succ n,t,z⟩) (Lc o λo=>T.setK n o λt=>⟨Nat.succ n,t,z⟩)) H
def Aa.kill (H:Aa) (l:List Nat):Aa:=List.rec (motive:=λ_=>Aa→Aa) (λH=>H) (λi _ ih H=>ih (H.set i .dead)) l H
structure TI where
 und:TypeDesc
 size:Nat
 bytes:Nat
 zero:Option Value
 flat:Bool
abbrev TT:=TypeId→Option TI
structure Fr where
 n:Nat
 T:Tr Value
def EP:Value:=.iface 0 .nilIface
def Fr.get (F:Fr) (t:Nat):Value:=Fr.rec (motive:=λ_=>Value) (λ_ T=>oo (T.get t) EP λv=>v) F
def Fr.putK {β:Type} (F:Fr) (d:Option Nat) (v:Value) (k:Fr→β):β:=
 oo d (k F) λd=>Fr.rec (motive:=λ_=>β) (λn T=>bb (Nat.blt d n) (T.setK d v λT=>k ⟨n,T⟩) (k ⟨n,T⟩)) F
def Fr.put (F:Fr) (d:Option Nat) (v:Value):Fr:=F.putK d v id
def Fr.eval (F:Fr) (o:Operand):Value:=
 Operand.rec (motive:=λ_=>Value) (λt=>F.get t) (λv=>v) (λg=>.pointer (some ⟨g,0,none⟩)) (λf=>.func (.func f) #[] #[]) o
def Fr.fill (n:Nat) (l:List Value):Nat→Tr Value→Fr:=
 List.rec (motive:=λ_=>Nat→Tr Value→Fr) (λ_ T=>⟨n,T⟩) (λv _ ih i T=>T.setK i v λT=>ih (Nat.succ i) T) l
def Fr.made (n:Nat) (args:List Value):Fr:=Fr.fill n args 0 .nil
def Gz (f:IntKind→Int→Int) (k:IntKind) (n:Int):Int:=
 IntKind.rec (motive := fun _ => Int) (f .i8 n) (f .i16 n) (f .i32 n)
  (ii n (λm=>bb (Nat.ble m 9223372036854775807) (.ofNat m) (f .i64 n)) (λm=>bb (Nat.ble m 9223372036854775807) (.negSucc m) (f .i64 n)))
  (ii n (λm=>.ofNat (Nat.mod m 256)) λ_=>f .u8 n) (ii n (λm=>.ofNat (Nat.mod m 65536)) λ_=>f .u16 n)
  (ii n (λm=>.ofNat (Nat.mod m 4294967296)) λ_=>f .u32 n) (ii n (λm=>.ofNat (Nat.mod m 18446744073709551616)) λ_=>f .u64 n) k
def Aj (k:IntKind) (n:Int):Int:=Gz IntKind.wrap k n
def AY (x y:Int):Bool:=ii x (λa=>ii y (λb=>Nat.blt a b) λ_=>false) λa=>ii y (λ_=>true) λb=>Nat.blt b a
def Bd (x y:Int):Bool:=ii x (λa=>ii y (λb=>Nat.beq a b) λ_=>false) λa=>ii y (λ_=>false) λb=>Nat.beq a b
def GA (k:IntKind):Nat:=IntKind.rec (motive:=λ_=>Nat) 127 32767 2147483647 9223372036854775807 255 65535 4294967295 18446744073709551615 k
def Nl (k:IntKind) (a b:Nat):Bool:=an (Nat.ble a (GA k)) (Nat.ble b (GA k))
def PR (k:IntKind) (x y:Int):Int:=k.wrap (BitVec.ofInt k.bits x &&& BitVec.ofInt k.bits y).toNat
def YD (k:IntKind) (x y:Int):Int:=k.wrap (BitVec.ofInt k.bits x ||| BitVec.ofInt k.bits y).toNat
def Nn (k:IntKind) (x y:Int):Int:=k.wrap (BitVec.ofInt k.bits x ^^^ BitVec.ofInt k.bits y).toNat
def Hd (k:IntKind) (x y:Int):Int:=k.wrap (BitVec.ofInt k.bits x &&& ~~~BitVec.ofInt k.bits y).toNat
def Np (k:IntKind) (x y:Int):Int:=ii x (λa=>ii y (λb=>bb (Nl k a b) (.ofNat (Nat.land a b)) (PR k x y)) λ_=>PR k x y) λ_=>PR k x y
def jF (k:IntKind) (x y:Int):Int:=ii x (λa=>ii y (λb=>bb (Nl k a b) (.ofNat (Nat.lor a b)) (YD k x y)) λ_=>YD k x y) λ_=>YD k x y
def jM (k:IntKind) (x y:Int):Int:=ii x (λa=>ii y (λb=>bb (Nl k a b) (.ofNat (Nat.xor a b)) (Nn k x y)) λ_=>Nn k x y) λ_=>Nn k x y
def QV (k:IntKind) (x y:Int):Int:=ii x (λa=>ii y (λb=>bb (Nl k a b) (.ofNat (Nat.xor a (Nat.land a b))) (Hd k x y)) λ_=>Hd k x y) λ_=>Hd k x y
def iv (k:IntKind) (n:Int):Option Value:=some (.int k n)
def bv (b:Bool):Option Value:=some (.bool b)
def QW (k:IntKind) (x:Int) (n:Nat):Int:=ii x (λa=>Aj k (.ofNat (Nat.mul a (Nat.pow 2 (Nat.min n k.bits))))) λ_=>k.wrap (x*2 ^ (min n k.bits))
def G6 (k:IntKind) (x:Int) (n:Nat):Int:=ii x (λa=>.ofNat (Nat.div a (Nat.pow 2 (Nat.min n k.bits)))) λ_=>x.fdiv (2 ^ (min n k.bits))
def BinOp.pick {β:Type} (op:BinOp) (add sub mul quo rem and or xor shl shr andNot eql neq lss leq gtr geq:β):β:=
 BinOp.rec (motive:=λ_=>β) add sub mul quo rem and or xor shl shr andNot eql neq lss leq gtr geq op
def SV (op:BinOp):IntKind→Int→Int→Option Value:=
 BinOp.pick op (fun k x y => iv k (Aj k (Int.add x y))) (fun k x y => iv k (Aj k (Int.sub x y))) (fun k x y => iv k (Aj k (Int.mul x y)))
  (λk x y=>bb (Bd y (.ofNat 0)) none (iv k (Aj k (Int.tdiv x y)))) (λk x y=>bb (Bd y (.ofNat 0)) none (iv k (Int.tmod x y)))
  (λk x y=>iv k (Np k x y)) (λk x y=>iv k (jF k x y)) (λk x y=>iv k (jM k x y)) (λ_ _ _=>none) (λ_ _ _=>none) (λk x y=>iv k (QV k x y))
  (λ_ x y=>bv (Bd x y)) (λ_ x y=>bv (nt (Bd x y))) (λ_ x y=>bv (AY x y)) (λ_ x y=>bv (nt (AY y x))) (λ_ x y=>bv (AY y x)) (λ_ x y=>bv (nt (AY x y)))
def MV (op:BinOp):Bool:=BinOp.pick op false false false false false false false false true true false false false false false false false
def ZW (op:BinOp):Bool:=BinOp.pick op false false false false false false false false true false false false false false false false false
def Ld (op:BinOp) (k:IntKind) (x y:Int):Option Value:=ii y (λn=>iv k (bb (ZW op) (QW k x n) (G6 k x n))) λ_=>none
def AbT (op:BinOp):Bool:=BinOp.pick op true false false false false false false false false false false false false false false false false
def ZX (op:BinOp):Option Bool:=BinOp.pick op none none none none none none none none none none none (some true) (some false) none none none none
def yX (op:BinOp) (lt eq:Bool):Option Bool:=
 BinOp.pick op none none none none none none none none none none none (some eq) (some (nt eq)) (some lt) (some (Dp lt eq)) (some (nt (Dp lt eq))) (some (nt lt))
def AbU (k:IntKind):Nat:=IntKind.rec (motive:=λ_=>Nat) 0 1 2 3 4 5 6 7 k
def De (a b:IntKind):Bool:=Nat.beq (AbU a) (AbU b)
def ES (v:Value):Option (IntKind×Int):=
 vv v (λ_=>none) (λk n=>some (k,n)) (λ_=>none) (λ_=>none) (λ_ _ _=>none) (λ_=>none) (λ_ _ _=>none) none (λ_ _=>none) none (λ_=>none) (λ_=>none) none
def MN (v:Value):Option Nat:=
 vv v (λ_=>none) (λ_ n=>ii n (λm=>some m) λ_=>none) (λ_=>none) (λ_=>none) (λ_ _ _=>none) (λ_=>none) (λ_ _ _=>none) none (λ_ _=>none) none (λ_=>none) (λ_=>none) none
def Bf (v:Value):Option Bool:=
 vv v (λb=>some b) (λ_ _=>none) (λ_=>none) (λ_=>none) (λ_ _ _=>none) (λ_=>none) (λ_ _ _=>none) none (λ_ _=>none) none (λ_=>none) (λ_=>none) none
def Gx (v:Value):Option ByteArray:=
 vv v (λ_=>none) (λ_ _=>none) (λs=>some s) (λ_=>none) (λ_ _ _=>none) (λ_=>none) (λ_ _ _=>none) none (λ_ _=>none) none (λ_=>none) (λ_=>none) none
def JS (a:Array Value):List Value:=Array.rec (motive:=λ_=>List Value) (λl=>l) a
def Bt (v:Value):Option (List Value):=
 vv v (λ_=>none) (λ_ _=>none) (λ_=>none) (λ_=>none) (λ_ _ _=>none) (λ_=>none) (λ_ _ _=>none) none (λ_ _=>none) none (λa=>some (JS a)) (λ_=>none) none
def CQ (v:Value):Option (List Value):=
 vv v (λ_=>none) (λ_ _=>none) (λ_=>none) (λ_=>none) (λ_ _ _=>none) (λ_=>none) (λ_ _ _=>none) none (λ_ _=>none) none (λ_=>none) (λa=>some (JS a)) none
def QX (a:Option Addr):Option (Nat×Nat):=oo a none λa=>Addr.rec (motive:=λ_=>Option (Nat×Nat)) (λb o s=>oo s (some (b,o)) λ_=>none) a
def FO (v:Value):Option (Nat×Nat):=
 vv v (λ_=>none) (λ_ _=>none) (λ_=>none) (λa=>QX a) (λ_ _ _=>none) (λ_=>none) (λ_ _ _=>none) none (λ_ _=>none) none (λ_=>none) (λ_=>none) none
structure qE where
 id:Nat
 off:Nat
 sz:Nat
 len:Nat
 cap:Nat
def QY (a:Option Addr) (l c:Nat):Option qE:=oo a none λa=>Addr.rec (motive:=λ_=>Option qE) (λb o s=>oo s none λz=>some ⟨b,o,z,l,c⟩) a
def IA (v:Value):Option qE:=
 vv v (λ_=>none) (λ_ _=>none) (λ_=>none) (λ_=>none) (λa l c=>QY a l c) (λ_=>none) (λ_ _ _=>none) none (λ_ _=>none) none (λ_=>none) (λ_=>none) none
def ss {β:Type} (s:qE) (k:Nat→Nat→Nat→Nat→Nat→β):β:=qE.rec (motive:=λ_=>β) k s
def DN (v:Value):Bool:=
 vv v (λ_=>false) (λ_ _=>false) (λ_=>false) (λ_=>false) (λa l c=>oo a (an (Nat.beq l 0) (Nat.beq c 0)) λ_=>false) (λ_=>false) (λ_ _ _=>false) false (λ_ _=>false) false (λ_=>false) (λ_=>false) false
structure mR where
 sz:Nat
 n:Nat
 fl:Nat
 cs:List Value
def FP (sz n fl:Nat) (cs:List Value):Value:=.iface sz (.agg ⟨.slice none n fl::cs⟩)
def yY (a:Option Addr) (n fl sz:Nat) (cs:List Value):Option mR:=oo a (some ⟨sz,n,fl,cs⟩) λ_=>none
def AbV (v:Value) (sz:Nat) (cs:List Value):Option mR:=
 vv v (λ_=>none) (λ_ _=>none) (λ_=>none) (λ_=>none) (λa n fl=>yY a n fl sz cs) (λ_=>none) (λ_ _ _=>none) none (λ_ _=>none) none (λ_=>none) (λ_=>none) none
def Le (v:Value):Option mR:=
 vv v (fun _ => none) (fun _ _ => none) (fun _ => none) (fun _ => none) (fun _ _ _ => none) (fun _ => none) (fun _ _ _ => none) none
  (λt x=>oo (Bt x) none λl=>ll l none λh cs=>AbV h t cs) none (λ_=>none) (λ_=>none) none
structure Db where
 off:Nat
 cs:List Value
def Cv (off:Nat) (cs:List Value):Value:=.iface off (.tuple ⟨cs⟩)
def Pv (v:Value):Option Db:=
 vv v (fun _ => none) (fun _ _ => none) (fun _ => none) (fun _ => none) (fun _ _ _ => none) (fun _ => none) (fun _ _ _ => none) none
  (λt x=>oo (CQ x) none λl=>some ⟨t,l⟩) none (λ_=>none) (λ_=>none) none
def isNilIface (v:Value):Bool:=
 vv v (λ_=>false) (λ_ _=>false) (λ_=>false) (λ_=>false) (λ_ _ _=>false) (λ_=>false) (λ_ _ _=>false) false (λ_ _=>false) true (λ_=>false) (λ_=>false) false
def Nq (v:Value):Bool:=
 vv v (λ_=>false) (λ_ _=>false) (λ_=>false) (λ_=>false) (λ_ _ _=>false) (λ_=>false) (λ_ _ _=>false) false (λ_ x=>isNilIface x) false (λ_=>false) (λ_=>false) false
def noCell (v:Value):Bool:=Dp (isS (CQ v)) (Nq v)
def IC (v:Value):Option (Option Nat):=
 vv v (λ_=>none) (λ_ _=>none) (λ_=>none) (λ_=>none) (λ_ _ _=>none) (λm=>some m) (λ_ _ _=>none) none (λ_ _=>none) none (λ_=>none) (λ_=>none) none
def YE (v:Value):Option (Nat×Bool):=
 vv v (λ_=>none) (λ_ _=>none) (λ_=>none) (λa=>some (4,nt (isS a))) (λa _ c=>oo a (some (2,true)) λ_=>bb (Nat.ble 2 c) (some (2,false)) none) (λm=>some (5,nt (isS m))) (λ_ _ _=>some (6,false)) (some (6,true)) (λt x=>oo (Le (.iface t x)) (oo (Pv (.iface t x)) none λ_=>some (4,false)) λf=>bb (Nat.beq f.fl 2) (some (2,true)) (bb (Dp (Nat.beq f.fl 3) (Nat.ble 1 f.n)) (some (2,false)) none)) none (λ_=>none) (λ_=>none) none
def PS (v:Value):Option Nat:=
 vv v (λ_=>none) (λ_ _=>none) (λ_=>none) (λ_=>none) (λ_ l _=>some l) (λ_=>none) (λ_ _ _=>none) none (λ_ _=>none) none (λ_=>none) (λ_=>none) none
def H5 (v:Value):Option Nat:=oo (PS v) (oo (Le v) none λf=>some f.n) λn=>some n
def D6 (v:Value):Bool:=
 vv v (λ_=>true) (λ_ _=>true) (λ_=>true) (λ_=>true) (λ_ _ _=>true) (λ_=>true) (λ_ _ _=>true) true (λ_ x=>nt (isNilIface x)) true (λ_=>false) (λ_=>false) true
def dd {β:Type} (d:TypeDesc) (hb:β) (hi:IntKind→β) (hs:β) (hp:Nat→β) (hsl:Nat→β) (ha:Nat→Nat→β) (hm:Nat→Nat→β) (hst:Array Field→β) (hf:β) (e:β):β:=
 TypeDesc.rec (motive:=λ_=>β) e hb hi (λ_=>e) (λ_=>e) hs e hp hsl ha hm (λ_ _=>e) hst (λ_ _ _=>hf) (λ_=>e) (λ_=>e) (λ_ _=>e) d
def MO (d:TypeDesc):Option (Nat×Nat):=dd d none (λ_=>none) none (λ_=>none) (λ_=>none) (λn e=>some (n,e)) (λ_ _=>none) (λ_=>none) none none
def Xi (d:TypeDesc):Option Nat:=dd d none (λ_=>none) none (λ_=>none) (λe=>some e) (λ_ _=>none) (λ_ _=>none) (λ_=>none) none none
def YF (d:TypeDesc):Option (Nat×Nat):=dd d none (λ_=>none) none (λ_=>none) (λ_=>none) (λ_ _=>none) (λk e=>some (k,e)) (λ_=>none) none none
def Kj (d:TypeDesc):Option (Array Field):=dd d none (λ_=>none) none (λ_=>none) (λ_=>none) (λ_ _=>none) (λ_ _=>none) (λfs=>some fs) none none
def YG (d:TypeDesc):Option IntKind:=dd d none (λk=>some k) none (λ_=>none) (λ_=>none) (λ_ _=>none) (λ_ _=>none) (λ_=>none) none none
def IE (d:TypeDesc):Bool:=dd d false (λ_=>false) true (λ_=>false) (λ_=>false) (λ_ _=>false) (λ_ _=>false) (λ_=>false) false false
def DU (d:TypeDesc):Bool:=dd d false (λ_=>false) false (λ_=>false) (λ_=>false) (λ_ _=>true) (λ_ _=>false) (λ_=>true) false false
def H6 (d:TypeDesc):Nat:=dd d 1 (λ_=>0) 0 (λ_=>4) (λ_=>2) (λ_ _=>3) (λ_ _=>5) (λ_=>3) 6 0
def DK (x y:Value):Option Bool:=
 vv x (fun a => oo (Bf y) none fun b => some (bq a b)) (fun k a => oo (ES y) none fun q => pp q fun j b => bb (De k j) (some (Bd a b)) none)
  (λa=>oo (Gx y) none λb=>some (a == b)) (λ_=>none) (λ_ _ _=>none) (λ_=>none) (λ_ _ _=>none) none (λ_ _=>none) none (λ_=>none) (λ_=>none) none
def Cj (xs:List Value):List Value→Option Bool:=
 List.rec (motive := fun _ => List Value → Option Bool) (fun ys => ll ys (some true) fun _ _ => none)
  (λx _ ih ys=>ll ys none λy ys=>oo (DK x y) none λb=>oo (ih ys) none λc=>some (an b c)) xs
def EB (z x:Value):Bool:=
 vv z (λ_=>isS (Bf x)) (λ_ _=>isS (ES x)) (λ_=>isS (Gx x)) (λ_=>false) (λ_ _ _=>false) (λ_=>false) (λ_ _ _=>false) false (λ_ _=>false) false (λ_=>false) (λ_=>false) false
def Bo (zs:List Value):List Value→Bool:=
 List.rec (motive:=λ_=>List Value→Bool) (λxs=>ll xs true λ_ _=>false) (λz _ ih xs=>ll xs false λx r=>an (EB z x) (ih r)) zs
def Nr (i:TI) (xs:List Value):Bool:=an i.flat (oo i.zero false λz=>oo (Bt z) false λzs=>Bo zs xs)
def AbW (i:TI) (x y:Value):Option Bool:=
 oo (Bt x) none λxs=>oo (Bt y) none λys=>bb (Nr i xs) (Cj xs ys) none
def AbX (k:Nat) (x y:Value):Option Bool:=
 oo (YE x) none λp=>oo (YE y) none λq=>bb (an (Nat.beq p.1 k) (Nat.beq q.1 k)) (bb p.2 (some q.2) (bb q.2 (some false) none)) none
def wD (tt:TT) (t:TypeId) (x y:Value):Option Bool:=
 oo (tt t) none fun i => bb (Nat.beq (H6 i.und) 1) (oo (Bf x) none fun a => oo (Bf y) none fun b => some (bq a b))
  (bb (Nat.beq (H6 i.und) 3) (AbW i x y) (AbX (H6 i.und) x y))
def qY (tt:TT) (op:BinOp) (t:TypeId) (x y:Value):Option Value:=oo (ZX op) none λw=>oo (wD tt t x y) none λb=>bv (bq w b)
def qF (op:BinOp) (a b:ByteArray):Option Value:=
 bb (AbT op) (bb (Nat.ble (a.size + b.size) 1000000000) (some (.string (a ++ b))) none)
  (oo (yX op (Op.bytesLess a.toList b.toList) (a.toList == b.toList)) none λr=>bv r)
def qG (tt:TT) (op:BinOp) (t:TypeId) (x y:Value):Option Value:=
 oo (ES x) (oo (Gx x) (qY tt op t x y) fun a => oo (Gx y) none fun b => qF op a b)
  λp=>pp p λk a=>oo (ES y) none λq=>pp q λj b=>bb (MV op) (Ld op k a b) (bb (De k j) (SV op k a b) none)
def wX (op:UnOp) (x:Value):Option Value:=
 UnOp.rec (motive := fun _ => Option Value) (oo (ES x) none fun p => pp p fun k n => iv k (Aj k (Int.sub (.ofNat 0) n)))
  (oo (ES x) none λp=>pp p λk n=>iv k (jM k (if k.signed then -1 else k.max) n)) (oo (Bf x) none λb=>bv (nt b)) none op
def mU (tt:TT) (src dst:TypeId) (x:Value):Option Value:=
 oo (tt src) none fun s => oo (tt dst) none fun d => oo (ES x)
  (oo (Gx x) none λb=>bb (an (IE s.und) (IE d.und)) (some (.string b)) none)
  λp=>pp p λ_ n=>oo (YG d.und) none λk=>iv k (Aj k n)
def L9 (i:TI) (cs:List Value) (off:Nat):Option Value:=
 bb (DU i.und) (bb (Nat.ble (off+i.size) (len cs)) (some (.agg ⟨Aq i.size (Am off cs)⟩)) none) (AL cs off)
structure H7 where
 xs:List Value
 imm:Bool
 spent:Bool
 anc:List Nat
def Bv (o:AJ):Option H7:=AJ.rec (motive:=λ_=>Option H7) (λxs i s a=>some ⟨xs,i,s,a⟩) (λ_ _=>none) (λ_ _ _ _=>none) none o
structure Lf where
 es:List EO
 clock:Nat
def JU (o:AJ):Option Lf:=AJ.rec (motive:=λ_=>Option Lf) (λ_ _ _ _=>none) (λes c=>some ⟨es,c⟩) (λ_ _ _ _=>none) none o
def Ma (tt:TT) (H:Aa) (t:TypeId) (a:Value):Option Value:=
 oo (tt t) none λi=>oo (FO a) (oo (Pv a) none λq=>L9 i q.cs q.off) λp=>pp p λid off=>oo (Bv (H.get id)) none λo=>L9 i o.xs off
def Ej (H:Aa) (id off:Nat) (ys:List Value):Option Aa:=
 oo (Bv (H.get id)) none λo=>H7.rec (motive:=λ_=>Option Aa) (λxs imm spent anc=>
  bb (an (nt imm) (an (nt spent) (an (Nat.ble (off+len ys) (len xs)) (Au D6 ys)))) (some ((H.kill anc).set id (.cells (BM ys off xs) false false []))) none) o
def cellsOf (v:Value):List Value:=oo (Bt v) [v] λl=>l
def ZY (tt:TT) (H:Aa) (t:TypeId) (a v:Value):Option Aa:=
 oo (FO a) none λp=>pp p λid off=>oo (tt t) none λi=>bb (an (nt (noCell v)) (Nat.beq (len (cellsOf v)) i.size)) (Ej H id off (cellsOf v)) none
def QZ (H:Aa) (xs:List Value):Option (Value×Aa):=some (.pointer (some ⟨H.next,0,none⟩),H.push (.cells xs false false []))
def AF (z:List Value) (n:Nat):List Value:=Nat.rec (motive:=λ_=>List Value) [] (λ_ r=>Br z r) n
def sliceAt (id off sz len cap:Nat) (exact:Bool):Value:=.slice (some ⟨id,off,some sz⟩) len (2*cap+bb exact 1 0)
def qH (v:Value) (most:Nat):Option Nat:=oo (MN v) none λi=>bb (Nat.ble i most) (some i) none
def C9 (v:Option Value) (dflt most:Nat):Option Nat:=oo v (some dflt) λv=>qH v most
def Fq {β:Type} (lo hi mx:Option Value) (len cap:Nat) (k:Nat→Nat→Nat→Option β):Option β:=
 oo (C9 mx cap cap) none λm=>oo (bb (an (isS mx) (nt (isS hi))) none (C9 hi len m)) none λh=>oo (C9 lo 0 h) none λl=>k l h m
def Lg (tt:TT) (H:Aa) (n e:Nat) (x:Value) (lo hi mx:Option Value):Option Value:=
 oo (FO x) none λp=>pp p λid off=>oo (tt e) none λie=>oo (Bv (H.get id)) none λo=>Fq lo hi mx n n λl h m=>
  bb (Nat.ble (off+n*ie.size) (len o.xs)) (some (sliceAt id (off+l*ie.size) ie.size (h - l) (m - l) true)) none
def Ns (ie:TI) (f:mR) (lo hi mx:Option Value):Option Value:=
 bb (Nat.beq f.fl 2) (Fq lo hi mx 0 0 fun _ _ _ => some (FP f.sz 0 2 []))
  (bb (Nat.beq ie.size f.sz) (Fq lo hi mx f.n f.n fun l h m =>
    some (FP f.sz (h - l) (bb (an (Nat.beq h m) (Dp (isS mx) (Nat.beq f.fl 1))) 1 0) (Aq ((h - l)*f.sz) (Am (l*f.sz) f.cs)))) none)
def SX (tt:TT) (e:Nat) (x:Value) (lo hi mx:Option Value):Option Value:=
 oo (tt e) none fun ie => oo (IA x) (oo (Le x) (bb (DN x) (Fq lo hi mx 0 0 fun _ _ _ => some (.slice none 0 0)) none) fun f => Ns ie f lo hi mx)
  λs=>ss s λid off sz ln c2=>bb (Nat.beq ie.size sz) (Fq lo hi mx ln (c2 / 2) λl h m=>some (sliceAt id (off+l*sz) sz (h - l) (m - l) (Dp (isS mx) (Nat.beq (c2 % 2) 1)))) none
def YH (x:Value) (lo hi mx:Option Value):Option Value:=
 oo (Gx x) none λs=>bb (isS mx) none (Fq lo hi none s.size s.size λl h _=>some (.string (s.extract l h)))
def Lh (tt:TT) (H:Aa) (t:TypeId) (x:Value) (lo hi mx:Option Value):Option Value:=
 oo (tt t) none fun i => oo (Xi i.und) (oo (MO i.und) (bb (IE i.und) (YH x lo hi mx) none) fun p => pp p fun n e => Lg tt H n e x lo hi mx)
  λe=>SX tt e x lo hi mx
def jN (id off:Nat):Option Value:=some (.pointer (some ⟨id,off,none⟩))
def Nt (tt:TT) (t:TypeId) (x ix:Value):Option Value:=
 oo (tt t) none fun i => oo (MN ix) none fun n => oo (Xi i.und)
  (oo (MO i.und) none λp=>pp p λlen e=>oo (tt e) none λie=>oo (FO x) (oo (Pv x) none λq=>bb (Nat.blt n len) (some (Cv (q.off+n*ie.size) q.cs)) none) λp=>pp p λid off=>bb (Nat.blt n len) (jN id (off+n*ie.size)) none)
  λe=>oo (tt e) none λie=>oo (IA x) (oo (Le x) none λf=>bb (an (Nat.blt n f.n) (Nat.beq ie.size f.sz)) (some (Cv (n*f.sz) f.cs)) none) λs=>ss s λid off sz len _=>bb (an (Nat.blt n len) (Nat.beq ie.size sz)) (jN id (off+n*sz)) none
def Nu {β:Type} (tt:TT) (t:TypeId) (f:Nat) (k:Field→TI→Option β):Option β:=
 oo (tt t) none λi=>oo (Kj i.und) none λfs=>oo (AL fs.toList f) none λfd=>oo (tt fd.type) none λie=>k fd ie
def Nv (tt:TT) (t:TypeId) (x:Value) (f:Nat):Option Value:=
 Nu tt t f λfd ie=>bb (Nat.beq ie.size 0) none (oo (FO x) (oo (Pv x) none λq=>some (Cv (q.off+fd.offset) q.cs)) λp=>pp p λid off=>jN id (off+fd.offset))
def ZZ (tt:TT) (t:TypeId) (x:Value) (f:Nat):Option Value:=Nu tt t f λfd ie=>oo (Bt x) none λcs=>L9 ie cs fd.offset
def Z0 (tt:TT) (t:TypeId) (x ix:Value):Option Value:=
 oo (tt t) none fun i => oo (MN ix) none fun n => oo (MO i.und)
  (bb (IE i.und) (oo (Gx x) none λs=>oo (s.data.toList[n]?) none λb=>iv .u8 (.ofNat b.toNat)) none)
  λp=>pp p λlen e=>oo (Bt x) none λcs=>oo (tt e) none λie=>bb (Nat.blt n len) (L9 ie cs (n*ie.size)) none
def IG (a b:Value):Option Bool:=oo (Bt a) (DK a b) λxs=>oo (Bt b) none λys=>Cj xs ys
def GD (k:Value) (es:List EO):Nat→Option (Option (Nat×Value)):=
 List.rec (motive := fun _ => Nat → Option (Option (Nat × Value))) (fun _ => some none)
  (λe _ ih i=>oo (IG k e.key) none λb=>bb b (some (some (i,e.val))) (ih (Nat.succ i))) es
def Mc (tt:TT) (t:TypeId) (k:Value):Bool:=
 oo (tt t) false fun i => oo (ES k)
  (oo (Bt k) (oo (Bf k) (oo (Gx k) false λ_=>IE i.und) λ_=>Nat.beq (H6 i.und) 1) λxs=>an (DU i.und) (Nr i xs))
  λp=>oo (YG i.und) false λj=>De j p.1
def II {β:Type} (tt:TT) (t:TypeId) (k:TypeId→TypeId→Option β):Option β:=oo (tt t) none λi=>oo (YF i.und) none λp=>pp p λkt et=>k kt et
def zeroOf (tt:TT) (t:TypeId):Option Value:=oo (tt t) none λi=>i.zero
def okV (ok:Bool) (v:Value) (b:Bool):Option Value:=some (bb ok (.tuple ⟨[v,.bool b]⟩) v)
def Jk (tt:TT) (H:Aa) (t:TypeId) (m k:Value) (ok:Bool):Option Value:=
 II tt t fun kt et => bb (Mc tt kt k)
  (oo (oo (IC m) none fun m => oo m (some none) fun id => oo (JU (H.get id)) none fun o => GD k o.es 0) none fun r =>
    oo r (oo (zeroOf tt et) none λz=>okV ok z false) λp=>pp p λ_ v=>okV ok v true) none
def Kk (H:Aa) (m:Value):Option (Nat×Lf):=oo (IC m) none λm=>oo m none λid=>oo (JU (H.get id)) none λo=>some (id,o)
def JV (tt:TT) (H:Aa) (t:TypeId) (m k v:Value):Option Aa:=
 II tt t fun kt _ => oo (Kk H m) none fun p => pp p fun id o => bb (Mc tt kt k)
  (oo (GD k o.es 0) none λr=>oo r (some (H.set id (.map (Br o.es [⟨k,v,o.clock⟩]) (o.clock+1)))) λp=>pp p λj _=>some (H.set id (.map (SS (λe=>⟨k,v,e.born⟩) j o.es) o.clock))) none
def PT (tt:TT) (H:Aa) (t:TypeId) (m k:Value):Option (Value×Aa):=
 II tt t fun kt et => oo (Kk H m) none fun p => pp p fun id o => bb (Mc tt kt k)
  (oo (GD k o.es 0) none fun r => oo r
    (oo (zeroOf tt et) none λz=>some (.tuple ⟨[z,.int .i64 (.ofNat o.clock)]⟩,H.set id (.map (Br o.es [⟨k,z,o.clock⟩]) (o.clock+1))))
    λp=>pp p λj v=>oo (AL o.es j) none λe=>some (.tuple ⟨[v,.int .i64 (.ofNat e.born)]⟩,H.set id (.map (SS (λe=>⟨k,e.val,e.born⟩) j o.es) o.clock))) none
def Z4 (tt:TT) (H:Aa) (t:TypeId) (m:Value):Option (Value×Aa):=
 II tt t λ_ _=>oo (IC m) none λm=>oo m (some (.pointer (some ⟨H.next,0,none⟩),H.push (.iter none 0 [] 0))) λid=>
  oo (JU (H.get id)) none λo=>some (.pointer (some ⟨H.next,0,none⟩),H.push (.iter (some id) o.clock [] o.clock))
structure Q0 where
 m:Option Nat
 since:Nat
 seen:List Nat
 st:Nat
def Xj (o:AJ):Option Q0:=AJ.rec (motive:=λ_=>Option Q0) (λ_ _ _ _=>none) (λ_ _=>none) (λm s l c=>some ⟨m,s,l,c⟩) none o
def Xk (l:List Nat):Option Nat:=List.rec (motive:=λ_=>Option Nat) none (λa r ih=>ll r (some a) λ_ _=>ih) l
def Xl (s:Nat) (es:List EO):Option EO:=List.rec (motive:=λ_=>Option EO) none (λe _ ih=>bb (Nat.beq e.born s) (some e) ih) es
def Ai6 (es:List EO) (clock:Nat) (seen:List Nat) (st:Nat):Option EO:=bb (Nat.beq clock st) (oo (Xk seen) none λs=>Xl s es) none
def Z5 (H:Aa) (x:Value):Option Value:=
 oo (FO x) none λp=>pp p λid off=>bb (Nat.beq off 0) (oo (Xj (H.get id)) none λit=>oo it.m none λmid=>oo (JU (H.get mid)) none λo=>
  oo (Ai6 o.es o.clock it.seen it.st) none λe=>some (.tuple ⟨[e.key,e.val]⟩)) none
def U2 (s:Nat) (es:List EO):Nat→Option Nat:=
 List.rec (motive:=λ_=>Nat→Option Nat) (λ_=>none) (λe _ ih i=>bb (Nat.beq e.born s) (some i) (ih (Nat.succ i))) es
def Md (H:Aa) (m s v:Value):Option Aa:=
 oo (Kk H m) none λp=>pp p λid o=>oo (MN s) none λn=>oo (U2 n o.es 0) none λj=>some (H.set id (.map (SS (λe=>⟨e.key,v,e.born⟩) j o.es) o.clock))
def Dt (H:Aa) (sz n:Nat) (x:Value):Option (List Value):=
 oo (IA x) (oo (Le x) (bb (DN x) (some []) none) λf=>bb (Nat.beq n 0) (some []) (bb (an (Nat.beq f.sz sz) (Nat.ble n f.n)) (some (Aq (n*sz) f.cs)) none)) λs=>ss s λid off z _ _=>bb (Nat.beq n 0) (some []) (oo (Bv (H.get id)) none λo=>
  bb (an (Nat.beq z sz) (Nat.ble (off+n*sz) (len o.xs))) (some (Aq (n*sz) (Am off o.xs))) none)
def EQ (n bytes:Nat):Bool:=Nat.ble ((4*n+4096)*bytes) 281474976710656
def PU (H:Aa) (sz bytes:Nat) (s:Value) (f:mR) (n:Nat) (new:List Value):Option (Value×Aa):=
 bb (Nat.beq n 0) (some (s, H)) (bb (an (Dp (Nat.beq f.fl 1) (Nat.beq f.fl 2)) (an (Dp (Nat.beq f.fl 2) (Nat.beq f.sz sz)) (EQ (f.n + n) bytes)))
  (some (sliceAt H.next 0 sz (f.n+n) (f.n+n) false,H.push (.cells (Br f.cs new) false false []))) none)
def D7 (H:Aa) (sz bytes:Nat) (s:Value) (n:Nat) (new:List Value):Option (Value×Aa):=
 oo (IA s)
  (oo (Le s) (bb (DN s) (bb (Nat.beq n 0) (some (s,H)) (bb (EQ n bytes) (some (sliceAt H.next 0 sz n n false,H.push (.cells new false false []))) none)) none) λf=>PU H sz bytes s f n new)
  fun s' => ss s' fun id off z ln c2 => bb (Nat.beq n 0) (some (s, H)) (bb (an (Nat.beq z sz) (EQ (ln + n) bytes))
   (bb (Nat.ble (ln + n) (c2 / 2)) (oo (Ej H id (off + ln * sz) new) none fun H' => some (.slice (some ⟨id, off, some sz⟩) (ln + n) c2, H'))
     (oo (Bv (H.get id)) none fun o => H7.rec (motive := fun _ => Option (Value × Aa)) (fun xs imm spent anc =>
       bb (Nat.ble (off + ln * sz) (len xs))
        (bb (Nat.beq (c2 % 2) 1) (some (sliceAt H.next 0 sz (ln + n) (ln + n) false, H.push (.cells (Br (Aq (ln * sz) (Am off xs)) new) false false [])))
          (bb (an (nt imm) (an (nt spent) (an (Nat.blt id H.next) (an (Nat.beq (off + ln * sz) (len xs)) (Au D6 new)))))
            (some (sliceAt H.next 0 sz (ln+n) (ln+n) false,(H.set id (.cells xs false true anc)).push (.cells (Br (Am off xs) new) false false (id::anc)))) none)) none) o)) none)
def elemOf (tt:TT) (t:TypeId):Option TI:=oo (tt t) none λi=>oo (Xi i.und) none λe=>tt e
def Xm (tt:TT) (H:Aa) (st xt:TypeId) (s x:Value):Option (Value×Aa):=
 oo (elemOf tt st) none fun ie => oo ie.zero none fun z => bb (an (Nat.beq (len (cellsOf z)) ie.size) (Nat.blt 0 ie.bytes)) (oo (tt xt) none fun ix => oo (Xi ix.und)
  (oo (YG ix.und) none λ_=>oo (MN x) none λn=>bb (an (Nat.ble n 1000000) (EQ n ie.bytes)) (D7 H ie.size ie.bytes s n (AF (cellsOf z) n)) none)
  λ_=>oo (H5 x) none λn=>oo (Dt H ie.size n x) none λnew=>D7 H ie.size ie.bytes s n new) none
def gi (n:Nat):Value:=.int .i64 (.ofNat n)
def mV (tt:TT) (H:Aa) (dt:TypeId) (d x:Value):Option (Value×Aa):=
 oo (elemOf tt dt) none fun ie => oo (H5 x) none fun n => oo (IA d)
  (bb (DN d) (oo (Dt H ie.size 0 x) none λ_=>some (gi 0,H)) none)
  λs=>ss s λid off z dl _=>oo (Dt H ie.size (Nat.min n dl) x) none λnew=>
   bb (Nat.beq z ie.size) (bb (Nat.beq (Nat.min n dl) 0) (some (gi 0,H)) (oo (Ej H id off new) none λH'=>some (gi (Nat.min n dl),H'))) none
def U3 (tt:TT) (H:Aa) (t:TypeId) (x:Value):Option Value:=
 oo (tt t) none fun i => oo (Xi i.und)
  (oo (MO i.und)
    (oo (YF i.und) (bb (IE i.und) (oo (Gx x) none fun s => some (gi s.size)) none)
      λ_=>oo (IC x) none λm=>oo m (some (gi 0)) λid=>oo (JU (H.get id)) none λo=>some (gi (len o.es)))
    λp=>some (gi p.1))
  λ_=>oo (H5 x) none λn=>some (gi n)
def jO (tt:TT) (t:TypeId) (x:Value):Option Value:=
 oo (tt t) none λi=>oo (Xi i.und) none λ_=>oo (IA x) (oo (Le x) (bb (DN x) (some (gi 0)) none) λf=>bb (Dp (Nat.beq f.fl 1) (Nat.beq f.fl 2)) (some (gi f.n)) none) λs=>ss s λ_ _ _ _ c2=>bb (Nat.beq (c2 % 2) 1) (some (gi (c2 / 2))) none
def MW (isMax:Bool) (k:IntKind) (l:List Value):Int→Option Value:=
 List.rec (motive := fun _ => Int → Option Value) (fun a => iv k a)
  (λy _ ih a=>oo (ES y) none λp=>pp p λ_ b=>ih (bb isMax (bb (AY a b) b a) (bb (AY b a) b a))) l
def Nw (isMax:Bool) (args:List Value):Option Value:=ll args none λx rest=>oo (ES x) none λp=>pp p λk a=>MW isMax k rest a
def Li (tt:TT) (H:Aa) (t:TypeId) (x:Value):Option Aa:=
 II tt t λ_ _=>oo (IC x) none λm=>oo m (some H) λid=>oo (JU (H.get id)) none λo=>some (H.set id (.map [] o.clock))
def Z6 (tt:TT) (H:Aa) (t:TypeId) (x:Value):Option Aa:=
 oo (IA x) (Li tt H t x) λs=>oo (elemOf tt t) none λie=>oo ie.zero none λz=>ss s λid off sz n _=>
  bb (an (Nat.beq (len (cellsOf z)) ie.size) (nt (Nat.beq n 0))) (Ej H id off (AF (cellsOf z) n)) none
def Xn (tt:TT) (H:Aa) (t:TypeId) (m k:Value):Option Aa:=
 II tt t fun kt _ => oo (Kk H m) none fun p => pp p fun id o => bb (Mc tt kt k)
  (oo (GD k o.es 0) none λr=>oo r (some (H.set id (.map o.es o.clock))) λp=>pp p λj _=>some (H.set id (.map (qD j o.es) o.clock))) none
def keep (H:Aa) (v:Option Value):Option (Value×Aa):=oo v none λv=>some (v,H)
def done (H:Option Aa) (v:Value):Option (Value×Aa):=oo H none λH=>some (v,H)
def iP {β:Type} (l:List Value) (k:Value→Option β):Option β:=ll l none λx r=>ll r (k x) λ_ _=>none
def wE {β:Type} (l:List Value) (k:Value→Value→Option β):Option β:=ll l none λx r=>ll r none λy r=>ll r (k x y) λ_ _=>none
def mW {β:Type} (l:List TypeId) (k:TypeId→Option β):Option β:=ll l none λx _=>k x
def AbY {β:Type} (l:List TypeId) (k:TypeId→TypeId→Option β):Option β:=ll l none λx r=>ll r none λy _=>k x y
def Bu.pick {β:Type} (b:Builtin) (append cap clear copy delete len max min e:β):β:=
 Builtin.rec (motive:=λ_=>β) append cap clear e e copy delete e len e max min e e e e e e e e e e e e e e b
def Ny (b:Builtin):TT→Aa→List TypeId→List Value→Option (Value×Aa):=
 Bu.pick b (fun tt H ts args => wE args fun s x => AbY ts fun st xt => Xm tt H st xt s x)
  (λtt H ts args=>iP args λx=>mW ts λt=>keep H (jO tt t x))
  (λtt H ts args=>iP args λx=>mW ts λt=>done (Z6 tt H t x) (.tuple #[]))
  (λtt H ts args=>wE args λd x=>mW ts λt=>mV tt H t d x)
  (λtt H ts args=>wE args λm k=>mW ts λt=>done (Xn tt H t m k) (.tuple #[]))
  (λtt H ts args=>iP args λx=>mW ts λt=>keep H (U3 tt H t x))
  (λ_ H _ args=>keep H (Nw true args)) (λ_ H _ args=>keep H (Nw false args)) (λ_ _ _ _=>none)
def H8 (tt:TT) (H:Aa) (t:TypeId) (l c:Value):Option (Value×Aa):=
 oo (elemOf tt t) none λie=>oo (MN l) none λl=>oo (MN c) none λc=>oo ie.zero none λz=>
  bb (an (Nat.ble l c) (an (Nat.ble (c * ie.bytes) 1099511627776) (an (Nat.ble c 1099511627776) (Nat.beq (len (cellsOf z)) ie.size))))
   (some (sliceAt H.next 0 ie.size l c true,H.push (.cells (AF (cellsOf z) c) false false []))) none
def lay (place:Nat→Option (Nat×Nat)) (parts:List (Nat×Value)):List Value→Option (List Value):=
 List.rec (motive := fun _ => List Value → Option (List Value)) (fun cells => some cells)
  (λp _ ih cells=>pp p λi v=>oo (place i) none λq=>pp q λoff size=>bb (an (nt (noCell v)) (an (Nat.beq (len (cellsOf v)) size) (Nat.ble (off+size) (len cells)))) (ih (BM (cellsOf v) off cells)) none) parts
def placeOf (tt:TT) (fs:List Field) (i:Nat):Option (Nat×Nat):=oo (AL fs i) none λf=>oo (tt f.type) none λie=>some (f.offset,ie.size)
def stepOf (sz i:Nat):Option (Nat×Nat):=some (i*sz,sz)
def Z7 (tt:TT) (t:TypeId) (parts:List (Nat×Value)):Option Value:=
 oo (tt t) none fun i => oo i.zero none fun z => oo (Kj i.und)
  (oo (MO i.und) none λp=>oo (tt p.2) none λie=>oo (lay (stepOf ie.size) parts (cellsOf z)) none λl=>some (.agg ⟨l⟩))
  λfs=>bb (Au (λf=>isS (tt f.type)) fs.toList) (oo (lay (placeOf tt fs.toList) parts (cellsOf z)) none λl=>some (.agg ⟨l⟩)) none
def GG (tt:TT) (H:Aa) (t:TypeId) (n:Nat) (parts:List (Nat×Value)):Option (Value×Aa):=
 oo (elemOf tt t) none fun ie => oo ie.zero none fun z => bb (an (Nat.ble (n * ie.size) 16777216) (Nat.beq (len (cellsOf z)) ie.size))
  (oo (lay (stepOf ie.size) parts (AF (cellsOf z) n)) none λcs=>some (sliceAt H.next 0 ie.size n n true,H.push (.cells cs false false []))) none
def Ah (v:Value):Bool:=
 vv v (λ_=>true) (λ_ _=>true) (λ_=>true) (λa=>nt (isS a)) (λa l c=>an (nt (isS a)) (an (Nat.beq l 0) (Nat.beq c 0))) (λm=>nt (isS m)) (λ_ _ _=>false) true (λ_ x=>nt (isNilIface x)) true (λ_=>false) (λ_=>false) false
def closed2 (v:Value):Bool:=oo (Bt v) (Ah v) λl=>Au Ah l
def Fe (v:Value):Bool:=oo (CQ v) (closed2 v) λl=>Au closed2 l
abbrev A8:=FuncId→List Value→Aa→Option (Value×Aa)
def AbZ (f:Fn):Option FuncId:=Fn.rec (motive:=λ_=>Option FuncId) (λg=>some g) (λ_=>none) (λ_ _=>none) (λ_ _ _ _=>none) (λ_=>none) f
structure wF where
 f:FuncId
 first:List Value
 rest:List Value
def GH (v:Value):Option wF:=
 vv v (λ_=>none) (λ_ _=>none) (λ_=>none) (λ_=>none) (λ_ _ _=>none) (λ_=>none) (λf a b=>oo (AbZ f) none λg=>some ⟨g,JS a,JS b⟩) none (λ_ _=>none) none (λ_=>none) (λ_=>none) none
def mX (tt:TT) (call:A8) (ρ:Operand→Value) (H:Aa) (c:Callee) (args:List Value) (ts:List TypeId):Option (Value×Aa):=
 Callee.rec (motive := fun _ => Option (Value × Aa)) (fun f => oo (GH (ρ f)) none fun g => wF.rec (motive := fun _ => Option (Value × Aa)) (fun f a b => call f (Br a (Br args b)) H) g)
  (λ_ _=>none) (λb=>Ny b tt H ts args) c
def PV (v:Value):Option Value:=oo (FO v) (oo (Pv v) (oo (GH v) none λ_=>some v) λ_=>some v) λ_=>some v
def Ab1 (c a b:Value):Option Value:=oo (Bf c) none λt=>some (bb t a b)
def SY (t:Value) (i:Nat):Option Value:=oo (CQ t) none λvs=>AL vs i
def Xo (tt:TT) (H:Aa) (e:TypeId):Option (Value×Aa):=oo (zeroOf tt e) none λz=>QZ H (cellsOf z)
def U4 (ρ:Operand→Value) (o:Option Operand):Option Value:=oo o none λx=>some (ρ x)
def partsOf (ρ:Operand→Value) (ps:Array (Nat×Operand)):List (Nat×Value):=AP (λp=>pp p λi x=>(i,ρ x)) ps.toList
def S9 (op:Op):TT→A8→(Operand→Value)→Aa→Option (Value×Aa):=
 Op.rec (motive := fun _ => TT → A8 → (Operand → Value) → Aa → Option (Value × Aa)) (t := op)
  (move:=λx _ _ ρ H=>some (ρ x,H))
  (assign:=λx _ _ ρ H=>some (ρ x,H))
  (pick:=λc a b _ _ ρ H=>keep H (Ab1 (ρ c) (ρ a) (ρ b)))
  (alloc:=λe tt _ _ H=>Xo tt H e)
  (box:=λ_ x _ _ ρ H=>bb (noCell (ρ x)) none (QZ H (cellsOf (ρ x))))
  (build:=λt ps tt _ ρ H=>keep H (Z7 tt t (partsOf ρ ps)))
  (buildSlice:=λt n ps tt _ ρ H=>GG tt H t n (partsOf ρ ps))
  (insert:=λt m k v tt _ ρ H=>done (JV tt H t (ρ m) (ρ k) (ρ v)) undef)
  (load:=λt a tt _ ρ H=>keep H (Ma tt H t (ρ a)))
  (store:=λt a x tt _ ρ H=>done (ZY tt H t (ρ a) (ρ x)) undef)
  (ready:=λ_ _ _ _ _=>none)
  (waits:=λ_ _ _ _ _=>none)
  (nilCheck:=λx _ _ ρ H=>keep H (PV (ρ x)))
  (binOp:=λop t x y _ tt _ ρ H=>keep H (qG tt op t (ρ x) (ρ y)))
  (unOp:=λop _ x _ _ ρ H=>keep H (wX op (ρ x)))
  (convert:=λs d x tt _ ρ H=>keep H (mU tt s d (ρ x)))
  (sliceToArrayPointer:=λ_ _ _ _ _ _=>none)
  (makeInterface:=λ_ _ _ _ _ _=>none)
  (makeFunc:=λfn fs cs _ _ ρ H=>some (.func fn ⟨AP ρ fs.toList⟩ ⟨AP ρ cs.toList⟩,H))
  (makeMap:=λ_ r _ _ _ H=>oo r (some (.map (some H.next),H.push (.map [] 0))) λ_=>none)
  (makeChan:=λ_ _ _ _ _ _=>none)
  (makeSlice:=λt l c tt _ ρ H=>H8 tt H t (ρ l) (ρ c))
  (slice:=λt x lo hi mx tt _ ρ H=>keep H (Lh tt H t (ρ x) (U4 ρ lo) (U4 ρ hi) (U4 ρ mx)))
  (fieldAddr:=λt x f tt _ ρ H=>keep H (Nv tt t (ρ x) f))
  (field:=λt x f tt _ ρ H=>keep H (ZZ tt t (ρ x) f))
  (indexAddr:=λt x i tt _ ρ H=>keep H (Nt tt t (ρ x) (ρ i)))
  (index:=λt x i tt _ ρ H=>keep H (Z0 tt t (ρ x) (ρ i)))
  (lookup:=λt x i ok tt _ ρ H=>keep H (Jk tt H t (ρ x) (ρ i) ok))
  (mapUpdate:=λt m k v tt _ ρ H=>done (JV tt H t (ρ m) (ρ k) (ρ v)) undef)
  (mapEntry:=λt m k tt _ ρ H=>PT tt H t (ρ m) (ρ k))
  (entryStore:=λ_ m s v _ _ ρ H=>done (Md H (ρ m) (ρ s) (ρ v)) undef)
  (range:=λt x tt _ ρ H=>Z4 tt H t (ρ x))
  (next:=λ_ _ _ _ _ _=>none)
  (entry:=λx _ _ ρ H=>keep H (Z5 H (ρ x)))
  (typeAssert:=λ_ _ _ _ _ _ _ _=>none)
  (extract:=λt i _ _ ρ H=>keep H (SY (ρ t) i))
  (call:=λc tt call ρ H=>mX tt call ρ H c.callee (AP ρ c.args.toList) c.argTypes.toList)
  (go:=λ_ _ _ _ _=>none)
  (defer:=λ_ _ _ _ _=>none)
  (panic:=λ_ _ _ _ _=>none)
  (send:=λ_ _ _ _ _ _=>none)
  (recv:=λ_ _ _ _ _ _ _=>none)
  (select:=λ_ _ _ _ _ _=>none)
structure Fs where
 dst:Option Nat
 op:Op
 ty:TypeId
 gd:Option (Option Nat×Bool)
 watch:List Operand
inductive RC where
 | skip
 | reg (ord:List Nat) (ops:List Fs)
 | seq (a b:RC)
 | cond (c:Operand) (a b:RC)
 | block (id:Nat) (b:RC)
 | loop (b:RC)
 | exit (id:Nat)
 | ret
 | scope (b:RC) (l:Nat) (r:RC)
 | label (l:Nat)
 | goto (l:Nat)
inductive Ex where
 | normal
 | exit (id:Nat)
 | ret
 | goto (l:Nat)
def IJ (a b:Option Addr):Bool:=
 oo a (nt (isS b)) λa=>oo b false λb=>an (Nat.beq a.block b.block) (an (Nat.beq a.off b.off) (oo a.spot (nt (isS b.spot)) λs=>oo b.spot false λt=>Nat.beq s t))
def Xp (a b:Option Nat):Bool:=oo a (nt (isS b)) λa=>oo b false λb=>Nat.beq a b
def Ta (v:Value):Option (Option Addr):=
 vv v (λ_=>none) (λ_ _=>none) (λ_=>none) (λa=>some a) (λ_ _ _=>none) (λ_=>none) (λ_ _ _=>none) none (λ_ _=>none) none (λ_=>none) (λ_=>none) none
structure yZ where
 a:Option Addr
 l:Nat
 c:Nat
def Z8 (v:Value):Option yZ:=
 vv v (λ_=>none) (λ_ _=>none) (λ_=>none) (λ_=>none) (λa l c=>some ⟨a,l,c⟩) (λ_=>none) (λ_ _ _=>none) none (λ_ _=>none) none (λ_=>none) (λ_=>none) none
def U5 (v:Value):Bool:=
 vv v (λ_=>false) (λ_ _=>false) (λ_=>false) (λ_=>false) (λ_ _ _=>false) (λ_=>false) (λ_ _ _=>false) true (λ_ _=>false) false (λ_=>false) (λ_=>false) false
def U6 (v:Value):Bool:=
 vv v (λ_=>false) (λ_ _=>false) (λ_=>false) (λ_=>false) (λ_ _ _=>false) (λ_=>false) (λ_ _ _=>false) false (λ_ _=>false) true (λ_=>false) (λ_=>false) false
def Q3 (x y:Value):Bool:=
 vv x (fun a => oo (Bf y) false fun b => bq a b) (fun k a => oo (ES y) false fun q => pp q fun j b => an (De k j) (Bd a b))
  (λa=>oo (Gx y) false λb=>decide (a.data.toList=b.data.toList)) (λa=>oo (Ta y) false λb=>IJ a b)
  (λa l c=>oo (Z8 y) false λs=>an (IJ a s.a) (an (Nat.beq l s.l) (Nat.beq c s.c))) (λm=>oo (IC y) false λn=>Xp m n)
  (λ_ _ _=>false) (U5 y) (λ_ _=>false) (U6 y) (λ_=>false) (λ_=>false) false
def GI (xs:List Value):List Value→Bool:=
 List.rec (motive:=λ_=>List Value→Bool) (λys=>ll ys true λ_ _=>false) (λx _ ih ys=>ll ys false λy ys=>an (Q3 x y) (ih ys)) xs
def Z9 (x y:Value):Bool:=
 vv x (fun a => oo (Bf y) false fun b => bq a b) (fun k a => oo (ES y) false fun q => pp q fun j b => an (De k j) (Bd a b))
  (λa=>oo (Gx y) false λb=>decide (a.data.toList=b.data.toList)) (λa=>oo (Ta y) false λb=>IJ a b)
  (λa l c=>oo (Z8 y) false λs=>an (IJ a s.a) (an (Nat.beq l s.l) (Nat.beq c s.c))) (λm=>oo (IC y) false λn=>Xp m n)
  (λ_ _ _=>oo (GH x) false λp=>oo (GH y) false λq=>an (Nat.beq p.f q.f) (an (GI p.first q.first) (GI p.rest q.rest))) (U5 y) (λ_ _=>oo (Le x) false λp=>oo (Le y) false λq=>an (Nat.beq p.sz q.sz) (an (Nat.beq p.n q.n) (an (Nat.beq p.fl q.fl) (GI p.cs q.cs)))) (U6 y) (λ_=>false) (λ_=>false) false
def FE (xs:List Value):List Value→Bool:=
 List.rec (motive:=λ_=>List Value→Bool) (λys=>ll ys true λ_ _=>false) (λx _ ih ys=>ll ys false λy ys=>an (Z9 x y) (ih ys)) xs
def Lj (xs ys:List Value):Prop:=xs=ys
def sameAt (H H':Aa) (v:Value):Bool:=
 oo (FO v) (oo (IC v) true λm=>nt (isS m)) λp=>pp p λid _=>oo (Bv (H.get id)) false λo=>oo (Bv (H'.get id)) false λo'=>
  Dp (FE o.xs o'.xs) (@decide (Lj o.xs o'.xs) (Classical.propDecidable _))
def Fs.wanted (o:Fs) (F:Fr):Bool:=oo o.gd true λp=>pp p λt want=>oo t false λt=>oo (Bf (F.get t)) false λb=>bq b want
def Fs.gdOk (o:Fs) (F:Fr):Bool:=oo o.gd true λp=>pp p λt _=>oo t true λt=>nt (Nq (F.get t))
def BD (tt:TT) (call:A8) (os:List Fs):Fr→Aa→Option (Fr×Aa):=
 List.rec (motive := fun _ => Fr → Aa → Option (Fr × Aa)) (fun F H => some (F, H))
  (fun o _ ih F H => bb (o.gdOk F) (bb (o.wanted F)
    (oo (S9 o.op tt call F.eval H) none fun p => pp p fun v H' => HZ H v fun v => JR H' fun H' =>
      bb (Au (λx=>sameAt H H' (F.eval x)) o.watch) (F.putK o.dst v λF=>ih F H') none)
    (F.putK o.dst undef λF=>ih F H)) none) os
structure EvS where
 e:Ex
 F:Fr
 H:Aa
abbrev Kl:=Option EvS
def wY (r:Kl) (n:Fr→Aa→Kl) (x:Nat→Fr→Aa→Kl) (t:Fr→Aa→Kl) (g:Nat→Fr→Aa→Kl):Kl:=
 oo r none λs=>EvS.rec (motive:=λ_=>Kl) (λe F H=>Ex.rec (motive:=λ_=>Fr→Aa→Kl) n x t g e F H) s
def IK (r:Kl) (k:Fr→Aa→Kl):Kl:=wY r k (λj F H=>some ⟨.exit j,F,H⟩) (λF H=>some ⟨.ret,F,H⟩) (λj F H=>some ⟨.goto j,F,H⟩)
def Q4 (id:Nat) (r:Kl):Kl:=
 wY r (λF H=>some ⟨.normal,F,H⟩) (λj F H=>bb (Nat.beq j id) (some ⟨.normal,F,H⟩) (some ⟨.exit j,F,H⟩)) (λF H=>some ⟨.ret,F,H⟩) (λj F H=>some ⟨.goto j,F,H⟩)
def Q5 (f:Fr→Aa→Kl) (n:Nat):Fr→Aa→Kl:=
 Nat.rec (motive:=λ_=>Fr→Aa→Kl) (λ_ _=>none) (λ_ ih F H=>IK (f F H) ih) n
def MX (l:Nat) (f:Fr→Aa→Kl) (n:Nat):Kl→Kl:=
 Nat.rec (motive:=λ_=>Kl→Kl) (λ_=>none) (λ_ ih r=>
  wY r (λF H=>some ⟨.normal,F,H⟩) (λj F H=>some ⟨.exit j,F,H⟩) (λF H=>some ⟨.ret,F,H⟩) (λj F H=>bb (Nat.beq j l) (ih (f F H)) none)) n
def Ab2 (r:Option (Fr×Aa)):Kl:=oo r none λp=>pp p λF H=>some ⟨.normal,F,H⟩
def MZ (tt:TT) (call:A8) (fuel:Nat) (c:RC):Fr→Aa→Kl:=
 RC.rec (motive := fun _ => Fr → Aa → Kl)
  (λF H=>some ⟨.normal,F,H⟩)
  (λ_ ops F H=>Ab2 (BD tt call ops F H))
  (λ_ _ ea eb F H=>IK (ea F H) eb)
  (λc _ _ ea eb F H=>oo (Bf (F.eval c)) none λt=>bb t (ea F H) (eb F H))
  (λid _ eb F H=>Q4 id (eb F H))
  (λ_ eb F H=>Q5 eb fuel F H)
  (λid F H=>some ⟨.exit id,F,H⟩)
  (λF H=>some ⟨.ret,F,H⟩)
  (λ_ l _ eb er F H=>MX l er fuel (eb F H))
  (λ_ F H=>some ⟨.normal,F,H⟩)
  (λl F H=>some ⟨.goto l,F,H⟩) c
structure Xq where
 n:Nat
 body:RC
 results:List ResultVar
def Q6 (tt:TT) (F:Fr) (H:Aa) (r:ResultVar):Option Value:=
 ResultVar.rec (motive:=λ_=>Option Value) (λt=>some (F.get t)) (λa t=>Ma tt H t (F.get a)) r
def Ll (tt:TT) (F:Fr) (H:Aa) (l:List ResultVar):Option (List Value):=
 List.rec (motive:=λ_=>Option (List Value)) (some []) (λr _ ih=>oo (Q6 tt F H r) none λv=>oo ih none λl=>some (v::l)) l
def DV (tt:TT) (F:Fr) (H:Aa) (rs:List ResultVar):Option Value:=
 oo (Ll tt F H rs) none λl=>ll l (some (.tuple #[])) λv r=>ll r (some v) λ_ _=>some (.tuple ⟨l⟩)
def Xr (tt:TT) (rs:List ResultVar) (r:Kl):Option (Value×Aa):=
 oo r none fun s => EvS.rec (motive := fun _ => Option (Value × Aa)) (fun e F H => Ex.rec (motive := fun _ => Option (Value × Aa))
  (keep H (DV tt F H rs)) (λ_=>none) (keep H (DV tt F H rs)) (λ_=>none) e) s
def Cr (tt:TT) (Pf:FuncId→Option Xq) (n:Nat):A8:=
 Nat.rec (motive := fun _ => A8) (fun _ _ _ => none)
  (λm ih f args H=>oo (Pf f) none λfn=>bb (Nat.ble (len args) fn.n) (Xr tt fn.results (MZ tt ih m fn.body (Fr.made fn.n args) H)) none) n
end
end Go.Sp
namespace Go.Sp
@[simp] theorem Ak {β:Type} (t e:β):bb true t e=t:=rfl
@[simp] theorem AA {β:Type} (t e:β):bb false t e=e:=rfl
theorem BL {β:Type} (c:Bool) (t e:β):bb c t e=if c=true then t else e:=by cases c <;> rfl
@[simp] theorem Az {α β:Type} (n:β) (s:α→β):oo none n s=n:=rfl
@[simp] theorem Ac {α β:Type} (a:α) (n:β) (s:α→β):oo (some a) n s=s a:=rfl
@[simp] theorem GJ {α β γ:Type} (a:α) (b:β) (k:α→β→γ):pp (a,b) k=k a b:=rfl
@[simp] theorem Aif {β:Type} (z:β) (s:Nat→β):nn 0 z s=z:=rfl
@[simp] theorem Aig {β:Type} (n:Nat) (z:β) (s:Nat→β):nn (n+1) z s=s n:=rfl
@[simp] theorem F6 {β:Type} (n:Nat) (p q:Nat→β):ii (.ofNat n) p q=p n:=rfl
@[simp] theorem qI {β:Type} (n:Nat) (p q:Nat→β):ii (n:Int) p q=p n:=rfl
@[simp] theorem ET {β:Type} (n:Nat) (p q:Nat→β):ii (.negSucc n) p q=q n:=rfl
@[simp] theorem Ai8 {α β:Type} (z:β) (s:α→List α→β):ll [] z s=z:=rfl
@[simp] theorem Aih {α β:Type} (a:α) (r:List α) (z:β) (s:α→List α→β):ll (a::r) z s=s a r:=rfl
@[simp] theorem CF (a b:Bool):an a b=(a && b):=by cases a <;> rfl
@[simp] theorem Km (a:Bool):nt a = !a:=by cases a <;> rfl
@[simp] theorem Ed (a b:Bool):Dp a b=(a || b):=by cases a <;> rfl
@[simp] theorem mY (a b:Bool):bq a b=(a == b):=by cases a <;> cases b <;> rfl
@[simp] theorem Nz {α:Type}:isS (none:Option α)=false:=rfl
@[simp] theorem NA {α:Type} (a:α):isS (some a)=true:=rfl
theorem qJ {α:Type} (o:Option α):isS o=o.isSome:=by cases o <;> rfl
@[simp] theorem AV {α:Type} (l:List α):len l=l.length:=by
 induction l with
 | nil=>rfl
 | cons a l ih=>show Nat.succ (len l)=_;rw[ih];rfl
@[simp] theorem Cc {α β:Type} (f:α→β) (l:List α):AP f l=l.map f:=by
 induction l with
 | nil=>rfl
 | cons a l ih=>show f a::AP f l=_;rw[ih];rfl
@[simp] theorem Bh {α:Type} (p:α→Bool) (l:List α):Au p l=l.all p:=by
 induction l with
 | nil=>rfl
 | cons a l ih=>show an (p a) (Au p l)=_;rw[ih,CF];rfl
@[simp] theorem BH {α:Type} (l m:List α):Br l m=l++m:=by
 induction l with
 | nil=>rfl
 | cons a l ih=>show a::Br l m=_;rw[ih];rfl
@[simp] theorem Bz {α:Type} (n:Nat) (l:List α):Am n l=l.drop n:=by
 induction n generalizing l with
 | zero=>rfl
 | succ n ih => cases l with
  | nil=>rfl
  | cons a l=>show Am n l=_;rw[ih];rfl
@[simp] theorem Cg {α:Type} (n:Nat) (l:List α):Aq n l=l.take n:=by
 induction n generalizing l with
 | zero=>rfl
 | succ n ih => cases l with
  | nil=>rfl
  | cons a l=>show a::Aq n l=_;rw[ih];rfl
@[simp] theorem BZ {α:Type} (l:List α) (i:Nat):AL l i=l[i]?:=by
 induction l generalizing i with
 | nil=>rfl
 | cons a l ih => cases i with
  | zero=>rfl
  | succ i=>show AL l i=_;rw[ih];rfl
theorem Ep {α:Type} (ys:List α) (i:Nat) (xs:List α) (h:i+ys.length≤xs.length):(BM ys i xs).length=xs.length:=by
 induction i generalizing xs with
 | zero=>show (Br ys (Am (len ys) xs)).length=_;simp;omega
 | succ i ih => cases xs with
  | nil=>simp at h
  | cons a xs=>show (a::BM ys i xs).length=_;simp at h;simp[ih xs (by omega)]
theorem He {α:Type} (ys:List α) (i:Nat) (xs:List α) (h:i+ys.length≤xs.length) (j:Nat) :
 (BM ys i xs)[j]?=if i≤j∧j < i+ys.length then ys[j - i]? else xs[j]?:=by
 induction i generalizing xs j with
 | zero =>
  show (Br ys (Am (len ys) xs))[j]?=_
  simp only[BH,Bz,AV,Nat.zero_le,true_and,Nat.zero_add,Nat.sub_zero]
  by_cases hj:j < ys.length
  ·rw[if_pos hj,List.getElem?_append_left hj]
  ·rw[if_neg hj,List.getElem?_append_right (by omega),List.getElem?_drop];congr 1;omega
 | succ i ih => cases xs with
  | nil=>simp at h
  | cons a xs =>
   show (a::BM ys i xs)[j]?=_
   simp at h
   cases j with
   | zero=>simp
   | succ j =>
    simp only[List.getElem?_cons_succ,ih xs (by omega),Nat.add_sub_add_right]
    congr 1
    simp only[eq_iff_iff];omega
theorem Tr.get_node_zero {α:Type} (v:Option α) (l r:Tr α):(Tr.node v l r).get 0=v:=rfl
theorem Tr.get_node_succ {α:Type} (v:Option α) (l r:Tr α) (j:Nat):(Tr.node v l r).get (j+1)=if j % 2=0 then l.get (j / 2) else r.get (j / 2):=by
 show Bool.rec (motive:=λ_=>Option α) (r.get (j / 2)) (l.get (j / 2)) (Nat.beq (j % 2) 0)=_
 by_cases h:j % 2=0
 ·rw[if_pos h,h];rfl
 ·rw[if_neg h]
  have:Nat.beq (j % 2) 0=false:=by cases hb:Nat.beq (j % 2) 0 with
   | false=>rfl
   | true=>exact absurd (Nat.eq_of_beq_eq_true hb) h
  rw[this]
@[simp] theorem Tr.get_nil {α:Type} (i:Nat):(Tr.nil:Tr α).get i=none:=rfl
noncomputable def Tr.sing {α:Type} (a:α) (f i:Nat):Tr α:=Tr.singK a f i id
theorem Tr.singK_eq {α β:Type} (a:α) (f i:Nat) (k:Tr α→β):Tr.singK a f i k=k (Tr.sing a f i):=by
 induction f generalizing i β with
 | zero=>rfl
 | succ f ih =>
  cases i with
  | zero=>rfl
  | succ j =>
   show Bool.rec (motive := fun _ => β) (Tr.singK a f (j / 2) fun t => k (.node none .nil t)) (Tr.singK a f (j / 2) fun t => k (.node none t .nil)) (Nat.beq (j % 2) 0) =
    k (Bool.rec (motive:=λ_=>Tr α) (Tr.singK a f (j / 2) λt=>(.node none .nil t)) (Tr.singK a f (j / 2) λt=>(.node none t .nil)) (Nat.beq (j % 2) 0))
   cases Nat.beq (j % 2) 0
   ·show Tr.singK a f (j / 2) _=k (Tr.singK a f (j / 2) _)
    rw[ih (β:=β),ih (β:=Tr α)]
   ·show Tr.singK a f (j / 2) _=k (Tr.singK a f (j / 2) _)
    rw[ih (β:=β),ih (β:=Tr α)]
theorem Tr.setK_eq {α β:Type} (t:Tr α) (i:Nat) (a:α) (k:Tr α→β):t.setK i a k=k (t.set i a):=by
 induction t generalizing i β with
 | nil=>show Tr.singK a (i+1) i k=k (Tr.singK a (i+1) i id);rw[Tr.singK_eq,Tr.singK_eq];rfl
 | node v l r ihl ihr =>
  cases i with
  | zero=>rfl
  | succ j =>
   show Bool.rec (motive := fun _ => β) (r.setK (j / 2) a fun t => k (.node v l t)) (l.setK (j / 2) a fun t => k (.node v t r)) (Nat.beq (j % 2) 0) =
    k (Bool.rec (motive:=λ_=>Tr α) (r.setK (j / 2) a λt=>(.node v l t)) (l.setK (j / 2) a λt=>(.node v t r)) (Nat.beq (j % 2) 0))
   cases Nat.beq (j % 2) 0
   ·show r.setK (j / 2) a _=k (r.setK (j / 2) a _)
    rw[ihr (β:=β),ihr (β:=Tr α)]
   ·show l.setK (j / 2) a _=k (l.setK (j / 2) a _)
    rw[ihl (β:=β),ihl (β:=Tr α)]
theorem Xt (j:Nat):Nat.beq (j % 2) 0=decide (j % 2=0):=by
 rw[Bool.eq_iff_iff];simp
theorem Tr.sing_succ {α:Type} (a:α) (f j:Nat):Tr.sing a (f+1) (j+1)=if j % 2=0 then .node none (Tr.sing a f (j / 2)) .nil else .node none .nil (Tr.sing a f (j / 2)):=by
 show Bool.rec (motive:=λ_=>Tr α) (Tr.singK a f (j / 2) λt=>(.node none .nil t)) (Tr.singK a f (j / 2) λt=>(.node none t .nil)) (Nat.beq (j % 2) 0)=_
 rw[Xt]
 by_cases h:j % 2=0
 ·simp only[h,decide_true,if_true];rw[Tr.singK_eq]
 ·simp only[h,decide_false,if_false];rw[Tr.singK_eq]
theorem Tr.get_sing {α:Type} (a:α) (f i j:Nat) (h:i < f):(Tr.sing a f i).get j=if i=j then some a else none:=by
 induction f generalizing i j with
 | zero=>omega
 | succ f ih =>
  cases i with
  | zero =>
   show (Tr.node (some a) .nil .nil).get j=_
   cases j with
   | zero=>rfl
   | succ j=>rw[Tr.get_node_succ];simp
  | succ i =>
   rw[Tr.sing_succ]
   cases j with
   | zero=>by_cases hi:i % 2=0 <;> simp[hi,Tr.get_node_zero]
   | succ j =>
    by_cases hi:i % 2=0
    ·rw[if_pos hi,Tr.get_node_succ,ih _ _ (by omega)]
     by_cases hj:j % 2=0
     ·rw[if_pos hj];congr 1;simp only[eq_iff_iff];omega
     ·rw[if_neg hj,if_neg (by omega)];rfl
    ·rw[if_neg hi,Tr.get_node_succ,ih _ _ (by omega)]
     by_cases hj:j % 2=0
     ·rw[if_pos hj,if_neg (by omega)];rfl
     ·rw[if_neg hj];congr 1;simp only[eq_iff_iff];omega
theorem Tr.set_node_succ {α:Type} (v:Option α) (l r:Tr α) (j:Nat) (a:α):(Tr.node v l r).set (j+1) a=if j % 2=0 then .node v (l.set (j / 2) a) r else .node v l (r.set (j / 2) a):=by
 show Bool.rec (motive:=λ_=>Tr α) (r.setK (j / 2) a λt=>(.node v l t)) (l.setK (j / 2) a λt=>(.node v t r)) (Nat.beq (j % 2) 0)=_
 rw[Xt]
 by_cases h:j % 2=0
 ·simp only[h,decide_true,if_true];rw[Tr.setK_eq]
 ·simp only[h,decide_false,if_false];rw[Tr.setK_eq]
theorem Tr.get_set {α:Type} (t:Tr α) (i:Nat) (a:α) (j:Nat):(t.set i a).get j=if i=j then some a else t.get j:=by
 induction t generalizing i j with
 | nil=>show (Tr.singK a (i+1) i id).get j=_;rw[Tr.singK_eq];simp only[id];rw[Tr.get_sing _ _ _ _ (by omega)];simp
 | node v l r ihl ihr =>
  cases i with
  | zero =>
   show (Tr.node (some a) l r).get j=_
   cases j with
   | zero=>rfl
   | succ j=>rw[Tr.get_node_succ,Tr.get_node_succ];simp
  | succ i =>
   rw[Tr.set_node_succ]
   cases j with
   | zero=>by_cases hi:i % 2=0 <;> simp[hi,Tr.get_node_zero]
   | succ j =>
    by_cases hi:i % 2=0
    ·rw[if_pos hi,Tr.get_node_succ,Tr.get_node_succ,ihl]
     by_cases hj:j % 2=0
     ·simp only[hj,if_true];congr 1;simp only[eq_iff_iff];omega
     ·simp only[hj,if_false];rw[if_neg (by omega)]
    ·rw[if_neg hi,Tr.get_node_succ,Tr.get_node_succ,ihr]
     by_cases hj:j % 2=0
     ·simp only[hj,if_true];rw[if_neg (by omega)]
     ·simp only[hj,if_false];congr 1;simp only[eq_iff_iff];omega
@[simp] theorem Lm {β:Type} (n:Nat) (k:Nat→β):Ec n k=k n:=by cases n <;> rfl
@[simp] theorem AbI {β:Type} (n:Int) (k:Int→β):U1 n k=k n:=by
 cases n with
 | ofNat n=>exact Lm n λn=>k (.ofNat n)
 | negSucc n=>exact Lm n λn=>k (.negSucc n)
@[simp] theorem AbJ {β:Type} (a:Option Addr) (k:Option Addr→β):La a k=k a:=by
 cases a with
 | none=>rfl
 | some a=>obtain⟨b,o,s⟩:=a;cases s <;> simp[La]
@[simp] theorem YI {β:Type} (b:Bool) (k:Bool→β):Lb b k=k b:=by cases b <;> rfl
@[simp] theorem AbK {β:Type} (v:Value) (k:Value→β):QT v k=k v:=by
 cases v <;> first | rfl | simp[QT,vv]
@[simp] theorem AbL {β:Type} (l:List Value) (k:List Value→β):Nj l k=k l:=by
 induction l generalizing k with
 | nil=>rfl
 | cons x r ih=>show QT x (λx=>Nj r λr=>k (x::r))=_;simp[ih]
@[simp] theorem mZ {β:Type} (a:Array Value) (k:Array Value→β):Nk a k=k a:=by
 obtain⟨l⟩:=a;show Nj l (λl=>k ⟨l⟩)=_;simp
@[simp] theorem AbM {β:Type} (v:Value) (k:Value→β):JQ v k=k v:=by
 cases v <;> first | rfl | simp[JQ,vv]
@[simp] theorem qK {β:Type} (l:List EO) (k:List EO→β):QU l k=k l:=by
 induction l generalizing k with
 | nil=>rfl
 | cons e r ih=>obtain⟨x,y,n⟩:=e;show JQ x (λx=>JQ y λy=>Ec n λn=>QU r λr=>k (⟨x,y,n⟩::r))=_;simp[ih]
@[simp] theorem AbN {β:Type} (o:AJ) (k:AJ→β):Lc o k=k o:=by cases o <;> first | rfl | simp[Lc]
@[simp] theorem AbO {β:Type} (t:Tr AJ) (k:Tr AJ→β):ZV t k=k t:=by cases t <;> rfl
@[simp] theorem Lp {β:Type} (H:Aa) (k:Aa→β):JR H k=k H:=by obtain⟨n,t,z⟩:=H;cases z <;> simp[JR]
@[simp] theorem JW {β:Type} (H:Aa) (v:Value) (k:Value→β):HZ H v k=k v:=by obtain⟨n,t,z⟩:=H;cases z <;> simp[HZ]
theorem Aa.get_mk (n:Nat) (t:Tr AJ) (z:Bool) (i:Nat):(Aa.mk n t z).get i=(t.get i).getD .dead:=by
 show oo (t.get i) AJ.dead (λo=>o)=_;cases t.get i <;> rfl
theorem Aa.set_mk (n:Nat) (t:Tr AJ) (z:Bool) (i:Nat) (o:AJ):(Aa.mk n t z).set i o=⟨n,t.set i o,z⟩:=by
 cases z
 ·show Lc o (λo=>t.setK i o λt=>Aa.mk n t false)=_;simp[Tr.setK_eq]
 ·show t.setK i o (λt=>Aa.mk n t true)=_;simp[Tr.setK_eq]
theorem Aa.push_mk (n:Nat) (t:Tr AJ) (z:Bool) (o:AJ):(Aa.mk n t z).push o=⟨n+1,t.set n o,z⟩:=by
 cases z
 ·show Lc o (λo=>t.setK n o λt=>Aa.mk (Nat.succ n) t false)=_;simp[Tr.setK_eq]
 ·show t.setK n o (λt=>Aa.mk (Nat.succ n) t true)=_;simp[Tr.setK_eq]
@[simp] theorem Aa.next_set (H:Aa) (i:Nat) (o:AJ):(H.set i o).next=H.next:=by obtain⟨n,t,z⟩:=H;rw[Aa.set_mk]
@[simp] theorem Aa.next_push (H:Aa) (o:AJ):(H.push o).next=H.next+1:=by obtain⟨n,t,z⟩:=H;rw[Aa.push_mk]
theorem Aa.get_set (H:Aa) (i:Nat) (o:AJ) (j:Nat):(H.set i o).get j=if i=j then o else H.get j:=by
 obtain⟨n,t,z⟩:=H;rw[Aa.set_mk,Aa.get_mk,Aa.get_mk,Tr.get_set];split <;> rfl
theorem Aa.get_push (H:Aa) (o:AJ) (j:Nat):(H.push o).get j=if H.next=j then o else H.get j:=by
 obtain⟨n,t,z⟩:=H;rw[Aa.push_mk,Aa.get_mk,Aa.get_mk,Tr.get_set];split <;> rfl
@[simp] theorem Aa.next_kill (H:Aa) (l:List Nat):(H.kill l).next=H.next:=by
 induction l generalizing H with
 | nil=>rfl
 | cons i l ih=>show ((H.set i .dead).kill l).next=_;rw[ih];simp
theorem Aa.get_kill (H:Aa) (l:List Nat) (j:Nat):(H.kill l).get j=if j∈l then .dead else H.get j:=by
 induction l generalizing H with
 | nil=>simp;rfl
 | cons i l ih =>
  show ((H.set i .dead).kill l).get j=_
  rw[ih,Aa.get_set]
  by_cases hj:j∈l
  ·simp[hj]
  ·by_cases hi:i=j
   ·subst hi;simp[hj]
   ·simp[hj,hi];intro h;exact absurd h.symm hi
def Aa.wf (H:Aa):Prop:=∀ id,H.next≤id→H.get id = .dead
theorem Aa.wf.lt {H:Aa} (h:H.wf) {id:Nat} (hg:H.get id ≠ .dead):id < H.next:=by
 rcases Nat.lt_or_ge id H.next with h1 | h1
 ·exact h1
 ·exact absurd (h id h1) hg
theorem Aa.wf.set {H:Aa} (h:H.wf) {i:Nat} (hi:i < H.next) (o:AJ):(H.set i o).wf:=fun id hid=>by
 rw[Aa.next_set] at hid
 rw[Aa.get_set,if_neg (by omega)];exact h id hid
theorem Aa.wf.push {H:Aa} (h:H.wf) (o:AJ):(H.push o).wf:=fun id hid=>by
 rw[Aa.next_push] at hid
 rw[Aa.get_push,if_neg (by omega)];exact h id (by omega)
theorem Aa.wf.kill {H:Aa} (h:H.wf) (l:List Nat):(H.kill l).wf:=fun id hid=>by
 rw[Aa.next_kill] at hid
 rw[Aa.get_kill];split
 ·rfl
 ·exact h id hid
theorem Fr.get_mk (n:Nat) (T:Tr Value) (t:Nat):(Fr.mk n T).get t=(T.get t).getD EP:=by
 show oo (T.get t) EP (λv=>v)=_;cases T.get t <;> rfl
theorem Fr.putK_eq {β:Type} (F:Fr) (d:Option Nat) (v:Value) (k:Fr→β):F.putK d v k=k (F.put d v):=by
 cases d with
 | none=>rfl
 | some d =>
  obtain⟨n,T⟩:=F
  show bb (Nat.blt d n) (T.setK d v λT=>k ⟨n,T⟩) (k ⟨n,T⟩)=k (bb (Nat.blt d n) (T.setK d v λT=>id ⟨n,T⟩) (id ⟨n,T⟩))
  cases Nat.blt d n
  ·rfl
  ·simp[Tr.setK_eq]
@[simp] theorem Fr.n_put (F:Fr) (d:Option Nat) (v:Value):(F.put d v).n=F.n:=by
 cases d with
 | none=>rfl
 | some d =>
  obtain⟨n,T⟩:=F
  show (bb (Nat.blt d n) (T.setK d v λT=>id (Fr.mk n T)) (id ⟨n,T⟩)).n=_
  cases Nat.blt d n
  ·rfl
  ·simp[Tr.setK_eq]
theorem Fr.get_put (F:Fr) (d:Nat) (v:Value) (t:Nat):(F.put (some d) v).get t=if d=t∧d < F.n then v else F.get t:=by
 obtain⟨n,T⟩:=F
 show (bb (Nat.blt d n) (T.setK d v λT=>id (Fr.mk n T)) (id ⟨n,T⟩)).get t=_
 by_cases h:d < n
 ·have:Nat.blt d n=true:=by rw[Nat.blt_eq];exact h
  rw[this,Ak,Tr.setK_eq]
  simp only[id,Fr.get_mk,Tr.get_set]
  by_cases hd:d=t
  ·subst hd;simp[h]
  ·simp[hd]
 ·have : Nat.blt d n = false := by cases hb : Nat.blt d n with
   | false=>rfl
   | true=>exact absurd (by rw[Nat.blt_eq] at hb;exact hb) h
  rw[this,AA]
  simp[h]
theorem Fr.get_fill (n:Nat) (l:List Value) (i:Nat) (T:Tr Value):Fr.fill n l i T=⟨n,(l.foldl (fun p v=>(p.1+1,p.2.set p.1 v)) (i,T)).2⟩:=by
 induction l generalizing i T with
 | nil=>rfl
 | cons v l ih =>
  show T.setK i v (λT=>Fr.fill n l (i+1) T)=_
  rw[Tr.setK_eq,ih];rfl
@[simp] theorem Fr.n_made (n:Nat) (args:List Value):(Fr.made n args).n=n:=by rw[Fr.made,Fr.get_fill]
theorem Fr.fill_get (l:List Value) (i:Nat) (T:Tr Value) (t:Nat) :
 (l.foldl (λp v=>(p.1+1,p.2.set p.1 v)) (i,T)).2.get t=if i≤t∧t < i+l.length then l[t - i]? else T.get t:=by
 induction l generalizing i T with
 | nil=>simp;omega
 | cons v l ih =>
  simp only[List.foldl_cons,ih,Tr.get_set,List.length_cons]
  by_cases h:i+1≤t∧t < i+1+l.length
  ·rw[if_pos h,if_pos (by omega)]
   have:t - i=(t - (i+1))+1:=by omega
   rw[this,List.getElem?_cons_succ]
  ·rw[if_neg h]
   by_cases hi:i=t
   ·subst hi;rw[if_pos rfl,if_pos (by omega)];simp
   ·rw[if_neg hi,if_neg (by omega)]
theorem Fr.get_made (n:Nat) (args:List Value) (t:Nat):(Fr.made n args).get t=(args[t]?).getD EP:=by
 rw[Fr.made,Fr.get_fill,Fr.get_mk,Fr.fill_get]
 by_cases h:t < args.length
 ·simp[h]
 ·simp[h]
end Go.Sp
