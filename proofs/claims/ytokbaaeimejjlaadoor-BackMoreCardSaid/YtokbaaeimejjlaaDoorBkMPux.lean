/- Made from wip. -/
import Derived.Test.YtokbaaeimejjlaaDoorBkMMod0x
import Derived.Test.YtokbaaeimejjlaaDoorBkMMod1
import Derived.Test.YtokbaaeimejjlaaDoorBkMMod2
import Derived.Test.YtokbaaeimejjlaaDoorBkMMod3
import Derived.Test.YtokbaaeimejjlaaDoorBkMMod4
import Derived.Test.YtokbaaeimejjlaaDoorBkMMod5
import Derived.Test.YtokbaaeimejjlaaDoorBkMMod6
import Derived.Test.YtokbaaeimejjlaaDoorBkMMod7

set_option maxRecDepth 100000
set_option maxHeartbeats 20000000
set_option linter.unusedVariables false
namespace Go.BkMM
open Go.Sp Go.BkM
noncomputable section

def K4 (pu:Af) (n:Nat) (s0:Sl) (z0:Int):OV:=
 (oo (pu 10610 [Sl.v 1 s0,(.func (.func 42) ⟨[]⟩ ⟨[(.pointer (some ⟨1,0,none⟩))]⟩),(.agg ⟨[.int .u16 z0]⟩)]) none fun v0=>(oo (CQ v0) none fun l0=>(ll l0 none fun v1 l0=>(ll l0 none fun v2 l0=>(ll l0 (oo (Bi .i64 v1) none fun x0=>(oo (Bt v2) none fun l1=>(ll l1 none fun v3 l1=>(ll l1 (oo (Bi .u16 v3) none fun x1=>(some (.tuple ⟨[(.bool (nt (AY x0 (0:Int)))),(.agg ⟨[.int .u16 x1]⟩)]⟩))) fun _ _=>none)))) fun _ _=>none)))))
def Ox (pu:Af) (n:Nat) (args:LV):OV:=
 (ll args none fun a0 args=>(ll args none fun a1 args=>(ll args none fun o0 args=>(ll args (oo (Bj 1 a0) none fun s0=>(oo (Om 42 0 a1) none fun l0=>(ll l0 none fun v0 l0=>(ll l0 (bb (MK v0 1 0) (oo (Bt o0) none fun l1=>(ll l1 none fun v1 l1=>(ll l1 (oo (Bi .u16 v1) none fun x0=>(K4 pu n s0 x0)) fun _ _=>none))) none) fun _ _=>none)))) fun _ _=>none))))
theorem WL (pu:Af) (n:Nat) (s0:Sl) (z0:Int) {v:Value} (hm:K4 pu n s0 z0=some v):BN tt (Bb tabs isP pu (inl pu)) 2 UK (fr 9 [(0,Sl.v 1 s0),(1,(.func (.func 42) ⟨[]⟩ ⟨[pt 1 0]⟩))]) (hT 2 [(oC [.int .u16 z0])]) (FJ tt 1 1 [.tmp 4] v):=by
 unfold K4 at hm
 refine .then (.rK (.ghs (fr 9 [(0,Sl.v 1 s0),(1,(.func (.func 42) ⟨[]⟩ ⟨[pt 1 0]⟩))]) (hT 2 [(oC [.int .u16 z0])]) (.k0 [false,false] [] [0,1]) ?_))
 refine .then ?_
 replace hm:=Ab hm;obtain⟨v0,h0,hm⟩:=hm
 replace hm:=Ch hm;obtain⟨l0,rfl,hm⟩:=hm
 replace hm:=Ad hm;obtain⟨v1,l1599_0,rfl,hm⟩:=hm
 replace hm:=Ad hm;obtain⟨v2,l1599_1,rfl,hm⟩:=hm
 replace hm:=AC hm;obtain⟨rfl,hm⟩:=hm
 replace hm:=Ai hm;obtain⟨x0,rfl,hm⟩:=hm
 replace hm:=BG hm;obtain⟨l1,rfl,hm⟩:=hm
 replace hm:=Ad hm;obtain⟨v3,l1605_0,rfl,hm⟩:=hm
 replace hm:=AC hm;obtain⟨rfl,hm⟩:=hm
 replace hm:=Ai hm;obtain⟨x1,rfl,hm⟩:=hm
 refine .reg (eC 2 (EK tabs [[some 1],[none]] 2 [.cap 1 0 false] [false] (pu 10610) [Sl.v 1 s0,(.func (.func 42) ⟨[]⟩ ⟨[pt 1 0]⟩)] (hT 2 [(oC [.int .u16 z0])])) (EL (as:=[Sl.v 1 s0,(.func (.func 42) ⟨[]⟩ ⟨[pt 1 0]⟩)]) (H1:=(hT 2 [(oC [.int .u16 z0])])) (BS (Dm (KQ (CV (z:=1) (v:=(Sl.v 1 s0)) (H:=(hT 2 [(oC [.int .u16 z0])])) (by kernel_rfl) (by kernel_rfl) (by kernel_rfl)))) (BS (Dm Dk) Gj)) (EI (H2:=(hT 2 [(oC [.int .u16 x1])])) (v:=(zI x0)) (v':=(zI x0)) [some 0,some 1] [(false,some 1)] [(oC [.int .u16 z0])] [Sl.v 1 s0,(.func (.func 42) ⟨[]⟩ ⟨[pt 1 0]⟩)] [(.agg ⟨[.int .u16 x1]⟩)] [(oC [.int .u16 x1])] [some 0,some 1] [(false,(oC [.int .u16 x1]))] [(oC [.int .u16 x1])] (by kernel_rfl) (En (by kernel_rfl) BX) (Eq.trans (by kernel_rfl) h0) (En rfl BX) (En (by kernel_rfl) BX))) (eE)) ?_
 refine .ghs (fr 9 [(4,(zB (nt (AY x0 (0:Int)))))]) (hT 2 [(oC [.int .u16 x1])]) (.k0 [false,false] [] [4]) ?_
 refine .ghs (fr 9 [(4,(zB (nt (AY x0 (0:Int)))))]) (hT 2 [(oC [.int .u16 x1])]) (.k0 [false,false] [] [4]) ?_
 refine .ret ?_
 exact Gi (zB (nt (AY x0 (0:Int)))) [(oC [.int .u16 x1])] (by kernel_rfl) hm (Nat.le_of_ble_eq_true rfl) (Fa (VT _) EJ)
theorem Aaw {call:A8} (pu:Af) (n:Nat) (hcall:call=Bb tabs isP pu (inl pu)) {args:LV} {os:List AJ} {z:Value} (ha:args.length=2) (hk:os.length=1) (hpl:∀ o∈os,plainO o) (hm:Ox pu n (args++os.map Ef)=some z):args.length≤9∧BN tt call (tabs.length+1) UK (Fr.made 9 args) (BK tabs os) (FJ tt tabs.length 1 [.tmp 4] z):=by
 subst hcall
 have hq:=BC ha;clear ha;obtain⟨a0,args,rfl,ha⟩:=hq
 have hq:=BC ha;clear ha;obtain⟨a1,args,rfl,ha⟩:=hq
 obtain rfl:=len_nil ha
 have hq:=BC hk;clear hk;obtain⟨b0,os,rfl,hk⟩:=hq
 have hp0:plainO b0:=hpl b0 (by simp)
 obtain rfl:=len_nil hk
 replace hm:Ox pu n [a0,a1,Ef b0]=some z:=hm
 unfold Ox at hm
 replace hm:(oo (Bj 1 a0) none fun s0=>(oo (Om 42 0 a1) none fun l0=>(ll l0 none fun v0 l0=>(ll l0 (bb (MK v0 1 0) (oo (Bt (Ef b0)) none fun l1=>(ll l1 none fun v1 l1=>(ll l1 (oo (Bi .u16 v1) none fun x0=>(K4 pu n s0 x0)) fun _ _=>none))) none) fun _ _=>none))))=some z:=hm
 replace hm:=Al hm;obtain⟨s0,rfl,hm⟩:=hm
 replace hm:=Ab hm;obtain⟨l0,h0,hm⟩:=hm
 obtain rfl:=Hu h0
 replace hm:=Ad hm;obtain⟨v0,l1614_0,rfl,hm⟩:=hm
 replace hm:=AC hm;obtain⟨rfl,hm⟩:=hm
 replace hm:=Ae hm;obtain⟨h1,hm⟩:=hm
 obtain rfl:=KR h1
 replace hm:=Ab hm;obtain⟨l1,h2,hm⟩:=hm
 obtain rfl:=I7 hp0 h2
 replace hm:=Ad hm;obtain⟨v1,l1618_0,rfl,hm⟩:=hm
 replace hm:=AC hm;obtain⟨rfl,hm⟩:=hm
 replace hm:=Ai hm;obtain⟨x0,rfl,hm⟩:=hm
 refine⟨by simp,?_⟩
 exact .same (F':=(fr 9 [(0,Sl.v 1 s0),(1,(.func (.func 42) ⟨[]⟩ ⟨[pt 1 0]⟩))])) (H':=(hT 2 [(oC [.int .u16 x0])])) (by kernel_rfl) (by kernel_rfl) (WL pu n s0 x0 hm)
def ML (pu:Af) (n:Nat) (z0:Int):OV:=
 (some (.tuple ⟨[(.int .i64 (-1:Int)),(.agg ⟨[.int .u16 z0]⟩)]⟩))
def Hy (pu:Af) (n:Nat) (ih0:Sl→Int→Int→Int→OV) (s0:Sl) (z0 z1 z2:Int):OV:=
 (bb (AY z1 z0) (oo (EA z1) none fun k1=>(bb (an (Nat.blt k1 (Sl.n s0)) true) (oo (AL (Sl.cs s0) (k1*1)) none fun v0=>(oo (Bi .i64 v0) none fun x0=>(oo (pu 10420 [.int .i64 x0,(.pointer (some ⟨1,0,none⟩)),(.agg ⟨[.int .u16 z2]⟩)]) none fun v1=>(oo (CQ v1) none fun l0=>(ll l0 none fun v2 l0=>(ll l0 none fun v3 l0=>(ll l0 (oo (Bf v2) none fun b0=>(oo (Bt v3) none fun l1=>(ll l1 none fun v4 l1=>(ll l1 (oo (Bi .u16 v4) none fun x1=>(bb b0 (some (.tuple ⟨[(.int .i64 (Int.ofNat k1)),(.agg ⟨[.int .u16 x1]⟩)]⟩)) (ih0 s0 z0 (Aj .i64 (Int.add (Int.ofNat k1) (1:Int))) x1))) fun _ _=>none)))) fun _ _=>none))))))) none)) (ML pu n z2))
def Hz (pu:Af) (n w:Nat):Sl→Int→Int→Int→OV:=
 Nat.rec (motive:=fun _=>Sl→Int→Int→Int→OV) (fun _ _ _ _=>none) (fun _ ih0=>Hy pu n ih0) w
def O5 (pu:Af) (n:Nat) (s0:Sl) (z0:Int):OV:=
 (Hz pu n n s0 (Int.ofNat (Sl.n s0)) (0:Int) z0)
def Oy (pu:Af) (n:Nat) (args:LV):OV:=
 (ll args none fun a0 args=>(ll args none fun a1 args=>(ll args none fun o0 args=>(ll args (oo (Bj 1 a0) none fun s0=>(oo (Om 42 0 a1) none fun l0=>(ll l0 none fun v0 l0=>(ll l0 (bb (MK v0 1 0) (oo (Bt o0) none fun l1=>(ll l1 none fun v1 l1=>(ll l1 (oo (Bi .u16 v1) none fun x0=>(O5 pu n s0 x0)) fun _ _=>none))) none) fun _ _=>none)))) fun _ _=>none))))
theorem fF (pu:Af) (n:Nat) (z0:Int) {v:Value} (hm:ML pu n z0=some v):BN tt (Bb tabs isP pu (inl pu)) 2 dQ (fr 19 []) (hT 2 [(oC [.int .u16 z0])]) (FJ tt 1 1 [.tmp 4] v):=by
 unfold ML at hm
 refine .then (.rK (.ghs (fr 19 [(4,(zI (-1:Int)))]) (hT 2 [(oC [.int .u16 z0])]) (.k0 [false,false] [] [4]) ?_))
 refine .ghs (fr 19 [(4,(zI (-1:Int)))]) (hT 2 [(oC [.int .u16 z0])]) (.k0 [false,false] [] [4]) ?_
 refine .ret ?_
 exact Gi (zI (-1:Int)) [(oC [.int .u16 z0])] (by kernel_rfl) hm (Nat.le_of_ble_eq_true rfl) (Fa (VT _) EJ)
theorem WM (pu:Af) (n:Nat) (s0:Sl) (z0:Int) {v:Value} (hm:O5 pu n s0 z0=some v):BN tt (Bb tabs isP pu (inl pu)) 2 Pf (fr 19 [(0,Sl.v 1 s0),(1,(.func (.func 42) ⟨[]⟩ ⟨[pt 1 0]⟩))]) (hT 2 [(oC [.int .u16 z0])]) (FJ tt 1 1 [.tmp 4] v):=by
 unfold O5 at hm
 refine .then (.rK (.ghs (fr 19 [(0,Sl.v 1 s0),(1,(.func (.func 42) ⟨[]⟩ ⟨[pt 1 0]⟩))]) (hT 2 [(oC [.int .u16 z0])]) (.k0 [false,false] [] [0,1]) ?_))
 refine .join (v:=v) (fun y:Int=>((fr 19 []),(hT 2 [(oC [.int .u16 y])]))) (fun y=>ML pu n y) ?_ ?_
 ·rintro z1 hm
  exact fF pu n z1 hm
 ·refine .then (.rK (.ghs (fr 19 [(0,Sl.v 1 s0),(1,(.func (.func 42) ⟨[]⟩ ⟨[pt 1 0]⟩)),(7,(zI (Int.ofNat (Sl.n s0)))),(8,(zI (0:Int)))]) (hT 2 [(oC [.int .u16 z0])]) (.k0 [false,false] [] [0,1,7,8]) ?_))
  refine .block (.loopM (v:=v) (fun y:Sl×Int×Int×Int=>((fr 19 [(0,(Sl.v 1 y.1)),(1,(.func (.func 42) ⟨[]⟩ ⟨[pt 1 0]⟩)),(7,(zI y.2.1)),(8,(zI y.2.2.1))]),(hT 2 [(oC [(.int .u16 y.2.2.2)])]))) (fun w y=>Hz pu n w y.1 y.2.1 y.2.2.1 y.2.2.2) n ⟨(s0,(Int.ofNat (Sl.n s0)),(0:Int),z0),hm,(.k0 [false,false] [] [0,1,7,8])⟩ (fun _=>rfl) ?_)
  rintro w0 ⟨s1,z2,z3,z4⟩ hm
  replace hm:Hy pu n (Hz pu n w0) s1 z2 z3 z4=some v:=hm
  unfold Hy at hm
  refine .then (.rK (.ghs (fr 19 [(0,Sl.v 1 s1),(1,(.func (.func 42) ⟨[]⟩ ⟨[pt 1 0]⟩)),(7,zI z2),(8,zI z3),(9,(zB (AY z3 z2)))]) (hT 2 [(oC [.int .u16 z4])]) (.k0 [false,false] [] [0,1,7,8,9]) ?_))
  refine .then ?_
  replace hm:=Ag hm;rcases hm with⟨h0,hm⟩ | ⟨h0,hm⟩
  ·refine BB (AY z3 z2) h0 ?_
   refine .skip (.ghs (fr 19 [(0,Sl.v 1 s1),(1,(.func (.func 42) ⟨[]⟩ ⟨[pt 1 0]⟩)),(7,zI z2),(8,zI z3)]) (hT 2 [(oC [.int .u16 z4])]) (.k0 [false,false] [] [0,1,7,8]) ?_)
   refine .then (.block (.then (.rK (.ghs (fr 19 [(0,Sl.v 1 s1),(1,(.func (.func 42) ⟨[]⟩ ⟨[pt 1 0]⟩)),(5,zI z3),(7,zI z2),(8,zI z3)]) (hT 2 [(oC [.int .u16 z4])]) (.k0 [false,false] [] [0,1,5,7,8]) ?_))))
   refine .then ?_
   replace hm:=Ab hm;obtain⟨k1,h1,hm⟩:=hm
   obtain rfl:=AR h1
   replace hm:=Ae hm;obtain⟨h2,hm⟩:=hm
   replace hm:=G9 hm;obtain⟨x0,h3,hm⟩:=hm
   replace hm:=Ab hm;obtain⟨v0,h4,hm⟩:=hm
   replace hm:=Ch hm;obtain⟨l0,rfl,hm⟩:=hm
   replace hm:=Ad hm;obtain⟨v1,l1557_0,rfl,hm⟩:=hm
   replace hm:=Ad hm;obtain⟨v2,l1557_1,rfl,hm⟩:=hm
   replace hm:=AC hm;obtain⟨rfl,hm⟩:=hm
   replace hm:=Be hm;obtain⟨b0,rfl,hm⟩:=hm
   replace hm:=BG hm;obtain⟨l1,rfl,hm⟩:=hm
   replace hm:=Ad hm;obtain⟨v3,l1563_0,rfl,hm⟩:=hm
   replace hm:=AC hm;obtain⟨rfl,hm⟩:=hm
   replace hm:=Ai hm;obtain⟨x1,rfl,hm⟩:=hm
   refine .reg (eC 3 (keep (hT 2 [(oC [.int .u16 z4])]) (bb (an (Nat.blt k1 (Sl.n s1)) true) (some (Cv (k1*1) (Sl.cs s1))) none)) (AX h2) (eD (keep (hT 2 [(oC [.int .u16 z4])]) (AL (Sl.cs s1) (k1*1))) (AZ h3) (eD (EK tabs [[none],[none]] 2 [.tmp 1 false] [false] (pu 10420) [zI x0,pt 1 0] (hT 2 [(oC [.int .u16 z4])])) (EL (as:=[zI x0,pt 1 0]) (H1:=(hT 2 [(oC [.int .u16 z4])])) (BS (Dm Dk) (BS (Dm Dk) Gj)) (EI (H2:=(hT 2 [(oC [.int .u16 x1])])) (v:=(zB b0)) (v':=(zB b0)) [some 0,some 1] [(false,some 1)] [(oC [.int .u16 z4])] [zI x0,pt 1 0] [(.agg ⟨[.int .u16 x1]⟩)] [(oC [.int .u16 x1])] [some 0,some 1] [(false,(oC [.int .u16 x1]))] [(oC [.int .u16 x1])] (by kernel_rfl) (En (by kernel_rfl) BX) (Eq.trans (by kernel_rfl) h4) (En rfl BX) (En (by kernel_rfl) BX))) (eE)))) ?_
   refine .ghs (fr 19 [(0,Sl.v 1 s1),(1,(.func (.func 42) ⟨[]⟩ ⟨[pt 1 0]⟩)),(5,(zI (Int.ofNat k1))),(7,zI z2),(8,(zI (Int.ofNat k1))),(16,zB b0)]) (hT 2 [(oC [.int .u16 x1])]) (.k0 [false,false] [] [0,1,5,7,8,16]) ?_
   replace hm:=Ag hm;rcases hm with⟨h5,hm⟩ | ⟨h5,hm⟩
   ·refine .ifT b0 (by kernel_rfl) h5 ?_
    refine .then (.rK (.ghs (fr 19 [(4,(zI (Int.ofNat k1)))]) (hT 2 [(oC [.int .u16 x1])]) (.k0 [false,false] [] [4]) ?_))
    refine .ghs (fr 19 [(4,(zI (Int.ofNat k1)))]) (hT 2 [(oC [.int .u16 x1])]) (.k0 [false,false] [] [4]) ?_
    refine .ret ?_
    exact Gi (zI (Int.ofNat k1)) [(oC [.int .u16 x1])] (by kernel_rfl) hm (Nat.le_of_ble_eq_true rfl) (Fa (VT _) EJ)
   ·refine .ifF b0 (by kernel_rfl) h5 ?_
    refine .skip (.ghs (fr 19 [(0,Sl.v 1 s1),(1,(.func (.func 42) ⟨[]⟩ ⟨[pt 1 0]⟩)),(7,zI z2),(8,(zI (Int.ofNat k1)))]) (hT 2 [(oC [.int .u16 x1])]) (.k0 [false,false] [] [0,1,7,8]) ?_)
    refine .rK ?_
    exact⟨(s1,z2,(Aj .i64 (Int.add (Int.ofNat k1) (1:Int))),x1),hm,(.k0 [false,false] [] [0,1,7,8])⟩
  ·refine BI (AY z3 z2) h0 ?_
   refine .exit ?_
   exact⟨z4,hm,(.k0 [false,false] [] [])⟩
theorem Aax {call:A8} (pu:Af) (n:Nat) (hcall:call=Bb tabs isP pu (inl pu)) {args:LV} {os:List AJ} {z:Value} (ha:args.length=2) (hk:os.length=1) (hpl:∀ o∈os,plainO o) (hm:Oy pu n (args++os.map Ef)=some z):args.length≤19∧BN tt call (tabs.length+1) Pf (Fr.made 19 args) (BK tabs os) (FJ tt tabs.length 1 [.tmp 4] z):=by
 subst hcall
 have hq:=BC ha;clear ha;obtain⟨a0,args,rfl,ha⟩:=hq
 have hq:=BC ha;clear ha;obtain⟨a1,args,rfl,ha⟩:=hq
 obtain rfl:=len_nil ha
 have hq:=BC hk;clear hk;obtain⟨b0,os,rfl,hk⟩:=hq
 have hp0:plainO b0:=hpl b0 (by simp)
 obtain rfl:=len_nil hk
 replace hm:Oy pu n [a0,a1,Ef b0]=some z:=hm
 unfold Oy at hm
 replace hm:(oo (Bj 1 a0) none fun s0=>(oo (Om 42 0 a1) none fun l0=>(ll l0 none fun v0 l0=>(ll l0 (bb (MK v0 1 0) (oo (Bt (Ef b0)) none fun l1=>(ll l1 none fun v1 l1=>(ll l1 (oo (Bi .u16 v1) none fun x0=>(O5 pu n s0 x0)) fun _ _=>none))) none) fun _ _=>none))))=some z:=hm
 replace hm:=Al hm;obtain⟨s0,rfl,hm⟩:=hm
 replace hm:=Ab hm;obtain⟨l0,h0,hm⟩:=hm
 obtain rfl:=Hu h0
 replace hm:=Ad hm;obtain⟨v0,l1573_0,rfl,hm⟩:=hm
 replace hm:=AC hm;obtain⟨rfl,hm⟩:=hm
 replace hm:=Ae hm;obtain⟨h1,hm⟩:=hm
 obtain rfl:=KR h1
 replace hm:=Ab hm;obtain⟨l1,h2,hm⟩:=hm
 obtain rfl:=I7 hp0 h2
 replace hm:=Ad hm;obtain⟨v1,l1577_0,rfl,hm⟩:=hm
 replace hm:=AC hm;obtain⟨rfl,hm⟩:=hm
 replace hm:=Ai hm;obtain⟨x0,rfl,hm⟩:=hm
 refine⟨by simp,?_⟩
 exact .same (F':=(fr 19 [(0,Sl.v 1 s0),(1,(.func (.func 42) ⟨[]⟩ ⟨[pt 1 0]⟩))])) (H':=(hT 2 [(oC [.int .u16 x0])])) (by kernel_rfl) (by kernel_rfl) (WM pu n s0 x0 hm)

def K5 (pu:Af) (n:Nat) (z0 z1:Int):OV:=
 (oo (EA z0) none fun k1=>(some (.tuple ⟨[(.bool (Bd (Np .u16 (G6 .u16 z1 k1) (1:Int)) (1:Int))),(.agg ⟨[.int .u16 z1]⟩)]⟩)))
def Oz (pu:Af) (n:Nat) (args:LV):OV:=
 (ll args none fun a0 args=>(ll args none fun a1 args=>(ll args none fun o0 args=>(ll args (oo (Bi .i64 a0) none fun x0=>(bb (MK a1 1 0) (oo (Bt o0) none fun l0=>(ll l0 none fun v0 l0=>(ll l0 (oo (Bi .u16 v0) none fun x1=>(K5 pu n x0 x1)) fun _ _=>none))) none)) fun _ _=>none))))
theorem WN (pu:Af) (n:Nat) (z0 z1:Int) {v:Value} (hm:K5 pu n z0 z1=some v):BN tt (Bb tabs isP pu (inl pu)) 2 UL (fr 9 [(0,zI z0),(1,pt 1 0)]) (hT 2 [(oC [.int .u16 z1])]) (FJ tt 1 1 [.tmp 3] v):=by
 unfold K5 at hm
 refine .then (.rK (.ghs (fr 9 [(0,zI z0),(1,pt 1 0)]) (hT 2 [(oC [.int .u16 z1])]) (.k0 [false,false] [] [0,1]) ?_))
 refine .then ?_
 replace hm:=Ab hm;obtain⟨k1,h0,hm⟩:=hm
 obtain rfl:=AR h0
 refine .rK (.ghs (fr 9 [(3,(zB (Bd (Np .u16 (G6 .u16 z1 k1) (1:Int)) (1:Int))))]) (hT 2 [(oC [.int .u16 z1])]) (.k0 [false,false] [] [3]) ?_)
 refine .ghs (fr 9 [(3,(zB (Bd (Np .u16 (G6 .u16 z1 k1) (1:Int)) (1:Int))))]) (hT 2 [(oC [.int .u16 z1])]) (.k0 [false,false] [] [3]) ?_
 refine .ret ?_
 exact Gi (zB (Bd (Np .u16 (G6 .u16 z1 k1) (1:Int)) (1:Int))) [(oC [.int .u16 z1])] (by kernel_rfl) hm (Nat.le_of_ble_eq_true rfl) (Fa (VT _) EJ)
theorem Aay {call:A8} (pu:Af) (n:Nat) (hcall:call=Bb tabs isP pu (inl pu)) {args:LV} {os:List AJ} {z:Value} (ha:args.length=2) (hk:os.length=1) (hpl:∀ o∈os,plainO o) (hm:Oz pu n (args++os.map Ef)=some z):args.length≤9∧BN tt call (tabs.length+1) UL (Fr.made 9 args) (BK tabs os) (FJ tt tabs.length 1 [.tmp 3] z):=by
 subst hcall
 have hq:=BC ha;clear ha;obtain⟨a0,args,rfl,ha⟩:=hq
 have hq:=BC ha;clear ha;obtain⟨a1,args,rfl,ha⟩:=hq
 obtain rfl:=len_nil ha
 have hq:=BC hk;clear hk;obtain⟨b0,os,rfl,hk⟩:=hq
 have hp0:plainO b0:=hpl b0 (by simp)
 obtain rfl:=len_nil hk
 replace hm:Oz pu n [a0,a1,Ef b0]=some z:=hm
 unfold Oz at hm
 replace hm:(oo (Bi .i64 a0) none fun x0=>(bb (MK a1 1 0) (oo (Bt (Ef b0)) none fun l0=>(ll l0 none fun v0 l0=>(ll l0 (oo (Bi .u16 v0) none fun x1=>(K5 pu n x0 x1)) fun _ _=>none))) none))=some z:=hm
 replace hm:=Ai hm;obtain⟨x0,rfl,hm⟩:=hm
 replace hm:=Ae hm;obtain⟨h0,hm⟩:=hm
 obtain rfl:=KR h0
 replace hm:=Ab hm;obtain⟨l0,h1,hm⟩:=hm
 obtain rfl:=I7 hp0 h1
 replace hm:=Ad hm;obtain⟨v0,l1425_0,rfl,hm⟩:=hm
 replace hm:=AC hm;obtain⟨rfl,hm⟩:=hm
 replace hm:=Ai hm;obtain⟨x1,rfl,hm⟩:=hm
 refine⟨by simp,?_⟩
 exact .same (F':=(fr 9 [(0,zI x0),(1,pt 1 0)])) (H':=(hT 2 [(oC [.int .u16 x1])])) (by kernel_rfl) (by kernel_rfl) (WN pu n x0 x1 hm)

def O6 (pu:Af) (n:Nat) (s0:Sl):OV:=
 (some (.tuple ⟨[(.func (.func 64) ⟨[]⟩ ⟨[(.pointer (some ⟨1,0,none⟩))]⟩),(.agg ⟨[Sl.v 1 s0]⟩)]⟩))
def OA (pu:Af) (n:Nat) (args:LV):OV:=
 (ll args none fun a0 args=>(ll args (oo (Bj 1 a0) none fun s0=>(O6 pu n s0)) fun _ _=>none))
theorem WO (pu:Af) (n:Nat) (s0:Sl) {v:Value} (hm:O6 pu n s0=some v):BN tt (Bb tabs isP pu (inl pu)) 1 UM (fr 4 [(0,Sl.v 1 s0)]) Ay (FJ tt 1 0 [.tmp 2] v):=by
 unfold O6 at hm
 refine .then (.rK (.ghs (fr 4 [(1,pt 1 0)]) (hT 2 [(oC [Sl.v 1 s0])]) (.k0 [false] [.tmp 1 false] [1]) ?_))
 refine .then (.rK (.ghs (fr 4 [(2,(.func (.func 64) ⟨[]⟩ ⟨[pt 1 0]⟩))]) (hT 2 [(oC [Sl.v 1 s0])]) (.k0 [false] [.cap 2 0 false] [2]) ?_))
 refine .ghs (fr 4 [(2,(.func (.func 64) ⟨[]⟩ ⟨[pt 1 0]⟩))]) (hT 2 [(oC [Sl.v 1 s0])]) (.k0 [false] [.cap 2 0 false] [2]) ?_
 refine .ret ?_
 exact Gi (.func (.func 64) ⟨[]⟩ ⟨[pt 1 0]⟩) [(oC [Sl.v 1 s0])] (by kernel_rfl) hm (Nat.le_of_ble_eq_true rfl) (Fa (VT _) EJ)
theorem Aaz {call:A8} (pu:Af) (n:Nat) (hcall:call=Bb tabs isP pu (inl pu)) {args:LV} {os:List AJ} {z:Value} (ha:args.length=1) (hk:os.length=0) (hpl:∀ o∈os,plainO o) (hm:OA pu n (args++os.map Ef)=some z):args.length≤4∧BN tt call (tabs.length+0) UM (Fr.made 4 args) (BK tabs os) (FJ tt tabs.length 0 [.tmp 2] z):=by
 subst hcall
 have hq:=BC ha;clear ha;obtain⟨a0,args,rfl,ha⟩:=hq
 obtain rfl:=len_nil ha
 obtain rfl:=len_nil hk
 replace hm:OA pu n [a0]=some z:=hm
 unfold OA at hm
 replace hm:(oo (Bj 1 a0) none fun s0=>(O6 pu n s0))=some z:=hm
 replace hm:=Al hm;obtain⟨s0,rfl,hm⟩:=hm
 refine⟨by simp,?_⟩
 exact .same (F':=(fr 4 [(0,Sl.v 1 s0)])) (H':=Ay) (by kernel_rfl) (by kernel_rfl) (WO pu n s0 hm)

def O7 (pu:Af) (n n0 c0:Nat) (q0:LV):OV:=
 (bb (Au Ah q0) (oo (pu 71 [(.int .u64 (Aj .u64 (Int.ofNat n0)))]) none fun v0=>(oo (Bi .i64 v0) none fun x0=>(bb (Dp (Nat.ble 2 c0) (MQ q0)) (bb (Au Ah q0) (oo (pu 10700 [(.slice (some ⟨1,0,some 1⟩) n0 c0),(.int .i64 (0:Int)),(.int .i64 (Int.ofNat n0)),.int .i64 x0,(.func (.func 45) ⟨[]⟩ ⟨[]⟩),(.agg ⟨q0⟩)]) none fun v1=>(oo (CQ v1) none fun l0=>(ll l0 none fun v2 l0=>(ll l0 none fun v3 l0=>(ll l0 (bb (MC v2) (oo (Bt v3) none fun q1=>(bb (Au Ah q1) (bb (Au Ah q1) (some (.tuple ⟨[(.tuple ⟨[]⟩),(.agg ⟨q1⟩)]⟩)) none) none)) none) fun _ _=>none))))) none) none))) none)
def OB (pu:Af) (n:Nat) (args:LV):OV:=
 (ll args none fun a0 args=>(ll args none fun a1 args=>(ll args none fun o0 args=>(ll args (oo (KP 1 0 1 a0) none fun y0=>(oo (Om 45 0 a1) none fun l0=>(ll l0 (oo (Bt o0) none fun q0=>(O7 pu n (NC.n y0) (NC.c y0) q0)) fun _ _=>none))) fun _ _=>none))))
theorem AaA (pu:Af) (n n0 c0:Nat) (q0:LV) {v:Value} (hm:O7 pu n n0 c0 q0=some v):BN tt (Bb tabs isP pu (inl pu)) 2 UN (fr 14 [(0,sc 1 0 1 n0 c0),(1,(.func (.func 45) ⟨[]⟩ ⟨[]⟩))]) (hT 2 [oC q0]) (FJ tt 1 1 [] v):=by
 unfold O7 at hm
 refine .then (.rK ?_)
 replace hm:=Ae hm;obtain⟨h0,hm⟩:=hm
 refine .ghs (fr 14 [(0,sc 1 0 1 n0 c0),(1,(.func (.func 45) ⟨[]⟩ ⟨[]⟩)),(4,(zI (Int.ofNat n0)))]) (hT 2 [oC q0]) (.k [1] [false,false] [] [0,1,4] ⟨Bq h0,trivial⟩) ?_
 replace hm:=G9 hm;obtain⟨x0,h1,hm⟩:=hm
 replace hm:=Ae hm;obtain⟨h2,hm⟩:=hm
 replace hm:=Ae hm;obtain⟨h3,hm⟩:=hm
 replace hm:=Ab hm;obtain⟨v0,h4,hm⟩:=hm
 replace hm:=Ch hm;obtain⟨l0,rfl,hm⟩:=hm
 replace hm:=Ad hm;obtain⟨v1,l3756_0,rfl,hm⟩:=hm
 replace hm:=Ad hm;obtain⟨v2,l3756_1,rfl,hm⟩:=hm
 replace hm:=AC hm;obtain⟨rfl,hm⟩:=hm
 replace hm:=Ae hm;obtain⟨h5,hm⟩:=hm
 obtain rfl:=Oo h5
 replace hm:=BG hm;obtain⟨q1,rfl,hm⟩:=hm
 replace hm:=Ae hm;obtain⟨h6,hm⟩:=hm
 refine .reg (eC 4 ((oo (pu 71 [(zU (Aj .u64 (Int.ofNat n0)))]) none fun v=>some (v,(hT 2 [oC q0])))) (AB h1) (eC 1 (EK tabs [[none],[none],[none],[none],[none]] 5 [.tmp 0 false] [false] (pu 10700) [sc 1 0 1 n0 c0,(zI (0:Int)),(zI (Int.ofNat n0)),zI x0,(.func (.func 45) ⟨[]⟩ ⟨[]⟩)] (hT 2 [oC q0])) (EL (as:=[sc 1 0 1 n0 c0,(zI (0:Int)),(zI (Int.ofNat n0)),zI x0,(.func (.func 45) ⟨[]⟩ ⟨[]⟩)]) (H1:=(hT 2 [oC q0])) (BS (Dm Dk) (BS (Dm Dk) (BS (Dm Dk) (BS (Dm Dk) (BS (Dm Dk) Gj))))) (EI (H2:=(hT 2 [oC q1])) (v:=(.tuple ⟨[]⟩)) (v':=(.tuple ⟨[]⟩)) [some 0,some 1] [(false,some 1)] [oC q0] [sc 1 0 1 n0 c0,(zI (0:Int)),(zI (Int.ofNat n0)),zI x0,(.func (.func 45) ⟨[]⟩ ⟨[]⟩)] [(.agg ⟨q1⟩)] [oC q1] [some 0,some 1] [(false,oC q1)] [oC q1] (trE (by kernel_rfl) (XX h2 rfl)) (En (Nb (anc:=[]) h3) BX) (Eq.trans (by kernel_rfl) h4) (En rfl BX) (En (KO h6) BX))) (eE))) ?_
 replace hm:=Ae hm;obtain⟨h7,hm⟩:=hm
 refine .ghs (fr 14 []) (hT 2 [oC q1]) (.k [1] [false,false] [] [] ⟨Bq h7,trivial⟩) ?_
 exact TU (.tuple ⟨[]⟩) [oC q1] (by kernel_rfl) hm (Nat.le_of_ble_eq_true rfl) (Fa (VT _) EJ)
theorem AaB {call:A8} (pu:Af) (n:Nat) (hcall:call=Bb tabs isP pu (inl pu)) {args:LV} {os:List AJ} {z:Value} (ha:args.length=2) (hk:os.length=1) (hpl:∀ o∈os,plainO o) (hm:OB pu n (args++os.map Ef)=some z):args.length≤14∧BN tt call (tabs.length+1) UN (Fr.made 14 args) (BK tabs os) (FJ tt tabs.length 1 [] z):=by
 subst hcall
 have hq:=BC ha;clear ha;obtain⟨a0,args,rfl,ha⟩:=hq
 have hq:=BC ha;clear ha;obtain⟨a1,args,rfl,ha⟩:=hq
 obtain rfl:=len_nil ha
 have hq:=BC hk;clear hk;obtain⟨b0,os,rfl,hk⟩:=hq
 have hp0:plainO b0:=hpl b0 (by simp)
 obtain rfl:=len_nil hk
 replace hm:OB pu n [a0,a1,Ef b0]=some z:=hm
 unfold OB at hm
 replace hm:(oo (KP 1 0 1 a0) none fun y0=>(oo (Om 45 0 a1) none fun l0=>(ll l0 (oo (Bt (Ef b0)) none fun q0=>(O7 pu n (NC.n y0) (NC.c y0) q0)) fun _ _=>none)))=some z:=hm
 replace hm:=Ab hm;obtain⟨y0,h0,hm⟩:=hm
 obtain rfl:=F5 h0
 replace hm:=Ab hm;obtain⟨l0,h1,hm⟩:=hm
 obtain rfl:=Hu h1
 replace hm:=AC hm;obtain⟨rfl,hm⟩:=hm
 replace hm:=Ab hm;obtain⟨q0,h2,hm⟩:=hm
 obtain rfl:=I7 hp0 h2
 refine⟨by simp,?_⟩
 exact .same (F':=(fr 14 [(0,(sc 1 0 1 (NC.n y0) (NC.c y0))),(1,(.func (.func 45) ⟨[]⟩ ⟨[]⟩))])) (H':=(hT 2 [oC q0])) (by kernel_rfl) (by kernel_rfl) (AaA pu n (NC.n y0) (NC.c y0) q0 hm)
def PO (pu:Af) (n:Nat) (ih0:Nat→Nat→Int→Int→Int→Bool→Bool→LV→OV) (n0 c0:Nat) (z0 z1 z2:Int) (b0 b1:Bool) (z3:Int) (q0:LV):OV:=
 none
def KT (pu:Af) (n:Nat) (ih0:Nat→Nat→Int→Int→Int→Bool→Bool→LV→OV) (n0 c0:Nat) (z0 z1 z2:Int) (b0 b1:Bool) (q0:LV):OV:=
 (bb (Au Ah q0) (bb (nt (AY (12:Int) (Aj .i64 (Int.sub z1 z0)))) (bb (Dp (Nat.ble 2 c0) (MQ q0)) (bb (Au Ah q0) (oo (pu 10780 [(.slice (some ⟨1,0,some 1⟩) n0 c0),.int .i64 z0,.int .i64 z1,(.func (.func 45) ⟨[]⟩ ⟨[]⟩),(.agg ⟨q0⟩)]) none fun v0=>(oo (CQ v0) none fun l0=>(ll l0 none fun v1 l0=>(ll l0 none fun v2 l0=>(ll l0 (bb (MC v1) (oo (Bt v2) none fun q1=>(bb (Au Ah q1) (bb (Au Ah q1) (some (.tuple ⟨[(.tuple ⟨[]⟩),(.agg ⟨q1⟩)]⟩)) none) none)) none) fun _ _=>none))))) none) none) (bb (Bd z2 (0:Int)) none (bb (nt b0) none (PO pu n ih0 n0 c0 z0 z1 z2 b0 b1 (Aj .i64 (Int.sub z1 z0)) q0)))) none)
def KU (pu:Af) (n w:Nat):Nat→Nat→Int→Int→Int→Bool→Bool→LV→OV:=
 Nat.rec (motive:=fun _=>Nat→Nat→Int→Int→Int→Bool→Bool→LV→OV) (fun _ _ _ _ _ _ _ _=>none) (fun _ ih0=>KT pu n ih0) w
def O8 (pu:Af) (n n0 c0:Nat) (z0 z1 z2:Int) (q0:LV):OV:=
 (bb (Au Ah q0) (KU pu n n n0 c0 z0 z1 z2 true true q0) none)
def OC (pu:Af) (n:Nat) (args:LV):OV:=
 (ll args none fun a0 args=>(ll args none fun a1 args=>(ll args none fun a2 args=>(ll args none fun a3 args=>(ll args none fun a4 args=>(ll args none fun o0 args=>(ll args (oo (KP 1 0 1 a0) none fun y0=>(oo (Bi .i64 a1) none fun x0=>(oo (Bi .i64 a2) none fun x1=>(oo (Bi .i64 a3) none fun x2=>(oo (Om 45 0 a4) none fun l0=>(ll l0 (oo (Bt o0) none fun q0=>(O8 pu n (NC.n y0) (NC.c y0) x0 x1 x2 q0)) fun _ _=>none)))))) fun _ _=>none)))))))
theorem AaC (pu:Af) (n n0 c0:Nat) (z0 z1 z2:Int) (q0:LV) {v:Value} (hm:O8 pu n n0 c0 z0 z1 z2 q0=some v):BN tt (Bb tabs isP pu (inl pu)) 2 Pg (fr 148 [(0,sc 1 0 1 n0 c0),(1,zI z0),(2,zI z1),(3,zI z2),(4,(.func (.func 45) ⟨[]⟩ ⟨[]⟩))]) (hT 2 [oC q0]) (FJ tt 1 1 [] v):=by
 unfold O8 at hm
 refine .then (.rK ?_)
 replace hm:=Ae hm;obtain⟨h0,hm⟩:=hm
 refine .ghs (fr 148 [(0,sc 1 0 1 n0 c0),(1,zI z0),(2,zI z1),(3,zI z2),(4,(.func (.func 45) ⟨[]⟩ ⟨[]⟩)),(10,zB true)]) (hT 2 [oC q0]) (.k [1] [false,false] [] [0,1,2,3,4,10] ⟨Bq h0,trivial⟩) ?_
 refine .then (.rK (.ghs (fr 148 [(0,sc 1 0 1 n0 c0),(1,zI z0),(2,zI z1),(3,zI z2),(4,(.func (.func 45) ⟨[]⟩ ⟨[]⟩)),(10,zB true),(11,zB true)]) (hT 2 [oC q0]) (.k [1] [false,false] [] [0,1,2,3,4,10,11] ⟨Bq h0,trivial⟩) ?_))
 refine .block (.loopM (v:=v) (fun y:Nat×Nat×Int×Int×Int×Bool×Bool×LV=>((fr 148 [(0,(sc 1 0 1 y.1 y.2.1)),(1,(zI y.2.2.1)),(2,(zI y.2.2.2.1)),(3,(zI y.2.2.2.2.1)),(4,(.func (.func 45) ⟨[]⟩ ⟨[]⟩)),(10,(zB y.2.2.2.2.2.1)),(11,(zB y.2.2.2.2.2.2.1))]),(hT 2 [(oC y.2.2.2.2.2.2.2)]))) (fun w y=>KU pu n w y.1 y.2.1 y.2.2.1 y.2.2.2.1 y.2.2.2.2.1 y.2.2.2.2.2.1 y.2.2.2.2.2.2.1 y.2.2.2.2.2.2.2) n ⟨(n0,c0,z0,z1,z2,true,true,q0),hm,(.k [1] [false,false] [] [0,1,2,3,4,10,11] ⟨Bq h0,trivial⟩)⟩ (fun _=>rfl) ?_)
 rintro w0 ⟨n1,c1,z3,z4,z5,b0,b1,q1⟩ hm
 replace hm:KT pu n (KU pu n w0) n1 c1 z3 z4 z5 b0 b1 q1=some v:=hm
 unfold KT at hm
 refine .block (.then (.rK ?_))
 replace hm:=Ae hm;obtain⟨h1,hm⟩:=hm
 refine .ghs (fr 148 [(0,sc 1 0 1 n1 c1),(1,zI z3),(2,zI z4),(3,zI z5),(4,(.func (.func 45) ⟨[]⟩ ⟨[]⟩)),(10,zB b0),(11,zB b1),(12,(zI (Aj .i64 (Int.sub z4 z3))))]) (hT 2 [oC q1]) (.k [1] [false,false] [] [0,1,2,3,4,10,11,12] ⟨Bq h1,trivial⟩) ?_
 refine .then (.then (.rK (.ghs (fr 148 [(0,sc 1 0 1 n1 c1),(1,zI z3),(2,zI z4),(3,zI z5),(4,(.func (.func 45) ⟨[]⟩ ⟨[]⟩)),(10,zB b0),(11,zB b1),(12,(zI (Aj .i64 (Int.sub z4 z3)))),(25,(zB (nt (AY (12:Int) (Aj .i64 (Int.sub z4 z3))))))]) (hT 2 [oC q1]) (.k [1] [false,false] [] [0,1,2,3,4,10,11,12,25] ⟨Bq h1,trivial⟩) ?_)))
 replace hm:=Ag hm;rcases hm with⟨h2,hm⟩ | ⟨h2,hm⟩
 ·refine BB (nt (AY (12:Int) (Aj .i64 (Int.sub z4 z3)))) h2 ?_
  refine .then ?_
  replace hm:=Ae hm;obtain⟨h3,hm⟩:=hm
  replace hm:=Ae hm;obtain⟨h4,hm⟩:=hm
  replace hm:=Ab hm;obtain⟨v0,h5,hm⟩:=hm
  replace hm:=Ch hm;obtain⟨l0,rfl,hm⟩:=hm
  replace hm:=Ad hm;obtain⟨v1,l3695_0,rfl,hm⟩:=hm
  replace hm:=Ad hm;obtain⟨v2,l3695_1,rfl,hm⟩:=hm
  replace hm:=AC hm;obtain⟨rfl,hm⟩:=hm
  replace hm:=Ae hm;obtain⟨h6,hm⟩:=hm
  obtain rfl:=Oo h6
  replace hm:=BG hm;obtain⟨q2,rfl,hm⟩:=hm
  replace hm:=Ae hm;obtain⟨h7,hm⟩:=hm
  refine .reg (eC 4 (EK tabs [[none],[none],[none],[none]] 4 [.tmp 0 false] [false] (pu 10780) [sc 1 0 1 n1 c1,zI z3,zI z4,(.func (.func 45) ⟨[]⟩ ⟨[]⟩)] (hT 2 [oC q1])) (EL (as:=[sc 1 0 1 n1 c1,zI z3,zI z4,(.func (.func 45) ⟨[]⟩ ⟨[]⟩)]) (H1:=(hT 2 [oC q1])) (BS (Dm Dk) (BS (Dm Dk) (BS (Dm Dk) (BS (Dm Dk) Gj)))) (EI (H2:=(hT 2 [oC q2])) (v:=(.tuple ⟨[]⟩)) (v':=(.tuple ⟨[]⟩)) [some 0,some 1] [(false,some 1)] [oC q1] [sc 1 0 1 n1 c1,zI z3,zI z4,(.func (.func 45) ⟨[]⟩ ⟨[]⟩)] [(.agg ⟨q2⟩)] [oC q2] [some 0,some 1] [(false,oC q2)] [oC q2] (trE (by kernel_rfl) (XX h3 rfl)) (En (Nb (anc:=[]) h4) BX) (Eq.trans (by kernel_rfl) h5) (En rfl BX) (En (KO h7) BX))) (eE)) ?_
  replace hm:=Ae hm;obtain⟨h8,hm⟩:=hm
  refine .ghs (fr 148 []) (hT 2 [oC q2]) (.k [1] [false,false] [] [] ⟨Bq h8,trivial⟩) ?_
  refine .ghs (fr 148 []) (hT 2 [oC q2]) (.k [1] [false,false] [] [] ⟨Bq h8,trivial⟩) ?_
  refine .ret ?_
  exact Gi (.tuple ⟨[]⟩) [oC q2] (by kernel_rfl) hm (Nat.le_of_ble_eq_true rfl) (Fa (VT _) EJ)
 ·refine BI (nt (AY (12:Int) (Aj .i64 (Int.sub z4 z3)))) h2 ?_
  refine .skip (.ghs (fr 148 [(0,sc 1 0 1 n1 c1),(1,zI z3),(2,zI z4),(3,zI z5),(4,(.func (.func 45) ⟨[]⟩ ⟨[]⟩)),(10,zB b0),(11,zB b1),(12,(zI (Aj .i64 (Int.sub z4 z3))))]) (hT 2 [oC q1]) (.k [1] [false,false] [] [0,1,2,3,4,10,11,12] ⟨Bq h1,trivial⟩) ?_)
  refine .then (.then (.rK (.ghs (fr 148 [(0,sc 1 0 1 n1 c1),(1,zI z3),(2,zI z4),(3,zI z5),(4,(.func (.func 45) ⟨[]⟩ ⟨[]⟩)),(10,zB b0),(11,zB b1),(12,(zI (Aj .i64 (Int.sub z4 z3)))),(32,(zB (Bd z5 (0:Int))))]) (hT 2 [oC q1]) (.k [1] [false,false] [] [0,1,2,3,4,10,11,12,32] ⟨Bq h1,trivial⟩) ?_)))
  replace hm:=Ag hm;rcases hm with⟨h9,hm⟩ | ⟨h9,hm⟩
  ·refine BB (Bd z5 (0:Int)) h9 ?_
   refine .then ?_
   cases hm
  ·refine BI (Bd z5 (0:Int)) h9 ?_
   refine .skip (.ghs (fr 148 [(0,sc 1 0 1 n1 c1),(1,zI z3),(2,zI z4),(3,zI z5),(4,(.func (.func 45) ⟨[]⟩ ⟨[]⟩)),(10,zB b0),(11,zB b1),(12,(zI (Aj .i64 (Int.sub z4 z3))))]) (hT 2 [oC q1]) (.k [1] [false,false] [] [0,1,2,3,4,10,11,12] ⟨Bq h1,trivial⟩) ?_)
   refine .join (v:=v) (fun y:Nat×Nat×Int×Int×Int×Bool×Bool×Int×LV=>((fr 148 [(0,(sc 1 0 1 y.1 y.2.1)),(1,(zI y.2.2.1)),(2,(zI y.2.2.2.1)),(3,(zI y.2.2.2.2.1)),(4,(.func (.func 45) ⟨[]⟩ ⟨[]⟩)),(10,(zB y.2.2.2.2.2.1)),(11,(zB y.2.2.2.2.2.2.1)),(12,(zI y.2.2.2.2.2.2.2.1))]),(hT 2 [(oC y.2.2.2.2.2.2.2.2)]))) (fun y=>PO pu n (KU pu n w0) y.1 y.2.1 y.2.2.1 y.2.2.2.1 y.2.2.2.2.1 y.2.2.2.2.2.1 y.2.2.2.2.2.2.1 y.2.2.2.2.2.2.2.1 y.2.2.2.2.2.2.2.2) ?_ ?_
   ·rintro⟨n2,c2,z6,z7,z8,b2,b3,z9,q3⟩ hm
    unfold PO at hm
    refine .then ?_
    cases hm
   ·refine .then (.rK (.ghs (fr 148 [(0,sc 1 0 1 n1 c1),(1,zI z3),(2,zI z4),(3,zI z5),(4,(.func (.func 45) ⟨[]⟩ ⟨[]⟩)),(10,zB b0),(11,zB b1),(12,(zI (Aj .i64 (Int.sub z4 z3)))),(39,(zB (nt b0)))]) (hT 2 [oC q1]) (.k [1] [false,false] [] [0,1,2,3,4,10,11,12,39] ⟨Bq h1,trivial⟩) ?_))
    replace hm:=Ag hm;rcases hm with⟨h10,hm⟩ | ⟨h10,hm⟩
    ·refine BB (nt b0) h10 ?_
     refine .then ?_
     cases hm
    ·refine BI (nt b0) h10 ?_
     refine .skip ?_
     exact⟨(n1,c1,z3,z4,z5,b0,b1,(Aj .i64 (Int.sub z4 z3)),q1),hm,(.k [1] [false,false] [] [0,1,2,3,4,10,11,12] ⟨Bq h1,trivial⟩)⟩
theorem AaD {call:A8} (pu:Af) (n:Nat) (hcall:call=Bb tabs isP pu (inl pu)) {args:LV} {os:List AJ} {z:Value} (ha:args.length=5) (hk:os.length=1) (hpl:∀ o∈os,plainO o) (hm:OC pu n (args++os.map Ef)=some z):args.length≤148∧BN tt call (tabs.length+1) Pg (Fr.made 148 args) (BK tabs os) (FJ tt tabs.length 1 [] z):=by
 subst hcall
 have hq:=BC ha;clear ha;obtain⟨a0,args,rfl,ha⟩:=hq
 have hq:=BC ha;clear ha;obtain⟨a1,args,rfl,ha⟩:=hq
 have hq:=BC ha;clear ha;obtain⟨a2,args,rfl,ha⟩:=hq
 have hq:=BC ha;clear ha;obtain⟨a3,args,rfl,ha⟩:=hq
 have hq:=BC ha;clear ha;obtain⟨a4,args,rfl,ha⟩:=hq
 obtain rfl:=len_nil ha
 have hq:=BC hk;clear hk;obtain⟨b0,os,rfl,hk⟩:=hq
 have hp0:plainO b0:=hpl b0 (by simp)
 obtain rfl:=len_nil hk
 replace hm:OC pu n [a0,a1,a2,a3,a4,Ef b0]=some z:=hm
 unfold OC at hm
 replace hm:(oo (KP 1 0 1 a0) none fun y0=>(oo (Bi .i64 a1) none fun x0=>(oo (Bi .i64 a2) none fun x1=>(oo (Bi .i64 a3) none fun x2=>(oo (Om 45 0 a4) none fun l0=>(ll l0 (oo (Bt (Ef b0)) none fun q0=>(O8 pu n (NC.n y0) (NC.c y0) x0 x1 x2 q0)) fun _ _=>none))))))=some z:=hm
 replace hm:=Ab hm;obtain⟨y0,h0,hm⟩:=hm
 obtain rfl:=F5 h0
 replace hm:=Ai hm;obtain⟨x0,rfl,hm⟩:=hm
 replace hm:=Ai hm;obtain⟨x1,rfl,hm⟩:=hm
 replace hm:=Ai hm;obtain⟨x2,rfl,hm⟩:=hm
 replace hm:=Ab hm;obtain⟨l0,h1,hm⟩:=hm
 obtain rfl:=Hu h1
 replace hm:=AC hm;obtain⟨rfl,hm⟩:=hm
 replace hm:=Ab hm;obtain⟨q0,h2,hm⟩:=hm
 obtain rfl:=I7 hp0 h2
 refine⟨by simp,?_⟩
 exact .same (F':=(fr 148 [(0,(sc 1 0 1 (NC.n y0) (NC.c y0))),(1,zI x0),(2,zI x1),(3,zI x2),(4,(.func (.func 45) ⟨[]⟩ ⟨[]⟩))])) (H':=(hT 2 [oC q0])) (by kernel_rfl) (by kernel_rfl) (AaC pu n (NC.n y0) (NC.c y0) x0 x1 x2 q0 hm)
def KV (pu:Af) (n:Nat) (ih0:Nat→Nat→Int→Int→Int→LV→OV) (n0 c0:Nat) (z0 z1 z2:Int) (q0:LV):OV:=
 (bb (Au Ah q0) (ih0 n0 c0 z0 z1 (Aj .i64 (Int.add z2 (1:Int))) q0) none)
def Jw (pu:Af) (n:Nat) (ih0:Nat→Nat→Int→Int→Int→LV→OV) (ih1:Nat→Nat→Int→Int→Int→Int→LV→OV) (n0 c0:Nat) (z0 z1 z2 z3:Int) (b0:Bool) (q0:LV):OV:=
 (bb b0 (bb (Au Ah q0) (oo (EA (Aj .i64 (Int.sub z3 (1:Int)))) none fun k1=>(oo (EA (Aj .i64 (Int.sub z3 (1:Int)))) none fun k2=>(bb (an (Nat.blt k2 n0) true) (oo (AL q0 (0+k2*1)) none fun v0=>(oo (Bj 1 v0) none fun s0=>(oo (EA z3) none fun k3=>(bb (an (Nat.blt k3 n0) true) (oo (AL q0 (0+k3*1)) none fun v1=>(oo (Bj 1 v1) none fun s1=>(bb (an (Nat.blt k3 n0) true) (bb (an (Nat.ble ((0+k3*1)+1) (len q0)) true) (bb (an (Nat.blt k1 n0) true) (bb (an (Nat.ble ((0+k1*1)+1) (len (BM ([Sl.v 1 s0]:LV) (0+k3*1) q0))) true) (bb (Au Ah (BM ([Sl.v 1 s1]:LV) (0+k1*1) (BM ([Sl.v 1 s0]:LV) (0+k3*1) q0))) (ih1 n0 c0 z0 z1 z2 (Aj .i64 (Int.sub (Int.ofNat k3) (1:Int))) (BM ([Sl.v 1 s1]:LV) (0+k1*1) (BM ([Sl.v 1 s0]:LV) (0+k3*1) q0))) none) none) none) none) none))) none)))) none))) none) (bb (Au Ah q0) (KV pu n ih0 n0 c0 z0 z1 z2 q0) none))
def HV (pu:Af) (n:Nat) (ih0:Nat→Nat→Int→Int→Int→LV→OV) (ih1:Nat→Nat→Int→Int→Int→Int→LV→OV) (n0 c0:Nat) (z0 z1 z2 z3:Int) (q0:LV):OV:=
 (bb (AY z0 z3) (oo (EA z3) none fun k1=>(bb (an (Nat.blt k1 n0) true) (oo (AL q0 (0+k1*1)) none fun v0=>(oo (Bj 1 v0) none fun s0=>(oo (EA (Aj .i64 (Int.sub (Int.ofNat k1) (1:Int)))) none fun k2=>(bb (an (Nat.blt k2 n0) true) (oo (AL q0 (0+k2*1)) none fun v1=>(oo (Bj 1 v1) none fun s1=>(oo (pu 45 [Sl.v 1 s0,Sl.v 1 s1]) none fun v2=>(oo (Bi .i64 v2) none fun x0=>(bb (Au Ah q0) (Jw pu n ih0 ih1 n0 c0 z0 z1 z2 (Int.ofNat k1) (AY x0 (0:Int)) q0) none))))) none)))) none)) (bb (Au Ah q0) (Jw pu n ih0 ih1 n0 c0 z0 z1 z2 z3 false q0) none))
def HY (pu:Af) (n:Nat) (ih0:Nat→Nat→Int→Int→Int→LV→OV) (w:Nat):Nat→Nat→Int→Int→Int→Int→LV→OV:=
 Nat.rec (motive:=fun _=>Nat→Nat→Int→Int→Int→Int→LV→OV) (fun _ _ _ _ _ _ _=>none) (fun _ ih1=>HV pu n ih0 ih1) w
def Iq (pu:Af) (n:Nat) (ih0:Nat→Nat→Int→Int→Int→LV→OV) (n0 c0:Nat) (z0 z1 z2:Int) (q0:LV):OV:=
 (bb (Au Ah q0) (bb (AY z2 z1) (HY pu n ih0 n n0 c0 z0 z1 z2 z2 q0) (some (.tuple ⟨[(.tuple ⟨[]⟩),(.agg ⟨q0⟩)]⟩))) none)
def Eb (pu:Af) (n w:Nat):Nat→Nat→Int→Int→Int→LV→OV:=
 Nat.rec (motive:=fun _=>Nat→Nat→Int→Int→Int→LV→OV) (fun _ _ _ _ _ _=>none) (fun _ ih0=>Iq pu n ih0) w
def K6 (pu:Af) (n n0 c0:Nat) (z0 z1:Int) (q0:LV):OV:=
 (bb (Au Ah q0) (Eb pu n n n0 c0 z0 z1 (Aj .i64 (Int.add z0 (1:Int))) q0) none)
def OD (pu:Af) (n:Nat) (args:LV):OV:=
 (ll args none fun a0 args=>(ll args none fun a1 args=>(ll args none fun a2 args=>(ll args none fun a3 args=>(ll args none fun o0 args=>(ll args (oo (KP 1 0 1 a0) none fun y0=>(oo (Bi .i64 a1) none fun x0=>(oo (Bi .i64 a2) none fun x1=>(oo (Om 45 0 a3) none fun l0=>(ll l0 (oo (Bt o0) none fun q0=>(K6 pu n (NC.n y0) (NC.c y0) x0 x1 q0)) fun _ _=>none))))) fun _ _=>none))))))
theorem AaE (pu:Af) (n n0 c0:Nat) (z0 z1:Int) (q0:LV) {v:Value} (hm:K6 pu n n0 c0 z0 z1 q0=some v):BN tt (Bb tabs isP pu (inl pu)) 2 Ph (fr 53 [(0,sc 1 0 1 n0 c0),(1,zI z0),(2,zI z1),(3,(.func (.func 45) ⟨[]⟩ ⟨[]⟩))]) (hT 2 [oC q0]) (FJ tt 1 1 [] v):=by
 unfold K6 at hm
 refine .then (.rK ?_)
 replace hm:=Ae hm;obtain⟨h0,hm⟩:=hm
 refine .ghs (fr 53 [(0,sc 1 0 1 n0 c0),(1,zI z0),(2,zI z1),(3,(.func (.func 45) ⟨[]⟩ ⟨[]⟩)),(8,(zI (Aj .i64 (Int.add z0 (1:Int)))))]) (hT 2 [oC q0]) (.k [1] [false,false] [] [0,1,2,3,8] ⟨Bq h0,trivial⟩) ?_
 refine .block (.loopM (v:=v) (fun y:Nat×Nat×Int×Int×Int×LV=>((fr 53 [(0,(sc 1 0 1 y.1 y.2.1)),(1,(zI y.2.2.1)),(2,(zI y.2.2.2.1)),(3,(.func (.func 45) ⟨[]⟩ ⟨[]⟩)),(8,(zI y.2.2.2.2.1))]),(hT 2 [(oC y.2.2.2.2.2)]))) (fun w y=>Eb pu n w y.1 y.2.1 y.2.2.1 y.2.2.2.1 y.2.2.2.2.1 y.2.2.2.2.2) n ⟨(n0,c0,z0,z1,(Aj .i64 (Int.add z0 (1:Int))),q0),hm,(.k [1] [false,false] [] [0,1,2,3,8] ⟨Bq h0,trivial⟩)⟩ (fun _=>rfl) ?_)
 rintro w0 ⟨n1,c1,z2,z3,z4,q1⟩ hm
 replace hm:Iq pu n (Eb pu n w0) n1 c1 z2 z3 z4 q1=some v:=hm
 unfold Iq at hm
 refine .then (.then (.rK ?_))
 replace hm:=Ae hm;obtain⟨h1,hm⟩:=hm
 refine .ghs (fr 53 [(0,sc 1 0 1 n1 c1),(1,zI z2),(2,zI z3),(3,(.func (.func 45) ⟨[]⟩ ⟨[]⟩)),(8,zI z4),(14,(zB (AY z4 z3)))]) (hT 2 [oC q1]) (.k [1] [false,false] [] [0,1,2,3,8,14] ⟨Bq h1,trivial⟩) ?_
 replace hm:=Ag hm;rcases hm with⟨h2,hm⟩ | ⟨h2,hm⟩
 ·refine BB (AY z4 z3) h2 ?_
  refine .skip (.ghs (fr 53 [(0,sc 1 0 1 n1 c1),(1,zI z2),(2,zI z3),(3,(.func (.func 45) ⟨[]⟩ ⟨[]⟩)),(8,zI z4)]) (hT 2 [oC q1]) (.k [1] [false,false] [] [0,1,2,3,8] ⟨Bq h1,trivial⟩) ?_)
  refine .join (v:=v) (fun y:Nat×Nat×Int×Int×Int×LV=>((fr 53 [(0,(sc 1 0 1 y.1 y.2.1)),(1,(zI y.2.2.1)),(2,(zI y.2.2.2.1)),(3,(.func (.func 45) ⟨[]⟩ ⟨[]⟩)),(8,(zI y.2.2.2.2.1))]),(hT 2 [(oC y.2.2.2.2.2)]))) (fun y=>KV pu n (Eb pu n w0) y.1 y.2.1 y.2.2.1 y.2.2.2.1 y.2.2.2.2.1 y.2.2.2.2.2) ?_ ?_
  ·rintro⟨n2,c2,z5,z6,z7,q2⟩ hm
   unfold KV at hm
   refine .rK ?_
   replace hm:=Ae hm;obtain⟨h3,hm⟩:=hm
   exact⟨(n2,c2,z5,z6,(Aj .i64 (Int.add z7 (1:Int))),q2),hm,(.k [1] [false,false] [] [0,1,2,3,8] ⟨Bq h3,trivial⟩)⟩
  ·refine .block (.then (.rK (.ghs (fr 53 [(0,sc 1 0 1 n1 c1),(1,zI z2),(2,zI z3),(3,(.func (.func 45) ⟨[]⟩ ⟨[]⟩)),(8,zI z4),(9,zI z4)]) (hT 2 [oC q1]) (.k [1] [false,false] [] [0,1,2,3,8,9] ⟨Bq h1,trivial⟩) ?_)))
   refine .block (.loopM (v:=v) (fun y:Nat×Nat×Int×Int×Int×Int×LV=>((fr 53 [(0,(sc 1 0 1 y.1 y.2.1)),(1,(zI y.2.2.1)),(2,(zI y.2.2.2.1)),(3,(.func (.func 45) ⟨[]⟩ ⟨[]⟩)),(8,(zI y.2.2.2.2.1)),(9,(zI y.2.2.2.2.2.1))]),(hT 2 [(oC y.2.2.2.2.2.2)]))) (fun w y=>HY pu n (Eb pu n w0) w y.1 y.2.1 y.2.2.1 y.2.2.2.1 y.2.2.2.2.1 y.2.2.2.2.2.1 y.2.2.2.2.2.2) n ⟨(n1,c1,z2,z3,z4,z4,q1),hm,(.k [1] [false,false] [] [0,1,2,3,8,9] ⟨Bq h1,trivial⟩)⟩ (fun _=>rfl) ?_)
   rintro w1 ⟨n3,c3,z8,z9,z10,z11,q3⟩ hm
   replace hm:HV pu n (Eb pu n w0) (HY pu n (Eb pu n w0) w1) n3 c3 z8 z9 z10 z11 q3=some v:=hm
   unfold HV at hm
   refine .then (.join (v:=v) (fun y:Nat×Nat×Int×Int×Int×Int×Bool×LV=>((fr 53 [(0,(sc 1 0 1 y.1 y.2.1)),(1,(zI y.2.2.1)),(2,(zI y.2.2.2.1)),(3,(.func (.func 45) ⟨[]⟩ ⟨[]⟩)),(8,(zI y.2.2.2.2.1)),(9,(zI y.2.2.2.2.2.1)),(34,(zB y.2.2.2.2.2.2.1))]),(hT 2 [(oC y.2.2.2.2.2.2.2)]))) (fun y=>Jw pu n (Eb pu n w0) (HY pu n (Eb pu n w0) w1) y.1 y.2.1 y.2.2.1 y.2.2.2.1 y.2.2.2.2.1 y.2.2.2.2.2.1 y.2.2.2.2.2.2.1 y.2.2.2.2.2.2.2) ?_ ?_)
   ·rintro⟨n4,c4,z12,z13,z14,z15,b0,q4⟩ hm
    unfold Jw at hm
    replace hm:=Ag hm;rcases hm with⟨h4,hm⟩ | ⟨h4,hm⟩
    ·refine .ifT b0 (by kernel_rfl) h4 ?_
     refine .skip ?_
     replace hm:=Ae hm;obtain⟨h5,hm⟩:=hm
     refine .ghs (fr 53 [(0,sc 1 0 1 n4 c4),(1,zI z12),(2,zI z13),(3,(.func (.func 45) ⟨[]⟩ ⟨[]⟩)),(8,zI z14),(9,zI z15)]) (hT 2 [oC q4]) (.k [1] [false,false] [] [0,1,2,3,8,9] ⟨Bq h5,trivial⟩) ?_
     refine .then (.block ?_)
     replace hm:=Ab hm;obtain⟨k1,h6,hm⟩:=hm
     replace hm:=Ab hm;obtain⟨k2,h7,hm⟩:=hm
     replace hm:=Ae hm;obtain⟨h8,hm⟩:=hm
     replace hm:=LK hm;obtain⟨s0,h9,hm⟩:=hm
     replace hm:=Ab hm;obtain⟨k3,h10,hm⟩:=hm
     obtain rfl:=AR h10
     replace hm:=Ae hm;obtain⟨h11,hm⟩:=hm
     replace hm:=LK hm;obtain⟨s1,h12,hm⟩:=hm
     replace hm:=Ae hm;obtain⟨h13,hm⟩:=hm
     replace hm:=Ae hm;obtain⟨h14,hm⟩:=hm
     replace hm:=Ae hm;obtain⟨h15,hm⟩:=hm
     replace hm:=Ae hm;obtain⟨h16,hm⟩:=hm
     refine .reg (eN 9 (Fr.puts (fr 53 [(0,sc 1 0 1 n4 c4),(1,zI z12),(2,zI z13),(3,(.func (.func 45) ⟨[]⟩ ⟨[]⟩)),(8,zI z14),(9,(zI (Int.ofNat k3)))]) [(37,sc 1 0 1 n4 c4),(38,(zI (Int.ofNat k3))),(39,sc 1 0 1 n4 c4),(40,(zI (Int.ofNat k3))),(41,(zI (Int.ofNat k1))),(42,sc 1 0 1 n4 c4),(43,(zI (Int.ofNat k3))),(44,(zI (Int.ofNat k2))),(45,(.pointer (some ⟨1,(0+k2*1),none⟩)))]) (hT 2 [oC q4]) (eC 4 (some ((zI (Aj .i64 (Int.sub (Int.ofNat k3) (1:Int)))),(hT 2 [oC q4]))) (show _=some ((zI (Int.ofNat k1)),_) from (by rw[AR h6])) (eC 2 (some ((zI (Aj .i64 (Int.sub (Int.ofNat k3) (1:Int)))),(hT 2 [oC q4]))) (show _=some ((zI (Int.ofNat k2)),_) from (by rw[AR h7])) (eD (keep (hT 2 [oC q4]) (bb (an (Nat.blt k2 n4) true) (some (.pointer (some ⟨1,(0+k2*1),none⟩))) none)) (AX h8) (by kernel_rfl)))) (eN 5 (Fr.puts (fr 53 [(0,sc 1 0 1 n4 c4),(1,zI z12),(2,zI z13),(3,(.func (.func 45) ⟨[]⟩ ⟨[]⟩)),(8,zI z14),(9,(zI (Int.ofNat k3)))]) [(37,sc 1 0 1 n4 c4),(38,(zI (Int.ofNat k3))),(39,sc 1 0 1 n4 c4),(40,(zI (Int.ofNat k3))),(41,(zI (Int.ofNat k1))),(42,sc 1 0 1 n4 c4),(43,(zI (Int.ofNat k3))),(44,(zI (Int.ofNat k2))),(45,(.pointer (some ⟨1,(0+k2*1),none⟩))),(46,Sl.v 1 s0),(47,sc 1 0 1 n4 c4),(48,(zI (Int.ofNat k3))),(49,(.pointer (some ⟨1,(0+k3*1),none⟩))),(50,Sl.v 1 s1)]) (hT 2 [oC q4]) (eD (keep (hT 2 [oC q4]) (AL q4 (0+k2*1))) (AZ h9) (eC 2 (keep (hT 2 [oC q4]) (bb (an (Nat.blt k3 n4) true) (some (.pointer (some ⟨1,(0+k3*1),none⟩))) none)) (AX h11) (eD (keep (hT 2 [oC q4]) (AL q4 (0+k3*1))) (AZ h12) (by kernel_rfl)))) (eD (keep (hT 2 [oC q4]) (bb (an (Nat.blt k3 n4) true) (some (.pointer (some ⟨1,(0+k3*1),none⟩))) none)) (AX h13) (eD (done (bb (an (Nat.ble ((0+k3*1)+1) (len q4)) true) (some (hT 2 [(oC (BM ([Sl.v 1 s0]:LV) (0+k3*1) q4))])) none) undef) (Js h14) (eD (keep (hT 2 [(oC (BM ([Sl.v 1 s0]:LV) (0+k3*1) q4))]) (bb (an (Nat.blt k1 n4) true) (some (.pointer (some ⟨1,(0+k1*1),none⟩))) none)) (AX h15) (eD (done (bb (an (Nat.ble ((0+k1*1)+1) (len (BM ([Sl.v 1 s0]:LV) (0+k3*1) q4))) true) (some (hT 2 [(oC (BM ([Sl.v 1 s1]:LV) (0+k1*1) (BM ([Sl.v 1 s0]:LV) (0+k3*1) q4)))])) none) undef) (Js h16) (eE))))))) ?_
     replace hm:=Ae hm;obtain⟨h17,hm⟩:=hm
     refine .ghs (fr 53 [(0,sc 1 0 1 n4 c4),(1,zI z12),(2,zI z13),(3,(.func (.func 45) ⟨[]⟩ ⟨[]⟩)),(8,zI z14),(9,(zI (Int.ofNat k3)))]) (hT 2 [(oC (BM ([Sl.v 1 s1]:LV) (0+k1*1) (BM ([Sl.v 1 s0]:LV) (0+k3*1) q4)))]) (.k [1] [false,false] [] [0,1,2,3,8,9] ⟨Bq h17,trivial⟩) ?_
     refine .rK ?_
     exact⟨(n4,c4,z12,z13,z14,(Aj .i64 (Int.sub (Int.ofNat k3) (1:Int))),(BM ([Sl.v 1 s1]:LV) (0+k1*1) (BM ([Sl.v 1 s0]:LV) (0+k3*1) q4))),hm,(.k [1] [false,false] [] [0,1,2,3,8,9] ⟨Bq h17,trivial⟩)⟩
    ·refine .ifF b0 (by kernel_rfl) h4 ?_
     refine .exit ?_
     replace hm:=Ae hm;obtain⟨h18,hm⟩:=hm
     exact⟨(n4,c4,z12,z13,z14,q4),hm,(.k [1] [false,false] [] [0,1,2,3,8] ⟨Bq h18,trivial⟩)⟩
   ·replace hm:=Ag hm;rcases hm with⟨h19,hm⟩ | ⟨h19,hm⟩
    ·replace hm:=Ab hm;obtain⟨k4,h20,hm⟩:=hm
     obtain rfl:=AR h20
     replace hm:=Ae hm;obtain⟨h21,hm⟩:=hm
     replace hm:=LK hm;obtain⟨s2,h22,hm⟩:=hm
     replace hm:=Ab hm;obtain⟨k5,h23,hm⟩:=hm
     replace hm:=Ae hm;obtain⟨h24,hm⟩:=hm
     replace hm:=LK hm;obtain⟨s3,h25,hm⟩:=hm
     replace hm:=G9 hm;obtain⟨x0,h26,hm⟩:=hm
     refine .reg (eN 9 (Fr.puts (fr 53 [(0,sc 1 0 1 n3 c3),(1,zI z8),(2,zI z9),(3,(.func (.func 45) ⟨[]⟩ ⟨[]⟩)),(8,zI z10),(9,(zI (Int.ofNat k4)))]) [(18,(zI (Int.ofNat k4))),(19,zI z8),(20,zB true),(21,zB true),(22,(.func (.func 45) ⟨[]⟩ ⟨[]⟩)),(23,sc 1 0 1 n3 c3),(24,(zI (Int.ofNat k4))),(25,(.pointer (some ⟨1,(0+k4*1),none⟩))),(26,Sl.v 1 s2)]) (hT 2 [oC q3]) (eC 2 (some ((zB (AY z8 (Int.ofNat k4))),(hT 2 [oC q3]))) (show _=some ((zB true),_) from (by rw[show (AY z8 (Int.ofNat k4))=true from h19])) (eC 4 (keep (hT 2 [oC q3]) (bb (an (Nat.blt k4 n3) true) (some (.pointer (some ⟨1,(0+k4*1),none⟩))) none)) (AX h21) (eD (keep (hT 2 [oC q3]) (AL q3 (0+k4*1))) (AZ h22) (by kernel_rfl)))) (eC 2 (some ((zI (Aj .i64 (Int.sub (Int.ofNat k4) (1:Int)))),(hT 2 [oC q3]))) (show _=some ((zI (Int.ofNat k5)),_) from (by rw[AR h23])) (eD (keep (hT 2 [oC q3]) (bb (an (Nat.blt k5 n3) true) (some (.pointer (some ⟨1,(0+k5*1),none⟩))) none)) (AX h24) (eD (keep (hT 2 [oC q3]) (AL q3 (0+k5*1))) (AZ h25) (eD ((oo (pu 45 [Sl.v 1 s2,Sl.v 1 s3]) none fun v=>some (v,(hT 2 [oC q3])))) (AB h26) (eE)))))) ?_
     replace hm:=Ae hm;obtain⟨h27,hm⟩:=hm
     exact⟨(n3,c3,z8,z9,z10,(Int.ofNat k4),(AY x0 (0:Int)),q3),hm,(.k [1] [false,false] [] [0,1,2,3,8,9,34] ⟨Bq h27,trivial⟩)⟩
    ·refine .reg (eC 2 (some ((zB (AY z8 z11)),(hT 2 [oC q3]))) (show _=some ((zB false),_) from (by rw[show (AY z8 z11)=false from h19])) (eE)) ?_
     replace hm:=Ae hm;obtain⟨h28,hm⟩:=hm
     exact⟨(n3,c3,z8,z9,z10,z11,false,q3),hm,(.k [1] [false,false] [] [0,1,2,3,8,9,34] ⟨Bq h28,trivial⟩)⟩
 ·refine BI (AY z4 z3) h2 ?_
  refine .exit ?_
  refine .ghs (fr 53 []) (hT 2 [oC q1]) (.k [1] [false,false] [] [] ⟨Bq h1,trivial⟩) ?_
  exact TU (.tuple ⟨[]⟩) [oC q1] (by kernel_rfl) hm (Nat.le_of_ble_eq_true rfl) (Fa (VT _) EJ)
theorem AaF {call:A8} (pu:Af) (n:Nat) (hcall:call=Bb tabs isP pu (inl pu)) {args:LV} {os:List AJ} {z:Value} (ha:args.length=4) (hk:os.length=1) (hpl:∀ o∈os,plainO o) (hm:OD pu n (args++os.map Ef)=some z):args.length≤53∧BN tt call (tabs.length+1) Ph (Fr.made 53 args) (BK tabs os) (FJ tt tabs.length 1 [] z):=by
 subst hcall
 have hq:=BC ha;clear ha;obtain⟨a0,args,rfl,ha⟩:=hq
 have hq:=BC ha;clear ha;obtain⟨a1,args,rfl,ha⟩:=hq
 have hq:=BC ha;clear ha;obtain⟨a2,args,rfl,ha⟩:=hq
 have hq:=BC ha;clear ha;obtain⟨a3,args,rfl,ha⟩:=hq
 obtain rfl:=len_nil ha
 have hq:=BC hk;clear hk;obtain⟨b0,os,rfl,hk⟩:=hq
 have hp0:plainO b0:=hpl b0 (by simp)
 obtain rfl:=len_nil hk
 replace hm:OD pu n [a0,a1,a2,a3,Ef b0]=some z:=hm
 unfold OD at hm
 replace hm:(oo (KP 1 0 1 a0) none fun y0=>(oo (Bi .i64 a1) none fun x0=>(oo (Bi .i64 a2) none fun x1=>(oo (Om 45 0 a3) none fun l0=>(ll l0 (oo (Bt (Ef b0)) none fun q0=>(K6 pu n (NC.n y0) (NC.c y0) x0 x1 q0)) fun _ _=>none)))))=some z:=hm
 replace hm:=Ab hm;obtain⟨y0,h0,hm⟩:=hm
 obtain rfl:=F5 h0
 replace hm:=Ai hm;obtain⟨x0,rfl,hm⟩:=hm
 replace hm:=Ai hm;obtain⟨x1,rfl,hm⟩:=hm
 replace hm:=Ab hm;obtain⟨l0,h1,hm⟩:=hm
 obtain rfl:=Hu h1
 replace hm:=AC hm;obtain⟨rfl,hm⟩:=hm
 replace hm:=Ab hm;obtain⟨q0,h2,hm⟩:=hm
 obtain rfl:=I7 hp0 h2
 refine⟨by simp,?_⟩
 exact .same (F':=(fr 53 [(0,(sc 1 0 1 (NC.n y0) (NC.c y0))),(1,zI x0),(2,zI x1),(3,(.func (.func 45) ⟨[]⟩ ⟨[]⟩))])) (H':=(hT 2 [oC q0])) (by kernel_rfl) (by kernel_rfl) (AaE pu n (NC.n y0) (NC.c y0) x0 x1 q0 hm)
end
end Go.BkMM
set_option maxRecDepth 100000
set_option maxHeartbeats 20000000
set_option linter.unusedVariables false
namespace Go.BkMM
open Go.Sp Go.BkM
noncomputable section
def KW (pu:Af) (n n0 c0:Nat) (q0:LV):OV:=
 (bb (Au Ah q0) (some (.tuple ⟨[(.slice (some ⟨1,0,some 1⟩) n0 c0),(.agg ⟨q0⟩)]⟩)) none)
def MM (pu:Af) (n:Nat) (ih0:Nat→Nat→Int→LV→OV) (n0 c0:Nat) (z0:Int) (q0:LV):OV:=
 (bb (Au Ah q0) (ih0 n0 c0 (Aj .i64 (Int.add z0 (1:Int))) q0) none)
def MR (pu:Af) (n:Nat) (ih0:Nat→Nat→Int→LV→OV) (n0 c0:Nat) (z0:Int) (q0:LV):OV:=
 (oo (EA z0) none fun k1=>(bb (Nat.ble k1 n0) (bb (nt (Nat.beq (n0 - k1) 0)) (bb (an (Nat.ble ((0+k1*1)+len (AF ([(.slice none 0 0)]:LV) (n0 - k1))) (len q0)) (Au D6 (AF ([(.slice none 0 0)]:LV) (n0 - k1)))) (bb (Au Ah (BM (AF ([(.slice none 0 0)]:LV) (n0 - k1)) (0+k1*1) q0)) (bb (Nat.ble k1 (c0 / 2)) (some (.tuple ⟨[(.slice (some ⟨1,0,some 1⟩) k1 (2*(c0 / 2)+bb (Dp false (Nat.beq (c0 % 2) 1)) 1 0)),(.agg ⟨(BM (AF ([(.slice none 0 0)]:LV) (n0 - k1)) (0+k1*1) q0)⟩)]⟩)) none) none) none) none) none))
def KX (pu:Af) (n:Nat) (ih0:Nat→Nat→Int→LV→OV) (ih1:Nat→Nat→Int→Nat→Nat→Nat→Int→LV→OV) (n0 c0:Nat) (z0:Int) (n1 n2 c1:Nat) (z1:Int) (q0:LV):OV:=
 (bb (Au Ah q0) (ih1 n0 c0 z0 n1 n2 c1 (Aj .i64 (Int.add z1 (1:Int))) q0) none)
def Ir (pu:Af) (n:Nat) (ih0:Nat→Nat→Int→LV→OV) (ih1:Nat→Nat→Int→Nat→Nat→Nat→Int→LV→OV) (n0 c0:Nat) (z0:Int) (n1 n2 c1:Nat) (z1:Int) (q0:LV):OV:=
 (bb (Au Ah q0) (bb (AY z1 (Int.ofNat n2)) (oo (EA z1) none fun k1=>(bb (an (Nat.blt k1 n2) true) (oo (AL q0 (n1+k1*1)) none fun v0=>(oo (Bj 1 v0) none fun s0=>(oo (EA (Aj .i64 (Int.sub (Int.ofNat k1) (1:Int)))) none fun k2=>(bb (an (Nat.blt k2 n2) true) (oo (AL q0 (n1+k2*1)) none fun v1=>(oo (Bj 1 v1) none fun s1=>(oo (pu 37 [Sl.v 1 s0,Sl.v 1 s1]) none fun v2=>(oo (Bf v2) none fun b0=>(bb (nt b0) (bb (an (Nat.blt k1 n2) true) (oo (AL q0 (n1+k1*1)) none fun v3=>(oo (Bj 1 v3) none fun s2=>(oo (EA z0) none fun k3=>(bb (an (Nat.blt k3 n0) true) (bb (an (Nat.ble ((0+k3*1)+1) (len q0)) true) (bb (Au Ah (BM ([Sl.v 1 s2]:LV) (0+k3*1) q0)) (KX pu n ih0 ih1 n0 c0 (Aj .i64 (Int.add (Int.ofNat k3) (1:Int))) n1 n2 c1 (Int.ofNat k1) (BM ([Sl.v 1 s2]:LV) (0+k3*1) q0)) none) none) none)))) none) (KX pu n ih0 ih1 n0 c0 z0 n1 n2 c1 (Int.ofNat k1) q0)))))) none)))) none)) (MR pu n ih0 n0 c0 z0 q0)) none)
def Iy (pu:Af) (n:Nat) (ih0:Nat→Nat→Int→LV→OV) (w:Nat):Nat→Nat→Int→Nat→Nat→Nat→Int→LV→OV:=
 Nat.rec (motive:=fun _=>Nat→Nat→Int→Nat→Nat→Nat→Int→LV→OV) (fun _ _ _ _ _ _ _ _=>none) (fun _ ih1=>Ir pu n ih0 ih1) w
def Iz (pu:Af) (n:Nat) (ih0:Nat→Nat→Int→LV→OV) (n0 c0:Nat) (z0:Int) (q0:LV):OV:=
 (bb (Au Ah q0) (bb (AY z0 (Int.ofNat n0)) (oo (EA z0) none fun k1=>(bb (an (Nat.blt k1 n0) true) (oo (AL q0 (0+k1*1)) none fun v0=>(oo (Bj 1 v0) none fun s0=>(oo (EA (Aj .i64 (Int.sub (Int.ofNat k1) (1:Int)))) none fun k2=>(bb (an (Nat.blt k2 n0) true) (oo (AL q0 (0+k2*1)) none fun v1=>(oo (Bj 1 v1) none fun s1=>(oo (pu 37 [Sl.v 1 s0,Sl.v 1 s1]) none fun v2=>(oo (Bf v2) none fun b0=>(bb b0 (bb (Nat.ble k1 n0) (Iy pu n ih0 n n0 c0 (Int.ofNat k1) (0+k1*1) (n0 - k1) (2*(c0 / 2 - k1)+bb (Dp false (Nat.beq (c0 % 2) 1)) 1 0) (1:Int) q0) none) (MM pu n ih0 n0 c0 (Int.ofNat k1) q0)))))) none)))) none)) (KW pu n n0 c0 q0)) none)
def Dy (pu:Af) (n w:Nat):Nat→Nat→Int→LV→OV:=
 Nat.rec (motive:=fun _=>Nat→Nat→Int→LV→OV) (fun _ _ _ _=>none) (fun _ ih0=>Iz pu n ih0) w
def K7 (pu:Af) (n n0 c0:Nat) (q0:LV):OV:=
 (bb (Au Ah q0) (bb (AY (Int.ofNat n0) (2:Int)) (some (.tuple ⟨[(.slice (some ⟨1,0,some 1⟩) n0 c0),(.agg ⟨q0⟩)]⟩)) (Dy pu n n n0 c0 (1:Int) q0)) none)
def OE (pu:Af) (n:Nat) (args:LV):OV:=
 (ll args none fun a0 args=>(ll args none fun a1 args=>(ll args none fun o0 args=>(ll args (oo (KP 1 0 1 a0) none fun y0=>(oo (Om 37 0 a1) none fun l0=>(ll l0 (oo (Bt o0) none fun q0=>(K7 pu n (NC.n y0) (NC.c y0) q0)) fun _ _=>none))) fun _ _=>none))))
theorem fG (pu:Af) (n n0 c0:Nat) (q0:LV) {v:Value} (hm:KW pu n n0 c0 q0=some v):BN tt (Bb tabs isP pu (inl pu)) 2 dR (fr 66 [(0,sc 1 0 1 n0 c0)]) (hT 2 [oC q0]) (FJ tt 1 1 [.tmp 4] v):=by
 unfold KW at hm
 refine .then (.rK ?_)
 replace hm:=Ae hm;obtain⟨h0,hm⟩:=hm
 refine .ghs (fr 66 [(4,sc 1 0 1 n0 c0)]) (hT 2 [oC q0]) (.k [1] [false,false] [] [4] ⟨Bq h0,trivial⟩) ?_
 refine .ghs (fr 66 [(4,sc 1 0 1 n0 c0)]) (hT 2 [oC q0]) (.k [1] [false,false] [] [4] ⟨Bq h0,trivial⟩) ?_
 refine .ret ?_
 exact Gi (sc 1 0 1 n0 c0) [oC q0] (by kernel_rfl) hm (Nat.le_of_ble_eq_true rfl) (Fa (VT _) EJ)
theorem AaG (pu:Af) (n n0 c0:Nat) (q0:LV) {v:Value} (hm:K7 pu n n0 c0 q0=some v):BN tt (Bb tabs isP pu (inl pu)) 2 Pi (fr 66 [(0,sc 1 0 1 n0 c0),(1,(.func (.func 37) ⟨[]⟩ ⟨[]⟩))]) (hT 2 [oC q0]) (FJ tt 1 1 [.tmp 4] v):=by
 unfold K7 at hm
 refine .then (.rK ?_)
 replace hm:=Ae hm;obtain⟨h0,hm⟩:=hm
 refine .ghs (fr 66 [(0,sc 1 0 1 n0 c0),(1,(.func (.func 37) ⟨[]⟩ ⟨[]⟩))]) (hT 2 [oC q0]) (.k [1] [false,false] [] [0,1] ⟨Bq h0,trivial⟩) ?_
 refine .then (.then (.rK (.ghs (fr 66 [(0,sc 1 0 1 n0 c0),(1,(.func (.func 37) ⟨[]⟩ ⟨[]⟩)),(10,(zB (AY (Int.ofNat n0) (2:Int))))]) (hT 2 [oC q0]) (.k [1] [false,false] [] [0,1,10] ⟨Bq h0,trivial⟩) ?_)))
 replace hm:=Ag hm;rcases hm with⟨h1,hm⟩ | ⟨h1,hm⟩
 ·refine BB (AY (Int.ofNat n0) (2:Int)) h1 ?_
  refine .then (.rK (.ghs (fr 66 [(4,sc 1 0 1 n0 c0)]) (hT 2 [oC q0]) (.k [1] [false,false] [] [4] ⟨Bq h0,trivial⟩) ?_))
  refine .ghs (fr 66 [(4,sc 1 0 1 n0 c0)]) (hT 2 [oC q0]) (.k [1] [false,false] [] [4] ⟨Bq h0,trivial⟩) ?_
  refine .ret ?_
  exact Gi (sc 1 0 1 n0 c0) [oC q0] (by kernel_rfl) hm (Nat.le_of_ble_eq_true rfl) (Fa (VT _) EJ)
 ·refine BI (AY (Int.ofNat n0) (2:Int)) h1 ?_
  refine .skip (.ghs (fr 66 [(0,sc 1 0 1 n0 c0),(1,(.func (.func 37) ⟨[]⟩ ⟨[]⟩))]) (hT 2 [oC q0]) (.k [1] [false,false] [] [0,1] ⟨Bq h0,trivial⟩) ?_)
  refine .join (v:=v) (fun y:Nat×Nat×LV=>((fr 66 [(0,(sc 1 0 1 y.1 y.2.1))]),(hT 2 [(oC y.2.2)]))) (fun y=>KW pu n y.1 y.2.1 y.2.2) ?_ ?_
  ·rintro⟨n1,c1,q1⟩ hm
   exact fG pu n n1 c1 q1 hm
  ·refine .then (.rK (.ghs (fr 66 [(0,sc 1 0 1 n0 c0),(1,(.func (.func 37) ⟨[]⟩ ⟨[]⟩)),(5,(zI (1:Int)))]) (hT 2 [oC q0]) (.k [1] [false,false] [] [0,1,5] ⟨Bq h0,trivial⟩) ?_))
   refine .block (.loopM (v:=v) (fun y:Nat×Nat×Int×LV=>((fr 66 [(0,(sc 1 0 1 y.1 y.2.1)),(1,(.func (.func 37) ⟨[]⟩ ⟨[]⟩)),(5,(zI y.2.2.1))]),(hT 2 [(oC y.2.2.2)]))) (fun w y=>Dy pu n w y.1 y.2.1 y.2.2.1 y.2.2.2) n ⟨(n0,c0,(1:Int),q0),hm,(.k [1] [false,false] [] [0,1,5] ⟨Bq h0,trivial⟩)⟩ (fun _=>rfl) ?_)
   rintro w0 ⟨n2,c2,z0,q2⟩ hm
   replace hm:Iz pu n (Dy pu n w0) n2 c2 z0 q2=some v:=hm
   unfold Iz at hm
   refine .then (.then (.rK ?_))
   replace hm:=Ae hm;obtain⟨h2,hm⟩:=hm
   refine .ghs (fr 66 [(0,sc 1 0 1 n2 c2),(1,(.func (.func 37) ⟨[]⟩ ⟨[]⟩)),(5,zI z0),(15,(zB (AY z0 (Int.ofNat n2))))]) (hT 2 [oC q2]) (.k [1] [false,false] [] [0,1,5,15] ⟨Bq h2,trivial⟩) ?_
   replace hm:=Ag hm;rcases hm with⟨h3,hm⟩ | ⟨h3,hm⟩
   ·refine BB (AY z0 (Int.ofNat n2)) h3 ?_
    refine .skip (.ghs (fr 66 [(0,sc 1 0 1 n2 c2),(1,(.func (.func 37) ⟨[]⟩ ⟨[]⟩)),(5,zI z0)]) (hT 2 [oC q2]) (.k [1] [false,false] [] [0,1,5] ⟨Bq h2,trivial⟩) ?_)
    refine .join (v:=v) (fun y:Nat×Nat×Int×LV=>((fr 66 [(0,(sc 1 0 1 y.1 y.2.1)),(1,(.func (.func 37) ⟨[]⟩ ⟨[]⟩)),(5,(zI y.2.2.1))]),(hT 2 [(oC y.2.2.2)]))) (fun y=>MM pu n (Dy pu n w0) y.1 y.2.1 y.2.2.1 y.2.2.2) ?_ ?_
    ·rintro⟨n3,c3,z1,q3⟩ hm
     unfold MM at hm
     refine .rK ?_
     replace hm:=Ae hm;obtain⟨h4,hm⟩:=hm
     exact⟨(n3,c3,(Aj .i64 (Int.add z1 (1:Int))),q3),hm,(.k [1] [false,false] [] [0,1,5] ⟨Bq h4,trivial⟩)⟩
    ·refine .block (.then ?_)
     replace hm:=Ab hm;obtain⟨k1,h5,hm⟩:=hm
     obtain rfl:=AR h5
     replace hm:=Ae hm;obtain⟨h6,hm⟩:=hm
     replace hm:=LK hm;obtain⟨s0,h7,hm⟩:=hm
     replace hm:=Ab hm;obtain⟨k2,h8,hm⟩:=hm
     replace hm:=Ae hm;obtain⟨h9,hm⟩:=hm
     replace hm:=LK hm;obtain⟨s1,h10,hm⟩:=hm
     replace hm:=dV hm;obtain⟨b0,h11,hm⟩:=hm
     refine .reg (eN 8 (Fr.puts (fr 66 [(0,sc 1 0 1 n2 c2),(1,(.func (.func 37) ⟨[]⟩ ⟨[]⟩)),(5,(zI (Int.ofNat k1)))]) [(18,(.func (.func 37) ⟨[]⟩ ⟨[]⟩)),(19,sc 1 0 1 n2 c2),(20,(zI (Int.ofNat k1))),(21,(.pointer (some ⟨1,(0+k1*1),none⟩))),(22,Sl.v 1 s0),(23,sc 1 0 1 n2 c2),(24,(zI (Int.ofNat k1))),(25,(zI (Int.ofNat k2)))]) (hT 2 [oC q2]) (eC 3 (keep (hT 2 [oC q2]) (bb (an (Nat.blt k1 n2) true) (some (.pointer (some ⟨1,(0+k1*1),none⟩))) none)) (AX h6) (eD (keep (hT 2 [oC q2]) (AL q2 (0+k1*1))) (AZ h7) (eC 2 (some ((zI (Aj .i64 (Int.sub (Int.ofNat k1) (1:Int)))),(hT 2 [oC q2]))) (show _=some ((zI (Int.ofNat k2)),_) from (by rw[AR h8])) (by kernel_rfl)))) (eD (keep (hT 2 [oC q2]) (bb (an (Nat.blt k2 n2) true) (some (.pointer (some ⟨1,(0+k2*1),none⟩))) none)) (AX h9) (eD (keep (hT 2 [oC q2]) (AL q2 (0+k2*1))) (AZ h10) (eD ((oo (pu 37 [Sl.v 1 s0,Sl.v 1 s1]) none fun v=>some (v,(hT 2 [oC q2])))) (AB h11) (eE))))) ?_
     refine .ghs (fr 66 [(0,sc 1 0 1 n2 c2),(1,(.func (.func 37) ⟨[]⟩ ⟨[]⟩)),(5,(zI (Int.ofNat k1))),(28,zB b0)]) (hT 2 [oC q2]) (.k [1] [false,false] [] [0,1,5,28] ⟨Bq h2,trivial⟩) ?_
     replace hm:=Ag hm;rcases hm with⟨h12,hm⟩ | ⟨h12,hm⟩
     ·refine .ifT b0 (by kernel_rfl) h12 ?_
      refine .then ?_
      replace hm:=Ae hm;obtain⟨h13,hm⟩:=hm
      refine .reg (eC 2 (keep (hT 2 [oC q2]) (oo (bb (Nat.ble k1 n2) (some k1) none) none fun l=>some (sliceAt 1 (0+l*1) 1 (n2 - l) (c2 / 2 - l) (Dp false (Nat.beq (c2 % 2) 1))))) (show _=some ((.slice (some ⟨1,(0+k1*1),some 1⟩) (n2 - k1) (2*(c2 / 2 - k1)+bb (Dp false (Nat.beq (c2 % 2) 1)) 1 0)),(hT 2 [oC q2])) from (RJ h13).trans (by kernel_rfl)) (eE)) ?_
      refine .ghs (fr 66 [(0,sc 1 0 1 n2 c2),(1,(.func (.func 37) ⟨[]⟩ ⟨[]⟩)),(5,(zI (Int.ofNat k1))),(6,(.slice (some ⟨1,(0+k1*1),some 1⟩) (n2 - k1) (2*(c2 / 2 - k1)+bb (Dp false (Nat.beq (c2 % 2) 1)) 1 0)))]) (hT 2 [oC q2]) (.k [1] [false,false] [] [0,1,5,6] ⟨Bq h2,trivial⟩) ?_
      refine .join (v:=v) (fun y:Nat×Nat×Int×LV=>((fr 66 [(0,(sc 1 0 1 y.1 y.2.1)),(5,(zI y.2.2.1))]),(hT 2 [(oC y.2.2.2)]))) (fun y=>MR pu n (Dy pu n w0) y.1 y.2.1 y.2.2.1 y.2.2.2) ?_ ?_
      ·rintro⟨n4,c4,z2,q4⟩ hm
       unfold MR at hm
       refine .then ?_
       replace hm:=Ab hm;obtain⟨k3,h14,hm⟩:=hm
       obtain rfl:=AR h14
       replace hm:=Ae hm;obtain⟨h15,hm⟩:=hm
       replace hm:=Ae hm;obtain⟨h16,hm⟩:=hm
       replace hm:=Ae hm;obtain⟨h17,hm⟩:=hm
       refine .reg (eC 2 (keep (hT 2 [oC q4]) (oo (bb (Nat.ble k3 n4) (some k3) none) none fun l=>some (sliceAt 1 (0+l*1) 1 (n4 - l) (c4 / 2 - l) (Dp false (Nat.beq (c4 % 2) 1))))) (show _=some ((.slice (some ⟨1,(0+k3*1),some 1⟩) (n4 - k3) (2*(c4 / 2 - k3)+bb (Dp false (Nat.beq (c4 % 2) 1)) 1 0)),(hT 2 [oC q4])) from (RJ h15).trans (by kernel_rfl)) (eD (done (bb (nt (Nat.beq (n4 - k3) 0)) (bb (an (Nat.ble ((0+k3*1)+len (AF ([(.slice none 0 0)]:LV) (n4 - k3))) (len q4)) (Au D6 (AF ([(.slice none 0 0)]:LV) (n4 - k3)))) (some (hT 2 [(oC (BM (AF ([(.slice none 0 0)]:LV) (n4 - k3)) (0+k3*1) q4))])) none) none) undef) (bH h16 h17) (eE))) ?_
       replace hm:=Ae hm;obtain⟨h18,hm⟩:=hm
       refine .ghs (fr 66 [(0,sc 1 0 1 n4 c4),(5,(zI (Int.ofNat k3)))]) (hT 2 [(oC (BM (AF ([(.slice none 0 0)]:LV) (n4 - k3)) (0+k3*1) q4))]) (.k [1] [false,false] [] [0,5] ⟨Bq h18,trivial⟩) ?_
       refine .then ?_
       replace hm:=Ae hm;obtain⟨h19,hm⟩:=hm
       refine .reg (eC 2 (keep (hT 2 [(oC (BM (AF ([(.slice none 0 0)]:LV) (n4 - k3)) (0+k3*1) q4))]) (oo (bb (Nat.ble k3 (c4 / 2)) (some k3) none) none fun h=>some (sliceAt 1 (0+0*1) 1 (h - 0) (c4 / 2 - 0) (Dp false (Nat.beq (c4 % 2) 1))))) (show _=some ((sc 1 0 1 k3 (2*(c4 / 2)+bb (Dp false (Nat.beq (c4 % 2) 1)) 1 0)),(hT 2 [(oC (BM (AF ([(.slice none 0 0)]:LV) (n4 - k3)) (0+k3*1) q4))])) from (RJ h19).trans (by kernel_rfl)) (eE)) ?_
       refine .ghs (fr 66 [(4,(sc 1 0 1 k3 (2*(c4 / 2)+bb (Dp false (Nat.beq (c4 % 2) 1)) 1 0)))]) (hT 2 [(oC (BM (AF ([(.slice none 0 0)]:LV) (n4 - k3)) (0+k3*1) q4))]) (.k [1] [false,false] [] [4] ⟨Bq h18,trivial⟩) ?_
       refine .ghs (fr 66 [(4,(sc 1 0 1 k3 (2*(c4 / 2)+bb (Dp false (Nat.beq (c4 % 2) 1)) 1 0)))]) (hT 2 [(oC (BM (AF ([(.slice none 0 0)]:LV) (n4 - k3)) (0+k3*1) q4))]) (.k [1] [false,false] [] [4] ⟨Bq h18,trivial⟩) ?_
       refine .ret ?_
       exact Gi (sc 1 0 1 k3 (2*(c4 / 2)+bb (Dp false (Nat.beq (c4 % 2) 1)) 1 0)) [(oC (BM (AF ([(.slice none 0 0)]:LV) (n4 - k3)) (0+k3*1) q4))] (by kernel_rfl) hm (Nat.le_of_ble_eq_true rfl) (Fa (VT _) EJ)
      ·refine .then (.rK (.ghs (fr 66 [(0,sc 1 0 1 n2 c2),(1,(.func (.func 37) ⟨[]⟩ ⟨[]⟩)),(5,(zI (Int.ofNat k1))),(6,(.slice (some ⟨1,(0+k1*1),some 1⟩) (n2 - k1) (2*(c2 / 2 - k1)+bb (Dp false (Nat.beq (c2 % 2) 1)) 1 0))),(7,(zI (1:Int)))]) (hT 2 [oC q2]) (.k [1] [false,false] [] [0,1,5,6,7] ⟨Bq h2,trivial⟩) ?_))
       refine .block (.loopM (v:=v) (fun y:Nat×Nat×Int×Nat×Nat×Nat×Int×LV=>((fr 66 [(0,(sc 1 0 1 y.1 y.2.1)),(1,(.func (.func 37) ⟨[]⟩ ⟨[]⟩)),(5,(zI y.2.2.1)),(6,(.slice (some ⟨1,y.2.2.2.1,some 1⟩) y.2.2.2.2.1 y.2.2.2.2.2.1)),(7,(zI y.2.2.2.2.2.2.1))]),(hT 2 [(oC y.2.2.2.2.2.2.2)]))) (fun w y=>Iy pu n (Dy pu n w0) w y.1 y.2.1 y.2.2.1 y.2.2.2.1 y.2.2.2.2.1 y.2.2.2.2.2.1 y.2.2.2.2.2.2.1 y.2.2.2.2.2.2.2) n ⟨(n2,c2,(Int.ofNat k1),(0+k1*1),(n2 - k1),(2*(c2 / 2 - k1)+bb (Dp false (Nat.beq (c2 % 2) 1)) 1 0),(1:Int),q2),hm,(.k [1] [false,false] [] [0,1,5,6,7] ⟨Bq h2,trivial⟩)⟩ (fun _=>rfl) ?_)
       rintro w1 ⟨n5,c6,z3,n6,n7,c7,z4,q6⟩ hm
       replace hm:Ir pu n (Dy pu n w0) (Iy pu n (Dy pu n w0) w1) n5 c6 z3 n6 n7 c7 z4 q6=some v:=hm
       unfold Ir at hm
       refine .then (.then (.rK ?_))
       replace hm:=Ae hm;obtain⟨h20,hm⟩:=hm
       refine .ghs (fr 66 [(0,sc 1 0 1 n5 c6),(1,(.func (.func 37) ⟨[]⟩ ⟨[]⟩)),(5,zI z3),(6,(.slice (some ⟨1,n6,some 1⟩) n7 c7)),(7,zI z4),(35,(zB (AY z4 (Int.ofNat n7))))]) (hT 2 [oC q6]) (.k [1] [false,false] [] [0,1,5,6,7,35] ⟨Bq h20,trivial⟩) ?_
       replace hm:=Ag hm;rcases hm with⟨h21,hm⟩ | ⟨h21,hm⟩
       ·refine BB (AY z4 (Int.ofNat n7)) h21 ?_
        refine .skip (.ghs (fr 66 [(0,sc 1 0 1 n5 c6),(1,(.func (.func 37) ⟨[]⟩ ⟨[]⟩)),(5,zI z3),(6,(.slice (some ⟨1,n6,some 1⟩) n7 c7)),(7,zI z4)]) (hT 2 [oC q6]) (.k [1] [false,false] [] [0,1,5,6,7] ⟨Bq h20,trivial⟩) ?_)
        refine .join (v:=v) (fun y:Nat×Nat×Int×Nat×Nat×Nat×Int×LV=>((fr 66 [(0,(sc 1 0 1 y.1 y.2.1)),(1,(.func (.func 37) ⟨[]⟩ ⟨[]⟩)),(5,(zI y.2.2.1)),(6,(.slice (some ⟨1,y.2.2.2.1,some 1⟩) y.2.2.2.2.1 y.2.2.2.2.2.1)),(7,(zI y.2.2.2.2.2.2.1))]),(hT 2 [(oC y.2.2.2.2.2.2.2)]))) (fun y=>KX pu n (Dy pu n w0) (Iy pu n (Dy pu n w0) w1) y.1 y.2.1 y.2.2.1 y.2.2.2.1 y.2.2.2.2.1 y.2.2.2.2.2.1 y.2.2.2.2.2.2.1 y.2.2.2.2.2.2.2) ?_ ?_
        ·rintro⟨n8,c8,z5,n9,n10,c10,z6,q7⟩ hm
         unfold KX at hm
         refine .rK ?_
         replace hm:=Ae hm;obtain⟨h22,hm⟩:=hm
         exact⟨(n8,c8,z5,n9,n10,c10,(Aj .i64 (Int.add z6 (1:Int))),q7),hm,(.k [1] [false,false] [] [0,1,5,6,7] ⟨Bq h22,trivial⟩)⟩
        ·refine .block (.then ?_)
         replace hm:=Ab hm;obtain⟨k4,h23,hm⟩:=hm
         obtain rfl:=AR h23
         replace hm:=Ae hm;obtain⟨h24,hm⟩:=hm
         replace hm:=LK hm;obtain⟨s2,h25,hm⟩:=hm
         replace hm:=Ab hm;obtain⟨k5,h26,hm⟩:=hm
         replace hm:=Ae hm;obtain⟨h27,hm⟩:=hm
         replace hm:=LK hm;obtain⟨s3,h28,hm⟩:=hm
         replace hm:=dV hm;obtain⟨b1,h29,hm⟩:=hm
         refine .reg (eN 8 (Fr.puts (fr 66 [(0,sc 1 0 1 n5 c6),(1,(.func (.func 37) ⟨[]⟩ ⟨[]⟩)),(5,zI z3),(6,(.slice (some ⟨1,n6,some 1⟩) n7 c7)),(7,(zI (Int.ofNat k4)))]) [(38,(.func (.func 37) ⟨[]⟩ ⟨[]⟩)),(39,(.slice (some ⟨1,n6,some 1⟩) n7 c7)),(40,(zI (Int.ofNat k4))),(41,(.pointer (some ⟨1,(n6+k4*1),none⟩))),(42,Sl.v 1 s2),(43,(.slice (some ⟨1,n6,some 1⟩) n7 c7)),(44,(zI (Int.ofNat k4))),(45,(zI (Int.ofNat k5)))]) (hT 2 [oC q6]) (eC 3 (keep (hT 2 [oC q6]) (bb (an (Nat.blt k4 n7) true) (some (.pointer (some ⟨1,(n6+k4*1),none⟩))) none)) (AX h24) (eD (keep (hT 2 [oC q6]) (AL q6 (n6+k4*1))) (AZ h25) (eC 2 (some ((zI (Aj .i64 (Int.sub (Int.ofNat k4) (1:Int)))),(hT 2 [oC q6]))) (show _=some ((zI (Int.ofNat k5)),_) from (by rw[AR h26])) (by kernel_rfl)))) (eD (keep (hT 2 [oC q6]) (bb (an (Nat.blt k5 n7) true) (some (.pointer (some ⟨1,(n6+k5*1),none⟩))) none)) (AX h27) (eD (keep (hT 2 [oC q6]) (AL q6 (n6+k5*1))) (AZ h28) (eD ((oo (pu 37 [Sl.v 1 s2,Sl.v 1 s3]) none fun v=>some (v,(hT 2 [oC q6])))) (AB h29) (eE))))) ?_
         refine .ghs (fr 66 [(0,sc 1 0 1 n5 c6),(1,(.func (.func 37) ⟨[]⟩ ⟨[]⟩)),(5,zI z3),(6,(.slice (some ⟨1,n6,some 1⟩) n7 c7)),(7,(zI (Int.ofNat k4))),(49,(zB (nt b1)))]) (hT 2 [oC q6]) (.k [1] [false,false] [] [0,1,5,6,7,49] ⟨Bq h20,trivial⟩) ?_
         replace hm:=Ag hm;rcases hm with⟨h30,hm⟩ | ⟨h30,hm⟩
         ·refine BB (nt b1) h30 ?_
          refine .then ?_
          replace hm:=Ae hm;obtain⟨h31,hm⟩:=hm
          replace hm:=LK hm;obtain⟨s4,h32,hm⟩:=hm
          replace hm:=Ab hm;obtain⟨k6,h33,hm⟩:=hm
          obtain rfl:=AR h33
          replace hm:=Ae hm;obtain⟨h34,hm⟩:=hm
          replace hm:=Ae hm;obtain⟨h35,hm⟩:=hm
          refine .reg (eC 4 (keep (hT 2 [oC q6]) (bb (an (Nat.blt k4 n7) true) (some (.pointer (some ⟨1,(n6+k4*1),none⟩))) none)) (AX h31) (eD (keep (hT 2 [oC q6]) (AL q6 (n6+k4*1))) (AZ h32) (eD (keep (hT 2 [oC q6]) (bb (an (Nat.blt k6 n5) true) (some (.pointer (some ⟨1,(0+k6*1),none⟩))) none)) (AX h34) (eD (done (bb (an (Nat.ble ((0+k6*1)+1) (len q6)) true) (some (hT 2 [(oC (BM ([Sl.v 1 s4]:LV) (0+k6*1) q6))])) none) undef) (Js h35) (eE))))) ?_
          replace hm:=Ae hm;obtain⟨h36,hm⟩:=hm
          refine .ghs (fr 66 [(0,sc 1 0 1 n5 c6),(1,(.func (.func 37) ⟨[]⟩ ⟨[]⟩)),(5,(zI (Int.ofNat k6))),(6,(.slice (some ⟨1,n6,some 1⟩) n7 c7)),(7,(zI (Int.ofNat k4)))]) (hT 2 [(oC (BM ([Sl.v 1 s4]:LV) (0+k6*1) q6))]) (.k [1] [false,false] [] [0,1,5,6,7] ⟨Bq h36,trivial⟩) ?_
          refine .rK ?_
          exact⟨(n5,c6,(Aj .i64 (Int.add (Int.ofNat k6) (1:Int))),n6,n7,c7,(Int.ofNat k4),(BM ([Sl.v 1 s4]:LV) (0+k6*1) q6)),hm,(.k [1] [false,false] [] [0,1,5,6,7] ⟨Bq h36,trivial⟩)⟩
         ·refine BI (nt b1) h30 ?_
          refine .skip ?_
          exact⟨(n5,c6,z3,n6,n7,c7,(Int.ofNat k4),q6),hm,(.k [1] [false,false] [] [0,1,5,6,7] ⟨Bq h20,trivial⟩)⟩
       ·refine BI (AY z4 (Int.ofNat n7)) h21 ?_
        refine .exit ?_
        exact⟨(n5,c6,z3,q6),hm,(.k [1] [false,false] [] [0,5] ⟨Bq h20,trivial⟩)⟩
     ·refine .ifF b0 (by kernel_rfl) h12 ?_
      refine .skip ?_
      exact⟨(n2,c2,(Int.ofNat k1),q2),hm,(.k [1] [false,false] [] [0,1,5] ⟨Bq h2,trivial⟩)⟩
   ·refine BI (AY z0 (Int.ofNat n2)) h3 ?_
    refine .exit ?_
    exact⟨(n2,c2,q2),hm,(.k [1] [false,false] [] [0] ⟨Bq h2,trivial⟩)⟩
theorem AaH {call:A8} (pu:Af) (n:Nat) (hcall:call=Bb tabs isP pu (inl pu)) {args:LV} {os:List AJ} {z:Value} (ha:args.length=2) (hk:os.length=1) (hpl:∀ o∈os,plainO o) (hm:OE pu n (args++os.map Ef)=some z):args.length≤66∧BN tt call (tabs.length+1) Pi (Fr.made 66 args) (BK tabs os) (FJ tt tabs.length 1 [.tmp 4] z):=by
 subst hcall
 have hq:=BC ha;clear ha;obtain⟨a0,args,rfl,ha⟩:=hq
 have hq:=BC ha;clear ha;obtain⟨a1,args,rfl,ha⟩:=hq
 obtain rfl:=len_nil ha
 have hq:=BC hk;clear hk;obtain⟨b0,os,rfl,hk⟩:=hq
 have hp0:plainO b0:=hpl b0 (by simp)
 obtain rfl:=len_nil hk
 replace hm:OE pu n [a0,a1,Ef b0]=some z:=hm
 unfold OE at hm
 replace hm:(oo (KP 1 0 1 a0) none fun y0=>(oo (Om 37 0 a1) none fun l0=>(ll l0 (oo (Bt (Ef b0)) none fun q0=>(K7 pu n (NC.n y0) (NC.c y0) q0)) fun _ _=>none)))=some z:=hm
 replace hm:=Ab hm;obtain⟨y0,h0,hm⟩:=hm
 obtain rfl:=F5 h0
 replace hm:=Ab hm;obtain⟨l0,h1,hm⟩:=hm
 obtain rfl:=Hu h1
 replace hm:=AC hm;obtain⟨rfl,hm⟩:=hm
 replace hm:=Ab hm;obtain⟨q0,h2,hm⟩:=hm
 obtain rfl:=I7 hp0 h2
 refine⟨by simp,?_⟩
 exact .same (F':=(fr 66 [(0,(sc 1 0 1 (NC.n y0) (NC.c y0))),(1,(.func (.func 37) ⟨[]⟩ ⟨[]⟩))])) (H':=(hT 2 [oC q0])) (by kernel_rfl) (by kernel_rfl) (AaG pu n (NC.n y0) (NC.c y0) q0 hm)
end
end Go.BkMM
set_option maxRecDepth 100000
namespace Go.BkMM
open Go.Sp Go.BkM
noncomputable section
def L:Nat:=1000000
def MU (pu:Af):Af:=fun g args=>
 bb (Nat.beq g 5) (m5 pu L args) (bb (Nat.beq g 9) (m9 pu L args) (bb (Nat.beq g 12) (m12 pu L args) (bb (Nat.beq g 14) (m14 pu L args) (bb (Nat.beq g 15) (m15 pu L args) (bb (Nat.beq g 20) (m20 pu L args) (bb (Nat.beq g 22) (m22 pu L args) (bb (Nat.beq g 23) (m23 pu L args) (bb (Nat.beq g 32) (m32 pu L args) (bb (Nat.beq g 34) (m34 pu L args) (bb (Nat.beq g 35) (m35 pu L args) (bb (Nat.beq g 36) (m36 pu L args) (bb (Nat.beq g 37) (m37 pu L args) (bb (Nat.beq g 45) (m45 pu L args) (bb (Nat.beq g 46) (m46 pu L args) (bb (Nat.beq g 47) (m47 pu L args) (bb (Nat.beq g 48) (m48 pu L args) (bb (Nat.beq g 49) (m49 pu L args) (bb (Nat.beq g 50) (m50 pu L args) (bb (Nat.beq g 51) (m51 pu L args) (bb (Nat.beq g 52) (m52 pu L args) (bb (Nat.beq g 53) (m53 pu L args) (bb (Nat.beq g 57) (m57 pu L args) (bb (Nat.beq g 58) (m58 pu L args) (bb (Nat.beq g 65) (m65 pu L args) (bb (Nat.beq g 68) (m68 pu L args) (bb (Nat.beq g 69) (m69 pu L args) (bb (Nat.beq g 71) (m71 pu L args) (bb (Nat.beq g 74) (m74 pu L args) (bb (Nat.beq g 87) (m87 pu L args) (bb (Nat.beq g 10400) (LU pu L args) (bb (Nat.beq g 10410) (Ox pu L args) (bb (Nat.beq g 10610) (Oy pu L args) (bb (Nat.beq g 10420) (Oz pu L args) (bb (Nat.beq g 10440) (OA pu L args) (bb (Nat.beq g 10590) (OB pu L args) (bb (Nat.beq g 10700) (OC pu L args) (bb (Nat.beq g 10780) (OD pu L args) (bb (Nat.beq g 10600) (OE pu L args) (bb (Nat.beq g 19) (UQ args) (bb (Nat.beq g 66) (UR args) (bb (Nat.beq g 77) (UT args) (none))))))))))))))))))))))))))))))))))))))))))
def Bp:Nat→Af:=fun n=>Nat.rec (motive:=fun _=>Af) (fun _ _=>none) (fun _ ih=>MU ih) n
end
end Go.BkMM
