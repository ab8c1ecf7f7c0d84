/- Made from wip. -/
import Derived.Test.YtokbaaeimejjlaaDoorBkSMod1x
import Derived.Test.YtokbaaeimejjlaaDoorBkSMod2
import Derived.Test.YtokbaaeimejjlaaDoorBkSMod3
import Derived.Test.YtokbaaeimejjlaaDoorBkSMod4
import Derived.Test.YtokbaaeimejjlaaDoorBkSMod5

set_option maxRecDepth 100000
set_option maxHeartbeats 20000000
set_option linter.unusedVariables false
namespace Go.BkSM
open Go.Sp Go.BkS
noncomputable section

def Ji (pu:Af) (n:Nat) (s0:Sl) (z0:Int):OV:=
 (oo (pu 10610 [Sl.v 1 s0,(.func (.func 42) ⟨[]⟩ ⟨[(.pointer (some ⟨1,0,none⟩))]⟩),(.agg ⟨[.int .u16 z0]⟩)]) none fun v0=>(oo (CQ v0) none fun l0=>(ll l0 none fun v1 l0=>(ll l0 none fun v2 l0=>(ll l0 (oo (Bi .i64 v1) none fun x0=>(oo (Bt v2) none fun l1=>(ll l1 none fun v3 l1=>(ll l1 (oo (Bi .u16 v3) none fun x1=>(some (.tuple ⟨[(.bool (nt (AY x0 (0:Int)))),(.agg ⟨[.int .u16 x1]⟩)]⟩))) fun _ _=>none)))) fun _ _=>none)))))
def K3 (pu:Af) (n:Nat) (args:LV):OV:=
 (ll args none fun a0 args=>(ll args none fun a1 args=>(ll args none fun o0 args=>(ll args (oo (Bj 1 a0) none fun s0=>(oo (Om 42 0 a1) none fun l0=>(ll l0 none fun v0 l0=>(ll l0 (bb (MK v0 1 0) (oo (Bt o0) none fun l1=>(ll l1 none fun v1 l1=>(ll l1 (oo (Bi .u16 v1) none fun x0=>(Ji pu n s0 x0)) fun _ _=>none))) none) fun _ _=>none)))) fun _ _=>none))))
theorem Uk (pu:Af) (n:Nat) (s0:Sl) (z0:Int) {v:Value} (hm:Ji pu n s0 z0=some v):BN tt (Bb tabs isP pu (inl pu)) 2 RQ (fr 9 [(0,Sl.v 1 s0),(1,(.func (.func 42) ⟨[]⟩ ⟨[pt 1 0]⟩))]) (hT 2 [(oC [.int .u16 z0])]) (FJ tt 1 1 [.tmp 4] v):=by
 unfold Ji at hm
 refine .then (.rK (.ghs (fr 9 [(0,Sl.v 1 s0),(1,(.func (.func 42) ⟨[]⟩ ⟨[pt 1 0]⟩))]) (hT 2 [(oC [.int .u16 z0])]) (.k0 [false,false] [] [0,1]) ?_))
 refine .then ?_
 replace hm:=Ab hm;obtain⟨v0,h0,hm⟩:=hm
 replace hm:=Ch hm;obtain⟨l0,rfl,hm⟩:=hm
 replace hm:=Ad hm;obtain⟨v1,l12853_0,rfl,hm⟩:=hm
 replace hm:=Ad hm;obtain⟨v2,l12853_1,rfl,hm⟩:=hm
 replace hm:=AC hm;obtain⟨rfl,hm⟩:=hm
 replace hm:=Ai hm;obtain⟨x0,rfl,hm⟩:=hm
 replace hm:=BG hm;obtain⟨l1,rfl,hm⟩:=hm
 replace hm:=Ad hm;obtain⟨v3,l12859_0,rfl,hm⟩:=hm
 replace hm:=AC hm;obtain⟨rfl,hm⟩:=hm
 replace hm:=Ai hm;obtain⟨x1,rfl,hm⟩:=hm
 refine .reg (eC 2 (EK tabs [[some 1],[none]] 2 [.cap 1 0 false] [false] (pu 10610) [Sl.v 1 s0,(.func (.func 42) ⟨[]⟩ ⟨[pt 1 0]⟩)] (hT 2 [(oC [.int .u16 z0])])) (EL (as:=[Sl.v 1 s0,(.func (.func 42) ⟨[]⟩ ⟨[pt 1 0]⟩)]) (H1:=(hT 2 [(oC [.int .u16 z0])])) (BS (Dm (KQ (CV (z:=1) (v:=(Sl.v 1 s0)) (H:=(hT 2 [(oC [.int .u16 z0])])) (by kernel_rfl) (by kernel_rfl) (by kernel_rfl)))) (BS (Dm Dk) Gj)) (EI (H2:=(hT 2 [(oC [.int .u16 x1])])) (v:=(zI x0)) (v':=(zI x0)) [some 0,some 1] [(false,some 1)] [(oC [.int .u16 z0])] [Sl.v 1 s0,(.func (.func 42) ⟨[]⟩ ⟨[pt 1 0]⟩)] [(.agg ⟨[.int .u16 x1]⟩)] [(oC [.int .u16 x1])] [some 0,some 1] [(false,(oC [.int .u16 x1]))] [(oC [.int .u16 x1])] (by kernel_rfl) (En (by kernel_rfl) BX) (Eq.trans (by kernel_rfl) h0) (En rfl BX) (En (by kernel_rfl) BX))) (eE)) ?_
 refine .ghs (fr 9 [(4,(zB (nt (AY x0 (0:Int)))))]) (hT 2 [(oC [.int .u16 x1])]) (.k0 [false,false] [] [4]) ?_
 refine .ghs (fr 9 [(4,(zB (nt (AY x0 (0:Int)))))]) (hT 2 [(oC [.int .u16 x1])]) (.k0 [false,false] [] [4]) ?_
 refine .ret ?_
 exact Gi (zB (nt (AY x0 (0:Int)))) [(oC [.int .u16 x1])] (by kernel_rfl) hm (Nat.le_of_ble_eq_true rfl) (Fa (VT _) EJ)
theorem uC {call:A8} (pu:Af) (n:Nat) (hcall:call=Bb tabs isP pu (inl pu)) {args:LV} {os:List AJ} {z:Value} (ha:args.length=2) (hk:os.length=1) (hpl:∀ o∈os,plainO o) (hm:K3 pu n (args++os.map Ef)=some z):args.length≤9∧BN tt call (tabs.length+1) RQ (Fr.made 9 args) (BK tabs os) (FJ tt tabs.length 1 [.tmp 4] z):=by
 subst hcall
 have hq:=BC ha;clear ha;obtain⟨a0,args,rfl,ha⟩:=hq
 have hq:=BC ha;clear ha;obtain⟨a1,args,rfl,ha⟩:=hq
 obtain rfl:=len_nil ha
 have hq:=BC hk;clear hk;obtain⟨b0,os,rfl,hk⟩:=hq
 have hp0:plainO b0:=hpl b0 (by simp)
 obtain rfl:=len_nil hk
 replace hm:K3 pu n [a0,a1,Ef b0]=some z:=hm
 unfold K3 at hm
 replace hm:(oo (Bj 1 a0) none fun s0=>(oo (Om 42 0 a1) none fun l0=>(ll l0 none fun v0 l0=>(ll l0 (bb (MK v0 1 0) (oo (Bt (Ef b0)) none fun l1=>(ll l1 none fun v1 l1=>(ll l1 (oo (Bi .u16 v1) none fun x0=>(Ji pu n s0 x0)) fun _ _=>none))) none) fun _ _=>none))))=some z:=hm
 replace hm:=Al hm;obtain⟨s0,rfl,hm⟩:=hm
 replace hm:=Ab hm;obtain⟨l0,h0,hm⟩:=hm
 obtain rfl:=Hu h0
 replace hm:=Ad hm;obtain⟨v0,l12868_0,rfl,hm⟩:=hm
 replace hm:=AC hm;obtain⟨rfl,hm⟩:=hm
 replace hm:=Ae hm;obtain⟨h1,hm⟩:=hm
 obtain rfl:=KR h1
 replace hm:=Ab hm;obtain⟨l1,h2,hm⟩:=hm
 obtain rfl:=I7 hp0 h2
 replace hm:=Ad hm;obtain⟨v1,l12872_0,rfl,hm⟩:=hm
 replace hm:=AC hm;obtain⟨rfl,hm⟩:=hm
 replace hm:=Ai hm;obtain⟨x0,rfl,hm⟩:=hm
 refine⟨by simp,?_⟩
 exact .same (F':=(fr 9 [(0,Sl.v 1 s0),(1,(.func (.func 42) ⟨[]⟩ ⟨[pt 1 0]⟩))])) (H':=(hT 2 [(oC [.int .u16 x0])])) (by kernel_rfl) (by kernel_rfl) (Uk pu n s0 x0 hm)
def KJ (pu:Af) (n:Nat) (z0:Int):OV:=
 (some (.tuple ⟨[(.int .i64 (-1:Int)),(.agg ⟨[.int .u16 z0]⟩)]⟩))
def Gv (pu:Af) (n:Nat) (ih0:Sl→Int→Int→Int→OV) (s0:Sl) (z0 z1 z2:Int):OV:=
 (bb (AY z1 z0) (oo (EA z1) none fun k1=>(bb (an (Nat.blt k1 (Sl.n s0)) true) (oo (AL (Sl.cs s0) (k1*1)) none fun v0=>(oo (Bi .i64 v0) none fun x0=>(oo (pu 10420 [.int .i64 x0,(.pointer (some ⟨1,0,none⟩)),(.agg ⟨[.int .u16 z2]⟩)]) none fun v1=>(oo (CQ v1) none fun l0=>(ll l0 none fun v2 l0=>(ll l0 none fun v3 l0=>(ll l0 (oo (Bf v2) none fun b0=>(oo (Bt v3) none fun l1=>(ll l1 none fun v4 l1=>(ll l1 (oo (Bi .u16 v4) none fun x1=>(bb b0 (some (.tuple ⟨[(.int .i64 (Int.ofNat k1)),(.agg ⟨[.int .u16 x1]⟩)]⟩)) (ih0 s0 z0 (Aj .i64 (Int.add (Int.ofNat k1) (1:Int))) x1))) fun _ _=>none)))) fun _ _=>none))))))) none)) (KJ pu n z2))
def Gw (pu:Af) (n w:Nat):Sl→Int→Int→Int→OV:=
 Nat.rec (motive:=fun _=>Sl→Int→Int→Int→OV) (fun _ _ _ _=>none) (fun _ ih0=>Gv pu n ih0) w
def MI (pu:Af) (n:Nat) (s0:Sl) (z0:Int):OV:=
 (Gw pu n n s0 (Int.ofNat (Sl.n s0)) (0:Int) z0)
def K4 (pu:Af) (n:Nat) (args:LV):OV:=
 (ll args none fun a0 args=>(ll args none fun a1 args=>(ll args none fun o0 args=>(ll args (oo (Bj 1 a0) none fun s0=>(oo (Om 42 0 a1) none fun l0=>(ll l0 none fun v0 l0=>(ll l0 (bb (MK v0 1 0) (oo (Bt o0) none fun l1=>(ll l1 none fun v1 l1=>(ll l1 (oo (Bi .u16 v1) none fun x0=>(MI pu n s0 x0)) fun _ _=>none))) none) fun _ _=>none)))) fun _ _=>none))))
theorem Yq (pu:Af) (n:Nat) (z0:Int) {v:Value} (hm:KJ pu n z0=some v):BN tt (Bb tabs isP pu (inl pu)) 2 X3 (fr 19 []) (hT 2 [(oC [.int .u16 z0])]) (FJ tt 1 1 [.tmp 4] v):=by
 unfold KJ at hm
 refine .then (.rK (.ghs (fr 19 [(4,(zI (-1:Int)))]) (hT 2 [(oC [.int .u16 z0])]) (.k0 [false,false] [] [4]) ?_))
 refine .ghs (fr 19 [(4,(zI (-1:Int)))]) (hT 2 [(oC [.int .u16 z0])]) (.k0 [false,false] [] [4]) ?_
 refine .ret ?_
 exact Gi (zI (-1:Int)) [(oC [.int .u16 z0])] (by kernel_rfl) hm (Nat.le_of_ble_eq_true rfl) (Fa (VT _) EJ)
theorem Ul (pu:Af) (n:Nat) (s0:Sl) (z0:Int) {v:Value} (hm:MI pu n s0 z0=some v):BN tt (Bb tabs isP pu (inl pu)) 2 M8 (fr 19 [(0,Sl.v 1 s0),(1,(.func (.func 42) ⟨[]⟩ ⟨[pt 1 0]⟩))]) (hT 2 [(oC [.int .u16 z0])]) (FJ tt 1 1 [.tmp 4] v):=by
 unfold MI at hm
 refine .then (.rK (.ghs (fr 19 [(0,Sl.v 1 s0),(1,(.func (.func 42) ⟨[]⟩ ⟨[pt 1 0]⟩))]) (hT 2 [(oC [.int .u16 z0])]) (.k0 [false,false] [] [0,1]) ?_))
 refine .join (v:=v) (fun y:Int=>((fr 19 []),(hT 2 [(oC [.int .u16 y])]))) (fun y=>KJ pu n y) ?_ ?_
 ·rintro z1 hm
  exact Yq pu n z1 hm
 ·refine .then (.rK (.ghs (fr 19 [(0,Sl.v 1 s0),(1,(.func (.func 42) ⟨[]⟩ ⟨[pt 1 0]⟩)),(7,(zI (Int.ofNat (Sl.n s0)))),(8,(zI (0:Int)))]) (hT 2 [(oC [.int .u16 z0])]) (.k0 [false,false] [] [0,1,7,8]) ?_))
  refine .block (.loopM (v:=v) (fun y:Sl×Int×Int×Int=>((fr 19 [(0,(Sl.v 1 y.1)),(1,(.func (.func 42) ⟨[]⟩ ⟨[pt 1 0]⟩)),(7,(zI y.2.1)),(8,(zI y.2.2.1))]),(hT 2 [(oC [(.int .u16 y.2.2.2)])]))) (fun w y=>Gw pu n w y.1 y.2.1 y.2.2.1 y.2.2.2) n ⟨(s0,(Int.ofNat (Sl.n s0)),(0:Int),z0),hm,(.k0 [false,false] [] [0,1,7,8])⟩ (fun _=>rfl) ?_)
  rintro w0 ⟨s1,z2,z3,z4⟩ hm
  replace hm:Gv pu n (Gw pu n w0) s1 z2 z3 z4=some v:=hm
  unfold Gv at hm
  refine .then (.rK (.ghs (fr 19 [(0,Sl.v 1 s1),(1,(.func (.func 42) ⟨[]⟩ ⟨[pt 1 0]⟩)),(7,zI z2),(8,zI z3),(9,(zB (AY z3 z2)))]) (hT 2 [(oC [.int .u16 z4])]) (.k0 [false,false] [] [0,1,7,8,9]) ?_))
  refine .then ?_
  replace hm:=Ag hm;rcases hm with⟨h0,hm⟩ | ⟨h0,hm⟩
  ·refine BI (AY z3 z2) h0 ?_
   refine .skip (.ghs (fr 19 [(0,Sl.v 1 s1),(1,(.func (.func 42) ⟨[]⟩ ⟨[pt 1 0]⟩)),(7,zI z2),(8,zI z3)]) (hT 2 [(oC [.int .u16 z4])]) (.k0 [false,false] [] [0,1,7,8]) ?_)
   refine .then (.block (.then (.rK (.ghs (fr 19 [(0,Sl.v 1 s1),(1,(.func (.func 42) ⟨[]⟩ ⟨[pt 1 0]⟩)),(5,zI z3),(7,zI z2),(8,zI z3)]) (hT 2 [(oC [.int .u16 z4])]) (.k0 [false,false] [] [0,1,5,7,8]) ?_))))
   refine .then ?_
   replace hm:=Ab hm;obtain⟨k1,h1,hm⟩:=hm
   obtain rfl:=AR h1
   replace hm:=Ae hm;obtain⟨h2,hm⟩:=hm
   replace hm:=Gp hm;obtain⟨x0,h3,hm⟩:=hm
   replace hm:=Ab hm;obtain⟨v0,h4,hm⟩:=hm
   replace hm:=Ch hm;obtain⟨l0,rfl,hm⟩:=hm
   replace hm:=Ad hm;obtain⟨v1,l12811_0,rfl,hm⟩:=hm
   replace hm:=Ad hm;obtain⟨v2,l12811_1,rfl,hm⟩:=hm
   replace hm:=AC hm;obtain⟨rfl,hm⟩:=hm
   replace hm:=Be hm;obtain⟨b0,rfl,hm⟩:=hm
   replace hm:=BG hm;obtain⟨l1,rfl,hm⟩:=hm
   replace hm:=Ad hm;obtain⟨v3,l12817_0,rfl,hm⟩:=hm
   replace hm:=AC hm;obtain⟨rfl,hm⟩:=hm
   replace hm:=Ai hm;obtain⟨x1,rfl,hm⟩:=hm
   refine .reg (eC 3 (keep (hT 2 [(oC [.int .u16 z4])]) (bb (an (Nat.blt k1 (Sl.n s1)) true) (some (Cv (k1*1) (Sl.cs s1))) none)) (AX h2) (eD (keep (hT 2 [(oC [.int .u16 z4])]) (AL (Sl.cs s1) (k1*1))) (AZ h3) (eD (EK tabs [[none],[none]] 2 [.tmp 1 false] [false] (pu 10420) [zI x0,pt 1 0] (hT 2 [(oC [.int .u16 z4])])) (EL (as:=[zI x0,pt 1 0]) (H1:=(hT 2 [(oC [.int .u16 z4])])) (BS (Dm Dk) (BS (Dm Dk) Gj)) (EI (H2:=(hT 2 [(oC [.int .u16 x1])])) (v:=(zB b0)) (v':=(zB b0)) [some 0,some 1] [(false,some 1)] [(oC [.int .u16 z4])] [zI x0,pt 1 0] [(.agg ⟨[.int .u16 x1]⟩)] [(oC [.int .u16 x1])] [some 0,some 1] [(false,(oC [.int .u16 x1]))] [(oC [.int .u16 x1])] (by kernel_rfl) (En (by kernel_rfl) BX) (Eq.trans (by kernel_rfl) h4) (En rfl BX) (En (by kernel_rfl) BX))) (eE)))) ?_
   refine .ghs (fr 19 [(0,Sl.v 1 s1),(1,(.func (.func 42) ⟨[]⟩ ⟨[pt 1 0]⟩)),(5,(zI (Int.ofNat k1))),(7,zI z2),(8,(zI (Int.ofNat k1))),(16,zB b0)]) (hT 2 [(oC [.int .u16 x1])]) (.k0 [false,false] [] [0,1,5,7,8,16]) ?_
   replace hm:=Ag hm;rcases hm with⟨h5,hm⟩ | ⟨h5,hm⟩
   ·refine .ifT b0 (by kernel_rfl) h5 ?_
    refine .then (.rK (.ghs (fr 19 [(4,(zI (Int.ofNat k1)))]) (hT 2 [(oC [.int .u16 x1])]) (.k0 [false,false] [] [4]) ?_))
    refine .ghs (fr 19 [(4,(zI (Int.ofNat k1)))]) (hT 2 [(oC [.int .u16 x1])]) (.k0 [false,false] [] [4]) ?_
    refine .ret ?_
    exact Gi (zI (Int.ofNat k1)) [(oC [.int .u16 x1])] (by kernel_rfl) hm (Nat.le_of_ble_eq_true rfl) (Fa (VT _) EJ)
   ·refine .ifF b0 (by kernel_rfl) h5 ?_
    refine .skip (.ghs (fr 19 [(0,Sl.v 1 s1),(1,(.func (.func 42) ⟨[]⟩ ⟨[pt 1 0]⟩)),(7,zI z2),(8,(zI (Int.ofNat k1)))]) (hT 2 [(oC [.int .u16 x1])]) (.k0 [false,false] [] [0,1,7,8]) ?_)
    refine .rK ?_
    exact⟨(s1,z2,(Aj .i64 (Int.add (Int.ofNat k1) (1:Int))),x1),hm,(.k0 [false,false] [] [0,1,7,8])⟩
  ·refine BO (AY z3 z2) h0 ?_
   refine .exit ?_
   exact⟨z4,hm,(.k0 [false,false] [] [])⟩
theorem uD {call:A8} (pu:Af) (n:Nat) (hcall:call=Bb tabs isP pu (inl pu)) {args:LV} {os:List AJ} {z:Value} (ha:args.length=2) (hk:os.length=1) (hpl:∀ o∈os,plainO o) (hm:K4 pu n (args++os.map Ef)=some z):args.length≤19∧BN tt call (tabs.length+1) M8 (Fr.made 19 args) (BK tabs os) (FJ tt tabs.length 1 [.tmp 4] z):=by
 subst hcall
 have hq:=BC ha;clear ha;obtain⟨a0,args,rfl,ha⟩:=hq
 have hq:=BC ha;clear ha;obtain⟨a1,args,rfl,ha⟩:=hq
 obtain rfl:=len_nil ha
 have hq:=BC hk;clear hk;obtain⟨b0,os,rfl,hk⟩:=hq
 have hp0:plainO b0:=hpl b0 (by simp)
 obtain rfl:=len_nil hk
 replace hm:K4 pu n [a0,a1,Ef b0]=some z:=hm
 unfold K4 at hm
 replace hm:(oo (Bj 1 a0) none fun s0=>(oo (Om 42 0 a1) none fun l0=>(ll l0 none fun v0 l0=>(ll l0 (bb (MK v0 1 0) (oo (Bt (Ef b0)) none fun l1=>(ll l1 none fun v1 l1=>(ll l1 (oo (Bi .u16 v1) none fun x0=>(MI pu n s0 x0)) fun _ _=>none))) none) fun _ _=>none))))=some z:=hm
 replace hm:=Al hm;obtain⟨s0,rfl,hm⟩:=hm
 replace hm:=Ab hm;obtain⟨l0,h0,hm⟩:=hm
 obtain rfl:=Hu h0
 replace hm:=Ad hm;obtain⟨v0,l12827_0,rfl,hm⟩:=hm
 replace hm:=AC hm;obtain⟨rfl,hm⟩:=hm
 replace hm:=Ae hm;obtain⟨h1,hm⟩:=hm
 obtain rfl:=KR h1
 replace hm:=Ab hm;obtain⟨l1,h2,hm⟩:=hm
 obtain rfl:=I7 hp0 h2
 replace hm:=Ad hm;obtain⟨v1,l12831_0,rfl,hm⟩:=hm
 replace hm:=AC hm;obtain⟨rfl,hm⟩:=hm
 replace hm:=Ai hm;obtain⟨x0,rfl,hm⟩:=hm
 refine⟨by simp,?_⟩
 exact .same (F':=(fr 19 [(0,Sl.v 1 s0),(1,(.func (.func 42) ⟨[]⟩ ⟨[pt 1 0]⟩))])) (H':=(hT 2 [(oC [.int .u16 x0])])) (by kernel_rfl) (by kernel_rfl) (Ul pu n s0 x0 hm)

def Jj (pu:Af) (n:Nat) (z0 z1:Int):OV:=
 (oo (EA z0) none fun k1=>(some (.tuple ⟨[(.bool (Bd (Np .u16 (G6 .u16 z1 k1) (1:Int)) (1:Int))),(.agg ⟨[.int .u16 z1]⟩)]⟩)))
def K5 (pu:Af) (n:Nat) (args:LV):OV:=
 (ll args none fun a0 args=>(ll args none fun a1 args=>(ll args none fun o0 args=>(ll args (oo (Bi .i64 a0) none fun x0=>(bb (MK a1 1 0) (oo (Bt o0) none fun l0=>(ll l0 none fun v0 l0=>(ll l0 (oo (Bi .u16 v0) none fun x1=>(Jj pu n x0 x1)) fun _ _=>none))) none)) fun _ _=>none))))
theorem Um (pu:Af) (n:Nat) (z0 z1:Int) {v:Value} (hm:Jj pu n z0 z1=some v):BN tt (Bb tabs isP pu (inl pu)) 2 RS (fr 9 [(0,zI z0),(1,pt 1 0)]) (hT 2 [(oC [.int .u16 z1])]) (FJ tt 1 1 [.tmp 3] v):=by
 unfold Jj at hm
 refine .then (.rK (.ghs (fr 9 [(0,zI z0),(1,pt 1 0)]) (hT 2 [(oC [.int .u16 z1])]) (.k0 [false,false] [] [0,1]) ?_))
 refine .then ?_
 replace hm:=Ab hm;obtain⟨k1,h0,hm⟩:=hm
 obtain rfl:=AR h0
 refine .rK (.ghs (fr 9 [(3,(zB (Bd (Np .u16 (G6 .u16 z1 k1) (1:Int)) (1:Int))))]) (hT 2 [(oC [.int .u16 z1])]) (.k0 [false,false] [] [3]) ?_)
 refine .ghs (fr 9 [(3,(zB (Bd (Np .u16 (G6 .u16 z1 k1) (1:Int)) (1:Int))))]) (hT 2 [(oC [.int .u16 z1])]) (.k0 [false,false] [] [3]) ?_
 refine .ret ?_
 exact Gi (zB (Bd (Np .u16 (G6 .u16 z1 k1) (1:Int)) (1:Int))) [(oC [.int .u16 z1])] (by kernel_rfl) hm (Nat.le_of_ble_eq_true rfl) (Fa (VT _) EJ)
theorem uE {call:A8} (pu:Af) (n:Nat) (hcall:call=Bb tabs isP pu (inl pu)) {args:LV} {os:List AJ} {z:Value} (ha:args.length=2) (hk:os.length=1) (hpl:∀ o∈os,plainO o) (hm:K5 pu n (args++os.map Ef)=some z):args.length≤9∧BN tt call (tabs.length+1) RS (Fr.made 9 args) (BK tabs os) (FJ tt tabs.length 1 [.tmp 3] z):=by
 subst hcall
 have hq:=BC ha;clear ha;obtain⟨a0,args,rfl,ha⟩:=hq
 have hq:=BC ha;clear ha;obtain⟨a1,args,rfl,ha⟩:=hq
 obtain rfl:=len_nil ha
 have hq:=BC hk;clear hk;obtain⟨b0,os,rfl,hk⟩:=hq
 have hp0:plainO b0:=hpl b0 (by simp)
 obtain rfl:=len_nil hk
 replace hm:K5 pu n [a0,a1,Ef b0]=some z:=hm
 unfold K5 at hm
 replace hm:(oo (Bi .i64 a0) none fun x0=>(bb (MK a1 1 0) (oo (Bt (Ef b0)) none fun l0=>(ll l0 none fun v0 l0=>(ll l0 (oo (Bi .u16 v0) none fun x1=>(Jj pu n x0 x1)) fun _ _=>none))) none))=some z:=hm
 replace hm:=Ai hm;obtain⟨x0,rfl,hm⟩:=hm
 replace hm:=Ae hm;obtain⟨h0,hm⟩:=hm
 obtain rfl:=KR h0
 replace hm:=Ab hm;obtain⟨l0,h1,hm⟩:=hm
 obtain rfl:=I7 hp0 h1
 replace hm:=Ad hm;obtain⟨v0,l12679_0,rfl,hm⟩:=hm
 replace hm:=AC hm;obtain⟨rfl,hm⟩:=hm
 replace hm:=Ai hm;obtain⟨x1,rfl,hm⟩:=hm
 refine⟨by simp,?_⟩
 exact .same (F':=(fr 9 [(0,zI x0),(1,pt 1 0)])) (H':=(hT 2 [(oC [.int .u16 x1])])) (by kernel_rfl) (by kernel_rfl) (Um pu n x0 x1 hm)

def ML (pu:Af) (n:Nat) (s0:Sl):OV:=
 (some (.tuple ⟨[(.func (.func 64) ⟨[]⟩ ⟨[(.pointer (some ⟨1,0,none⟩))]⟩),(.agg ⟨[Sl.v 1 s0]⟩)]⟩))
def K6 (pu:Af) (n:Nat) (args:LV):OV:=
 (ll args none fun a0 args=>(ll args (oo (Bj 1 a0) none fun s0=>(ML pu n s0)) fun _ _=>none))
theorem Un (pu:Af) (n:Nat) (s0:Sl) {v:Value} (hm:ML pu n s0=some v):BN tt (Bb tabs isP pu (inl pu)) 1 RU (fr 4 [(0,Sl.v 1 s0)]) Ay (FJ tt 1 0 [.tmp 2] v):=by
 unfold ML at hm
 refine .then (.rK (.ghs (fr 4 [(1,pt 1 0)]) (hT 2 [(oC [Sl.v 1 s0])]) (.k0 [false] [.tmp 1 false] [1]) ?_))
 refine .then (.rK (.ghs (fr 4 [(2,(.func (.func 64) ⟨[]⟩ ⟨[pt 1 0]⟩))]) (hT 2 [(oC [Sl.v 1 s0])]) (.k0 [false] [.cap 2 0 false] [2]) ?_))
 refine .ghs (fr 4 [(2,(.func (.func 64) ⟨[]⟩ ⟨[pt 1 0]⟩))]) (hT 2 [(oC [Sl.v 1 s0])]) (.k0 [false] [.cap 2 0 false] [2]) ?_
 refine .ret ?_
 exact Gi (.func (.func 64) ⟨[]⟩ ⟨[pt 1 0]⟩) [(oC [Sl.v 1 s0])] (by kernel_rfl) hm (Nat.le_of_ble_eq_true rfl) (Fa (VT _) EJ)
theorem uF {call:A8} (pu:Af) (n:Nat) (hcall:call=Bb tabs isP pu (inl pu)) {args:LV} {os:List AJ} {z:Value} (ha:args.length=1) (hk:os.length=0) (hpl:∀ o∈os,plainO o) (hm:K6 pu n (args++os.map Ef)=some z):args.length≤4∧BN tt call (tabs.length+0) RU (Fr.made 4 args) (BK tabs os) (FJ tt tabs.length 0 [.tmp 2] z):=by
 subst hcall
 have hq:=BC ha;clear ha;obtain⟨a0,args,rfl,ha⟩:=hq
 obtain rfl:=len_nil ha
 obtain rfl:=len_nil hk
 replace hm:K6 pu n [a0]=some z:=hm
 unfold K6 at hm
 replace hm:(oo (Bj 1 a0) none fun s0=>(ML pu n s0))=some z:=hm
 replace hm:=Al hm;obtain⟨s0,rfl,hm⟩:=hm
 refine⟨by simp,?_⟩
 exact .same (F':=(fr 4 [(0,Sl.v 1 s0)])) (H':=Ay) (by kernel_rfl) (by kernel_rfl) (Un pu n s0 hm)
end
end Go.BkSM
set_option maxRecDepth 100000
namespace Go.BkSM
open Go.Sp Go.BkS
noncomputable section
def L:Nat:=1000000
def O0 (pu:Af):Af:=fun g args=>
 bb (Nat.beq g 4) (m4 pu L args) (bb (Nat.beq g 9) (m9 pu L args) (bb (Nat.beq g 10) (m10 pu L args) (bb (Nat.beq g 12) (m12 pu L args) (bb (Nat.beq g 13) (m13 pu L args) (bb (Nat.beq g 20) (m20 pu L args) (bb (Nat.beq g 21) (m21 pu L args) (bb (Nat.beq g 22) (m22 pu L args) (bb (Nat.beq g 32) (m32 pu L args) (bb (Nat.beq g 36) (m36 pu L args) (bb (Nat.beq g 45) (m45 pu L args) (bb (Nat.beq g 46) (m46 pu L args) (bb (Nat.beq g 47) (m47 pu L args) (bb (Nat.beq g 48) (m48 pu L args) (bb (Nat.beq g 49) (m49 pu L args) (bb (Nat.beq g 51) (m51 pu L args) (bb (Nat.beq g 52) (m52 pu L args) (bb (Nat.beq g 53) (m53 pu L args) (bb (Nat.beq g 58) (m58 pu L args) (bb (Nat.beq g 65) (vE pu L args) (bb (Nat.beq g 68) (m68 pu L args) (bb (Nat.beq g 69) (m69 pu L args) (bb (Nat.beq g 74) (m74 pu L args) (bb (Nat.beq g 10400) (Kb pu L args) (bb (Nat.beq g 10410) (K3 pu L args) (bb (Nat.beq g 10610) (K4 pu L args) (bb (Nat.beq g 10420) (K5 pu L args) (bb (Nat.beq g 10440) (K6 pu L args) (bb (Nat.beq g 19) (RV args) (bb (Nat.beq g 66) (RX args) (bb (Nat.beq g 77) (RY args) (none)))))))))))))))))))))))))))))))
def Bp:Nat→Af:=fun n=>Nat.rec (motive:=fun _=>Af) (fun _ _=>none) (fun _ ih=>O0 ih) n
end
end Go.BkSM
