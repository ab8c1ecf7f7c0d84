/- Made from wip. -/
import Derived.Test.YtokbaaeimejjlaaGreatDoorBkVMod1x
import Derived.Test.YtokbaaeimejjlaaGreatDoorBkVMod2
import Derived.Test.YtokbaaeimejjlaaGreatDoorBkVMod3
import Derived.Test.YtokbaaeimejjlaaGreatDoorBkVMod4
import Derived.Test.YtokbaaeimejjlaaGreatDoorBkVMod5
import Derived.Test.YtokbaaeimejjlaaGreatDoorBkVMod6

set_option maxRecDepth 100000
set_option maxHeartbeats 20000000
set_option linter.unusedVariables false
namespace Go.BkVM
open Go.Sp Go.BkV
noncomputable section

def LJ (pu:Af) (n:Nat) (s0:Sl) (z0:Int):OV:=
 (oo (pu 10860 [Sl.v 1 s0,(.func (.func 67) ⟨[]⟩ ⟨[(.pointer (some ⟨1,0,none⟩))]⟩),(.agg ⟨[.int .u16 z0]⟩)]) none fun v0=>(oo (CQ v0) none fun l0=>(ll l0 none fun v1 l0=>(ll l0 none fun v2 l0=>(ll l0 (oo (Bi .i64 v1) none fun x0=>(oo (Bt v2) none fun l1=>(ll l1 none fun v3 l1=>(ll l1 (oo (Bi .u16 v3) none fun x1=>(some (.tuple ⟨[(.bool (nt (AY x0 (0:Int)))),(.agg ⟨[.int .u16 x1]⟩)]⟩))) fun _ _=>none)))) fun _ _=>none)))))
def OA (pu:Af) (n:Nat) (args:LV):OV:=
 (ll args none fun a0 args=>(ll args none fun a1 args=>(ll args none fun o0 args=>(ll args (oo (Bj 1 a0) none fun s0=>(oo (Om 67 0 a1) none fun l0=>(ll l0 none fun v0 l0=>(ll l0 (bb (MK v0 1 0) (oo (Bt o0) none fun l1=>(ll l1 none fun v1 l1=>(ll l1 (oo (Bi .u16 v1) none fun x0=>(LJ pu n s0 x0)) fun _ _=>none))) none) fun _ _=>none)))) fun _ _=>none))))
theorem Aa9 (pu:Af) (n:Nat) (s0:Sl) (z0:Int) {v:Value} (hm:LJ pu n s0 z0=some v):BN tt (Bb tabs isP pu (inl pu)) 2 UV (fr 9 [(0,Sl.v 1 s0),(1,(.func (.func 67) ⟨[]⟩ ⟨[pt 1 0]⟩))]) (hT 2 [(oC [.int .u16 z0])]) (FJ tt 1 1 [.tmp 4] v):=by
 unfold LJ at hm
 refine .then (.rK (.ghs (fr 9 [(0,Sl.v 1 s0),(1,(.func (.func 67) ⟨[]⟩ ⟨[pt 1 0]⟩))]) (hT 2 [(oC [.int .u16 z0])]) (.k0 [false,false] [] [0,1]) ?_))
 refine .then ?_
 replace hm:=Ab hm;obtain⟨v0,h0,hm⟩:=hm
 replace hm:=Ch hm;obtain⟨l0,rfl,hm⟩:=hm
 replace hm:=Ad hm;obtain⟨v1,l586_0,rfl,hm⟩:=hm
 replace hm:=Ad hm;obtain⟨v2,l586_1,rfl,hm⟩:=hm
 replace hm:=AC hm;obtain⟨rfl,hm⟩:=hm
 replace hm:=Ai hm;obtain⟨x0,rfl,hm⟩:=hm
 replace hm:=BG hm;obtain⟨l1,rfl,hm⟩:=hm
 replace hm:=Ad hm;obtain⟨v3,l592_0,rfl,hm⟩:=hm
 replace hm:=AC hm;obtain⟨rfl,hm⟩:=hm
 replace hm:=Ai hm;obtain⟨x1,rfl,hm⟩:=hm
 refine .reg (eC 2 (EK tabs [[some 1],[none]] 2 [.cap 1 0 false] [false] (pu 10860) [Sl.v 1 s0,(.func (.func 67) ⟨[]⟩ ⟨[pt 1 0]⟩)] (hT 2 [(oC [.int .u16 z0])])) (EL (as:=[Sl.v 1 s0,(.func (.func 67) ⟨[]⟩ ⟨[pt 1 0]⟩)]) (H1:=(hT 2 [(oC [.int .u16 z0])])) (BS (Dm (KQ (CV (z:=1) (v:=(Sl.v 1 s0)) (H:=(hT 2 [(oC [.int .u16 z0])])) (by kernel_rfl) (by kernel_rfl) (by kernel_rfl)))) (BS (Dm Dk) Gj)) (EI (H2:=(hT 2 [(oC [.int .u16 x1])])) (v:=(zI x0)) (v':=(zI x0)) [some 0,some 1] [(false,some 1)] [(oC [.int .u16 z0])] [Sl.v 1 s0,(.func (.func 67) ⟨[]⟩ ⟨[pt 1 0]⟩)] [(.agg ⟨[.int .u16 x1]⟩)] [(oC [.int .u16 x1])] [some 0,some 1] [(false,(oC [.int .u16 x1]))] [(oC [.int .u16 x1])] (by kernel_rfl) (En (by kernel_rfl) BX) (Eq.trans (by kernel_rfl) h0) (En rfl BX) (En (by kernel_rfl) BX))) (eE)) ?_
 refine .ghs (fr 9 [(4,(zB (nt (AY x0 (0:Int)))))]) (hT 2 [(oC [.int .u16 x1])]) (.k0 [false,false] [] [4]) ?_
 refine .ghs (fr 9 [(4,(zB (nt (AY x0 (0:Int)))))]) (hT 2 [(oC [.int .u16 x1])]) (.k0 [false,false] [] [4]) ?_
 refine .ret ?_
 exact Gi (zB (nt (AY x0 (0:Int)))) [(oC [.int .u16 x1])] (by kernel_rfl) hm (Nat.le_of_ble_eq_true rfl) (Fa (VT _) EJ)
theorem Aba {call:A8} (pu:Af) (n:Nat) (hcall:call=Bb tabs isP pu (inl pu)) {args:LV} {os:List AJ} {z:Value} (ha:args.length=2) (hk:os.length=1) (hpl:∀ o∈os,plainO o) (hm:OA pu n (args++os.map Ef)=some z):args.length≤9∧BN tt call (tabs.length+1) UV (Fr.made 9 args) (BK tabs os) (FJ tt tabs.length 1 [.tmp 4] z):=by
 subst hcall
 have hq:=BC ha;clear ha;obtain⟨a0,args,rfl,ha⟩:=hq
 have hq:=BC ha;clear ha;obtain⟨a1,args,rfl,ha⟩:=hq
 obtain rfl:=len_nil ha
 have hq:=BC hk;clear hk;obtain⟨b0,os,rfl,hk⟩:=hq
 have hp0:plainO b0:=hpl b0 (by simp)
 obtain rfl:=len_nil hk
 replace hm:OA pu n [a0,a1,Ef b0]=some z:=hm
 unfold OA at hm
 replace hm:(oo (Bj 1 a0) none fun s0=>(oo (Om 67 0 a1) none fun l0=>(ll l0 none fun v0 l0=>(ll l0 (bb (MK v0 1 0) (oo (Bt (Ef b0)) none fun l1=>(ll l1 none fun v1 l1=>(ll l1 (oo (Bi .u16 v1) none fun x0=>(LJ pu n s0 x0)) fun _ _=>none))) none) fun _ _=>none))))=some z:=hm
 replace hm:=Al hm;obtain⟨s0,rfl,hm⟩:=hm
 replace hm:=Ab hm;obtain⟨l0,h0,hm⟩:=hm
 obtain rfl:=Hu h0
 replace hm:=Ad hm;obtain⟨v0,l601_0,rfl,hm⟩:=hm
 replace hm:=AC hm;obtain⟨rfl,hm⟩:=hm
 replace hm:=Ae hm;obtain⟨h1,hm⟩:=hm
 obtain rfl:=KR h1
 replace hm:=Ab hm;obtain⟨l1,h2,hm⟩:=hm
 obtain rfl:=I7 hp0 h2
 replace hm:=Ad hm;obtain⟨v1,l605_0,rfl,hm⟩:=hm
 replace hm:=AC hm;obtain⟨rfl,hm⟩:=hm
 replace hm:=Ai hm;obtain⟨x0,rfl,hm⟩:=hm
 refine⟨by simp,?_⟩
 exact .same (F':=(fr 9 [(0,Sl.v 1 s0),(1,(.func (.func 67) ⟨[]⟩ ⟨[pt 1 0]⟩))])) (H':=(hT 2 [(oC [.int .u16 x0])])) (by kernel_rfl) (by kernel_rfl) (Aa9 pu n s0 x0 hm)
def M9 (pu:Af) (n:Nat) (z0:Int):OV:=
 (some (.tuple ⟨[(.int .i64 (-1:Int)),(.agg ⟨[.int .u16 z0]⟩)]⟩))
def Iq (pu:Af) (n:Nat) (ih0:Sl→Int→Int→Int→OV) (s0:Sl) (z0 z1 z2:Int):OV:=
 (bb (AY z1 z0) (oo (EA z1) none fun k1=>(bb (an (Nat.blt k1 (Sl.n s0)) true) (oo (AL (Sl.cs s0) (k1*1)) none fun v0=>(oo (Bi .i64 v0) none fun x0=>(oo (pu 10670 [.int .i64 x0,(.pointer (some ⟨1,0,none⟩)),(.agg ⟨[.int .u16 z2]⟩)]) none fun v1=>(oo (CQ v1) none fun l0=>(ll l0 none fun v2 l0=>(ll l0 none fun v3 l0=>(ll l0 (oo (Bf v2) none fun b0=>(oo (Bt v3) none fun l1=>(ll l1 none fun v4 l1=>(ll l1 (oo (Bi .u16 v4) none fun x1=>(bb b0 (some (.tuple ⟨[(.int .i64 (Int.ofNat k1)),(.agg ⟨[.int .u16 x1]⟩)]⟩)) (ih0 s0 z0 (Aj .i64 (Int.add (Int.ofNat k1) (1:Int))) x1))) fun _ _=>none)))) fun _ _=>none))))))) none)) (M9 pu n z2))
def Ir (pu:Af) (n w:Nat):Sl→Int→Int→Int→OV:=
 Nat.rec (motive:=fun _=>Sl→Int→Int→Int→OV) (fun _ _ _ _=>none) (fun _ ih0=>Iq pu n ih0) w
def Pe (pu:Af) (n:Nat) (s0:Sl) (z0:Int):OV:=
 (Ir pu n n s0 (Int.ofNat (Sl.n s0)) (0:Int) z0)
def OB (pu:Af) (n:Nat) (args:LV):OV:=
 (ll args none fun a0 args=>(ll args none fun a1 args=>(ll args none fun o0 args=>(ll args (oo (Bj 1 a0) none fun s0=>(oo (Om 67 0 a1) none fun l0=>(ll l0 none fun v0 l0=>(ll l0 (bb (MK v0 1 0) (oo (Bt o0) none fun l1=>(ll l1 none fun v1 l1=>(ll l1 (oo (Bi .u16 v1) none fun x0=>(Pe pu n s0 x0)) fun _ _=>none))) none) fun _ _=>none)))) fun _ _=>none))))
theorem gI (pu:Af) (n:Nat) (z0:Int) {v:Value} (hm:M9 pu n z0=some v):BN tt (Bb tabs isP pu (inl pu)) 2 eY (fr 19 []) (hT 2 [(oC [.int .u16 z0])]) (FJ tt 1 1 [.tmp 4] v):=by
 unfold M9 at hm
 refine .then (.rK (.ghs (fr 19 [(4,(zI (-1:Int)))]) (hT 2 [(oC [.int .u16 z0])]) (.k0 [false,false] [] [4]) ?_))
 refine .ghs (fr 19 [(4,(zI (-1:Int)))]) (hT 2 [(oC [.int .u16 z0])]) (.k0 [false,false] [] [4]) ?_
 refine .ret ?_
 exact Gi (zI (-1:Int)) [(oC [.int .u16 z0])] (by kernel_rfl) hm (Nat.le_of_ble_eq_true rfl) (Fa (VT _) EJ)
theorem Abb (pu:Af) (n:Nat) (s0:Sl) (z0:Int) {v:Value} (hm:Pe pu n s0 z0=some v):BN tt (Bb tabs isP pu (inl pu)) 2 Pp (fr 19 [(0,Sl.v 1 s0),(1,(.func (.func 67) ⟨[]⟩ ⟨[pt 1 0]⟩))]) (hT 2 [(oC [.int .u16 z0])]) (FJ tt 1 1 [.tmp 4] v):=by
 unfold Pe at hm
 refine .then (.rK (.ghs (fr 19 [(0,Sl.v 1 s0),(1,(.func (.func 67) ⟨[]⟩ ⟨[pt 1 0]⟩))]) (hT 2 [(oC [.int .u16 z0])]) (.k0 [false,false] [] [0,1]) ?_))
 refine .join (v:=v) (fun y:Int=>((fr 19 []),(hT 2 [(oC [.int .u16 y])]))) (fun y=>M9 pu n y) ?_ ?_
 ·rintro z1 hm
  exact gI pu n z1 hm
 ·refine .then (.rK (.ghs (fr 19 [(0,Sl.v 1 s0),(1,(.func (.func 67) ⟨[]⟩ ⟨[pt 1 0]⟩)),(7,(zI (Int.ofNat (Sl.n s0)))),(8,(zI (0:Int)))]) (hT 2 [(oC [.int .u16 z0])]) (.k0 [false,false] [] [0,1,7,8]) ?_))
  refine .block (.loopM (v:=v) (fun y:Sl×Int×Int×Int=>((fr 19 [(0,(Sl.v 1 y.1)),(1,(.func (.func 67) ⟨[]⟩ ⟨[pt 1 0]⟩)),(7,(zI y.2.1)),(8,(zI y.2.2.1))]),(hT 2 [(oC [(.int .u16 y.2.2.2)])]))) (fun w y=>Ir pu n w y.1 y.2.1 y.2.2.1 y.2.2.2) n ⟨(s0,(Int.ofNat (Sl.n s0)),(0:Int),z0),hm,(.k0 [false,false] [] [0,1,7,8])⟩ (fun _=>rfl) ?_)
  rintro w0 ⟨s1,z2,z3,z4⟩ hm
  replace hm:Iq pu n (Ir pu n w0) s1 z2 z3 z4=some v:=hm
  unfold Iq at hm
  refine .then (.rK (.ghs (fr 19 [(0,Sl.v 1 s1),(1,(.func (.func 67) ⟨[]⟩ ⟨[pt 1 0]⟩)),(7,zI z2),(8,zI z3),(9,(zB (AY z3 z2)))]) (hT 2 [(oC [.int .u16 z4])]) (.k0 [false,false] [] [0,1,7,8,9]) ?_))
  refine .then ?_
  replace hm:=Ag hm;rcases hm with⟨h0,hm⟩ | ⟨h0,hm⟩
  ·refine Bq (AY z3 z2) h0 ?_
   refine .skip (.ghs (fr 19 [(0,Sl.v 1 s1),(1,(.func (.func 67) ⟨[]⟩ ⟨[pt 1 0]⟩)),(7,zI z2),(8,zI z3)]) (hT 2 [(oC [.int .u16 z4])]) (.k0 [false,false] [] [0,1,7,8]) ?_)
   refine .then (.block (.then (.rK (.ghs (fr 19 [(0,Sl.v 1 s1),(1,(.func (.func 67) ⟨[]⟩ ⟨[pt 1 0]⟩)),(5,zI z3),(7,zI z2),(8,zI z3)]) (hT 2 [(oC [.int .u16 z4])]) (.k0 [false,false] [] [0,1,5,7,8]) ?_))))
   refine .then ?_
   replace hm:=Ab hm;obtain⟨k1,h1,hm⟩:=hm
   obtain rfl:=AR h1
   replace hm:=Ae hm;obtain⟨h2,hm⟩:=hm
   replace hm:=Gt hm;obtain⟨x0,h3,hm⟩:=hm
   replace hm:=Ab hm;obtain⟨v0,h4,hm⟩:=hm
   replace hm:=Ch hm;obtain⟨l0,rfl,hm⟩:=hm
   replace hm:=Ad hm;obtain⟨v1,l544_0,rfl,hm⟩:=hm
   replace hm:=Ad hm;obtain⟨v2,l544_1,rfl,hm⟩:=hm
   replace hm:=AC hm;obtain⟨rfl,hm⟩:=hm
   replace hm:=Be hm;obtain⟨b0,rfl,hm⟩:=hm
   replace hm:=BG hm;obtain⟨l1,rfl,hm⟩:=hm
   replace hm:=Ad hm;obtain⟨v3,l550_0,rfl,hm⟩:=hm
   replace hm:=AC hm;obtain⟨rfl,hm⟩:=hm
   replace hm:=Ai hm;obtain⟨x1,rfl,hm⟩:=hm
   refine .reg (eC 3 (keep (hT 2 [(oC [.int .u16 z4])]) (bb (an (Nat.blt k1 (Sl.n s1)) true) (some (Cv (k1*1) (Sl.cs s1))) none)) (AX h2) (eD (keep (hT 2 [(oC [.int .u16 z4])]) (AL (Sl.cs s1) (k1*1))) (AZ h3) (eD (EK tabs [[none],[none]] 2 [.tmp 1 false] [false] (pu 10670) [zI x0,pt 1 0] (hT 2 [(oC [.int .u16 z4])])) (EL (as:=[zI x0,pt 1 0]) (H1:=(hT 2 [(oC [.int .u16 z4])])) (BS (Dm Dk) (BS (Dm Dk) Gj)) (EI (H2:=(hT 2 [(oC [.int .u16 x1])])) (v:=(zB b0)) (v':=(zB b0)) [some 0,some 1] [(false,some 1)] [(oC [.int .u16 z4])] [zI x0,pt 1 0] [(.agg ⟨[.int .u16 x1]⟩)] [(oC [.int .u16 x1])] [some 0,some 1] [(false,(oC [.int .u16 x1]))] [(oC [.int .u16 x1])] (by kernel_rfl) (En (by kernel_rfl) BX) (Eq.trans (by kernel_rfl) h4) (En rfl BX) (En (by kernel_rfl) BX))) (eE)))) ?_
   refine .ghs (fr 19 [(0,Sl.v 1 s1),(1,(.func (.func 67) ⟨[]⟩ ⟨[pt 1 0]⟩)),(5,(zI (Int.ofNat k1))),(7,zI z2),(8,(zI (Int.ofNat k1))),(16,zB b0)]) (hT 2 [(oC [.int .u16 x1])]) (.k0 [false,false] [] [0,1,5,7,8,16]) ?_
   replace hm:=Ag hm;rcases hm with⟨h5,hm⟩ | ⟨h5,hm⟩
   ·refine .ifT b0 (by kernel_rfl) h5 ?_
    refine .then (.rK (.ghs (fr 19 [(4,(zI (Int.ofNat k1)))]) (hT 2 [(oC [.int .u16 x1])]) (.k0 [false,false] [] [4]) ?_))
    refine .ghs (fr 19 [(4,(zI (Int.ofNat k1)))]) (hT 2 [(oC [.int .u16 x1])]) (.k0 [false,false] [] [4]) ?_
    refine .ret ?_
    exact Gi (zI (Int.ofNat k1)) [(oC [.int .u16 x1])] (by kernel_rfl) hm (Nat.le_of_ble_eq_true rfl) (Fa (VT _) EJ)
   ·refine .ifF b0 (by kernel_rfl) h5 ?_
    refine .skip (.ghs (fr 19 [(0,Sl.v 1 s1),(1,(.func (.func 67) ⟨[]⟩ ⟨[pt 1 0]⟩)),(7,zI z2),(8,(zI (Int.ofNat k1)))]) (hT 2 [(oC [.int .u16 x1])]) (.k0 [false,false] [] [0,1,7,8]) ?_)
    refine .rK ?_
    exact⟨(s1,z2,(Aj .i64 (Int.add (Int.ofNat k1) (1:Int))),x1),hm,(.k0 [false,false] [] [0,1,7,8])⟩
  ·refine BB (AY z3 z2) h0 ?_
   refine .exit ?_
   exact⟨z4,hm,(.k0 [false,false] [] [])⟩
theorem Abc {call:A8} (pu:Af) (n:Nat) (hcall:call=Bb tabs isP pu (inl pu)) {args:LV} {os:List AJ} {z:Value} (ha:args.length=2) (hk:os.length=1) (hpl:∀ o∈os,plainO o) (hm:OB pu n (args++os.map Ef)=some z):args.length≤19∧BN tt call (tabs.length+1) Pp (Fr.made 19 args) (BK tabs os) (FJ tt tabs.length 1 [.tmp 4] z):=by
 subst hcall
 have hq:=BC ha;clear ha;obtain⟨a0,args,rfl,ha⟩:=hq
 have hq:=BC ha;clear ha;obtain⟨a1,args,rfl,ha⟩:=hq
 obtain rfl:=len_nil ha
 have hq:=BC hk;clear hk;obtain⟨b0,os,rfl,hk⟩:=hq
 have hp0:plainO b0:=hpl b0 (by simp)
 obtain rfl:=len_nil hk
 replace hm:OB pu n [a0,a1,Ef b0]=some z:=hm
 unfold OB at hm
 replace hm:(oo (Bj 1 a0) none fun s0=>(oo (Om 67 0 a1) none fun l0=>(ll l0 none fun v0 l0=>(ll l0 (bb (MK v0 1 0) (oo (Bt (Ef b0)) none fun l1=>(ll l1 none fun v1 l1=>(ll l1 (oo (Bi .u16 v1) none fun x0=>(Pe pu n s0 x0)) fun _ _=>none))) none) fun _ _=>none))))=some z:=hm
 replace hm:=Al hm;obtain⟨s0,rfl,hm⟩:=hm
 replace hm:=Ab hm;obtain⟨l0,h0,hm⟩:=hm
 obtain rfl:=Hu h0
 replace hm:=Ad hm;obtain⟨v0,l560_0,rfl,hm⟩:=hm
 replace hm:=AC hm;obtain⟨rfl,hm⟩:=hm
 replace hm:=Ae hm;obtain⟨h1,hm⟩:=hm
 obtain rfl:=KR h1
 replace hm:=Ab hm;obtain⟨l1,h2,hm⟩:=hm
 obtain rfl:=I7 hp0 h2
 replace hm:=Ad hm;obtain⟨v1,l564_0,rfl,hm⟩:=hm
 replace hm:=AC hm;obtain⟨rfl,hm⟩:=hm
 replace hm:=Ai hm;obtain⟨x0,rfl,hm⟩:=hm
 refine⟨by simp,?_⟩
 exact .same (F':=(fr 19 [(0,Sl.v 1 s0),(1,(.func (.func 67) ⟨[]⟩ ⟨[pt 1 0]⟩))])) (H':=(hT 2 [(oC [.int .u16 x0])])) (by kernel_rfl) (by kernel_rfl) (Abb pu n s0 x0 hm)

def LK (pu:Af) (n:Nat) (z0 z1:Int):OV:=
 (oo (EA z0) none fun k1=>(some (.tuple ⟨[(.bool (Bd (Np .u16 (G6 .u16 z1 k1) (1:Int)) (1:Int))),(.agg ⟨[.int .u16 z1]⟩)]⟩)))
def OC (pu:Af) (n:Nat) (args:LV):OV:=
 (ll args none fun a0 args=>(ll args none fun a1 args=>(ll args none fun o0 args=>(ll args (oo (Bi .i64 a0) none fun x0=>(bb (MK a1 1 0) (oo (Bt o0) none fun l0=>(ll l0 none fun v0 l0=>(ll l0 (oo (Bi .u16 v0) none fun x1=>(LK pu n x0 x1)) fun _ _=>none))) none)) fun _ _=>none))))
theorem Abd (pu:Af) (n:Nat) (z0 z1:Int) {v:Value} (hm:LK pu n z0 z1=some v):BN tt (Bb tabs isP pu (inl pu)) 2 UW (fr 9 [(0,zI z0),(1,pt 1 0)]) (hT 2 [(oC [.int .u16 z1])]) (FJ tt 1 1 [.tmp 3] v):=by
 unfold LK at hm
 refine .then (.rK (.ghs (fr 9 [(0,zI z0),(1,pt 1 0)]) (hT 2 [(oC [.int .u16 z1])]) (.k0 [false,false] [] [0,1]) ?_))
 refine .then ?_
 replace hm:=Ab hm;obtain⟨k1,h0,hm⟩:=hm
 obtain rfl:=AR h0
 refine .rK (.ghs (fr 9 [(3,(zB (Bd (Np .u16 (G6 .u16 z1 k1) (1:Int)) (1:Int))))]) (hT 2 [(oC [.int .u16 z1])]) (.k0 [false,false] [] [3]) ?_)
 refine .ghs (fr 9 [(3,(zB (Bd (Np .u16 (G6 .u16 z1 k1) (1:Int)) (1:Int))))]) (hT 2 [(oC [.int .u16 z1])]) (.k0 [false,false] [] [3]) ?_
 refine .ret ?_
 exact Gi (zB (Bd (Np .u16 (G6 .u16 z1 k1) (1:Int)) (1:Int))) [(oC [.int .u16 z1])] (by kernel_rfl) hm (Nat.le_of_ble_eq_true rfl) (Fa (VT _) EJ)
theorem Abe {call:A8} (pu:Af) (n:Nat) (hcall:call=Bb tabs isP pu (inl pu)) {args:LV} {os:List AJ} {z:Value} (ha:args.length=2) (hk:os.length=1) (hpl:∀ o∈os,plainO o) (hm:OC pu n (args++os.map Ef)=some z):args.length≤9∧BN tt call (tabs.length+1) UW (Fr.made 9 args) (BK tabs os) (FJ tt tabs.length 1 [.tmp 3] z):=by
 subst hcall
 have hq:=BC ha;clear ha;obtain⟨a0,args,rfl,ha⟩:=hq
 have hq:=BC ha;clear ha;obtain⟨a1,args,rfl,ha⟩:=hq
 obtain rfl:=len_nil ha
 have hq:=BC hk;clear hk;obtain⟨b0,os,rfl,hk⟩:=hq
 have hp0:plainO b0:=hpl b0 (by simp)
 obtain rfl:=len_nil hk
 replace hm:OC pu n [a0,a1,Ef b0]=some z:=hm
 unfold OC at hm
 replace hm:(oo (Bi .i64 a0) none fun x0=>(bb (MK a1 1 0) (oo (Bt (Ef b0)) none fun l0=>(ll l0 none fun v0 l0=>(ll l0 (oo (Bi .u16 v0) none fun x1=>(LK pu n x0 x1)) fun _ _=>none))) none))=some z:=hm
 replace hm:=Ai hm;obtain⟨x0,rfl,hm⟩:=hm
 replace hm:=Ae hm;obtain⟨h0,hm⟩:=hm
 obtain rfl:=KR h0
 replace hm:=Ab hm;obtain⟨l0,h1,hm⟩:=hm
 obtain rfl:=I7 hp0 h1
 replace hm:=Ad hm;obtain⟨v0,l412_0,rfl,hm⟩:=hm
 replace hm:=AC hm;obtain⟨rfl,hm⟩:=hm
 replace hm:=Ai hm;obtain⟨x1,rfl,hm⟩:=hm
 refine⟨by simp,?_⟩
 exact .same (F':=(fr 9 [(0,zI x0),(1,pt 1 0)])) (H':=(hT 2 [(oC [.int .u16 x1])])) (by kernel_rfl) (by kernel_rfl) (Abd pu n x0 x1 hm)

def Pf (pu:Af) (n:Nat) (s0:Sl):OV:=
 (some (.tuple ⟨[(.func (.func 89) ⟨[]⟩ ⟨[(.pointer (some ⟨1,0,none⟩))]⟩),(.agg ⟨[Sl.v 1 s0]⟩)]⟩))
def OD (pu:Af) (n:Nat) (args:LV):OV:=
 (ll args none fun a0 args=>(ll args (oo (Bj 1 a0) none fun s0=>(Pf pu n s0)) fun _ _=>none))
theorem Abf (pu:Af) (n:Nat) (s0:Sl) {v:Value} (hm:Pf pu n s0=some v):BN tt (Bb tabs isP pu (inl pu)) 1 UX (fr 4 [(0,Sl.v 1 s0)]) AO (FJ tt 1 0 [.tmp 2] v):=by
 unfold Pf at hm
 refine .then (.rK (.ghs (fr 4 [(1,pt 1 0)]) (hT 2 [(oC [Sl.v 1 s0])]) (.k0 [false] [.tmp 1 false] [1]) ?_))
 refine .then (.rK (.ghs (fr 4 [(2,(.func (.func 89) ⟨[]⟩ ⟨[pt 1 0]⟩))]) (hT 2 [(oC [Sl.v 1 s0])]) (.k0 [false] [.cap 2 0 false] [2]) ?_))
 refine .ghs (fr 4 [(2,(.func (.func 89) ⟨[]⟩ ⟨[pt 1 0]⟩))]) (hT 2 [(oC [Sl.v 1 s0])]) (.k0 [false] [.cap 2 0 false] [2]) ?_
 refine .ret ?_
 exact Gi (.func (.func 89) ⟨[]⟩ ⟨[pt 1 0]⟩) [(oC [Sl.v 1 s0])] (by kernel_rfl) hm (Nat.le_of_ble_eq_true rfl) (Fa (VT _) EJ)
theorem Abg {call:A8} (pu:Af) (n:Nat) (hcall:call=Bb tabs isP pu (inl pu)) {args:LV} {os:List AJ} {z:Value} (ha:args.length=1) (hk:os.length=0) (hpl:∀ o∈os,plainO o) (hm:OD pu n (args++os.map Ef)=some z):args.length≤4∧BN tt call (tabs.length+0) UX (Fr.made 4 args) (BK tabs os) (FJ tt tabs.length 0 [.tmp 2] z):=by
 subst hcall
 have hq:=BC ha;clear ha;obtain⟨a0,args,rfl,ha⟩:=hq
 obtain rfl:=len_nil ha
 obtain rfl:=len_nil hk
 replace hm:OD pu n [a0]=some z:=hm
 unfold OD at hm
 replace hm:(oo (Bj 1 a0) none fun s0=>(Pf pu n s0))=some z:=hm
 replace hm:=Al hm;obtain⟨s0,rfl,hm⟩:=hm
 refine⟨by simp,?_⟩
 exact .same (F':=(fr 4 [(0,Sl.v 1 s0)])) (H':=AO) (by kernel_rfl) (by kernel_rfl) (Abf pu n s0 hm)
def K3 (pu:Af) (n n0 c0:Nat) (q0:LV):OV:=
 (bb (Au Ah q0) (bb (an (Nat.ble (0+n0*1) (len q0)) (Au Ah (Aq (n0*1) (Am 0 q0)))) (some (.tuple ⟨[(Sl.v 1 (Sl.mk n0 0 (Aq (n0*1) (Am 0 q0))))]⟩)) none) none)
def Iy (pu:Af) (n:Nat) (ih0:Int→Int→Sl→Nat→Nat→Int→LV→OV) (z0 z1:Int) (s0:Sl) (n0 c0:Nat) (z2:Int) (q0:LV):OV:=
 (bb (Au Ah q0) (bb (AY z2 z1) (bb (Nat.beq (Sl.n s0) 0) (oo (pu 10730 [.int .i64 z0,.int .i64 z1,(Sl.v 1 (Sl.mk 1 0 (Aq (1*1) (Am 0 ([.int .i64 z2]:LV)))))]) none fun v0=>(oo (CQ v0) none fun l0=>(ll l0 none fun v1 l0=>(ll l0 (oo (Bj 1 v1) none fun s1=>(bb (Nat.beq (Sl.n s1) 0) (ih0 z0 z1 s0 n0 c0 (Aj .i64 (Int.add z2 (1:Int))) q0) (bb (an (Au D6 (Aq ((Sl.n s1)*1) (Sl.cs s1))) (GV 1 24 n0 c0 (Sl.n s1) q0)) (bb (Au Ah (Br (Am 0 q0) (Aq ((Sl.n s1)*1) (Sl.cs s1)))) (ih0 z0 z1 s0 (n0+(Sl.n s1)) (2*(n0+(Sl.n s1))+bb false 1 0) (Aj .i64 (Int.add z2 (1:Int))) (Br (Am 0 q0) (Aq ((Sl.n s1)*1) (Sl.cs s1)))) none) none))) fun _ _=>none)))) (bb (EQ (0+(Sl.n s0)) 8) (bb (GV 1 8 (0+(Sl.n s0)) (2*(0+(Sl.n s0))+bb false 1 0) 1 (Aq ((Sl.n s0)*1) (Sl.cs s0))) (bb (an (Nat.ble (0+((0+(Sl.n s0))+1)*1) (len (Br (Am 0 (Aq ((Sl.n s0)*1) (Sl.cs s0))) [.int .i64 z2]))) (Au Ah (Aq (((0+(Sl.n s0))+1)*1) (Am 0 (Br (Am 0 (Aq ((Sl.n s0)*1) (Sl.cs s0))) [.int .i64 z2]))))) (oo (pu 10730 [.int .i64 z0,.int .i64 z1,(Sl.v 1 (Sl.mk ((0+(Sl.n s0))+1) 0 (Aq (((0+(Sl.n s0))+1)*1) (Am 0 (Br (Am 0 (Aq ((Sl.n s0)*1) (Sl.cs s0))) [.int .i64 z2])))))]) none fun v2=>(oo (CQ v2) none fun l1=>(ll l1 none fun v3 l1=>(ll l1 (oo (Bj 1 v3) none fun s2=>(bb (Nat.beq (Sl.n s2) 0) (ih0 z0 z1 s0 n0 c0 (Aj .i64 (Int.add z2 (1:Int))) q0) (bb (an (Au D6 (Aq ((Sl.n s2)*1) (Sl.cs s2))) (GV 1 24 n0 c0 (Sl.n s2) q0)) (bb (Au Ah (Br (Am 0 q0) (Aq ((Sl.n s2)*1) (Sl.cs s2)))) (ih0 z0 z1 s0 (n0+(Sl.n s2)) (2*(n0+(Sl.n s2))+bb false 1 0) (Aj .i64 (Int.add z2 (1:Int))) (Br (Am 0 q0) (Aq ((Sl.n s2)*1) (Sl.cs s2)))) none) none))) fun _ _=>none)))) none) none) none)) (K3 pu n n0 c0 q0)) none)
def Gw (pu:Af) (n w:Nat):Int→Int→Sl→Nat→Nat→Int→LV→OV:=
 Nat.rec (motive:=fun _=>Int→Int→Sl→Nat→Nat→Int→LV→OV) (fun _ _ _ _ _ _ _=>none) (fun _ ih0=>Iy pu n ih0) w
def JN (pu:Af) (n:Nat) (z0 z1:Int) (s0:Sl) (z2:Int):OV:=
 (Gw pu n n z0 z1 s0 0 0 z2 ([]:LV))
def I9 (pu:Af) (n:Nat) (z0 z1:Int) (s0:Sl):OV:=
 (bb (Bd (Int.ofNat (Sl.n s0)) z0) (some (.tuple ⟨[(Sl.v 1 (Sl.mk 1 0 (Aq (1*1) (Am 0 ([Sl.v 1 s0]:LV)))))]⟩)) (bb (AY (0:Int) (Int.ofNat (Sl.n s0))) (oo (EA (Aj .i64 (Int.sub (Int.ofNat (Sl.n s0)) (1:Int)))) none fun k1=>(bb (an (Nat.blt k1 (Sl.n s0)) true) (oo (AL (Sl.cs s0) (k1*1)) none fun v0=>(oo (Bi .i64 v0) none fun x0=>(JN pu n z0 z1 s0 (Aj .i64 (Int.add x0 (1:Int)))))) none)) (JN pu n z0 z1 s0 (0:Int))))
def OE (pu:Af) (n:Nat) (args:LV):OV:=
 (ll args none fun a0 args=>(ll args none fun a1 args=>(ll args none fun a2 args=>(ll args (oo (Bi .i64 a0) none fun x0=>(oo (Bi .i64 a1) none fun x1=>(oo (Bj 1 a2) none fun s0=>(I9 pu n x0 x1 s0)))) fun _ _=>none))))
theorem gK (pu:Af) (n n0 c0:Nat) (q0:LV) {v:Value} (hm:K3 pu n n0 c0 q0=some v):BN tt (Bb tabs isP pu (inl pu)) 1 fA (fr 44 [(8,sc 1 0 1 n0 c0)]) (hT 2 [oC q0]) (FJ tt 1 0 [.tmp 6] v):=by
 unfold K3 at hm
 refine .then (.rK ?_)
 replace hm:=Ae hm;obtain⟨h0,hm⟩:=hm
 refine .ghs (fr 44 [(6,sc 1 0 1 n0 c0)]) (hT 2 [oC q0]) (.k [1] [false] [.tmp 6 false] [6] ⟨FD h0,trivial⟩) ?_
 replace hm:=Ae hm;obtain⟨h1,hm⟩:=hm
 refine .ghs (fr 44 [(6,(Sl.v 1 (Sl.mk n0 0 (Aq (n0*1) (Am 0 q0)))))]) AO (.freezeC 1 6 1 (an (Nat.ble (0+n0*1) (len q0)) (Au Ah (Aq (n0*1) (Am 0 q0)))) (F1:=(Fr.puts (fr 44 [(6,sc 1 0 1 n0 c0)]) [(6,(Sl.v 1 (Sl.mk n0 0 (Aq (n0*1) (Am 0 q0)))))])) (H1:=(hT 2 [.dead])) (by kernel_rfl) (by kernel_rfl) h1 (.k0 [false] [] [6])) ?_
 refine .ret ?_
 exact Gi (Sl.v 1 (Sl.mk n0 0 (Aq (n0*1) (Am 0 q0)))) [] (by kernel_rfl) hm (Nat.le_of_ble_eq_true rfl) EJ
theorem gL (pu:Af) (n:Nat) (z0 z1:Int) (s0:Sl) (z2:Int) {v:Value} (hm:JN pu n z0 z1 s0 z2=some v):BN tt (Bb tabs isP pu (inl pu)) 1 fB (fr 44 [(0,zI z0),(1,zI z1),(2,Sl.v 1 s0),(7,zI z2)]) AO (FJ tt 1 0 [.tmp 6] v):=by
 unfold JN at hm
 refine .then (.rK (.ghs (fr 44 [(0,zI z0),(1,zI z1),(2,Sl.v 1 s0),(7,zI z2),(8,(.slice none 0 0))]) AO (.k0 [false] [] [0,1,2,7,8]) ?_))
 refine .join (v:=v) (fun y:Nat×Nat×LV=>((fr 44 [(8,(sc 1 0 1 y.1 y.2.1))]),(hT 2 [(oC y.2.2)]))) (fun y=>K3 pu n y.1 y.2.1 y.2.2) ?_ ?_
 ·rintro⟨n0,c0,q0⟩ hm
  exact gK pu n n0 c0 q0 hm
 ·refine .then (.rK (.ghs (fr 44 [(0,zI z0),(1,zI z1),(2,Sl.v 1 s0),(8,(.slice none 0 0)),(9,zI z2)]) AO (.k0 [false] [] [0,1,2,8,9]) ?_))
  refine .block (.loopM (v:=v) (fun y:Int×Int×Sl×Nat×Nat×Int×LV=>((fr 44 [(0,(zI y.1)),(1,(zI y.2.1)),(2,(Sl.v 1 y.2.2.1)),(8,(sc 1 0 1 y.2.2.2.1 y.2.2.2.2.1)),(9,(zI y.2.2.2.2.2.1))]),(hT 2 [(oC y.2.2.2.2.2.2)]))) (fun w y=>Gw pu n w y.1 y.2.1 y.2.2.1 y.2.2.2.1 y.2.2.2.2.1 y.2.2.2.2.2.1 y.2.2.2.2.2.2) n ⟨(z0,z1,s0,0,0,z2,([]:LV)),hm,(.thaw 8 1 (by kernel_rfl) (.k0 [false] [.tmp 8 false] [0,1,2,8,9]))⟩ (fun _=>rfl) ?_)
  rintro w0 ⟨z3,z4,s1,n1,c1,z5,q1⟩ hm
  replace hm:Iy pu n (Gw pu n w0) z3 z4 s1 n1 c1 z5 q1=some v:=hm
  unfold Iy at hm
  refine .then (.then (.rK ?_))
  replace hm:=Ae hm;obtain⟨h0,hm⟩:=hm
  refine .ghs (fr 44 [(0,zI z3),(1,zI z4),(2,Sl.v 1 s1),(8,sc 1 0 1 n1 c1),(9,zI z5),(29,(zB (AY z5 z4)))]) (hT 2 [oC q1]) (.k [1] [false] [.tmp 8 false] [0,1,2,8,9,29] ⟨FD h0,trivial⟩) ?_
  replace hm:=Ag hm;rcases hm with⟨h1,hm⟩ | ⟨h1,hm⟩
  ·refine Bq (AY z5 z4) h1 ?_
   refine .skip (.ghs (fr 44 [(0,zI z3),(1,zI z4),(2,Sl.v 1 s1),(8,sc 1 0 1 n1 c1),(9,zI z5)]) (hT 2 [oC q1]) (.k [1] [false] [.tmp 8 false] [0,1,2,8,9] ⟨FD h0,trivial⟩) ?_)
   refine .then (.block ?_)
   replace hm:=Ag hm;rcases hm with⟨h2,hm⟩ | ⟨h2,hm⟩
   ·replace hm:=Ab hm;obtain⟨v0,h3,hm⟩:=hm
    replace hm:=Ch hm;obtain⟨l0,rfl,hm⟩:=hm
    replace hm:=Ad hm;obtain⟨v1,l1670_0,rfl,hm⟩:=hm
    replace hm:=AC hm;obtain⟨rfl,hm⟩:=hm
    replace hm:=Ab hm;obtain⟨s2,h4,hm⟩:=hm
    obtain rfl:=Qh h4
    replace hm:=Ag hm;rcases hm with⟨h5,hm⟩ | ⟨h5,hm⟩
    ·refine .reg (eC 5 (Ql (hT 3 [oC q1,(oC [])]) 1 8 (sc 2 0 1 0 1) s1) (Ze h2) (eC 3 (EK tabs [[none],[none],[some 1]] 3 [] [] (pu 10730) [zI z3,zI z4,(sc 4 0 1 1 (d2 1))] (hT 5 [oC q1,(oC []),(oC [zI z5]),(oC [zI z5])])) (EL (as:=[zI z3,zI z4,(Sl.v 1 (Sl.mk 1 0 (Aq (1*1) (Am 0 ([zI z5]:LV)))))]) (H1:=(hT 5 [oC q1,(oC []),(oC [zI z5]),.dead])) (BS (Dm Dk) (BS (Dm Dk) (BS (Dm (KQ (show ER 1 (sc 4 0 1 1 (d2 1)) (hT 5 [oC q1,(oC []),(oC [zI z5]),(oC [zI z5])])=some ((Sl.v 1 (Sl.mk 1 0 (Aq (1*1) (Am 0 ([zI z5]:LV))))),(hT 5 [oC q1,(oC []),(oC [zI z5]),.dead])) from KH 4 0 1 1 (d2 1) ([zI z5]:LV) [] (by kernel_rfl) (by kernel_rfl) (by kernel_rfl)))) Gj))) (EI (H2:=(hT 5 [oC q1,(oC []),(oC [zI z5]),.dead])) (v:=(Sl.v 1 s2)) (v':=(Sl.v 1 s2)) [some 0] [] [] [zI z3,zI z4,(Sl.v 1 (Sl.mk 1 0 (Aq (1*1) (Am 0 ([zI z5]:LV)))))] [] [] [some 0,none,none,none,none] [] [] (by kernel_rfl) BX (Eq.trans (by kernel_rfl) h3) BX BX)) (eD (Ql (hT 5 [oC q1,(oC []),(oC [zI z5]),.dead]) 1 24 (sc 1 0 1 n1 c1) s2) (Ze h5) (eE)))) ?_
     refine .ghs (fr 44 [(0,zI z3),(1,zI z4),(2,Sl.v 1 s1),(8,sc 1 0 1 n1 c1),(9,zI z5)]) (hT 2 [oC q1]) (.k [1] [false] [.tmp 8 false] [0,1,2,8,9] ⟨FD h0,trivial⟩) ?_
     refine .rK ?_
     exact⟨(z3,z4,s1,n1,c1,(Aj .i64 (Int.add z5 (1:Int))),q1),hm,(.k [1] [false] [.tmp 8 false] [0,1,2,8,9] ⟨FD h0,trivial⟩)⟩
    ·replace hm:=Ae hm;obtain⟨h6,hm⟩:=hm
     refine .reg (eC 5 (Ql (hT 3 [oC q1,(oC [])]) 1 8 (sc 2 0 1 0 1) s1) (Ze h2) (eC 3 (EK tabs [[none],[none],[some 1]] 3 [] [] (pu 10730) [zI z3,zI z4,(sc 4 0 1 1 (d2 1))] (hT 5 [oC q1,(oC []),(oC [zI z5]),(oC [zI z5])])) (EL (as:=[zI z3,zI z4,(Sl.v 1 (Sl.mk 1 0 (Aq (1*1) (Am 0 ([zI z5]:LV)))))]) (H1:=(hT 5 [oC q1,(oC []),(oC [zI z5]),.dead])) (BS (Dm Dk) (BS (Dm Dk) (BS (Dm (KQ (show ER 1 (sc 4 0 1 1 (d2 1)) (hT 5 [oC q1,(oC []),(oC [zI z5]),(oC [zI z5])])=some ((Sl.v 1 (Sl.mk 1 0 (Aq (1*1) (Am 0 ([zI z5]:LV))))),(hT 5 [oC q1,(oC []),(oC [zI z5]),.dead])) from KH 4 0 1 1 (d2 1) ([zI z5]:LV) [] (by kernel_rfl) (by kernel_rfl) (by kernel_rfl)))) Gj))) (EI (H2:=(hT 5 [oC q1,(oC []),(oC [zI z5]),.dead])) (v:=(Sl.v 1 s2)) (v':=(Sl.v 1 s2)) [some 0] [] [] [zI z3,zI z4,(Sl.v 1 (Sl.mk 1 0 (Aq (1*1) (Am 0 ([zI z5]:LV)))))] [] [] [some 0,none,none,none,none] [] [] (by kernel_rfl) BX (Eq.trans (by kernel_rfl) h3) BX BX)) (eD (Ql (hT 5 [oC q1,(oC []),(oC [zI z5]),.dead]) 1 24 (sc 1 0 1 n1 c1) s2) (QI (H:=(hT 5 [oC q1,(oC []),(oC [zI z5]),.dead])) (id:=1) (n:=n1) (c2:=c1) (xs:=q1) (anc:=[]) h5 (by kernel_rfl) (by kernel_rfl) h6) (eE)))) ?_
     replace hm:=Ae hm;obtain⟨h7,hm⟩:=hm
     refine .ghs (fr 44 [(0,zI z3),(1,zI z4),(2,Sl.v 1 s1),(8,(sc 1 0 1 (n1+(Sl.n s2)) (d2 (n1+(Sl.n s2))))),(9,zI z5)]) (hT 2 [(oC (Br (Am 0 q1) (Aq ((Sl.n s2)*1) (Sl.cs s2))))]) (.k [5] [false] [.tmp 8 false] [0,1,2,8,9] ⟨FD h7,trivial⟩) ?_
     refine .rK ?_
     exact⟨(z3,z4,s1,(n1+(Sl.n s2)),(d2 (n1+(Sl.n s2))),(Aj .i64 (Int.add z5 (1:Int))),(Br (Am 0 q1) (Aq ((Sl.n s2)*1) (Sl.cs s2)))),hm,(.k [1] [false] [.tmp 8 false] [0,1,2,8,9] ⟨FD h7,trivial⟩)⟩
   ·replace hm:=Ae hm;obtain⟨h8,hm⟩:=hm
    replace hm:=Ae hm;obtain⟨h9,hm⟩:=hm
    replace hm:=Ae hm;obtain⟨h10,hm⟩:=hm
    replace hm:=Ab hm;obtain⟨v2,h11,hm⟩:=hm
    replace hm:=Ch hm;obtain⟨l1,rfl,hm⟩:=hm
    replace hm:=Ad hm;obtain⟨v3,l1673_0,rfl,hm⟩:=hm
    replace hm:=AC hm;obtain⟨rfl,hm⟩:=hm
    replace hm:=Al hm;obtain⟨s3,rfl,hm⟩:=hm
    replace hm:=Ag hm;rcases hm with⟨h12,hm⟩ | ⟨h12,hm⟩
    ·refine .reg (eC 5 (Ql (hT 3 [oC q1,(oC [])]) 1 8 (sc 2 0 1 0 1) s1) (Zf h2 h8 (by kernel_rfl)) (eC 2 (Oc 1 8 (0+(Sl.n s1)) (d2 (0+(Sl.n s1))) 1 3 (Aq ((Sl.n s1)*1) (Sl.cs s1)) [zI z5] [] (hT 5 [oC q1,(oC []),(oC (Aq ((Sl.n s1)*1) (Sl.cs s1))),(oC [zI z5])])) (I1 h9) (eD (EK tabs [[none],[none],[some 1]] 3 [] [] (pu 10730) [zI z3,zI z4,(sc 5 0 1 ((0+(Sl.n s1))+1) (d2 ((0+(Sl.n s1))+1)))] (hT 6 [oC q1,(oC []),(oS (Aq ((Sl.n s1)*1) (Sl.cs s1))),(oC [zI z5]),(.cells (Br (Am 0 (Aq ((Sl.n s1)*1) (Sl.cs s1))) [zI z5]) false false [3])])) (EL (as:=[zI z3,zI z4,(Sl.v 1 (Sl.mk ((0+(Sl.n s1))+1) 0 (Aq (((0+(Sl.n s1))+1)*1) (Am 0 (Br (Am 0 (Aq ((Sl.n s1)*1) (Sl.cs s1))) [zI z5])))))]) (H1:=(hT 6 [oC q1,(oC []),(oS (Aq ((Sl.n s1)*1) (Sl.cs s1))),(oC [zI z5]),.dead])) (BS (Dm Dk) (BS (Dm Dk) (BS (Dm (KQ (show ER 1 (sc 5 0 1 ((0+(Sl.n s1))+1) (d2 ((0+(Sl.n s1))+1))) (hT 6 [oC q1,(oC []),(oS (Aq ((Sl.n s1)*1) (Sl.cs s1))),(oC [zI z5]),(.cells (Br (Am 0 (Aq ((Sl.n s1)*1) (Sl.cs s1))) [zI z5]) false false [3])])=some ((Sl.v 1 (Sl.mk ((0+(Sl.n s1))+1) 0 (Aq (((0+(Sl.n s1))+1)*1) (Am 0 (Br (Am 0 (Aq ((Sl.n s1)*1) (Sl.cs s1))) [zI z5]))))),(hT 6 [oC q1,(oC []),(oS (Aq ((Sl.n s1)*1) (Sl.cs s1))),(oC [zI z5]),.dead])) from KH 5 0 1 ((0+(Sl.n s1))+1) (d2 ((0+(Sl.n s1))+1)) (Br (Am 0 (Aq ((Sl.n s1)*1) (Sl.cs s1))) [zI z5]) [3] (by kernel_rfl) (by kernel_rfl) h10))) Gj))) (EI (H2:=(hT 6 [oC q1,(oC []),(oS (Aq ((Sl.n s1)*1) (Sl.cs s1))),(oC [zI z5]),.dead])) (v:=(Sl.v 1 s3)) (v':=(Sl.v 1 s3)) [some 0] [] [] [zI z3,zI z4,(Sl.v 1 (Sl.mk ((0+(Sl.n s1))+1) 0 (Aq (((0+(Sl.n s1))+1)*1) (Am 0 (Br (Am 0 (Aq ((Sl.n s1)*1) (Sl.cs s1))) [zI z5])))))] [] [] [some 0,none,none,none,none,none] [] [] (by kernel_rfl) BX (Eq.trans (by kernel_rfl) h11) BX BX)) (eD (Ql (hT 6 [oC q1,(oC []),(oS (Aq ((Sl.n s1)*1) (Sl.cs s1))),(oC [zI z5]),.dead]) 1 24 (sc 1 0 1 n1 c1) s3) (Ze h12) (eE))))) ?_
     refine .ghs (fr 44 [(0,zI z3),(1,zI z4),(2,Sl.v 1 s1),(8,sc 1 0 1 n1 c1),(9,zI z5)]) (hT 2 [oC q1]) (.k [1] [false] [.tmp 8 false] [0,1,2,8,9] ⟨FD h0,trivial⟩) ?_
     refine .rK ?_
     exact⟨(z3,z4,s1,n1,c1,(Aj .i64 (Int.add z5 (1:Int))),q1),hm,(.k [1] [false] [.tmp 8 false] [0,1,2,8,9] ⟨FD h0,trivial⟩)⟩
    ·replace hm:=Ae hm;obtain⟨h13,hm⟩:=hm
     refine .reg (eC 5 (Ql (hT 3 [oC q1,(oC [])]) 1 8 (sc 2 0 1 0 1) s1) (Zf h2 h8 (by kernel_rfl)) (eC 2 (Oc 1 8 (0+(Sl.n s1)) (d2 (0+(Sl.n s1))) 1 3 (Aq ((Sl.n s1)*1) (Sl.cs s1)) [zI z5] [] (hT 5 [oC q1,(oC []),(oC (Aq ((Sl.n s1)*1) (Sl.cs s1))),(oC [zI z5])])) (I1 h9) (eD (EK tabs [[none],[none],[some 1]] 3 [] [] (pu 10730) [zI z3,zI z4,(sc 5 0 1 ((0+(Sl.n s1))+1) (d2 ((0+(Sl.n s1))+1)))] (hT 6 [oC q1,(oC []),(oS (Aq ((Sl.n s1)*1) (Sl.cs s1))),(oC [zI z5]),(.cells (Br (Am 0 (Aq ((Sl.n s1)*1) (Sl.cs s1))) [zI z5]) false false [3])])) (EL (as:=[zI z3,zI z4,(Sl.v 1 (Sl.mk ((0+(Sl.n s1))+1) 0 (Aq (((0+(Sl.n s1))+1)*1) (Am 0 (Br (Am 0 (Aq ((Sl.n s1)*1) (Sl.cs s1))) [zI z5])))))]) (H1:=(hT 6 [oC q1,(oC []),(oS (Aq ((Sl.n s1)*1) (Sl.cs s1))),(oC [zI z5]),.dead])) (BS (Dm Dk) (BS (Dm Dk) (BS (Dm (KQ (show ER 1 (sc 5 0 1 ((0+(Sl.n s1))+1) (d2 ((0+(Sl.n s1))+1))) (hT 6 [oC q1,(oC []),(oS (Aq ((Sl.n s1)*1) (Sl.cs s1))),(oC [zI z5]),(.cells (Br (Am 0 (Aq ((Sl.n s1)*1) (Sl.cs s1))) [zI z5]) false false [3])])=some ((Sl.v 1 (Sl.mk ((0+(Sl.n s1))+1) 0 (Aq (((0+(Sl.n s1))+1)*1) (Am 0 (Br (Am 0 (Aq ((Sl.n s1)*1) (Sl.cs s1))) [zI z5]))))),(hT 6 [oC q1,(oC []),(oS (Aq ((Sl.n s1)*1) (Sl.cs s1))),(oC [zI z5]),.dead])) from KH 5 0 1 ((0+(Sl.n s1))+1) (d2 ((0+(Sl.n s1))+1)) (Br (Am 0 (Aq ((Sl.n s1)*1) (Sl.cs s1))) [zI z5]) [3] (by kernel_rfl) (by kernel_rfl) h10))) Gj))) (EI (H2:=(hT 6 [oC q1,(oC []),(oS (Aq ((Sl.n s1)*1) (Sl.cs s1))),(oC [zI z5]),.dead])) (v:=(Sl.v 1 s3)) (v':=(Sl.v 1 s3)) [some 0] [] [] [zI z3,zI z4,(Sl.v 1 (Sl.mk ((0+(Sl.n s1))+1) 0 (Aq (((0+(Sl.n s1))+1)*1) (Am 0 (Br (Am 0 (Aq ((Sl.n s1)*1) (Sl.cs s1))) [zI z5])))))] [] [] [some 0,none,none,none,none,none] [] [] (by kernel_rfl) BX (Eq.trans (by kernel_rfl) h11) BX BX)) (eD (Ql (hT 6 [oC q1,(oC []),(oS (Aq ((Sl.n s1)*1) (Sl.cs s1))),(oC [zI z5]),.dead]) 1 24 (sc 1 0 1 n1 c1) s3) (QI (H:=(hT 6 [oC q1,(oC []),(oS (Aq ((Sl.n s1)*1) (Sl.cs s1))),(oC [zI z5]),.dead])) (id:=1) (n:=n1) (c2:=c1) (xs:=q1) (anc:=[]) h12 (by kernel_rfl) (by kernel_rfl) h13) (eE))))) ?_
     replace hm:=Ae hm;obtain⟨h14,hm⟩:=hm
     refine .ghs (fr 44 [(0,zI z3),(1,zI z4),(2,Sl.v 1 s1),(8,(sc 1 0 1 (n1+(Sl.n s3)) (d2 (n1+(Sl.n s3))))),(9,zI z5)]) (hT 2 [(oC (Br (Am 0 q1) (Aq ((Sl.n s3)*1) (Sl.cs s3))))]) (.k [6] [false] [.tmp 8 false] [0,1,2,8,9] ⟨FD h14,trivial⟩) ?_
     refine .rK ?_
     exact⟨(z3,z4,s1,(n1+(Sl.n s3)),(d2 (n1+(Sl.n s3))),(Aj .i64 (Int.add z5 (1:Int))),(Br (Am 0 q1) (Aq ((Sl.n s3)*1) (Sl.cs s3)))),hm,(.k [1] [false] [.tmp 8 false] [0,1,2,8,9] ⟨FD h14,trivial⟩)⟩
  ·refine BB (AY z5 z4) h1 ?_
   refine .exit ?_
   exact⟨(n1,c1,q1),hm,(.k [1] [false] [.tmp 8 false] [8] ⟨FD h0,trivial⟩)⟩
theorem Abh (pu:Af) (n:Nat) (z0 z1:Int) (s0:Sl) {v:Value} (hm:I9 pu n z0 z1 s0=some v):BN tt (Bb tabs isP pu (inl pu)) 1 Pq (fr 44 [(0,zI z0),(1,zI z1),(2,Sl.v 1 s0)]) AO (FJ tt 1 0 [.tmp 6] v):=by
 unfold I9 at hm
 refine .then (.rK (.ghs (fr 44 [(0,zI z0),(1,zI z1),(2,Sl.v 1 s0)]) AO (.k0 [false] [] [0,1,2]) ?_))
 refine .then (.then (.rK (.ghs (fr 44 [(0,zI z0),(1,zI z1),(2,Sl.v 1 s0),(13,(zB (Bd (Int.ofNat (Sl.n s0)) z0)))]) AO (.k0 [false] [] [0,1,2,13]) ?_)))
 replace hm:=Ag hm;rcases hm with⟨h0,hm⟩ | ⟨h0,hm⟩
 ·refine Bq (Bd (Int.ofNat (Sl.n s0)) z0) h0 ?_
  refine .then (.rK (.ghs (fr 44 [(6,sc 1 0 1 1 3)]) (hT 2 [(oC [Sl.v 1 s0])]) (.k0 [false] [.tmp 6 false] [6]) ?_))
  refine .ghs (fr 44 [(6,(Sl.v 1 (Sl.mk 1 0 (Aq (1*1) (Am 0 ([Sl.v 1 s0]:LV))))))]) AO (.freeze 1 6 1 (by kernel_rfl) (by kernel_rfl) (.k0 [false] [] [6])) ?_
  refine .ret ?_
  exact Gi (Sl.v 1 (Sl.mk 1 0 (Aq (1*1) (Am 0 ([Sl.v 1 s0]:LV))))) [] (by kernel_rfl) hm (Nat.le_of_ble_eq_true rfl) EJ
 ·refine BB (Bd (Int.ofNat (Sl.n s0)) z0) h0 ?_
  refine .skip (.ghs (fr 44 [(0,zI z0),(1,zI z1),(2,Sl.v 1 s0)]) AO (.k0 [false] [] [0,1,2]) ?_)
  refine .then (.rK (.ghs (fr 44 [(0,zI z0),(1,zI z1),(2,Sl.v 1 s0),(7,(zI (0:Int)))]) AO (.k0 [false] [] [0,1,2,7]) ?_))
  refine .join (v:=v) (fun y:Int×Int×Sl×Int=>((fr 44 [(0,(zI y.1)),(1,(zI y.2.1)),(2,(Sl.v 1 y.2.2.1)),(7,(zI y.2.2.2))]),AO)) (fun y=>JN pu n y.1 y.2.1 y.2.2.1 y.2.2.2) ?_ ?_
  ·rintro⟨z2,z3,s1,z4⟩ hm
   exact gL pu n z2 z3 s1 z4 hm
  ·refine .then (.rK (.ghs (fr 44 [(0,zI z0),(1,zI z1),(2,Sl.v 1 s0),(7,(zI (0:Int))),(18,(zB (AY (0:Int) (Int.ofNat (Sl.n s0)))))]) AO (.k0 [false] [] [0,1,2,7,18]) ?_))
   replace hm:=Ag hm;rcases hm with⟨h1,hm⟩ | ⟨h1,hm⟩
   ·refine Bq (AY (0:Int) (Int.ofNat (Sl.n s0))) h1 ?_
    replace hm:=Ab hm;obtain⟨k1,h2,hm⟩:=hm
    replace hm:=Ae hm;obtain⟨h3,hm⟩:=hm
    replace hm:=Gt hm;obtain⟨x0,h4,hm⟩:=hm
    refine .reg (eC 3 (some ((zI (Aj .i64 (Int.sub (Int.ofNat (Sl.n s0)) (1:Int)))),AO)) (show _=some ((zI (Int.ofNat k1)),_) from (by rw[AR h2])) (eD (keep AO (bb (an (Nat.blt k1 (Sl.n s0)) true) (some (Cv (k1*1) (Sl.cs s0))) none)) (AX h3) (eD (keep AO (AL (Sl.cs s0) (k1*1))) (AZ h4) (eE)))) ?_
    exact⟨(z0,z1,s0,(Aj .i64 (Int.add x0 (1:Int)))),hm,(.k0 [false] [] [0,1,2,7])⟩
   ·refine BB (AY (0:Int) (Int.ofNat (Sl.n s0))) h1 ?_
    refine .skip ?_
    exact⟨(z0,z1,s0,(0:Int)),hm,(.k0 [false] [] [0,1,2,7])⟩
theorem Abi {call:A8} (pu:Af) (n:Nat) (hcall:call=Bb tabs isP pu (inl pu)) {args:LV} {os:List AJ} {z:Value} (ha:args.length=3) (hk:os.length=0) (hpl:∀ o∈os,plainO o) (hm:OE pu n (args++os.map Ef)=some z):args.length≤44∧BN tt call (tabs.length+0) Pq (Fr.made 44 args) (BK tabs os) (FJ tt tabs.length 0 [.tmp 6] z):=by
 subst hcall
 have hq:=BC ha;clear ha;obtain⟨a0,args,rfl,ha⟩:=hq
 have hq:=BC ha;clear ha;obtain⟨a1,args,rfl,ha⟩:=hq
 have hq:=BC ha;clear ha;obtain⟨a2,args,rfl,ha⟩:=hq
 obtain rfl:=len_nil ha
 obtain rfl:=len_nil hk
 replace hm:OE pu n [a0,a1,a2]=some z:=hm
 unfold OE at hm
 replace hm:(oo (Bi .i64 a0) none fun x0=>(oo (Bi .i64 a1) none fun x1=>(oo (Bj 1 a2) none fun s0=>(I9 pu n x0 x1 s0))))=some z:=hm
 replace hm:=Ai hm;obtain⟨x0,rfl,hm⟩:=hm
 replace hm:=Ai hm;obtain⟨x1,rfl,hm⟩:=hm
 replace hm:=Al hm;obtain⟨s0,rfl,hm⟩:=hm
 refine⟨by simp,?_⟩
 exact .same (F':=(fr 44 [(0,zI x0),(1,zI x1),(2,Sl.v 1 s0)])) (H':=AO) (by kernel_rfl) (by kernel_rfl) (Abh pu n x0 x1 s0 hm)
def Nc (pu:Af) (n n0 c0:Nat) (q0:LV) (q1:LV):OV:=
 (bb (Au Ah q0) (bb (Au Ah q1) (bb (an (Nat.ble (0+n0*1) (len q1)) (Au Ah (Aq (n0*1) (Am 0 q1)))) (some (.tuple ⟨[(Sl.v 1 (Sl.mk n0 0 (Aq (n0*1) (Am 0 q1)))),(.agg ⟨q0⟩)]⟩)) none) none) none)
def QB (pu:Af) (n:Nat) (ih0:Nat→Nat→Int→Nat→Nat→Int→LV→Int→Int→Int→Sl→LV→OV) (n0 c0:Nat) (z0:Int) (n1 c1:Nat) (z1:Int) (q0:LV) (z2 z3 z4:Int) (s0:Sl) (q1:LV):OV:=
 (bb (Au Ah q0) (bb (Au Ah q1) (bb (AY z1 (Int.ofNat n0)) (oo (pu 81 [(.agg ⟨[.int .i64 z2,.int .i64 z3,.int .i64 z4,Sl.v 1 s0]⟩),.int .i64 z0,.int .i64 z1]) none fun v0=>(oo (Bi .i64 v0) none fun x0=>(oo (EA x0) none fun k1=>(bb (an (Nat.blt k1 n0) true) (oo (AL q0 (0+k1*1)) none fun v1=>(oo (Bi .i64 v1) none fun x1=>(bb (GV 1 8 n1 c1 1 q1) (bb (Au Ah (Br (Am 0 q1) [.int .i64 x1])) (ih0 n0 c0 z0 (n1+1) (2*(n1+1)+bb false 1 0) (Aj .i64 (Int.add z1 (1:Int))) q0 z2 z3 z4 s0 (Br (Am 0 q1) [.int .i64 x1])) none) none))) none)))) (Nc pu n n1 c1 q0 q1)) none) none)
def QC (pu:Af) (n w:Nat):Nat→Nat→Int→Nat→Nat→Int→LV→Int→Int→Int→Sl→LV→OV:=
 Nat.rec (motive:=fun _=>Nat→Nat→Int→Nat→Nat→Int→LV→Int→Int→Int→Sl→LV→OV) (fun _ _ _ _ _ _ _ _ _ _ _ _=>none) (fun _ ih0=>QB pu n ih0) w
def Pg (pu:Af) (n:Nat) (z0 z1 z2:Int) (s0:Sl) (n0 c0:Nat) (z3 z4 z5 z6 z7:Int):OV:=
 (QC pu n n n0 c0 z3 0 0 (0:Int) ([.int .i64 z4,.int .i64 z5,.int .i64 z6,.int .i64 z7]:LV) z0 z1 z2 s0 ([]:LV))
def QD (pu:Af) (n:Nat) (args:LV):OV:=
 (ll args none fun a0 args=>(ll args none fun a1 args=>(ll args none fun a2 args=>(ll args none fun o0 args=>(ll args (oo (Bt a0) none fun l0=>(ll l0 none fun v0 l0=>(ll l0 none fun v1 l0=>(ll l0 none fun v2 l0=>(ll l0 none fun v3 l0=>(ll l0 (oo (Bi .i64 v0) none fun x0=>(oo (Bi .i64 v1) none fun x1=>(oo (Bi .i64 v2) none fun x2=>(oo (Bj 1 v3) none fun s0=>(oo (KP 1 0 1 a1) none fun y0=>(oo (Bi .i64 a2) none fun x3=>(oo (Bt o0) none fun l1=>(ll l1 none fun v4 l1=>(ll l1 none fun v5 l1=>(ll l1 none fun v6 l1=>(ll l1 none fun v7 l1=>(ll l1 (oo (Bi .i64 v4) none fun x4=>(oo (Bi .i64 v5) none fun x5=>(oo (Bi .i64 v6) none fun x6=>(oo (Bi .i64 v7) none fun x7=>(Pg pu n x0 x1 x2 s0 (NC.n y0) (NC.c y0) x3 x4 x5 x6 x7))))) fun _ _=>none)))))))))))) fun _ _=>none)))))) fun _ _=>none)))))
theorem gM (pu:Af) (n n0 c0:Nat) (q0:LV) (q1:LV) {v:Value} (hm:Nc pu n n0 c0 q0 q1=some v):BN tt (Bb tabs isP pu (inl pu)) 2 WW (fr 26 [(7,sc 2 0 1 n0 c0)]) (hT 3 [oC q0,oC q1]) (FJ tt 1 1 [.tmp 6] v):=by
 unfold Nc at hm
 refine .then (.rK ?_)
 replace hm:=Ae hm;obtain⟨h0,hm⟩:=hm
 replace hm:=Ae hm;obtain⟨h1,hm⟩:=hm
 refine .ghs (fr 26 [(6,sc 2 0 1 n0 c0)]) (hT 3 [oC q0,oC q1]) (.k [1,2] [false,false] [.tmp 6 false] [6] ⟨FD h0,FD h1,trivial⟩) ?_
 replace hm:=Ae hm;obtain⟨h2,hm⟩:=hm
 refine .ghs (fr 26 [(6,(Sl.v 1 (Sl.mk n0 0 (Aq (n0*1) (Am 0 q1)))))]) (hT 2 [oC q0]) (.freezeC 2 6 1 (an (Nat.ble (0+n0*1) (len q1)) (Au Ah (Aq (n0*1) (Am 0 q1)))) (F1:=(Fr.puts (fr 26 [(6,sc 2 0 1 n0 c0)]) [(6,(Sl.v 1 (Sl.mk n0 0 (Aq (n0*1) (Am 0 q1)))))])) (H1:=(hT 3 [oC q0,.dead])) (by kernel_rfl) (by kernel_rfl) h2 (.k [1] [false,false] [] [6] ⟨FD h0,trivial⟩)) ?_
 refine .ret ?_
 exact Gi (Sl.v 1 (Sl.mk n0 0 (Aq (n0*1) (Am 0 q1)))) [oC q0] (by kernel_rfl) hm (Nat.le_of_ble_eq_true rfl) (Fa (VT _) EJ)
theorem Abj (pu:Af) (n:Nat) (z0 z1 z2:Int) (s0:Sl) (n0 c0:Nat) (z3 z4 z5 z6 z7:Int) {v:Value} (hm:Pg pu n z0 z1 z2 s0 n0 c0 z3 z4 z5 z6 z7=some v):BN tt (Bb tabs isP pu (inl pu)) 2 MF (fr 26 [(0,(.agg ⟨[zI z0,zI z1,zI z2,Sl.v 1 s0]⟩)),(1,sc 1 0 1 n0 c0),(2,zI z3)]) (hT 2 [(oC [zI z4,zI z5,zI z6,zI z7])]) (FJ tt 1 1 [.tmp 6] v):=by
 unfold Pg at hm
 refine .then (.rK (.ghs (fr 26 [(1,sc 1 0 1 n0 c0),(2,zI z3),(3,(pt 2 0))]) (hT 3 [(oC [zI z4,zI z5,zI z6,zI z7]),(oC [zI z0,zI z1,zI z2,Sl.v 1 s0])]) (.k0 [false,false] [.tmp 3 false] [1,2,3]) ?_))
 refine .then (.rK (.ghs (fr 26 [(1,sc 1 0 1 n0 c0),(2,zI z3),(3,(pt 2 0)),(7,(.slice none 0 0))]) (hT 3 [(oC [zI z4,zI z5,zI z6,zI z7]),(oC [zI z0,zI z1,zI z2,Sl.v 1 s0])]) (.k0 [false,false] [.tmp 3 false] [1,2,3,7]) ?_))
 refine .join (v:=v) (fun y:Nat×Nat×LV×LV=>((fr 26 [(7,(sc 2 0 1 y.1 y.2.1))]),(hT 3 [(oC y.2.2.1),(oC y.2.2.2)]))) (fun y=>Nc pu n y.1 y.2.1 y.2.2.1 y.2.2.2) ?_ ?_
 ·rintro⟨n1,c1,q0,q1⟩ hm
  exact gM pu n n1 c1 q0 q1 hm
 ·refine .then (.rK (.ghs (fr 26 [(1,sc 1 0 1 n0 c0),(2,zI z3),(3,(pt 2 0)),(7,(.slice none 0 0)),(8,(zI (0:Int)))]) (hT 3 [(oC [zI z4,zI z5,zI z6,zI z7]),(oC [zI z0,zI z1,zI z2,Sl.v 1 s0])]) (.k0 [false,false] [.tmp 3 false] [1,2,3,7,8]) ?_))
  refine .block (.loopM (v:=v) (fun y:Nat×Nat×Int×Nat×Nat×Int×LV×Int×Int×Int×Sl×LV=>((fr 26 [(1,(sc 1 0 1 y.1 y.2.1)),(2,(zI y.2.2.1)),(3,(pt 2 0)),(7,(sc 3 0 1 y.2.2.2.1 y.2.2.2.2.1)),(8,(zI y.2.2.2.2.2.1))]),(hT 4 [(oC y.2.2.2.2.2.2.1),(oC [(zI y.2.2.2.2.2.2.2.1),(zI y.2.2.2.2.2.2.2.2.1),(zI y.2.2.2.2.2.2.2.2.2.1),(Sl.v 1 y.2.2.2.2.2.2.2.2.2.2.1)]),(oC y.2.2.2.2.2.2.2.2.2.2.2)]))) (fun w y=>QC pu n w y.1 y.2.1 y.2.2.1 y.2.2.2.1 y.2.2.2.2.1 y.2.2.2.2.2.1 y.2.2.2.2.2.2.1 y.2.2.2.2.2.2.2.1 y.2.2.2.2.2.2.2.2.1 y.2.2.2.2.2.2.2.2.2.1 y.2.2.2.2.2.2.2.2.2.2.1 y.2.2.2.2.2.2.2.2.2.2.2) n ⟨(n0,c0,z3,0,0,(0:Int),([zI z4,zI z5,zI z6,zI z7]:LV),z0,z1,z2,s0,([]:LV)),hm,(.thaw 7 1 (by kernel_rfl) (.k0 [false,false] [.tmp 3 false,.tmp 7 false] [1,2,3,7,8]))⟩ (fun _=>rfl) ?_)
  rintro w0 ⟨n2,c2,z8,n3,c3,z9,q2,z10,z11,z12,s1,q3⟩ hm
  replace hm:QB pu n (QC pu n w0) n2 c2 z8 n3 c3 z9 q2 z10 z11 z12 s1 q3=some v:=hm
  unfold QB at hm
  refine .then (.then (.rK ?_))
  replace hm:=Ae hm;obtain⟨h0,hm⟩:=hm
  replace hm:=Ae hm;obtain⟨h1,hm⟩:=hm
  refine .ghs (fr 26 [(1,sc 1 0 1 n2 c2),(2,zI z8),(3,(pt 2 0)),(7,sc 3 0 1 n3 c3),(8,zI z9),(12,(zB (AY z9 (Int.ofNat n2))))]) (hT 4 [oC q2,(oC [zI z10,zI z11,zI z12,Sl.v 1 s1]),oC q3]) (.k [1,3] [false,false] [.tmp 3 false,.tmp 7 false] [1,2,3,7,8,12] ⟨FD h0,FD h1,trivial⟩) ?_
  replace hm:=Ag hm;rcases hm with⟨h2,hm⟩ | ⟨h2,hm⟩
  ·refine Bq (AY z9 (Int.ofNat n2)) h2 ?_
   refine .skip (.ghs (fr 26 [(1,sc 1 0 1 n2 c2),(2,zI z8),(3,(pt 2 0)),(7,sc 3 0 1 n3 c3),(8,zI z9)]) (hT 4 [oC q2,(oC [zI z10,zI z11,zI z12,Sl.v 1 s1]),oC q3]) (.k [1,3] [false,false] [.tmp 3 false,.tmp 7 false] [1,2,3,7,8] ⟨FD h0,FD h1,trivial⟩) ?_)
   refine .then (.block ?_)
   replace hm:=Gt hm;obtain⟨x0,h3,hm⟩:=hm
   replace hm:=Ab hm;obtain⟨k1,h4,hm⟩:=hm
   obtain rfl:=AR h4
   replace hm:=Ae hm;obtain⟨h5,hm⟩:=hm
   replace hm:=Gt hm;obtain⟨x1,h6,hm⟩:=hm
   replace hm:=Ae hm;obtain⟨h7,hm⟩:=hm
   refine .reg (eC 5 ((oo (pu 81 [(.agg ⟨[zI z10,zI z11,zI z12,Sl.v 1 s1]⟩),zI z8,zI z9]) none fun v=>some (v,(hT 4 [oC q2,(oC [zI z10,zI z11,zI z12,Sl.v 1 s1]),oC q3])))) (AB h3) (eD (keep (hT 4 [oC q2,(oC [zI z10,zI z11,zI z12,Sl.v 1 s1]),oC q3]) (bb (an (Nat.blt k1 n2) true) (some (.pointer (some ⟨1,(0+k1*1),none⟩))) none)) (AX h5) (eD (keep (hT 4 [oC q2,(oC [zI z10,zI z11,zI z12,Sl.v 1 s1]),oC q3]) (AL q2 (0+k1*1))) (AZ h6) (eC 1 (Oc 1 8 n3 c3 1 3 q3 [zI x1] [] (hT 5 [oC q2,(oC [zI z10,zI z11,zI z12,Sl.v 1 s1]),oC q3,(oC [zI x1])])) (I1 h7) (eE))))) ?_
   replace hm:=Ae hm;obtain⟨h8,hm⟩:=hm
   refine .ghs (fr 26 [(1,sc 1 0 1 n2 c2),(2,zI z8),(3,(pt 2 0)),(7,(sc 3 0 1 (n3+1) (d2 (n3+1)))),(8,zI z9)]) (hT 4 [oC q2,(oC [zI z10,zI z11,zI z12,Sl.v 1 s1]),(oC (Br (Am 0 q3) [zI x1]))]) (.k [1,5] [false,false] [.tmp 3 false,.tmp 7 false] [1,2,3,7,8] ⟨FD h0,FD h8,trivial⟩) ?_
   refine .rK ?_
   exact⟨(n2,c2,z8,(n3+1),(d2 (n3+1)),(Aj .i64 (Int.add z9 (1:Int))),q2,z10,z11,z12,s1,(Br (Am 0 q3) [zI x1])),hm,(.k [1,3] [false,false] [.tmp 3 false,.tmp 7 false] [1,2,3,7,8] ⟨FD h0,FD h8,trivial⟩)⟩
  ·refine BB (AY z9 (Int.ofNat n2)) h2 ?_
   refine .exit ?_
   exact⟨(n3,c3,q2,q3),hm,(.k [1,3] [false,false] [.tmp 7 false] [7] ⟨FD h0,FD h1,trivial⟩)⟩
theorem Abk {call:A8} (pu:Af) (n:Nat) (hcall:call=Bb tabs isP pu (inl pu)) {args:LV} {os:List AJ} {z:Value} (ha:args.length=3) (hk:os.length=1) (hpl:∀ o∈os,plainO o) (hm:QD pu n (args++os.map Ef)=some z):args.length≤26∧BN tt call (tabs.length+1) MF (Fr.made 26 args) (BK tabs os) (FJ tt tabs.length 1 [.tmp 6] z):=by
 subst hcall
 have hq:=BC ha;clear ha;obtain⟨a0,args,rfl,ha⟩:=hq
 have hq:=BC ha;clear ha;obtain⟨a1,args,rfl,ha⟩:=hq
 have hq:=BC ha;clear ha;obtain⟨a2,args,rfl,ha⟩:=hq
 obtain rfl:=len_nil ha
 have hq:=BC hk;clear hk;obtain⟨b0,os,rfl,hk⟩:=hq
 have hp0:plainO b0:=hpl b0 (by simp)
 obtain rfl:=len_nil hk
 replace hm:QD pu n [a0,a1,a2,Ef b0]=some z:=hm
 unfold QD at hm
 replace hm:(oo (Bt a0) none fun l0=>(ll l0 none fun v0 l0=>(ll l0 none fun v1 l0=>(ll l0 none fun v2 l0=>(ll l0 none fun v3 l0=>(ll l0 (oo (Bi .i64 v0) none fun x0=>(oo (Bi .i64 v1) none fun x1=>(oo (Bi .i64 v2) none fun x2=>(oo (Bj 1 v3) none fun s0=>(oo (KP 1 0 1 a1) none fun y0=>(oo (Bi .i64 a2) none fun x3=>(oo (Bt (Ef b0)) none fun l1=>(ll l1 none fun v4 l1=>(ll l1 none fun v5 l1=>(ll l1 none fun v6 l1=>(ll l1 none fun v7 l1=>(ll l1 (oo (Bi .i64 v4) none fun x4=>(oo (Bi .i64 v5) none fun x5=>(oo (Bi .i64 v6) none fun x6=>(oo (Bi .i64 v7) none fun x7=>(Pg pu n x0 x1 x2 s0 (NC.n y0) (NC.c y0) x3 x4 x5 x6 x7))))) fun _ _=>none)))))))))))) fun _ _=>none))))))=some z:=hm
 replace hm:=BG hm;obtain⟨l0,rfl,hm⟩:=hm
 replace hm:=Ad hm;obtain⟨v0,l3679_0,rfl,hm⟩:=hm
 replace hm:=Ad hm;obtain⟨v1,l3679_1,rfl,hm⟩:=hm
 replace hm:=Ad hm;obtain⟨v2,l3679_2,rfl,hm⟩:=hm
 replace hm:=Ad hm;obtain⟨v3,l3679_3,rfl,hm⟩:=hm
 replace hm:=AC hm;obtain⟨rfl,hm⟩:=hm
 replace hm:=Ai hm;obtain⟨x0,rfl,hm⟩:=hm
 replace hm:=Ai hm;obtain⟨x1,rfl,hm⟩:=hm
 replace hm:=Ai hm;obtain⟨x2,rfl,hm⟩:=hm
 replace hm:=Al hm;obtain⟨s0,rfl,hm⟩:=hm
 replace hm:=Ab hm;obtain⟨y0,h0,hm⟩:=hm
 obtain rfl:=F5 h0
 replace hm:=Ai hm;obtain⟨x3,rfl,hm⟩:=hm
 replace hm:=Ab hm;obtain⟨l1,h1,hm⟩:=hm
 obtain rfl:=I7 hp0 h1
 replace hm:=Ad hm;obtain⟨v4,l3697_0,rfl,hm⟩:=hm
 replace hm:=Ad hm;obtain⟨v5,l3697_1,rfl,hm⟩:=hm
 replace hm:=Ad hm;obtain⟨v6,l3697_2,rfl,hm⟩:=hm
 replace hm:=Ad hm;obtain⟨v7,l3697_3,rfl,hm⟩:=hm
 replace hm:=AC hm;obtain⟨rfl,hm⟩:=hm
 replace hm:=Ai hm;obtain⟨x4,rfl,hm⟩:=hm
 replace hm:=Ai hm;obtain⟨x5,rfl,hm⟩:=hm
 replace hm:=Ai hm;obtain⟨x6,rfl,hm⟩:=hm
 replace hm:=Ai hm;obtain⟨x7,rfl,hm⟩:=hm
 refine⟨by simp,?_⟩
 exact .same (F':=(fr 26 [(0,(.agg ⟨[zI x0,zI x1,zI x2,Sl.v 1 s0]⟩)),(1,(sc 1 0 1 (NC.n y0) (NC.c y0))),(2,zI x3)])) (H':=(hT 2 [(oC [zI x4,zI x5,zI x6,zI x7])])) (by kernel_rfl) (by kernel_rfl) (Abj pu n x0 x1 x2 s0 (NC.n y0) (NC.c y0) x3 x4 x5 x6 x7 hm)
end
end Go.BkVM
set_option maxRecDepth 100000
set_option maxHeartbeats 20000000
set_option linter.unusedVariables false
namespace Go.BkVM
open Go.Sp Go.BkV
noncomputable section
def Nf (pu:Af) (n n0 c0:Nat) (q0:LV):OV:=
 (bb (Au Ah q0) (bb (an (Nat.ble (0+n0*1) (len q0)) (Au Ah (Aq (n0*1) (Am 0 q0)))) (some (.tuple ⟨[(Sl.v 1 (Sl.mk n0 0 (Aq (n0*1) (Am 0 q0))))]⟩)) none) none)
def K4 (pu:Af) (n:Nat) (ih0:Sl→Int→Nat→Nat→Int→Int→Int→Int→Sl→LV→OV) (s0:Sl) (z0:Int) (n0 c0:Nat) (z1 z2 z3 z4:Int) (s1:Sl) (q0:LV):OV:=
 (bb (Au Ah q0) (bb (AY z1 (Int.ofNat (Sl.n s0))) (oo (pu 81 [(.agg ⟨[.int .i64 z2,.int .i64 z3,.int .i64 z4,Sl.v 1 s1]⟩),.int .i64 z0,.int .i64 z1]) none fun v0=>(oo (Bi .i64 v0) none fun x0=>(oo (EA x0) none fun k1=>(bb (an (Nat.blt k1 (Sl.n s0)) true) (oo (AL (Sl.cs s0) (k1*1)) none fun v1=>(oo (Bi .i64 v1) none fun x1=>(bb (GV 1 8 n0 c0 1 q0) (bb (Au Ah (Br (Am 0 q0) [.int .i64 x1])) (ih0 s0 z0 (n0+1) (2*(n0+1)+bb false 1 0) (Aj .i64 (Int.add z1 (1:Int))) z2 z3 z4 s1 (Br (Am 0 q0) [.int .i64 x1])) none) none))) none)))) (Nf pu n n0 c0 q0)) none)
def K5 (pu:Af) (n w:Nat):Sl→Int→Nat→Nat→Int→Int→Int→Int→Sl→LV→OV:=
 Nat.rec (motive:=fun _=>Sl→Int→Nat→Nat→Int→Int→Int→Int→Sl→LV→OV) (fun _ _ _ _ _ _ _ _ _ _=>none) (fun _ ih0=>K4 pu n ih0) w
def Ph (pu:Af) (n:Nat) (z0 z1 z2:Int) (s0 s1:Sl) (z3:Int):OV:=
 (K5 pu n n s1 z3 0 0 (0:Int) z0 z1 z2 s0 ([]:LV))
def OG (pu:Af) (n:Nat) (args:LV):OV:=
 (ll args none fun a0 args=>(ll args none fun a1 args=>(ll args none fun a2 args=>(ll args (oo (Bt a0) none fun l0=>(ll l0 none fun v0 l0=>(ll l0 none fun v1 l0=>(ll l0 none fun v2 l0=>(ll l0 none fun v3 l0=>(ll l0 (oo (Bi .i64 v0) none fun x0=>(oo (Bi .i64 v1) none fun x1=>(oo (Bi .i64 v2) none fun x2=>(oo (Bj 1 v3) none fun s0=>(oo (Bj 1 a1) none fun s1=>(oo (Bi .i64 a2) none fun x3=>(Ph pu n x0 x1 x2 s0 s1 x3))))))) fun _ _=>none)))))) fun _ _=>none))))
theorem gP (pu:Af) (n n0 c0:Nat) (q0:LV) {v:Value} (hm:Nf pu n n0 c0 q0=some v):BN tt (Bb tabs isP pu (inl pu)) 1 WW (fr 26 [(7,sc 1 0 1 n0 c0)]) (hT 2 [oC q0]) (FJ tt 1 0 [.tmp 6] v):=by
 unfold Nf at hm
 refine .then (.rK ?_)
 replace hm:=Ae hm;obtain⟨h0,hm⟩:=hm
 refine .ghs (fr 26 [(6,sc 1 0 1 n0 c0)]) (hT 2 [oC q0]) (.k [1] [false] [.tmp 6 false] [6] ⟨FD h0,trivial⟩) ?_
 replace hm:=Ae hm;obtain⟨h1,hm⟩:=hm
 refine .ghs (fr 26 [(6,(Sl.v 1 (Sl.mk n0 0 (Aq (n0*1) (Am 0 q0)))))]) AO (.freezeC 1 6 1 (an (Nat.ble (0+n0*1) (len q0)) (Au Ah (Aq (n0*1) (Am 0 q0)))) (F1:=(Fr.puts (fr 26 [(6,sc 1 0 1 n0 c0)]) [(6,(Sl.v 1 (Sl.mk n0 0 (Aq (n0*1) (Am 0 q0)))))])) (H1:=(hT 2 [.dead])) (by kernel_rfl) (by kernel_rfl) h1 (.k0 [false] [] [6])) ?_
 refine .ret ?_
 exact Gi (Sl.v 1 (Sl.mk n0 0 (Aq (n0*1) (Am 0 q0)))) [] (by kernel_rfl) hm (Nat.le_of_ble_eq_true rfl) EJ
theorem Abl (pu:Af) (n:Nat) (z0 z1 z2:Int) (s0 s1:Sl) (z3:Int) {v:Value} (hm:Ph pu n z0 z1 z2 s0 s1 z3=some v):BN tt (Bb tabs isP pu (inl pu)) 1 MF (fr 26 [(0,(.agg ⟨[zI z0,zI z1,zI z2,Sl.v 1 s0]⟩)),(1,Sl.v 1 s1),(2,zI z3)]) AO (FJ tt 1 0 [.tmp 6] v):=by
 unfold Ph at hm
 refine .then (.rK (.ghs (fr 26 [(1,Sl.v 1 s1),(2,zI z3),(3,pt 1 0)]) (hT 2 [(oC [zI z0,zI z1,zI z2,Sl.v 1 s0])]) (.k0 [false] [.tmp 3 false] [1,2,3]) ?_))
 refine .then (.rK (.ghs (fr 26 [(1,Sl.v 1 s1),(2,zI z3),(3,pt 1 0),(7,(.slice none 0 0))]) (hT 2 [(oC [zI z0,zI z1,zI z2,Sl.v 1 s0])]) (.k0 [false] [.tmp 3 false] [1,2,3,7]) ?_))
 refine .join (v:=v) (fun y:Nat×Nat×LV=>((fr 26 [(7,(sc 1 0 1 y.1 y.2.1))]),(hT 2 [(oC y.2.2)]))) (fun y=>Nf pu n y.1 y.2.1 y.2.2) ?_ ?_
 ·rintro⟨n0,c0,q0⟩ hm
  exact gP pu n n0 c0 q0 hm
 ·refine .then (.rK (.ghs (fr 26 [(1,Sl.v 1 s1),(2,zI z3),(3,pt 1 0),(7,(.slice none 0 0)),(8,(zI (0:Int)))]) (hT 2 [(oC [zI z0,zI z1,zI z2,Sl.v 1 s0])]) (.k0 [false] [.tmp 3 false] [1,2,3,7,8]) ?_))
  refine .block (.loopM (v:=v) (fun y:Sl×Int×Nat×Nat×Int×Int×Int×Int×Sl×LV=>((fr 26 [(1,(Sl.v 1 y.1)),(2,(zI y.2.1)),(3,pt 1 0),(7,(sc 2 0 1 y.2.2.1 y.2.2.2.1)),(8,(zI y.2.2.2.2.1))]),(hT 3 [(oC [(zI y.2.2.2.2.2.1),(zI y.2.2.2.2.2.2.1),(zI y.2.2.2.2.2.2.2.1),(Sl.v 1 y.2.2.2.2.2.2.2.2.1)]),(oC y.2.2.2.2.2.2.2.2.2)]))) (fun w y=>K5 pu n w y.1 y.2.1 y.2.2.1 y.2.2.2.1 y.2.2.2.2.1 y.2.2.2.2.2.1 y.2.2.2.2.2.2.1 y.2.2.2.2.2.2.2.1 y.2.2.2.2.2.2.2.2.1 y.2.2.2.2.2.2.2.2.2) n ⟨(s1,z3,0,0,(0:Int),z0,z1,z2,s0,([]:LV)),hm,(.thaw 7 1 (by kernel_rfl) (.k0 [false] [.tmp 3 false,.tmp 7 false] [1,2,3,7,8]))⟩ (fun _=>rfl) ?_)
  rintro w0 ⟨s2,z4,n1,c1,z5,z6,z7,z8,s3,q1⟩ hm
  replace hm:K4 pu n (K5 pu n w0) s2 z4 n1 c1 z5 z6 z7 z8 s3 q1=some v:=hm
  unfold K4 at hm
  refine .then (.then (.rK ?_))
  replace hm:=Ae hm;obtain⟨h0,hm⟩:=hm
  refine .ghs (fr 26 [(1,Sl.v 1 s2),(2,zI z4),(3,pt 1 0),(7,sc 2 0 1 n1 c1),(8,zI z5),(12,(zB (AY z5 (Int.ofNat (Sl.n s2)))))]) (hT 3 [(oC [zI z6,zI z7,zI z8,Sl.v 1 s3]),oC q1]) (.k [2] [false] [.tmp 3 false,.tmp 7 false] [1,2,3,7,8,12] ⟨FD h0,trivial⟩) ?_
  replace hm:=Ag hm;rcases hm with⟨h1,hm⟩ | ⟨h1,hm⟩
  ·refine Bq (AY z5 (Int.ofNat (Sl.n s2))) h1 ?_
   refine .skip (.ghs (fr 26 [(1,Sl.v 1 s2),(2,zI z4),(3,pt 1 0),(7,sc 2 0 1 n1 c1),(8,zI z5)]) (hT 3 [(oC [zI z6,zI z7,zI z8,Sl.v 1 s3]),oC q1]) (.k [2] [false] [.tmp 3 false,.tmp 7 false] [1,2,3,7,8] ⟨FD h0,trivial⟩) ?_)
   refine .then (.block ?_)
   replace hm:=Gt hm;obtain⟨x0,h2,hm⟩:=hm
   replace hm:=Ab hm;obtain⟨k1,h3,hm⟩:=hm
   obtain rfl:=AR h3
   replace hm:=Ae hm;obtain⟨h4,hm⟩:=hm
   replace hm:=Gt hm;obtain⟨x1,h5,hm⟩:=hm
   replace hm:=Ae hm;obtain⟨h6,hm⟩:=hm
   refine .reg (eC 5 ((oo (pu 81 [(.agg ⟨[zI z6,zI z7,zI z8,Sl.v 1 s3]⟩),zI z4,zI z5]) none fun v=>some (v,(hT 3 [(oC [zI z6,zI z7,zI z8,Sl.v 1 s3]),oC q1])))) (AB h2) (eD (keep (hT 3 [(oC [zI z6,zI z7,zI z8,Sl.v 1 s3]),oC q1]) (bb (an (Nat.blt k1 (Sl.n s2)) true) (some (Cv (k1*1) (Sl.cs s2))) none)) (AX h4) (eD (keep (hT 3 [(oC [zI z6,zI z7,zI z8,Sl.v 1 s3]),oC q1]) (AL (Sl.cs s2) (k1*1))) (AZ h5) (eC 1 (Oc 1 8 n1 c1 1 2 q1 [zI x1] [] (hT 4 [(oC [zI z6,zI z7,zI z8,Sl.v 1 s3]),oC q1,(oC [zI x1])])) (I1 h6) (eE))))) ?_
   replace hm:=Ae hm;obtain⟨h7,hm⟩:=hm
   refine .ghs (fr 26 [(1,Sl.v 1 s2),(2,zI z4),(3,pt 1 0),(7,(sc 2 0 1 (n1+1) (d2 (n1+1)))),(8,zI z5)]) (hT 3 [(oC [zI z6,zI z7,zI z8,Sl.v 1 s3]),(oC (Br (Am 0 q1) [zI x1]))]) (.k [4] [false] [.tmp 3 false,.tmp 7 false] [1,2,3,7,8] ⟨FD h7,trivial⟩) ?_
   refine .rK ?_
   exact⟨(s2,z4,(n1+1),(d2 (n1+1)),(Aj .i64 (Int.add z5 (1:Int))),z6,z7,z8,s3,(Br (Am 0 q1) [zI x1])),hm,(.k [2] [false] [.tmp 3 false,.tmp 7 false] [1,2,3,7,8] ⟨FD h7,trivial⟩)⟩
  ·refine BB (AY z5 (Int.ofNat (Sl.n s2))) h1 ?_
   refine .exit ?_
   exact⟨(n1,c1,q1),hm,(.k [2] [false] [.tmp 7 false] [7] ⟨FD h0,trivial⟩)⟩
theorem Abm {call:A8} (pu:Af) (n:Nat) (hcall:call=Bb tabs isP pu (inl pu)) {args:LV} {os:List AJ} {z:Value} (ha:args.length=3) (hk:os.length=0) (hpl:∀ o∈os,plainO o) (hm:OG pu n (args++os.map Ef)=some z):args.length≤26∧BN tt call (tabs.length+0) MF (Fr.made 26 args) (BK tabs os) (FJ tt tabs.length 0 [.tmp 6] z):=by
 subst hcall
 have hq:=BC ha;clear ha;obtain⟨a0,args,rfl,ha⟩:=hq
 have hq:=BC ha;clear ha;obtain⟨a1,args,rfl,ha⟩:=hq
 have hq:=BC ha;clear ha;obtain⟨a2,args,rfl,ha⟩:=hq
 obtain rfl:=len_nil ha
 obtain rfl:=len_nil hk
 replace hm:OG pu n [a0,a1,a2]=some z:=hm
 unfold OG at hm
 replace hm:(oo (Bt a0) none fun l0=>(ll l0 none fun v0 l0=>(ll l0 none fun v1 l0=>(ll l0 none fun v2 l0=>(ll l0 none fun v3 l0=>(ll l0 (oo (Bi .i64 v0) none fun x0=>(oo (Bi .i64 v1) none fun x1=>(oo (Bi .i64 v2) none fun x2=>(oo (Bj 1 v3) none fun s0=>(oo (Bj 1 a1) none fun s1=>(oo (Bi .i64 a2) none fun x3=>(Ph pu n x0 x1 x2 s0 s1 x3))))))) fun _ _=>none))))))=some z:=hm
 replace hm:=BG hm;obtain⟨l0,rfl,hm⟩:=hm
 replace hm:=Ad hm;obtain⟨v0,l3845_0,rfl,hm⟩:=hm
 replace hm:=Ad hm;obtain⟨v1,l3845_1,rfl,hm⟩:=hm
 replace hm:=Ad hm;obtain⟨v2,l3845_2,rfl,hm⟩:=hm
 replace hm:=Ad hm;obtain⟨v3,l3845_3,rfl,hm⟩:=hm
 replace hm:=AC hm;obtain⟨rfl,hm⟩:=hm
 replace hm:=Ai hm;obtain⟨x0,rfl,hm⟩:=hm
 replace hm:=Ai hm;obtain⟨x1,rfl,hm⟩:=hm
 replace hm:=Ai hm;obtain⟨x2,rfl,hm⟩:=hm
 replace hm:=Al hm;obtain⟨s0,rfl,hm⟩:=hm
 replace hm:=Al hm;obtain⟨s1,rfl,hm⟩:=hm
 replace hm:=Ai hm;obtain⟨x3,rfl,hm⟩:=hm
 refine⟨by simp,?_⟩
 exact .same (F':=(fr 26 [(0,(.agg ⟨[zI x0,zI x1,zI x2,Sl.v 1 s0]⟩)),(1,Sl.v 1 s1),(2,zI x3)])) (H':=AO) (by kernel_rfl) (by kernel_rfl) (Abl pu n x0 x1 x2 s0 s1 x3 hm)
end
end Go.BkVM
set_option maxRecDepth 100000
namespace Go.BkVM
open Go.Sp Go.BkV
noncomputable section
def L:Nat:=1000000
def LQ (pu:Af):Af:=fun g args=>
 bb (Nat.beq g 6) (m6 pu L args) (bb (Nat.beq g 9) (m9 pu L args) (bb (Nat.beq g 17) (m17 pu L args) (bb (Nat.beq g 29) (m29 pu L args) (bb (Nat.beq g 30) (m30 pu L args) (bb (Nat.beq g 31) (m31 pu L args) (bb (Nat.beq g 32) (m32 pu L args) (bb (Nat.beq g 34) (m34 pu L args) (bb (Nat.beq g 36) (m36 pu L args) (bb (Nat.beq g 43) (m43 pu L args) (bb (Nat.beq g 46) (m46 pu L args) (bb (Nat.beq g 47) (m47 pu L args) (bb (Nat.beq g 50) (m50 pu L args) (bb (Nat.beq g 51) (m51 pu L args) (bb (Nat.beq g 55) (m55 pu L args) (bb (Nat.beq g 59) (m59 pu L args) (bb (Nat.beq g 62) (m62 pu L args) (bb (Nat.beq g 70) (m70 pu L args) (bb (Nat.beq g 71) (m71 pu L args) (bb (Nat.beq g 72) (m72 pu L args) (bb (Nat.beq g 74) (m74 pu L args) (bb (Nat.beq g 75) (m75 pu L args) (bb (Nat.beq g 76) (m76 pu L args) (bb (Nat.beq g 77) (m77 pu L args) (bb (Nat.beq g 80) (m80 pu L args) (bb (Nat.beq g 81) (m81 pu L args) (bb (Nat.beq g 90) (m90 pu L args) (bb (Nat.beq g 91) (m91 pu L args) (bb (Nat.beq g 92) (m92 pu L args) (bb (Nat.beq g 93) (m93 pu L args) (bb (Nat.beq g 101) (gG pu L args) (bb (Nat.beq g 10650) (MG pu L args) (bb (Nat.beq g 10660) (OA pu L args) (bb (Nat.beq g 10860) (OB pu L args) (bb (Nat.beq g 10670) (OC pu L args) (bb (Nat.beq g 10690) (OD pu L args) (bb (Nat.beq g 10730) (OE pu L args) (bb (Nat.beq g 10480) (QD pu L args) (bb (Nat.beq g 10481) (OG pu L args) (bb (Nat.beq g 10) (UY args) (bb (Nat.beq g 84) (UZ args) (bb (Nat.beq g 98) (U0 args) (none))))))))))))))))))))))))))))))))))))))))))
def Pi:Nat→Af:=fun n=>Nat.rec (motive:=fun _=>Af) (fun _ _=>none) (fun _ ih=>LQ ih) n
end
end Go.BkVM
