/- Made from wip. -/
import Derived.Test.YtpfpakeeaehmhaaDoorTbWMod0x
import Derived.Test.YtpfpakeeaehmhaaDoorTbWMod1
import Derived.Test.YtpfpakeeaehmhaaDoorTbWMod2
import Derived.Test.YtpfpakeeaehmhaaDoorTbWMod3
import Derived.Test.YtpfpakeeaehmhaaDoorTbWMod4
import Derived.Test.YtpfpakeeaehmhaaDoorTbWMod5
import Derived.Test.YtpfpakeeaehmhaaDoorTbWMod6

set_option maxRecDepth 100000
set_option maxHeartbeats 20000000
set_option linter.unusedVariables false
namespace Go.TbWM
open Go.Sp Go.TbW
noncomputable section
def HV (pu:Af) (n:Nat) (ih0:Sl→Int→Int→Int→Sl→Int→Sl→Bool→OV) (s0:Sl) (z0 z1 z2:Int) (s1:Sl) (z3:Int) (s2:Sl) (b0:Bool):OV:=
 (ih0 s0 (Aj .i64 (Int.add z0 (1:Int))) z1 z2 s1 z3 s2 b0)
def HY (pu:Af) (n:Nat) (ih0:Sl→Int→Int→Int→Sl→Int→Sl→Bool→OV) (s0:Sl) (z0 z1 z2:Int) (s1:Sl) (z3:Int) (s2:Sl) (b0:Bool):OV:=
 (bb (AY z0 z1) (oo (pu 38 [Sl.v 1 s0,.int .i64 z0]) none fun v0=>(oo (Bf v0) none fun b1=>(bb (nt b1) (oo (pu 76 [Sl.v 1 s0]) none fun v1=>(oo (Bj 1 v1) none fun s3=>(bb (an (Dp (Nat.beq (Sl.fl s3) 1) (Nat.beq (Sl.fl s3) 2)) (EQ ((Sl.n s3)+1) 8)) (bb (an (Nat.ble (0+((Sl.n s3)+1)*1) (len (Br (Sl.cs s3) ([.int .i64 z0]:LV)))) (Au Ah (Aq (((Sl.n s3)+1)*1) (Am 0 (Br (Sl.cs s3) ([.int .i64 z0]:LV)))))) (oo (pu 10751 [(Sl.v 1 (Sl.mk ((Sl.n s3)+1) 0 (Aq (((Sl.n s3)+1)*1) (Am 0 (Br (Sl.cs s3) ([.int .i64 z0]:LV)))))),(.pointer (some ⟨1,0,none⟩)),(.pointer (some ⟨2,0,none⟩)),(.pointer (some ⟨3,0,none⟩)),(.agg ⟨[.int .i64 z1]⟩),(.agg ⟨[(.func (.func 39) ⟨[]⟩ ⟨[(.pointer (some ⟨4,0,none⟩)),(.pointer (some ⟨5,0,none⟩)),(.pointer (some ⟨6,0,none⟩))]⟩)]⟩),(.agg ⟨[(.func (.func 75) ⟨[]⟩ ⟨[(.pointer (some ⟨1,0,none⟩)),(.pointer (some ⟨2,0,none⟩)),(.pointer (some ⟨3,0,none⟩))]⟩)]⟩),(.agg ⟨[.int .i64 z2,(Sl.v 2 s1)]⟩),(.agg ⟨[.int .i64 z3,(Sl.v 2 s2)]⟩),(.agg ⟨[(.bool b0)]⟩)]) none fun v2=>(oo (CQ v2) none fun l0=>(ll l0 none fun v3 l0=>(ll l0 none fun v4 l0=>(ll l0 none fun v5 l0=>(ll l0 none fun v6 l0=>(ll l0 none fun v7 l0=>(ll l0 none fun v8 l0=>(ll l0 none fun v9 l0=>(ll l0 (bb (MC v3) (oo (Bt v4) none fun l1=>(ll l1 none fun v10 l1=>(ll l1 (oo (Bi .i64 v10) none fun x0=>(oo (Bt v5) none fun l2=>(ll l2 none fun v11 l2=>(ll l2 (oo (Om 39 0 v11) none fun l3=>(ll l3 none fun v12 l3=>(ll l3 none fun v13 l3=>(ll l3 none fun v14 l3=>(ll l3 (bb (MK v12 4 0) (bb (MK v13 5 0) (bb (MK v14 6 0) (oo (Bt v6) none fun l4=>(ll l4 none fun v15 l4=>(ll l4 (oo (Om 75 0 v15) none fun l5=>(ll l5 none fun v16 l5=>(ll l5 none fun v17 l5=>(ll l5 none fun v18 l5=>(ll l5 (bb (MK v16 1 0) (bb (MK v17 2 0) (bb (MK v18 3 0) (oo (Bt v7) none fun l6=>(ll l6 none fun v19 l6=>(ll l6 none fun v20 l6=>(ll l6 (oo (Bi .i64 v19) none fun x1=>(oo (Bj 2 v20) none fun s4=>(oo (Bt v8) none fun l7=>(ll l7 none fun v21 l7=>(ll l7 none fun v22 l7=>(ll l7 (oo (Bi .i64 v21) none fun x2=>(oo (Bj 2 v22) none fun s5=>(oo (Bt v9) none fun l8=>(ll l8 none fun v23 l8=>(ll l8 (oo (Bf v23) none fun b2=>(HV pu n ih0 s0 z0 x0 x1 s4 x2 s5 b2)) fun _ _=>none))))) fun _ _=>none)))))) fun _ _=>none)))) none) none) none) fun _ _=>none))))) fun _ _=>none))) none) none) none) fun _ _=>none))))) fun _ _=>none)))) fun _ _=>none))) none) fun _ _=>none)))))))))) none) none))) (HV pu n ih0 s0 z0 z1 z2 s1 z3 s2 b0)))) (some (.tuple ⟨[(.tuple ⟨[]⟩),(.agg ⟨[.int .i64 z1]⟩),(.agg ⟨[(.func (.func 39) ⟨[]⟩ ⟨[(.pointer (some ⟨4,0,none⟩)),(.pointer (some ⟨5,0,none⟩)),(.pointer (some ⟨6,0,none⟩))]⟩)]⟩),(.agg ⟨[(.func (.func 75) ⟨[]⟩ ⟨[(.pointer (some ⟨1,0,none⟩)),(.pointer (some ⟨2,0,none⟩)),(.pointer (some ⟨3,0,none⟩))]⟩)]⟩),(.agg ⟨[.int .i64 z2,(Sl.v 2 s1)]⟩),(.agg ⟨[.int .i64 z3,(Sl.v 2 s2)]⟩),(.agg ⟨[(.bool b0)]⟩)]⟩)))
def Gt (pu:Af) (n w:Nat):Sl→Int→Int→Int→Sl→Int→Sl→Bool→OV:=
 Nat.rec (motive:=fun _=>Sl→Int→Int→Int→Sl→Int→Sl→Bool→OV) (fun _ _ _ _ _ _ _ _=>none) (fun _ ih0=>HY pu n ih0) w
def Jh (pu:Af) (n:Nat) (s0:Sl) (z0 z1:Int) (s1:Sl) (z2:Int) (s2:Sl) (b0:Bool):OV:=
 (bb (Bd (Int.ofNat (Sl.n s0)) z0) (oo (pu 10390 [Sl.v 1 s0,(.pointer (some ⟨1,0,none⟩)),(.pointer (some ⟨2,0,none⟩)),(.pointer (some ⟨3,0,none⟩)),(.agg ⟨[.int .i64 z1,(Sl.v 2 s1)]⟩),(.agg ⟨[.int .i64 z2,(Sl.v 2 s2)]⟩),(.agg ⟨[(.bool b0)]⟩)]) none fun v0=>(oo (CQ v0) none fun l0=>(ll l0 none fun v1 l0=>(ll l0 none fun v2 l0=>(ll l0 none fun v3 l0=>(ll l0 none fun v4 l0=>(ll l0 (bb (MC v1) (oo (Bt v2) none fun l1=>(ll l1 none fun v5 l1=>(ll l1 none fun v6 l1=>(ll l1 (oo (Bi .i64 v5) none fun x0=>(oo (Bj 2 v6) none fun s3=>(oo (Bt v3) none fun l2=>(ll l2 none fun v7 l2=>(ll l2 none fun v8 l2=>(ll l2 (oo (Bi .i64 v7) none fun x1=>(oo (Bj 2 v8) none fun s4=>(oo (Bt v4) none fun l3=>(ll l3 none fun v9 l3=>(ll l3 (oo (Bf v9) none fun b1=>(some (.tuple ⟨[(.tuple ⟨[]⟩),(.agg ⟨[.int .i64 z0]⟩),(.agg ⟨[(.func (.func 39) ⟨[]⟩ ⟨[(.pointer (some ⟨4,0,none⟩)),(.pointer (some ⟨5,0,none⟩)),(.pointer (some ⟨6,0,none⟩))]⟩)]⟩),(.agg ⟨[(.func (.func 75) ⟨[]⟩ ⟨[(.pointer (some ⟨1,0,none⟩)),(.pointer (some ⟨2,0,none⟩)),(.pointer (some ⟨3,0,none⟩))]⟩)]⟩),(.agg ⟨[.int .i64 x0,(Sl.v 2 s3)]⟩),(.agg ⟨[.int .i64 x1,(Sl.v 2 s4)]⟩),(.agg ⟨[(.bool b1)]⟩)]⟩))) fun _ _=>none))))) fun _ _=>none)))))) fun _ _=>none)))) none) fun _ _=>none))))))) (Gt pu n n s0 (0:Int) z0 z1 s1 z2 s2 b0))
def OT (pu:Af) (n:Nat) (args:LV):OV:=
 (ll args none fun a0 args=>(ll args none fun a1 args=>(ll args none fun a2 args=>(ll args none fun a3 args=>(ll args none fun o0 args=>(ll args none fun o1 args=>(ll args none fun o2 args=>(ll args none fun o3 args=>(ll args none fun o4 args=>(ll args none fun o5 args=>(ll args (oo (Bj 1 a0) none fun s0=>(bb (MK a1 1 0) (bb (MK a2 2 0) (bb (MK a3 3 0) (oo (Bt o0) none fun l0=>(ll l0 none fun v0 l0=>(ll l0 (oo (Bi .i64 v0) none fun x0=>(oo (Bt o1) none fun l1=>(ll l1 none fun v1 l1=>(ll l1 (oo (Om 39 0 v1) none fun l2=>(ll l2 none fun v2 l2=>(ll l2 none fun v3 l2=>(ll l2 none fun v4 l2=>(ll l2 (bb (MK v2 4 0) (bb (MK v3 5 0) (bb (MK v4 6 0) (oo (Bt o2) none fun l3=>(ll l3 none fun v5 l3=>(ll l3 (oo (Om 75 0 v5) none fun l4=>(ll l4 none fun v6 l4=>(ll l4 none fun v7 l4=>(ll l4 none fun v8 l4=>(ll l4 (bb (MK v6 1 0) (bb (MK v7 2 0) (bb (MK v8 3 0) (oo (Bt o3) none fun l5=>(ll l5 none fun v9 l5=>(ll l5 none fun v10 l5=>(ll l5 (oo (Bi .i64 v9) none fun x1=>(oo (Bj 2 v10) none fun s1=>(oo (Bt o4) none fun l6=>(ll l6 none fun v11 l6=>(ll l6 none fun v12 l6=>(ll l6 (oo (Bi .i64 v11) none fun x2=>(oo (Bj 2 v12) none fun s2=>(oo (Bt o5) none fun l7=>(ll l7 none fun v13 l7=>(ll l7 (oo (Bf v13) none fun b0=>(Jh pu n s0 x0 x1 s1 x2 s2 b0)) fun _ _=>none))))) fun _ _=>none)))))) fun _ _=>none)))) none) none) none) fun _ _=>none))))) fun _ _=>none))) none) none) none) fun _ _=>none))))) fun _ _=>none)))) fun _ _=>none))) none) none) none)) fun _ _=>none)))))))))))
theorem lW (pu:Af) (n:Nat) (s0:Sl) (z0 z1:Int) (s1:Sl) (z2:Int) (s2:Sl) (b0:Bool) {v:Value} (hm:Jh pu n s0 z0 z1 s1 z2 s2 b0=some v):BN tt (Bb tabs FM pu (inl pu)) 7 KX (fr 29 [(0,Sl.v 1 s0),(1,pt 1 0),(2,(pt 2 0)),(3,(pt 3 0))]) (hT 7 [(oC [zI z0]),(oC [(.func (.func 39) ⟨[]⟩ ⟨[(pt 4 0),(pt 5 0),(pt 6 0)]⟩)]),(oC [(.func (.func 75) ⟨[]⟩ ⟨[pt 1 0,(pt 2 0),(pt 3 0)]⟩)]),(oC [zI z1,(Sl.v 2 s1)]),(oC [zI z2,(Sl.v 2 s2)]),(oC [zB b0])]) (FJ tt 1 6 [] v):=by
 unfold Jh at hm
 refine .then (.then (.rK (.ghs (fr 29 [(0,Sl.v 1 s0),(1,pt 1 0),(2,(pt 2 0)),(3,(pt 3 0)),(9,(zB (Bd (Int.ofNat (Sl.n s0)) z0)))]) (hT 7 [(oC [zI z0]),(oC [(.func (.func 39) ⟨[]⟩ ⟨[(pt 4 0),(pt 5 0),(pt 6 0)]⟩)]),(oC [(.func (.func 75) ⟨[]⟩ ⟨[pt 1 0,(pt 2 0),(pt 3 0)]⟩)]),(oC [zI z1,(Sl.v 2 s1)]),(oC [zI z2,(Sl.v 2 s2)]),(oC [zB b0])]) (.k0 [false,false,true,true,false,false,false] [] [0,1,2,3,9]) ?_)))
 replace hm:=Ag hm;rcases hm with⟨h0,hm⟩ | ⟨h0,hm⟩
 ·refine DL (Bd (Int.ofNat (Sl.n s0)) z0) h0 ?_
  refine .then ?_
  replace hm:=Ab hm;obtain⟨v0,h1,hm⟩:=hm
  replace hm:=Ch hm;obtain⟨l0,rfl,hm⟩:=hm
  replace hm:=Ad hm;obtain⟨v1,l3133_0,rfl,hm⟩:=hm
  replace hm:=Ad hm;obtain⟨v2,l3133_1,rfl,hm⟩:=hm
  replace hm:=Ad hm;obtain⟨v3,l3133_2,rfl,hm⟩:=hm
  replace hm:=Ad hm;obtain⟨v4,l3133_3,rfl,hm⟩:=hm
  replace hm:=AC hm;obtain⟨rfl,hm⟩:=hm
  replace hm:=Ae hm;obtain⟨h2,hm⟩:=hm
  obtain rfl:=Oo h2
  replace hm:=BG hm;obtain⟨l1,rfl,hm⟩:=hm
  replace hm:=Ad hm;obtain⟨v5,l3140_0,rfl,hm⟩:=hm
  replace hm:=Ad hm;obtain⟨v6,l3140_1,rfl,hm⟩:=hm
  replace hm:=AC hm;obtain⟨rfl,hm⟩:=hm
  replace hm:=Ai hm;obtain⟨x0,rfl,hm⟩:=hm
  replace hm:=Al hm;obtain⟨s3,rfl,hm⟩:=hm
  replace hm:=BG hm;obtain⟨l2,rfl,hm⟩:=hm
  replace hm:=Ad hm;obtain⟨v7,l3148_0,rfl,hm⟩:=hm
  replace hm:=Ad hm;obtain⟨v8,l3148_1,rfl,hm⟩:=hm
  replace hm:=AC hm;obtain⟨rfl,hm⟩:=hm
  replace hm:=Ai hm;obtain⟨x1,rfl,hm⟩:=hm
  replace hm:=Al hm;obtain⟨s4,rfl,hm⟩:=hm
  replace hm:=BG hm;obtain⟨l3,rfl,hm⟩:=hm
  replace hm:=Ad hm;obtain⟨v9,l3156_0,rfl,hm⟩:=hm
  replace hm:=AC hm;obtain⟨rfl,hm⟩:=hm
  replace hm:=Be hm;obtain⟨b1,rfl,hm⟩:=hm
  refine .reg (eC 2 (EK tabs [[some 1],[none],[none],[none]] 4 [.tmp 1 false,.tmp 2 false,.tmp 3 false] [false,false,false] (pu 10390) [Sl.v 1 s0,(pt 4 0),(pt 5 0),(pt 6 0)] (hT 7 [(oC [zI z0]),(oC [(.func (.func 39) ⟨[]⟩ ⟨[(pt 4 0),(pt 5 0),(pt 6 0)]⟩)]),(oC [(.func (.func 75) ⟨[]⟩ ⟨[pt 1 0,(pt 2 0),(pt 3 0)]⟩)]),(oC [zI z1,(Sl.v 2 s1)]),(oC [zI z2,(Sl.v 2 s2)]),(oC [zB b0])])) (EL (as:=[Sl.v 1 s0,(pt 4 0),(pt 5 0),(pt 6 0)]) (H1:=(hT 7 [(oC [zI z0]),(oC [(.func (.func 39) ⟨[]⟩ ⟨[(pt 4 0),(pt 5 0),(pt 6 0)]⟩)]),(oC [(.func (.func 75) ⟨[]⟩ ⟨[pt 1 0,(pt 2 0),(pt 3 0)]⟩)]),(oC [zI z1,(Sl.v 2 s1)]),(oC [zI z2,(Sl.v 2 s2)]),(oC [zB b0])])) (BS (Dm (KQ (CV (z:=1) (v:=(Sl.v 1 s0)) (H:=(hT 7 [(oC [zI z0]),(oC [(.func (.func 39) ⟨[]⟩ ⟨[(pt 4 0),(pt 5 0),(pt 6 0)]⟩)]),(oC [(.func (.func 75) ⟨[]⟩ ⟨[pt 1 0,(pt 2 0),(pt 3 0)]⟩)]),(oC [zI z1,(Sl.v 2 s1)]),(oC [zI z2,(Sl.v 2 s2)]),(oC [zB b0])])) (by kernel_rfl) (by kernel_rfl) (by kernel_rfl)))) (BS (Dm Dk) (BS (Dm Dk) (BS (Dm Dk) Gj)))) (EI (H2:=(hT 7 [(oC [zI z0]),(oC [(.func (.func 39) ⟨[]⟩ ⟨[(pt 4 0),(pt 5 0),(pt 6 0)]⟩)]),(oC [(.func (.func 75) ⟨[]⟩ ⟨[pt 1 0,(pt 2 0),(pt 3 0)]⟩)]),(oC [zI x0,(Sl.v 2 s3)]),(oC [zI x1,(Sl.v 2 s4)]),(oC [zB b1])])) (v:=(.tuple ⟨[]⟩)) (v':=(.tuple ⟨[]⟩)) [some 0,some 4,some 5,some 6] [(false,some 4),(false,some 5),(false,some 6)] [(oC [zI z1,(Sl.v 2 s1)]),(oC [zI z2,(Sl.v 2 s2)]),(oC [zB b0])] [Sl.v 1 s0,pt 1 0,(pt 2 0),(pt 3 0)] [(.agg ⟨[zI x0,(Sl.v 2 s3)]⟩),(.agg ⟨[zI x1,(Sl.v 2 s4)]⟩),(.agg ⟨[zB b1]⟩)] [(oC [zI x0,(Sl.v 2 s3)]),(oC [zI x1,(Sl.v 2 s4)]),(oC [zB b1])] [some 0,none,none,none,some 1,some 2,some 3] [(false,(oC [zI x0,(Sl.v 2 s3)])),(false,(oC [zI x1,(Sl.v 2 s4)])),(false,(oC [zB b1]))] [(oC [zI x0,(Sl.v 2 s3)]),(oC [zI x1,(Sl.v 2 s4)]),(oC [zB b1])] (by kernel_rfl) (En (by kernel_rfl) (En (by kernel_rfl) (En (by kernel_rfl) BX))) (Eq.trans (by kernel_rfl) h1) (En rfl (En rfl (En rfl BX))) (En (by kernel_rfl) (En (by kernel_rfl) (En (by kernel_rfl) BX))))) (eE)) ?_
  refine .ghs (fr 29 []) (hT 7 [(oC [zI z0]),(oC [(.func (.func 39) ⟨[]⟩ ⟨[(pt 4 0),(pt 5 0),(pt 6 0)]⟩)]),(oC [(.func (.func 75) ⟨[]⟩ ⟨[pt 1 0,(pt 2 0),(pt 3 0)]⟩)]),(oC [zI x0,(Sl.v 2 s3)]),(oC [zI x1,(Sl.v 2 s4)]),(oC [zB b1])]) (.k0 [false,false,true,true,false,false,false] [] []) ?_
  refine .ghs (fr 29 []) (hT 7 [(oC [zI z0]),(oC [(.func (.func 39) ⟨[]⟩ ⟨[(pt 4 0),(pt 5 0),(pt 6 0)]⟩)]),(oC [(.func (.func 75) ⟨[]⟩ ⟨[pt 1 0,(pt 2 0),(pt 3 0)]⟩)]),(oC [zI x0,(Sl.v 2 s3)]),(oC [zI x1,(Sl.v 2 s4)]),(oC [zB b1])]) (.k0 [false,false,true,true,false,false,false] [] []) ?_
  refine .ret ?_
  exact Gi (.tuple ⟨[]⟩) [(oC [zI z0]),(oC [(.func (.func 39) ⟨[]⟩ ⟨[(pt 4 0),(pt 5 0),(pt 6 0)]⟩)]),(oC [(.func (.func 75) ⟨[]⟩ ⟨[pt 1 0,(pt 2 0),(pt 3 0)]⟩)]),(oC [zI x0,(Sl.v 2 s3)]),(oC [zI x1,(Sl.v 2 s4)]),(oC [zB b1])] (by kernel_rfl) hm (Nat.le_of_ble_eq_true rfl) (Fa (VT _) (Fa (VT _) (Fa (VT _) (Fa (VT _) (Fa (VT _) (Fa (VT _) EJ))))))
 ·refine DT (Bd (Int.ofNat (Sl.n s0)) z0) h0 ?_
  refine .skip (.ghs (fr 29 [(0,Sl.v 1 s0),(1,pt 1 0),(3,(pt 3 0))]) (hT 7 [(oC [zI z0]),(oC [(.func (.func 39) ⟨[]⟩ ⟨[(pt 4 0),(pt 5 0),(pt 6 0)]⟩)]),(oC [(.func (.func 75) ⟨[]⟩ ⟨[pt 1 0,(pt 2 0),(pt 3 0)]⟩)]),(oC [zI z1,(Sl.v 2 s1)]),(oC [zI z2,(Sl.v 2 s2)]),(oC [zB b0])]) (.k0 [false,false,true,true,false,false,false] [] [0,1,3]) ?_)
  refine .then (.rK (.ghs (fr 29 [(0,Sl.v 1 s0),(1,pt 1 0),(3,(pt 3 0)),(5,(zI (0:Int)))]) (hT 7 [(oC [zI z0]),(oC [(.func (.func 39) ⟨[]⟩ ⟨[(pt 4 0),(pt 5 0),(pt 6 0)]⟩)]),(oC [(.func (.func 75) ⟨[]⟩ ⟨[pt 1 0,(pt 2 0),(pt 3 0)]⟩)]),(oC [zI z1,(Sl.v 2 s1)]),(oC [zI z2,(Sl.v 2 s2)]),(oC [zB b0])]) (.k0 [false,false,true,true,false,false,false] [] [0,1,3,5]) ?_))
  refine .block (.loopM (v:=v) (fun y:Sl×Int×Int×Int×Sl×Int×Sl×Bool=>((fr 29 [(0,(Sl.v 1 y.1)),(1,pt 1 0),(3,(pt 3 0)),(5,(zI y.2.1))]),(hT 7 [(oC [(zI y.2.2.1)]),(oC [(.func (.func 39) ⟨[]⟩ ⟨[(pt 4 0),(pt 5 0),(pt 6 0)]⟩)]),(oC [(.func (.func 75) ⟨[]⟩ ⟨[pt 1 0,(pt 2 0),(pt 3 0)]⟩)]),(oC [(zI y.2.2.2.1),(Sl.v 2 y.2.2.2.2.1)]),(oC [(zI y.2.2.2.2.2.1),(Sl.v 2 y.2.2.2.2.2.2.1)]),(oC [(zB y.2.2.2.2.2.2.2)])]))) (fun w y=>Gt pu n w y.1 y.2.1 y.2.2.1 y.2.2.2.1 y.2.2.2.2.1 y.2.2.2.2.2.1 y.2.2.2.2.2.2.1 y.2.2.2.2.2.2.2) n ⟨(s0,(0:Int),z0,z1,s1,z2,s2,b0),hm,(.k0 [false,false,true,true,false,false,false] [] [0,1,3,5])⟩ (fun _=>rfl) ?_)
  rintro w0 ⟨s5,z3,z4,z5,s6,z6,s7,b2⟩ hm
  replace hm:HY pu n (Gt pu n w0) s5 z3 z4 z5 s6 z6 s7 b2=some v:=hm
  unfold HY at hm
  refine .then (.then (.rK (.ghs (fr 29 [(0,Sl.v 1 s5),(1,pt 1 0),(3,(pt 3 0)),(5,zI z3),(15,(zB (AY z3 z4)))]) (hT 7 [(oC [zI z4]),(oC [(.func (.func 39) ⟨[]⟩ ⟨[(pt 4 0),(pt 5 0),(pt 6 0)]⟩)]),(oC [(.func (.func 75) ⟨[]⟩ ⟨[pt 1 0,(pt 2 0),(pt 3 0)]⟩)]),(oC [zI z5,(Sl.v 2 s6)]),(oC [zI z6,(Sl.v 2 s7)]),(oC [zB b2])]) (.k0 [false,false,true,true,false,false,false] [] [0,1,3,5,15]) ?_)))
  replace hm:=Ag hm;rcases hm with⟨h3,hm⟩ | ⟨h3,hm⟩
  ·refine DL (AY z3 z4) h3 ?_
   refine .skip (.ghs (fr 29 [(0,Sl.v 1 s5),(1,pt 1 0),(3,(pt 3 0)),(5,zI z3)]) (hT 7 [(oC [zI z4]),(oC [(.func (.func 39) ⟨[]⟩ ⟨[(pt 4 0),(pt 5 0),(pt 6 0)]⟩)]),(oC [(.func (.func 75) ⟨[]⟩ ⟨[pt 1 0,(pt 2 0),(pt 3 0)]⟩)]),(oC [zI z5,(Sl.v 2 s6)]),(oC [zI z6,(Sl.v 2 s7)]),(oC [zB b2])]) (.k0 [false,false,true,true,false,false,false] [] [0,1,3,5]) ?_)
   refine .join (v:=v) (fun y:Sl×Int×Int×Int×Sl×Int×Sl×Bool=>((fr 29 [(0,(Sl.v 1 y.1)),(1,pt 1 0),(3,(pt 3 0)),(5,(zI y.2.1))]),(hT 7 [(oC [(zI y.2.2.1)]),(oC [(.func (.func 39) ⟨[]⟩ ⟨[(pt 4 0),(pt 5 0),(pt 6 0)]⟩)]),(oC [(.func (.func 75) ⟨[]⟩ ⟨[pt 1 0,(pt 2 0),(pt 3 0)]⟩)]),(oC [(zI y.2.2.2.1),(Sl.v 2 y.2.2.2.2.1)]),(oC [(zI y.2.2.2.2.2.1),(Sl.v 2 y.2.2.2.2.2.2.1)]),(oC [(zB y.2.2.2.2.2.2.2)])]))) (fun y=>HV pu n (Gt pu n w0) y.1 y.2.1 y.2.2.1 y.2.2.2.1 y.2.2.2.2.1 y.2.2.2.2.2.1 y.2.2.2.2.2.2.1 y.2.2.2.2.2.2.2) ?_ ?_
   ·rintro⟨s8,z7,z8,z9,s9,z10,s10,b3⟩ hm
    unfold HV at hm
    refine .rK ?_
    exact⟨(s8,(Aj .i64 (Int.add z7 (1:Int))),z8,z9,s9,z10,s10,b3),hm,(.k0 [false,false,true,true,false,false,false] [] [0,1,3,5])⟩
   ·refine .block (.then ?_)
    replace hm:=Sm hm;obtain⟨b4,h4,hm⟩:=hm
    refine .reg (eC 2 ((oo (pu 38 [Sl.v 1 s5,zI z3]) none fun v=>some (v,(hT 7 [(oC [zI z4]),(oC [(.func (.func 39) ⟨[]⟩ ⟨[(pt 4 0),(pt 5 0),(pt 6 0)]⟩)]),(oC [(.func (.func 75) ⟨[]⟩ ⟨[pt 1 0,(pt 2 0),(pt 3 0)]⟩)]),(oC [zI z5,(Sl.v 2 s6)]),(oC [zI z6,(Sl.v 2 s7)]),(oC [zB b2])])))) (AB h4) (eE)) ?_
    refine .ghs (fr 29 [(0,Sl.v 1 s5),(1,pt 1 0),(3,(pt 3 0)),(5,zI z3),(21,(zB (nt b4)))]) (hT 7 [(oC [zI z4]),(oC [(.func (.func 39) ⟨[]⟩ ⟨[(pt 4 0),(pt 5 0),(pt 6 0)]⟩)]),(oC [(.func (.func 75) ⟨[]⟩ ⟨[pt 1 0,(pt 2 0),(pt 3 0)]⟩)]),(oC [zI z5,(Sl.v 2 s6)]),(oC [zI z6,(Sl.v 2 s7)]),(oC [zB b2])]) (.k0 [false,false,true,true,false,false,false] [] [0,1,3,5,21]) ?_
    replace hm:=Ag hm;rcases hm with⟨h5,hm⟩ | ⟨h5,hm⟩
    ·refine DL (nt b4) h5 ?_
     replace hm:=oQS hm;obtain⟨s11,h6,hm⟩:=hm
     replace hm:=Ae hm;obtain⟨h7,hm⟩:=hm
     replace hm:=Ae hm;obtain⟨h8,hm⟩:=hm
     replace hm:=Ab hm;obtain⟨v10,h9,hm⟩:=hm
     replace hm:=Ch hm;obtain⟨l4,rfl,hm⟩:=hm
     replace hm:=Ad hm;obtain⟨v11,l3591_0,rfl,hm⟩:=hm
     replace hm:=Ad hm;obtain⟨v12,l3591_1,rfl,hm⟩:=hm
     replace hm:=Ad hm;obtain⟨v13,l3591_2,rfl,hm⟩:=hm
     replace hm:=Ad hm;obtain⟨v14,l3591_3,rfl,hm⟩:=hm
     replace hm:=Ad hm;obtain⟨v15,l3591_4,rfl,hm⟩:=hm
     replace hm:=Ad hm;obtain⟨v16,l3591_5,rfl,hm⟩:=hm
     replace hm:=Ad hm;obtain⟨v17,l3591_6,rfl,hm⟩:=hm
     replace hm:=AC hm;obtain⟨rfl,hm⟩:=hm
     replace hm:=Ae hm;obtain⟨h10,hm⟩:=hm
     obtain rfl:=Oo h10
     replace hm:=BG hm;obtain⟨l5,rfl,hm⟩:=hm
     replace hm:=Ad hm;obtain⟨v18,l3601_0,rfl,hm⟩:=hm
     replace hm:=AC hm;obtain⟨rfl,hm⟩:=hm
     replace hm:=Ai hm;obtain⟨x2,rfl,hm⟩:=hm
     replace hm:=BG hm;obtain⟨l6,rfl,hm⟩:=hm
     replace hm:=Ad hm;obtain⟨v19,l3606_0,rfl,hm⟩:=hm
     replace hm:=AC hm;obtain⟨rfl,hm⟩:=hm
     replace hm:=Ab hm;obtain⟨l7,h11,hm⟩:=hm
     obtain rfl:=Hu h11
     replace hm:=Ad hm;obtain⟨v20,l3609_0,rfl,hm⟩:=hm
     replace hm:=Ad hm;obtain⟨v21,l3609_1,rfl,hm⟩:=hm
     replace hm:=Ad hm;obtain⟨v22,l3609_2,rfl,hm⟩:=hm
     replace hm:=AC hm;obtain⟨rfl,hm⟩:=hm
     replace hm:=Ae hm;obtain⟨h12,hm⟩:=hm
     obtain rfl:=KR h12
     replace hm:=Ae hm;obtain⟨h13,hm⟩:=hm
     obtain rfl:=KR h13
     replace hm:=Ae hm;obtain⟨h14,hm⟩:=hm
     obtain rfl:=KR h14
     replace hm:=BG hm;obtain⟨l8,rfl,hm⟩:=hm
     replace hm:=Ad hm;obtain⟨v23,l3617_0,rfl,hm⟩:=hm
     replace hm:=AC hm;obtain⟨rfl,hm⟩:=hm
     replace hm:=Ab hm;obtain⟨l9,h15,hm⟩:=hm
     obtain rfl:=Hu h15
     replace hm:=Ad hm;obtain⟨v24,l3620_0,rfl,hm⟩:=hm
     replace hm:=Ad hm;obtain⟨v25,l3620_1,rfl,hm⟩:=hm
     replace hm:=Ad hm;obtain⟨v26,l3620_2,rfl,hm⟩:=hm
     replace hm:=AC hm;obtain⟨rfl,hm⟩:=hm
     replace hm:=Ae hm;obtain⟨h16,hm⟩:=hm
     obtain rfl:=KR h16
     replace hm:=Ae hm;obtain⟨h17,hm⟩:=hm
     obtain rfl:=KR h17
     replace hm:=Ae hm;obtain⟨h18,hm⟩:=hm
     obtain rfl:=KR h18
     replace hm:=BG hm;obtain⟨l10,rfl,hm⟩:=hm
     replace hm:=Ad hm;obtain⟨v27,l3628_0,rfl,hm⟩:=hm
     replace hm:=Ad hm;obtain⟨v28,l3628_1,rfl,hm⟩:=hm
     replace hm:=AC hm;obtain⟨rfl,hm⟩:=hm
     replace hm:=Ai hm;obtain⟨x3,rfl,hm⟩:=hm
     replace hm:=Al hm;obtain⟨s12,rfl,hm⟩:=hm
     replace hm:=BG hm;obtain⟨l12,rfl,hm⟩:=hm
     replace hm:=Ad hm;obtain⟨v29,l3636_0,rfl,hm⟩:=hm
     replace hm:=Ad hm;obtain⟨v30,l3636_1,rfl,hm⟩:=hm
     replace hm:=AC hm;obtain⟨rfl,hm⟩:=hm
     replace hm:=Ai hm;obtain⟨x4,rfl,hm⟩:=hm
     replace hm:=Al hm;obtain⟨s13,rfl,hm⟩:=hm
     replace hm:=BG hm;obtain⟨l14,rfl,hm⟩:=hm
     replace hm:=Ad hm;obtain⟨v31,l3644_0,rfl,hm⟩:=hm
     replace hm:=AC hm;obtain⟨rfl,hm⟩:=hm
     replace hm:=Be hm;obtain⟨b5,rfl,hm⟩:=hm
     refine .reg (eC 4 ((oo (pu 76 [Sl.v 1 s5]) none fun v=>some (v,(hT 8 [(oC [zI z4]),(oC [(.func (.func 39) ⟨[]⟩ ⟨[(pt 4 0),(pt 5 0),(pt 6 0)]⟩)]),(oC [(.func (.func 75) ⟨[]⟩ ⟨[pt 1 0,(pt 2 0),(pt 3 0)]⟩)]),(oC [zI z5,(Sl.v 2 s6)]),(oC [zI z6,(Sl.v 2 s7)]),(oC [zB b2]),(oC [zI z3])])))) (AB h6) (eD (Uu (hT 8 [(oC [zI z4]),(oC [(.func (.func 39) ⟨[]⟩ ⟨[(pt 4 0),(pt 5 0),(pt 6 0)]⟩)]),(oC [(.func (.func 75) ⟨[]⟩ ⟨[pt 1 0,(pt 2 0),(pt 3 0)]⟩)]),(oC [zI z5,(Sl.v 2 s6)]),(oC [zI z6,(Sl.v 2 s7)]),(oC [zB b2]),(oC [zI z3])]) 1 8 s11 1 ([zI z3]:LV)) (Wi h7) (eD (EK tabs [[some 1],[none],[none],[none]] 4 [.tmp 1 false,.tmp 2 true,.tmp 3 true,.ccap 2 0 0 false,.ccap 2 0 1 false,.ccap 2 0 2 false] [false,true,true,false,false,false] (pu 10751) [(sc 8 0 1 ((Sl.n s11)+1) (d2 ((Sl.n s11)+1))),pt 1 0,(pt 2 0),(pt 3 0)] (hT 9 [(oC [zI z4]),(oC [(.func (.func 39) ⟨[]⟩ ⟨[(pt 4 0),(pt 5 0),(pt 6 0)]⟩)]),(oC [(.func (.func 75) ⟨[]⟩ ⟨[pt 1 0,(pt 2 0),(pt 3 0)]⟩)]),(oC [zI z5,(Sl.v 2 s6)]),(oC [zI z6,(Sl.v 2 s7)]),(oC [zB b2]),(oC [zI z3]),(oC (Br (Sl.cs s11) ([zI z3]:LV)))])) (EL (as:=[(Sl.v 1 (Sl.mk ((Sl.n s11)+1) 0 (Aq (((Sl.n s11)+1)*1) (Am 0 (Br (Sl.cs s11) ([zI z3]:LV)))))),pt 1 0,(pt 2 0),(pt 3 0)]) (H1:=(hT 9 [(oC [zI z4]),(oC [(.func (.func 39) ⟨[]⟩ ⟨[(pt 4 0),(pt 5 0),(pt 6 0)]⟩)]),(oC [(.func (.func 75) ⟨[]⟩ ⟨[pt 1 0,(pt 2 0),(pt 3 0)]⟩)]),(oC [zI z5,(Sl.v 2 s6)]),(oC [zI z6,(Sl.v 2 s7)]),(oC [zB b2]),(oC [zI z3]),.dead])) (BS (Dm (KQ (show ER 1 (sc 8 0 1 ((Sl.n s11)+1) (d2 ((Sl.n s11)+1))) (hT 9 [(oC [zI z4]),(oC [(.func (.func 39) ⟨[]⟩ ⟨[(pt 4 0),(pt 5 0),(pt 6 0)]⟩)]),(oC [(.func (.func 75) ⟨[]⟩ ⟨[pt 1 0,(pt 2 0),(pt 3 0)]⟩)]),(oC [zI z5,(Sl.v 2 s6)]),(oC [zI z6,(Sl.v 2 s7)]),(oC [zB b2]),(oC [zI z3]),(oC (Br (Sl.cs s11) ([zI z3]:LV)))])=some ((Sl.v 1 (Sl.mk ((Sl.n s11)+1) 0 (Aq (((Sl.n s11)+1)*1) (Am 0 (Br (Sl.cs s11) ([zI z3]:LV)))))),(hT 9 [(oC [zI z4]),(oC [(.func (.func 39) ⟨[]⟩ ⟨[(pt 4 0),(pt 5 0),(pt 6 0)]⟩)]),(oC [(.func (.func 75) ⟨[]⟩ ⟨[pt 1 0,(pt 2 0),(pt 3 0)]⟩)]),(oC [zI z5,(Sl.v 2 s6)]),(oC [zI z6,(Sl.v 2 s7)]),(oC [zB b2]),(oC [zI z3]),.dead])) from KH 8 0 1 ((Sl.n s11)+1) (d2 ((Sl.n s11)+1)) (Br (Sl.cs s11) ([zI z3]:LV)) [] (by kernel_rfl) (by kernel_rfl) h8))) (BS (Dm Dk) (BS (Dm Dk) (BS (Dm Dk) Gj)))) (EI (H2:=(hT 9 [(oC [zI x2]),(oC [(.func (.func 39) ⟨[]⟩ ⟨[(pt 4 0),(pt 5 0),(pt 6 0)]⟩)]),(oC [(.func (.func 75) ⟨[]⟩ ⟨[pt 1 0,(pt 2 0),(pt 3 0)]⟩)]),(oC [zI x3,(Sl.v 2 s12)]),(oC [zI x4,(Sl.v 2 s13)]),(oC [zB b5]),(oC [zI z3]),.dead])) (v:=(.tuple ⟨[]⟩)) (v':=(.tuple ⟨[]⟩)) [some 0,some 1,some 2,some 3,some 4,some 5,some 6] [(false,some 1),(true,some 2),(true,some 3),(false,some 4),(false,some 5),(false,some 6)] [(oC [zI z4]),(oC [(.func (.func 39) ⟨[]⟩ ⟨[(pt 4 0),(pt 5 0),(pt 6 0)]⟩)]),(oC [(.func (.func 75) ⟨[]⟩ ⟨[pt 1 0,(pt 2 0),(pt 3 0)]⟩)]),(oC [zI z5,(Sl.v 2 s6)]),(oC [zI z6,(Sl.v 2 s7)]),(oC [zB b2])] [(Sl.v 1 (Sl.mk ((Sl.n s11)+1) 0 (Aq (((Sl.n s11)+1)*1) (Am 0 (Br (Sl.cs s11) ([zI z3]:LV)))))),pt 1 0,(pt 2 0),(pt 3 0)] [(.agg ⟨[zI x2]⟩),(.agg ⟨[(.func (.func 39) ⟨[]⟩ ⟨[(pt 4 0),(pt 5 0),(pt 6 0)]⟩)]⟩),(.agg ⟨[(.func (.func 75) ⟨[]⟩ ⟨[pt 1 0,(pt 2 0),(pt 3 0)]⟩)]⟩),(.agg ⟨[zI x3,(Sl.v 2 s12)]⟩),(.agg ⟨[zI x4,(Sl.v 2 s13)]⟩),(.agg ⟨[zB b5]⟩)] [(oC [zI x2]),(oC [(.func (.func 39) ⟨[]⟩ ⟨[(pt 4 0),(pt 5 0),(pt 6 0)]⟩)]),(oC [(.func (.func 75) ⟨[]⟩ ⟨[pt 1 0,(pt 2 0),(pt 3 0)]⟩)]),(oC [zI x3,(Sl.v 2 s12)]),(oC [zI x4,(Sl.v 2 s13)]),(oC [zB b5])] [some 0,some 1,some 2,some 3,some 4,some 5,some 6,none,none] [(false,(oC [zI x2])),(true,(oC [(.func (.func 39) ⟨[]⟩ ⟨[(pt 4 0),(pt 5 0),(pt 6 0)]⟩)])),(true,(oC [(.func (.func 75) ⟨[]⟩ ⟨[pt 1 0,(pt 2 0),(pt 3 0)]⟩)])),(false,(oC [zI x3,(Sl.v 2 s12)])),(false,(oC [zI x4,(Sl.v 2 s13)])),(false,(oC [zB b5]))] [(oC [zI x2]),(oC [(.func (.func 39) ⟨[]⟩ ⟨[(pt 4 0),(pt 5 0),(pt 6 0)]⟩)]),(oC [(.func (.func 75) ⟨[]⟩ ⟨[pt 1 0,(pt 2 0),(pt 3 0)]⟩)]),(oC [zI x3,(Sl.v 2 s12)]),(oC [zI x4,(Sl.v 2 s13)]),(oC [zB b5])] (by kernel_rfl) (En (by kernel_rfl) (En (by kernel_rfl) (En (by kernel_rfl) (En (by kernel_rfl) (En (by kernel_rfl) (En (by kernel_rfl) BX)))))) (Eq.trans (by kernel_rfl) h9) (En rfl (En rfl (En rfl (En rfl (En rfl (En rfl BX)))))) (En (by kernel_rfl) (En (by kernel_rfl) (En (by kernel_rfl) (En (by kernel_rfl) (En (by kernel_rfl) (En (by kernel_rfl) BX)))))))) (eE)))) ?_
     exact⟨(s5,z3,x2,x3,s12,x4,s13,b5),hm,(.k0 [false,false,true,true,false,false,false] [] [0,1,3,5])⟩
    ·refine DT (nt b4) h5 ?_
     refine .skip ?_
     exact⟨(s5,z3,z4,z5,s6,z6,s7,b2),hm,(.k0 [false,false,true,true,false,false,false] [] [0,1,3,5])⟩
  ·refine DT (AY z3 z4) h3 ?_
   refine .exit ?_
   refine .ghs (fr 29 []) (hT 7 [(oC [zI z4]),(oC [(.func (.func 39) ⟨[]⟩ ⟨[(pt 4 0),(pt 5 0),(pt 6 0)]⟩)]),(oC [(.func (.func 75) ⟨[]⟩ ⟨[pt 1 0,(pt 2 0),(pt 3 0)]⟩)]),(oC [zI z5,(Sl.v 2 s6)]),(oC [zI z6,(Sl.v 2 s7)]),(oC [zB b2])]) (.k0 [false,false,true,true,false,false,false] [] []) ?_
   exact TU (.tuple ⟨[]⟩) [(oC [zI z4]),(oC [(.func (.func 39) ⟨[]⟩ ⟨[(pt 4 0),(pt 5 0),(pt 6 0)]⟩)]),(oC [(.func (.func 75) ⟨[]⟩ ⟨[pt 1 0,(pt 2 0),(pt 3 0)]⟩)]),(oC [zI z5,(Sl.v 2 s6)]),(oC [zI z6,(Sl.v 2 s7)]),(oC [zB b2])] (by kernel_rfl) hm (Nat.le_of_ble_eq_true rfl) (Fa (VT _) (Fa (VT _) (Fa (VT _) (Fa (VT _) (Fa (VT _) (Fa (VT _) EJ))))))
theorem lX {call:A8} (pu:Af) (n:Nat) (hcall:call=Bb tabs FM pu (inl pu)) {args:LV} {os:List AJ} {z:Value} (ha:args.length=4) (hk:os.length=6) (hpl:∀ o∈os,plainO o) (hm:OT pu n (args++os.map Ef)=some z):args.length≤29∧BN tt call (tabs.length+6) KX (Fr.made 29 args) (BK tabs os) (FJ tt tabs.length 6 [] z):=by
 subst hcall
 have hq:=BC ha;clear ha;obtain⟨a0,args,rfl,ha⟩:=hq
 have hq:=BC ha;clear ha;obtain⟨a1,args,rfl,ha⟩:=hq
 have hq:=BC ha;clear ha;obtain⟨a2,args,rfl,ha⟩:=hq
 have hq:=BC ha;clear ha;obtain⟨a3,args,rfl,ha⟩:=hq
 obtain rfl:=len_nil ha
 have hq:=BC hk;clear hk;obtain⟨b0,os,rfl,hk⟩:=hq
 have hp0:plainO b0:=hpl b0 (by simp)
 have hq:=BC hk;clear hk;obtain⟨b1,os,rfl,hk⟩:=hq
 have hp1:plainO b1:=hpl b1 (by simp)
 have hq:=BC hk;clear hk;obtain⟨b2,os,rfl,hk⟩:=hq
 have hp2:plainO b2:=hpl b2 (by simp)
 have hq:=BC hk;clear hk;obtain⟨b3,os,rfl,hk⟩:=hq
 have hp3:plainO b3:=hpl b3 (by simp)
 have hq:=BC hk;clear hk;obtain⟨b4,os,rfl,hk⟩:=hq
 have hp4:plainO b4:=hpl b4 (by simp)
 have hq:=BC hk;clear hk;obtain⟨b5,os,rfl,hk⟩:=hq
 have hp5:plainO b5:=hpl b5 (by simp)
 obtain rfl:=len_nil hk
 replace hm:OT pu n [a0,a1,a2,a3,Ef b0,Ef b1,Ef b2,Ef b3,Ef b4,Ef b5]=some z:=hm
 unfold OT at hm
 replace hm:(oo (Bj 1 a0) none fun s0=>(bb (MK a1 1 0) (bb (MK a2 2 0) (bb (MK a3 3 0) (oo (Bt (Ef b0)) none fun l0=>(ll l0 none fun v0 l0=>(ll l0 (oo (Bi .i64 v0) none fun x0=>(oo (Bt (Ef b1)) none fun l1=>(ll l1 none fun v1 l1=>(ll l1 (oo (Om 39 0 v1) none fun l2=>(ll l2 none fun v2 l2=>(ll l2 none fun v3 l2=>(ll l2 none fun v4 l2=>(ll l2 (bb (MK v2 4 0) (bb (MK v3 5 0) (bb (MK v4 6 0) (oo (Bt (Ef b2)) none fun l3=>(ll l3 none fun v5 l3=>(ll l3 (oo (Om 75 0 v5) none fun l4=>(ll l4 none fun v6 l4=>(ll l4 none fun v7 l4=>(ll l4 none fun v8 l4=>(ll l4 (bb (MK v6 1 0) (bb (MK v7 2 0) (bb (MK v8 3 0) (oo (Bt (Ef b3)) none fun l5=>(ll l5 none fun v9 l5=>(ll l5 none fun v10 l5=>(ll l5 (oo (Bi .i64 v9) none fun x1=>(oo (Bj 2 v10) none fun s1=>(oo (Bt (Ef b4)) none fun l6=>(ll l6 none fun v11 l6=>(ll l6 none fun v12 l6=>(ll l6 (oo (Bi .i64 v11) none fun x2=>(oo (Bj 2 v12) none fun s2=>(oo (Bt (Ef b5)) none fun l7=>(ll l7 none fun v13 l7=>(ll l7 (oo (Bf v13) none fun b6=>(Jh pu n s0 x0 x1 s1 x2 s2 b6)) fun _ _=>none))))) fun _ _=>none)))))) fun _ _=>none)))) none) none) none) fun _ _=>none))))) fun _ _=>none))) none) none) none) fun _ _=>none))))) fun _ _=>none)))) fun _ _=>none))) none) none) none))=some z:=hm
 replace hm:=Al hm;obtain⟨s0,rfl,hm⟩:=hm
 replace hm:=Ae hm;obtain⟨h0,hm⟩:=hm
 obtain rfl:=KR h0
 replace hm:=Ae hm;obtain⟨h1,hm⟩:=hm
 obtain rfl:=KR h1
 replace hm:=Ae hm;obtain⟨h2,hm⟩:=hm
 obtain rfl:=KR h2
 replace hm:=Ab hm;obtain⟨l0,h3,hm⟩:=hm
 obtain rfl:=I7 hp0 h3
 replace hm:=Ad hm;obtain⟨v0,l3660_0,rfl,hm⟩:=hm
 replace hm:=AC hm;obtain⟨rfl,hm⟩:=hm
 replace hm:=Ai hm;obtain⟨x0,rfl,hm⟩:=hm
 replace hm:=Ab hm;obtain⟨l1,h4,hm⟩:=hm
 obtain rfl:=I7 hp1 h4
 replace hm:=Ad hm;obtain⟨v1,l3665_0,rfl,hm⟩:=hm
 replace hm:=AC hm;obtain⟨rfl,hm⟩:=hm
 replace hm:=Ab hm;obtain⟨l2,h5,hm⟩:=hm
 obtain rfl:=Hu h5
 replace hm:=Ad hm;obtain⟨v2,l3668_0,rfl,hm⟩:=hm
 replace hm:=Ad hm;obtain⟨v3,l3668_1,rfl,hm⟩:=hm
 replace hm:=Ad hm;obtain⟨v4,l3668_2,rfl,hm⟩:=hm
 replace hm:=AC hm;obtain⟨rfl,hm⟩:=hm
 replace hm:=Ae hm;obtain⟨h6,hm⟩:=hm
 obtain rfl:=KR h6
 replace hm:=Ae hm;obtain⟨h7,hm⟩:=hm
 obtain rfl:=KR h7
 replace hm:=Ae hm;obtain⟨h8,hm⟩:=hm
 obtain rfl:=KR h8
 replace hm:=Ab hm;obtain⟨l3,h9,hm⟩:=hm
 obtain rfl:=I7 hp2 h9
 replace hm:=Ad hm;obtain⟨v5,l3676_0,rfl,hm⟩:=hm
 replace hm:=AC hm;obtain⟨rfl,hm⟩:=hm
 replace hm:=Ab hm;obtain⟨l4,h10,hm⟩:=hm
 obtain rfl:=Hu h10
 replace hm:=Ad hm;obtain⟨v6,l3679_0,rfl,hm⟩:=hm
 replace hm:=Ad hm;obtain⟨v7,l3679_1,rfl,hm⟩:=hm
 replace hm:=Ad hm;obtain⟨v8,l3679_2,rfl,hm⟩:=hm
 replace hm:=AC hm;obtain⟨rfl,hm⟩:=hm
 replace hm:=Ae hm;obtain⟨h11,hm⟩:=hm
 obtain rfl:=KR h11
 replace hm:=Ae hm;obtain⟨h12,hm⟩:=hm
 obtain rfl:=KR h12
 replace hm:=Ae hm;obtain⟨h13,hm⟩:=hm
 obtain rfl:=KR h13
 replace hm:=Ab hm;obtain⟨l5,h14,hm⟩:=hm
 obtain rfl:=I7 hp3 h14
 replace hm:=Ad hm;obtain⟨v9,l3687_0,rfl,hm⟩:=hm
 replace hm:=Ad hm;obtain⟨v10,l3687_1,rfl,hm⟩:=hm
 replace hm:=AC hm;obtain⟨rfl,hm⟩:=hm
 replace hm:=Ai hm;obtain⟨x1,rfl,hm⟩:=hm
 replace hm:=Al hm;obtain⟨s1,rfl,hm⟩:=hm
 replace hm:=Ab hm;obtain⟨l6,h15,hm⟩:=hm
 obtain rfl:=I7 hp4 h15
 replace hm:=Ad hm;obtain⟨v11,l3695_0,rfl,hm⟩:=hm
 replace hm:=Ad hm;obtain⟨v12,l3695_1,rfl,hm⟩:=hm
 replace hm:=AC hm;obtain⟨rfl,hm⟩:=hm
 replace hm:=Ai hm;obtain⟨x2,rfl,hm⟩:=hm
 replace hm:=Al hm;obtain⟨s2,rfl,hm⟩:=hm
 replace hm:=Ab hm;obtain⟨l7,h16,hm⟩:=hm
 obtain rfl:=I7 hp5 h16
 replace hm:=Ad hm;obtain⟨v13,l3703_0,rfl,hm⟩:=hm
 replace hm:=AC hm;obtain⟨rfl,hm⟩:=hm
 replace hm:=Be hm;obtain⟨b6,rfl,hm⟩:=hm
 refine⟨by simp,?_⟩
 exact .same (F':=(fr 29 [(0,Sl.v 1 s0),(1,pt 1 0),(2,(pt 2 0)),(3,(pt 3 0))])) (H':=(hT 7 [(oC [zI x0]),(oC [(.func (.func 39) ⟨[]⟩ ⟨[(pt 4 0),(pt 5 0),(pt 6 0)]⟩)]),(oC [(.func (.func 75) ⟨[]⟩ ⟨[pt 1 0,(pt 2 0),(pt 3 0)]⟩)]),(oC [zI x1,(Sl.v 2 s1)]),(oC [zI x2,(Sl.v 2 s2)]),(oC [zB b6])])) (by kernel_rfl) (by kernel_rfl) (lW pu n s0 x0 x1 s1 x2 s2 b6 hm)

def KJ (pu:Af) (n:Nat) (s0:Sl) (z0:Int) (s1:Sl) (z1:Int) (s2:Sl) (b0:Bool):OV:=
 (oo (pu 27 [(.agg ⟨[.int .i64 z0,(Sl.v 2 s1)]⟩),Sl.v 1 s0]) none fun v0=>(oo (CQ v0) none fun l0=>(ll l0 none fun v1 l0=>(ll l0 none fun v2 l0=>(ll l0 (oo (Bj 1 v1) none fun s3=>(oo (Bi .i64 v2) none fun x0=>(oo (pu 27 [(.agg ⟨[.int .i64 z1,(Sl.v 2 s2)]⟩),Sl.v 1 s0]) none fun v3=>(oo (CQ v3) none fun l1=>(ll l1 none fun v4 l1=>(ll l1 none fun v5 l1=>(ll l1 (oo (Bj 1 v4) none fun s4=>(oo (Bi .i64 v5) none fun x1=>(bb b0 (bb (Bd x0 (0:Int)) (bb (Bd x1 (0:Int)) (oo (pu 10170 [Sl.v 1 s3,Sl.v 1 s4]) none fun v6=>(oo (CQ v6) none fun l2=>(ll l2 none fun v7 l2=>(ll l2 (oo (Bf v7) none fun b1=>(some (.tuple ⟨[(.tuple ⟨[]⟩),(.agg ⟨[.int .i64 z0,(Sl.v 2 s1)]⟩),(.agg ⟨[.int .i64 z1,(Sl.v 2 s2)]⟩),(.agg ⟨[(.bool b1)]⟩)]⟩))) fun _ _=>none)))) (some (.tuple ⟨[(.tuple ⟨[]⟩),(.agg ⟨[.int .i64 z0,(Sl.v 2 s1)]⟩),(.agg ⟨[.int .i64 z1,(Sl.v 2 s2)]⟩),(.agg ⟨[(.bool false)]⟩)]⟩))) (some (.tuple ⟨[(.tuple ⟨[]⟩),(.agg ⟨[.int .i64 z0,(Sl.v 2 s1)]⟩),(.agg ⟨[.int .i64 z1,(Sl.v 2 s2)]⟩),(.agg ⟨[(.bool false)]⟩)]⟩))) (some (.tuple ⟨[(.tuple ⟨[]⟩),(.agg ⟨[.int .i64 z0,(Sl.v 2 s1)]⟩),(.agg ⟨[.int .i64 z1,(Sl.v 2 s2)]⟩),(.agg ⟨[(.bool false)]⟩)]⟩))))) fun _ _=>none))))))) fun _ _=>none)))))
def OU (pu:Af) (n:Nat) (args:LV):OV:=
 (ll args none fun a0 args=>(ll args none fun a1 args=>(ll args none fun a2 args=>(ll args none fun a3 args=>(ll args none fun o0 args=>(ll args none fun o1 args=>(ll args none fun o2 args=>(ll args (oo (Bj 1 a0) none fun s0=>(bb (MK a1 1 0) (bb (MK a2 2 0) (bb (MK a3 3 0) (oo (Bt o0) none fun l0=>(ll l0 none fun v0 l0=>(ll l0 none fun v1 l0=>(ll l0 (oo (Bi .i64 v0) none fun x0=>(oo (Bj 2 v1) none fun s1=>(oo (Bt o1) none fun l1=>(ll l1 none fun v2 l1=>(ll l1 none fun v3 l1=>(ll l1 (oo (Bi .i64 v2) none fun x1=>(oo (Bj 2 v3) none fun s2=>(oo (Bt o2) none fun l2=>(ll l2 none fun v4 l2=>(ll l2 (oo (Bf v4) none fun b0=>(KJ pu n s0 x0 s1 x1 s2 b0)) fun _ _=>none))))) fun _ _=>none)))))) fun _ _=>none)))) none) none) none)) fun _ _=>none))))))))
theorem lY (pu:Af) (n:Nat) (s0:Sl) (z0:Int) (s1:Sl) (z1:Int) (s2:Sl) (b0:Bool) {v:Value} (hm:KJ pu n s0 z0 s1 z1 s2 b0=some v):BN tt (Bb tabs FM pu (inl pu)) 4 QK (fr 35 [(0,Sl.v 1 s0),(1,pt 1 0),(2,(pt 2 0)),(3,(pt 3 0))]) (hT 4 [(oC [zI z0,(Sl.v 2 s1)]),(oC [zI z1,(Sl.v 2 s2)]),(oC [zB b0])]) (FJ tt 1 3 [] v):=by
 unfold KJ at hm
 refine .then ?_
 replace hm:=Ab hm;obtain⟨v0,h0,hm⟩:=hm
 replace hm:=Ch hm;obtain⟨l0,rfl,hm⟩:=hm
 replace hm:=Ad hm;obtain⟨v1,l2997_0,rfl,hm⟩:=hm
 replace hm:=Ad hm;obtain⟨v2,l2997_1,rfl,hm⟩:=hm
 replace hm:=AC hm;obtain⟨rfl,hm⟩:=hm
 replace hm:=Al hm;obtain⟨s3,rfl,hm⟩:=hm
 replace hm:=Ai hm;obtain⟨x0,rfl,hm⟩:=hm
 refine .reg (eC 2 ((oo (pu 27 [(.agg ⟨[zI z0,(Sl.v 2 s1)]⟩),Sl.v 1 s0]) none fun v=>some (v,(hT 4 [(oC [zI z0,(Sl.v 2 s1)]),(oC [zI z1,(Sl.v 2 s2)]),(oC [zB b0])])))) (AB h0) (eE)) ?_
 refine .ghs (fr 35 [(0,Sl.v 1 s0),(2,(pt 2 0)),(3,(pt 3 0)),(5,Sl.v 1 s3),(6,zI x0)]) (hT 4 [(oC [zI z0,(Sl.v 2 s1)]),(oC [zI z1,(Sl.v 2 s2)]),(oC [zB b0])]) (.k0 [false,false,false,false] [] [0,2,3,5,6]) ?_
 refine .then ?_
 replace hm:=Ab hm;obtain⟨v3,h1,hm⟩:=hm
 replace hm:=Ch hm;obtain⟨l1,rfl,hm⟩:=hm
 replace hm:=Ad hm;obtain⟨v4,l3017_0,rfl,hm⟩:=hm
 replace hm:=Ad hm;obtain⟨v5,l3017_1,rfl,hm⟩:=hm
 replace hm:=AC hm;obtain⟨rfl,hm⟩:=hm
 replace hm:=Al hm;obtain⟨s4,rfl,hm⟩:=hm
 replace hm:=Ai hm;obtain⟨x1,rfl,hm⟩:=hm
 refine .reg (eC 2 ((oo (pu 27 [(.agg ⟨[zI z1,(Sl.v 2 s2)]⟩),Sl.v 1 s0]) none fun v=>some (v,(hT 4 [(oC [zI z0,(Sl.v 2 s1)]),(oC [zI z1,(Sl.v 2 s2)]),(oC [zB b0])])))) (AB h1) (eE)) ?_
 refine .ghs (fr 35 [(3,(pt 3 0)),(5,Sl.v 1 s3),(6,zI x0),(7,Sl.v 1 s4),(8,zI x1)]) (hT 4 [(oC [zI z0,(Sl.v 2 s1)]),(oC [zI z1,(Sl.v 2 s2)]),(oC [zB b0])]) (.k0 [false,false,false,false] [] [3,5,6,7,8]) ?_
 replace hm:=Ag hm;rcases hm with⟨h2,hm⟩ | ⟨h2,hm⟩
 ·replace hm:=Ag hm;rcases hm with⟨h3,hm⟩ | ⟨h3,hm⟩
  ·replace hm:=Ag hm;rcases hm with⟨h4,hm⟩ | ⟨h4,hm⟩
   ·replace hm:=Ab hm;obtain⟨v6,h5,hm⟩:=hm
    replace hm:=Ch hm;obtain⟨l2,rfl,hm⟩:=hm
    replace hm:=Ad hm;obtain⟨v7,l3044_0,rfl,hm⟩:=hm
    replace hm:=AC hm;obtain⟨rfl,hm⟩:=hm
    replace hm:=Be hm;obtain⟨b1,rfl,hm⟩:=hm
    refine .reg (eD (some ((zB b0),(hT 4 [(oC [zI z0,(Sl.v 2 s1)]),(oC [zI z1,(Sl.v 2 s2)]),(oC [zB b0])]))) (show _=some ((zB true),_) from (congrArg (fun bz=>some ((zB bz),(hT 4 [(oC [zI z0,(Sl.v 2 s1)]),(oC [zI z1,(Sl.v 2 s2)]),(oC [zB b0])]))) (show b0=true from h2))) (eC 2 (some ((zB (Bd x0 (0:Int))),(hT 4 [(oC [zI z0,(Sl.v 2 s1)]),(oC [zI z1,(Sl.v 2 s2)]),(oC [zB b0])]))) (show _=some ((zB true),_) from (by rw[show (Bd x0 (0:Int))=true from h3])) (eC 3 (some ((zB (Bd x1 (0:Int))),(hT 4 [(oC [zI z0,(Sl.v 2 s1)]),(oC [zI z1,(Sl.v 2 s2)]),(oC [zB b0])]))) (show _=some ((zB true),_) from (by rw[show (Bd x1 (0:Int))=true from h4])) (eC 4 (EK tabs [[some 1],[some 1]] 2 [] [] (pu 10170) [Sl.v 1 s3,Sl.v 1 s4] (hT 4 [(oC [zI z0,(Sl.v 2 s1)]),(oC [zI z1,(Sl.v 2 s2)]),(oC [zB b0])])) (EL (as:=[Sl.v 1 s3,Sl.v 1 s4]) (H1:=(hT 4 [(oC [zI z0,(Sl.v 2 s1)]),(oC [zI z1,(Sl.v 2 s2)]),(oC [zB b0])])) (BS (Dm (KQ (CV (z:=1) (v:=(Sl.v 1 s3)) (H:=(hT 4 [(oC [zI z0,(Sl.v 2 s1)]),(oC [zI z1,(Sl.v 2 s2)]),(oC [zB b0])])) (by kernel_rfl) (by kernel_rfl) (by kernel_rfl)))) (BS (Dm (KQ (CV (z:=1) (v:=(Sl.v 1 s4)) (H:=(hT 4 [(oC [zI z0,(Sl.v 2 s1)]),(oC [zI z1,(Sl.v 2 s2)]),(oC [zB b0])])) (by kernel_rfl) (by kernel_rfl) (by kernel_rfl)))) Gj)) (EI (H2:=(hT 4 [(oC [zI z0,(Sl.v 2 s1)]),(oC [zI z1,(Sl.v 2 s2)]),(oC [zB b0])])) (v:=(zB b1)) (v':=(zB b1)) [some 0] [] [] [Sl.v 1 s3,Sl.v 1 s4] [] [] [some 0,none,none,none] [] [] (by kernel_rfl) BX (Eq.trans (by kernel_rfl) h5) BX BX)) (eE))))) ?_
    refine .ghs (fr 35 []) (hT 4 [(oC [zI z0,(Sl.v 2 s1)]),(oC [zI z1,(Sl.v 2 s2)]),(oC [zB b1])]) (.k0 [false,false,false,false] [] []) ?_
    exact TU (.tuple ⟨[]⟩) [(oC [zI z0,(Sl.v 2 s1)]),(oC [zI z1,(Sl.v 2 s2)]),(oC [zB b1])] (by kernel_rfl) hm (Nat.le_of_ble_eq_true rfl) (Fa (VT _) (Fa (VT _) (Fa (VT _) EJ)))
   ·refine .reg (eD (some ((zB b0),(hT 4 [(oC [zI z0,(Sl.v 2 s1)]),(oC [zI z1,(Sl.v 2 s2)]),(oC [zB b0])]))) (show _=some ((zB true),_) from (congrArg (fun bz=>some ((zB bz),(hT 4 [(oC [zI z0,(Sl.v 2 s1)]),(oC [zI z1,(Sl.v 2 s2)]),(oC [zB b0])]))) (show b0=true from h2))) (eC 2 (some ((zB (Bd x0 (0:Int))),(hT 4 [(oC [zI z0,(Sl.v 2 s1)]),(oC [zI z1,(Sl.v 2 s2)]),(oC [zB b0])]))) (show _=some ((zB true),_) from (by rw[show (Bd x0 (0:Int))=true from h3])) (eC 3 (some ((zB (Bd x1 (0:Int))),(hT 4 [(oC [zI z0,(Sl.v 2 s1)]),(oC [zI z1,(Sl.v 2 s2)]),(oC [zB b0])]))) (show _=some ((zB false),_) from (by rw[show (Bd x1 (0:Int))=false from h4])) (eE)))) ?_
    refine .ghs (fr 35 []) (hT 4 [(oC [zI z0,(Sl.v 2 s1)]),(oC [zI z1,(Sl.v 2 s2)]),(oC [zB false])]) (.k0 [false,false,false,false] [] []) ?_
    exact TU (.tuple ⟨[]⟩) [(oC [zI z0,(Sl.v 2 s1)]),(oC [zI z1,(Sl.v 2 s2)]),(oC [zB false])] (by kernel_rfl) hm (Nat.le_of_ble_eq_true rfl) (Fa (VT _) (Fa (VT _) (Fa (VT _) EJ)))
  ·refine .reg (eD (some ((zB b0),(hT 4 [(oC [zI z0,(Sl.v 2 s1)]),(oC [zI z1,(Sl.v 2 s2)]),(oC [zB b0])]))) (show _=some ((zB true),_) from (congrArg (fun bz=>some ((zB bz),(hT 4 [(oC [zI z0,(Sl.v 2 s1)]),(oC [zI z1,(Sl.v 2 s2)]),(oC [zB b0])]))) (show b0=true from h2))) (eC 2 (some ((zB (Bd x0 (0:Int))),(hT 4 [(oC [zI z0,(Sl.v 2 s1)]),(oC [zI z1,(Sl.v 2 s2)]),(oC [zB b0])]))) (show _=some ((zB false),_) from (by rw[show (Bd x0 (0:Int))=false from h3])) (eE))) ?_
   refine .ghs (fr 35 []) (hT 4 [(oC [zI z0,(Sl.v 2 s1)]),(oC [zI z1,(Sl.v 2 s2)]),(oC [zB false])]) (.k0 [false,false,false,false] [] []) ?_
   exact TU (.tuple ⟨[]⟩) [(oC [zI z0,(Sl.v 2 s1)]),(oC [zI z1,(Sl.v 2 s2)]),(oC [zB false])] (by kernel_rfl) hm (Nat.le_of_ble_eq_true rfl) (Fa (VT _) (Fa (VT _) (Fa (VT _) EJ)))
 ·refine .reg (eD (some ((zB b0),(hT 4 [(oC [zI z0,(Sl.v 2 s1)]),(oC [zI z1,(Sl.v 2 s2)]),(oC [zB b0])]))) (show _=some ((zB false),_) from (congrArg (fun bz=>some ((zB bz),(hT 4 [(oC [zI z0,(Sl.v 2 s1)]),(oC [zI z1,(Sl.v 2 s2)]),(oC [zB b0])]))) (show b0=false from h2))) (eE)) ?_
  refine .ghs (fr 35 []) (hT 4 [(oC [zI z0,(Sl.v 2 s1)]),(oC [zI z1,(Sl.v 2 s2)]),(oC [zB false])]) (.k0 [false,false,false,false] [] []) ?_
  exact TU (.tuple ⟨[]⟩) [(oC [zI z0,(Sl.v 2 s1)]),(oC [zI z1,(Sl.v 2 s2)]),(oC [zB false])] (by kernel_rfl) hm (Nat.le_of_ble_eq_true rfl) (Fa (VT _) (Fa (VT _) (Fa (VT _) EJ)))
theorem lZ {call:A8} (pu:Af) (n:Nat) (hcall:call=Bb tabs FM pu (inl pu)) {args:LV} {os:List AJ} {z:Value} (ha:args.length=4) (hk:os.length=3) (hpl:∀ o∈os,plainO o) (hm:OU pu n (args++os.map Ef)=some z):args.length≤35∧BN tt call (tabs.length+3) QK (Fr.made 35 args) (BK tabs os) (FJ tt tabs.length 3 [] z):=by
 subst hcall
 have hq:=BC ha;clear ha;obtain⟨a0,args,rfl,ha⟩:=hq
 have hq:=BC ha;clear ha;obtain⟨a1,args,rfl,ha⟩:=hq
 have hq:=BC ha;clear ha;obtain⟨a2,args,rfl,ha⟩:=hq
 have hq:=BC ha;clear ha;obtain⟨a3,args,rfl,ha⟩:=hq
 obtain rfl:=len_nil ha
 have hq:=BC hk;clear hk;obtain⟨b0,os,rfl,hk⟩:=hq
 have hp0:plainO b0:=hpl b0 (by simp)
 have hq:=BC hk;clear hk;obtain⟨b1,os,rfl,hk⟩:=hq
 have hp1:plainO b1:=hpl b1 (by simp)
 have hq:=BC hk;clear hk;obtain⟨b2,os,rfl,hk⟩:=hq
 have hp2:plainO b2:=hpl b2 (by simp)
 obtain rfl:=len_nil hk
 replace hm:OU pu n [a0,a1,a2,a3,Ef b0,Ef b1,Ef b2]=some z:=hm
 unfold OU at hm
 replace hm:(oo (Bj 1 a0) none fun s0=>(bb (MK a1 1 0) (bb (MK a2 2 0) (bb (MK a3 3 0) (oo (Bt (Ef b0)) none fun l0=>(ll l0 none fun v0 l0=>(ll l0 none fun v1 l0=>(ll l0 (oo (Bi .i64 v0) none fun x0=>(oo (Bj 2 v1) none fun s1=>(oo (Bt (Ef b1)) none fun l1=>(ll l1 none fun v2 l1=>(ll l1 none fun v3 l1=>(ll l1 (oo (Bi .i64 v2) none fun x1=>(oo (Bj 2 v3) none fun s2=>(oo (Bt (Ef b2)) none fun l2=>(ll l2 none fun v4 l2=>(ll l2 (oo (Bf v4) none fun b3=>(KJ pu n s0 x0 s1 x1 s2 b3)) fun _ _=>none))))) fun _ _=>none)))))) fun _ _=>none)))) none) none) none))=some z:=hm
 replace hm:=Al hm;obtain⟨s0,rfl,hm⟩:=hm
 replace hm:=Ae hm;obtain⟨h0,hm⟩:=hm
 obtain rfl:=KR h0
 replace hm:=Ae hm;obtain⟨h1,hm⟩:=hm
 obtain rfl:=KR h1
 replace hm:=Ae hm;obtain⟨h2,hm⟩:=hm
 obtain rfl:=KR h2
 replace hm:=Ab hm;obtain⟨l0,h3,hm⟩:=hm
 obtain rfl:=I7 hp0 h3
 replace hm:=Ad hm;obtain⟨v0,l3074_0,rfl,hm⟩:=hm
 replace hm:=Ad hm;obtain⟨v1,l3074_1,rfl,hm⟩:=hm
 replace hm:=AC hm;obtain⟨rfl,hm⟩:=hm
 replace hm:=Ai hm;obtain⟨x0,rfl,hm⟩:=hm
 replace hm:=Al hm;obtain⟨s1,rfl,hm⟩:=hm
 replace hm:=Ab hm;obtain⟨l1,h4,hm⟩:=hm
 obtain rfl:=I7 hp1 h4
 replace hm:=Ad hm;obtain⟨v2,l3082_0,rfl,hm⟩:=hm
 replace hm:=Ad hm;obtain⟨v3,l3082_1,rfl,hm⟩:=hm
 replace hm:=AC hm;obtain⟨rfl,hm⟩:=hm
 replace hm:=Ai hm;obtain⟨x1,rfl,hm⟩:=hm
 replace hm:=Al hm;obtain⟨s2,rfl,hm⟩:=hm
 replace hm:=Ab hm;obtain⟨l2,h5,hm⟩:=hm
 obtain rfl:=I7 hp2 h5
 replace hm:=Ad hm;obtain⟨v4,l3090_0,rfl,hm⟩:=hm
 replace hm:=AC hm;obtain⟨rfl,hm⟩:=hm
 replace hm:=Be hm;obtain⟨b3,rfl,hm⟩:=hm
 refine⟨by simp,?_⟩
 exact .same (F':=(fr 35 [(0,Sl.v 1 s0),(1,pt 1 0),(2,(pt 2 0)),(3,(pt 3 0))])) (H':=(hT 4 [(oC [zI x0,(Sl.v 2 s1)]),(oC [zI x1,(Sl.v 2 s2)]),(oC [zB b3])])) (by kernel_rfl) (by kernel_rfl) (lY pu n s0 x0 s1 x1 s2 b3 hm)
end
end Go.TbWM
set_option maxRecDepth 100000
namespace Go.TbWM
open Go.Sp Go.TbW
noncomputable section
def L:Nat:=1000000
def Qw (pu:Af):Af:=fun g args=>
 bb (Nat.beq g 7) (m7 pu L args) (bb (Nat.beq g 11) (m11 pu L args) (bb (Nat.beq g 13) (m13 pu L args) (bb (Nat.beq g 26) (m26 pu L args) (bb (Nat.beq g 27) (m27 pu L args) (bb (Nat.beq g 32) (m32 pu L args) (bb (Nat.beq g 33) (m33 pu L args) (bb (Nat.beq g 38) (m38 pu L args) (bb (Nat.beq g 46) (m46 pu L args) (bb (Nat.beq g 55) (m55 pu L args) (bb (Nat.beq g 56) (m56 pu L args) (bb (Nat.beq g 57) (m57 pu L args) (bb (Nat.beq g 60) (m60 pu L args) (bb (Nat.beq g 61) (m61 pu L args) (bb (Nat.beq g 64) (m64 pu L args) (bb (Nat.beq g 65) (m65 pu L args) (bb (Nat.beq g 74) (m74 pu L args) (bb (Nat.beq g 76) (m76 pu L args) (bb (Nat.beq g 77) (m77 pu L args) (bb (Nat.beq g 85) (m85 pu L args) (bb (Nat.beq g 89) (m89 pu L args) (bb (Nat.beq g 10360) (OL pu L args) (bb (Nat.beq g 10750) (OM pu L args) (bb (Nat.beq g 10370) (OO pu L args) (bb (Nat.beq g 10170) (OP pu L args) (bb (Nat.beq g 10361) (OQ pu L args) (bb (Nat.beq g 10751) (OT pu L args) (bb (Nat.beq g 10390) (OU pu L args) (bb (Nat.beq g 10) (ll args (some (.bool true)) fun _ _=>none) (none)))))))))))))))))))))))))))))
def BI:Nat→Af:=fun n=>Nat.rec (motive:=fun _=>Af) (fun _ _=>none) (fun _ ih=>Qw ih) n
end
end Go.TbWM
