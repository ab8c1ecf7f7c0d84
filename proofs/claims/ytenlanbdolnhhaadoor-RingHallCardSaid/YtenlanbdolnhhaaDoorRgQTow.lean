/- Made from wip. -/
import Derived.Test.YtenlanbdolnhhaaDoorRgQJoinx
import Derived.Test.YtenlanbdolnhhaaDoorRgQRx

set_option maxRecDepth 100000
set_option maxHeartbeats 0
namespace Go.Proofs.YtenlanbdolnhhaaDoor.RgQ
open Go Go.Sp Go.RgP Go.RgQM Go.RgQ
noncomputable section
def Yc:Af:=fun g=>bb (ED g [10180,10190]) (fun _=>none) (xA g)
def AeM:FuncId→Bool:=fun g=>an (isP g) (nt (ED g [15,3,4,10,11]))
def AgC (n:Nat) (g:FuncId) (args:List Value):Option (Value×Aa):=Mw tabs AeM OQ (inl Yc) tt Qq n g args (KF tabs)
end
theorem SF {P:Program} {tabs:List (List Value)} {g:FuncId} {f f':List Value→Option Value} (h:BA P tabs g f) (hf:∀ a v,f' a=some v→f a=some v):BA P tabs g f':=⟨h.1,fun args v hv=>h.2 args v (hf args v hv)⟩
theorem VZ {P:Program} {tabs:List (List Value)} {na k:Nat} {g:FuncId} {f f':List Value→Option Value} (h:Cn P tabs na k g f) (hf:∀ a v,f' a=some v→f a=some v):Cn P tabs na k g f':=⟨h.1,fun args os z h1 h2 h3 h4=>h.2 args os z h1 h2 h3 (hf _ _ h4)⟩
theorem hw:BA Tryd.prog tabs 15 Wv:=⟨A9 ZK,fun _ _ h=>by cases h⟩
theorem wR (hm:Tryd.prog.follows .mixedOrders=true):∀ g,isP g=true→BA Tryd.prog tabs g (OQ g):=fun g hg=>by
 have h:BA Tryd.prog tabs g (MG g):=(Sk hm hw 30).1 g hg
 by_cases e1:g=31
 ·subst e1;exact SF h Agl
 ·by_cases e2:g=22
  ·subst e2;exact SF h Agm
  ·by_cases e3:g=30
   ·subst e3;exact SF h Agn
   ·have:OQ g=MG g:=by unfold OQ;rw[FY e1,FY e2,FY e3];rfl
    rw[this];exact h
theorem eV (g:FuncId) (h4:Nat.beq g 31=false) (h5:Nat.beq g 22=false) (h6:Nat.beq g 30=false):OQ g=MG g:=by unfold OQ;rw[h4,AA,h5,AA,h6,AA]
theorem eW (g:FuncId) (h:Nat.beq g 10160=false):xA g=MG g:=by unfold xA;rw[h,AA]
theorem eA:xA 10160=vU:=by unfold xA;rw[show Nat.beq 10160 10160=true from rfl,Ak]
theorem eW2 (g:FuncId) (h:ED g [10180,10190]=false):Yc g=xA g:=by unfold Yc;rw[h,AA]
theorem i0 (hm:Tryd.prog.follows .mixedOrders=true):CO Tryd.prog (List.range tabs.length) (inl Yc):=by
 have all:(∀ g,isP g=true→BA Tryd.prog tabs g (MG g))∧BA Tryd.prog tabs 43 (MG 43)∧Cn Tryd.prog tabs 1 0 17 (MG 10170)∧Cn Tryd.prog tabs 5 3 18 (MG 10180)∧Cn Tryd.prog tabs 3 3 19 (MG 10190)∧Cn Tryd.prog tabs 2 1 16 (MG 10160):=Sk hm hw 30
 exact Sj hm (pu := Yc) (by rw [eW2 43 rfl, eW 43 rfl]; exact all.2.1) (by rw [eW2 10170 rfl, eW 10170 rfl]; exact all.2.2.1) (VZ all.2.2.2.1 fun a v h => by cases h) (VZ all.2.2.2.2.1 fun a v h => by cases h)
  (by rw[eW2 10160 rfl,eA];exact VZ all.2.2.2.2.2 orA)
theorem AeN:kP (AgC 400 15 [])=some (.bool true):=by kernel_rfl
theorem AgE (hm:Tryd.prog.follows .mixedOrders=true):BA Tryd.prog tabs 15 bY:=by
 refine I5 (tabs:=tabs) (n:=400) (g:=15) (H:=KF tabs) (isP:=AeM) (pu:=OQ) (inl:=inl Yc) Fh Hz HV Ad0 hm (fun g hg=>wR hm g (Av hg).1) (i0 hm) (fun i=>RN i) rfl (A9 ZK) fun args v h=>?_
 replace h:=AC h;obtain⟨rfl,h⟩:=h
 injection h with h;subst h
 exact⟨rfl,.inl AeN⟩
theorem hcV (hm:Tryd.prog.follows .mixedOrders=true):CO Tryd.prog (List.range tabs.length) (Bb tabs isP OQ (inl OQ)):=by
 have all:(∀ g,isP g=true→BA Tryd.prog tabs g (MG g))∧BA Tryd.prog tabs 43 (MG 43)∧Cn Tryd.prog tabs 1 0 17 (MG 10170)∧Cn Tryd.prog tabs 5 3 18 (MG 10180)∧Cn Tryd.prog tabs 3 3 19 (MG 10190)∧Cn Tryd.prog tabs 2 1 16 (MG 10160):=Sk hm hw 30
 exact TG (P:=Tryd.prog) (tabs:=tabs) (pu:=OQ) Hz HV (Sj hm (pu:=OQ) (by rw[eV 43 rfl rfl rfl];exact all.2.1) (by rw[eV 10170 rfl rfl rfl];exact all.2.2.1) (by rw[eV 10180 rfl rfl rfl];exact all.2.2.2.1) (by rw[eV 10190 rfl rfl rfl];exact all.2.2.2.2.1) (by rw[eV 10160 rfl rfl rfl];exact all.2.2.2.2.2)) (wR hm)
theorem AgF (hm:Tryd.prog.follows .mixedOrders=true):BA Tryd.prog tabs 10 (kW OQ L):=Aw (tabs:=tabs) (f:=kW OQ L) Fh hm (hcV hm) uV fun args v h hx=>r10 OQ L rfl h hx
theorem AgG (hm:Tryd.prog.follows .mixedOrders=true):BA Tryd.prog tabs 11 (fE OQ L):=Aw (tabs:=tabs) (f:=fE OQ L) Fh hm (hcV hm) uW fun args v h hx=>r11 OQ L rfl h hx
theorem eB2 (g:FuncId) (h1:Nat.beq g 15=false) (h2:Nat.beq g 10=false) (h3:Nat.beq g 11=false):puB g=OQ g:=by unfold puB;rw[h1,AA,h2,AA,h3,AA]
theorem AgH:puB 15=bY:=by unfold puB;rw[show Nat.beq 15 15=true from rfl,Ak]
theorem AgI:puB 10=kW OQ L:=by unfold puB;rw[show Nat.beq 10 15=false from rfl,AA,show Nat.beq 10 10=true from rfl,Ak]
theorem AgJ:puB 11=fE OQ L:=by unfold puB;rw[show Nat.beq 11 15=false from rfl,AA,show Nat.beq 11 10=false from rfl,AA,show Nat.beq 11 11=true from rfl,Ak]
theorem AgK (hm:Tryd.prog.follows .mixedOrders=true):∀ g,isP g=true→BA Tryd.prog tabs g (puB g):=fun g hg=>by
 by_cases e1:g=15
 ·subst e1;rw[AgH];exact AgE hm
 ·by_cases e2:g=10
  ·subst e2;rw[AgI];exact AgF hm
  ·by_cases e3:g=11
   ·subst e3;rw[AgJ];exact AgG hm
   ·rw[eB2 g (FY e1) (FY e2) (FY e3)];exact wR hm g hg
theorem hcB (hm:Tryd.prog.follows .mixedOrders=true):CO Tryd.prog (List.range tabs.length) (Bb tabs isP puB (inl puB)):=by
 have all:(∀ g,isP g=true→BA Tryd.prog tabs g (MG g))∧BA Tryd.prog tabs 43 (MG 43)∧Cn Tryd.prog tabs 1 0 17 (MG 10170)∧Cn Tryd.prog tabs 5 3 18 (MG 10180)∧Cn Tryd.prog tabs 3 3 19 (MG 10190)∧Cn Tryd.prog tabs 2 1 16 (MG 10160):=Sk hm hw 30
 have e:∀ g,Nat.beq g 15=false→Nat.beq g 10=false→Nat.beq g 11=false→Nat.beq g 31=false→Nat.beq g 22=false→Nat.beq g 30=false→puB g=MG g:=fun g h1 h2 h3 h4 h5 h6=>(eB2 g h1 h2 h3).trans (eV g h4 h5 h6)
 exact TG (P:=Tryd.prog) (tabs:=tabs) (pu:=puB) Hz HV (Sj hm (pu:=puB) (by rw[e 43 rfl rfl rfl rfl rfl rfl];exact all.2.1) (by rw[e 10170 rfl rfl rfl rfl rfl rfl];exact all.2.2.1) (by rw[e 10180 rfl rfl rfl rfl rfl rfl];exact all.2.2.2.1) (by rw[e 10190 rfl rfl rfl rfl rfl rfl];exact all.2.2.2.2.1) (by rw[e 10160 rfl rfl rfl rfl rfl rfl];exact all.2.2.2.2.2)) (AgK hm)
theorem lawOk (hm:Tryd.prog.follows .mixedOrders=true):BA Tryd.prog tabs 3 (m3 puB L):=Aw (tabs:=tabs) (f:=m3 puB L) Fh hm (hcB hm) fk3 fun args v h hx=>r3 puB L rfl h hx
theorem wfU {n:Int} (h:(Lit.int .u8 n).wf=true):0≤n∧n < 256:=by
 simp only[Lit.wf,Bool.and_eq_true,decide_eq_true_eq] at h
 have h1:(0:Int)≤n:=h.1
 have h2:n≤(255:Int):=h.2
 omega
end Go.Proofs.YtenlanbdolnhhaaDoor.RgQ
