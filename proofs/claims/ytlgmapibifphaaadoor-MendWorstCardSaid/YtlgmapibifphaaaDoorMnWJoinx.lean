/- Made from wip. -/
import Derived.Test.YtlgmapibifphaaaDoorProg
import Derived.Test.YtlgmapibifphaaaDoorSpObjx
import Derived.Test.YtlgmapibifphaaaDoorMnWInlx
import Derived.Test.YtlgmapibifphaaaDoorMnWPux

set_option maxRecDepth 100000
namespace Go.Proofs.YtlgmapibifphaaaDoor.MnW
open Go Go.Sp Go.MnW
theorem tL:Ar Tryd.prog [0] 6 ⟨130,c6,[.tmp 4]⟩:=Ar.by Tryd.func6 (by kernel_rfl) (by kernel_rfl) Tryd.ntmps6 (by rw[Tryd.results6]) (by kernel_rfl)
theorem tN:Ar Tryd.prog [0] 12 ⟨218,c12,[.tmp 0]⟩:=Ar.by Tryd.func12 (by kernel_rfl) (by kernel_rfl) Tryd.ntmps12 (by rw[Tryd.results12]) (by kernel_rfl)
theorem tO:Ar Tryd.prog [0] 13 ⟨47,c13,[.tmp 2,.tmp 3]⟩:=Ar.by Tryd.func13 (by kernel_rfl) (by kernel_rfl) Tryd.ntmps13 (by rw[Tryd.results13]) (by kernel_rfl)
theorem tQ:Ar Tryd.prog [0] 15 ⟨26,c15,[.tmp 4]⟩:=Ar.by Tryd.func15 (by kernel_rfl) (by kernel_rfl) Tryd.ntmps15 (by rw[Tryd.results15]) (by kernel_rfl)
theorem tT:Ar Tryd.prog [0] 16 ⟨12,c16,[.tmp 2,.tmp 3]⟩:=Ar.by Tryd.func16 (by kernel_rfl) (by kernel_rfl) Tryd.ntmps16 (by rw[Tryd.results16]) (by kernel_rfl)
theorem tV:Ar Tryd.prog [0] 18 ⟨91,c18,[.tmp 4,.tmp 5]⟩:=Ar.by Tryd.func18 (by kernel_rfl) (by kernel_rfl) Tryd.ntmps18 (by rw[Tryd.results18]) (by kernel_rfl)
theorem tX:Ar Tryd.prog [0] 20 ⟨27,c20,[.tmp 4]⟩:=Ar.by Tryd.func20 (by kernel_rfl) (by kernel_rfl) Tryd.ntmps20 (by rw[Tryd.results20]) (by kernel_rfl)
theorem Yz:Ar Tryd.prog [0] 22 ⟨77,xW,[.tmp 4]⟩:=Ar.by Tryd.func22 (by kernel_rfl) (by kernel_rfl) Tryd.ntmps22 (by rw[Tryd.results22]) (by kernel_rfl)
theorem YA:Ar Tryd.prog [0] 23 ⟨18,xX,[.tmp 2]⟩:=Ar.by Tryd.func23 (by kernel_rfl) (by kernel_rfl) Tryd.ntmps23 (by rw[Tryd.results23]) (by kernel_rfl)
theorem YB:Ar Tryd.prog [0] 24 ⟨26,xY,[.tmp 6]⟩:=Ar.by Tryd.func24 (by kernel_rfl) (by kernel_rfl) Tryd.ntmps24 (by rw[Tryd.results24]) (by kernel_rfl)
theorem tY:Ar Tryd.prog [0] 25 ⟨25,c25,[.cell 6 24,.tmp 7]⟩:=Ar.by Tryd.func25 (by kernel_rfl) (by kernel_rfl) Tryd.ntmps25 (by rw[Tryd.results25]) (by kernel_rfl)
theorem tZ:Ar Tryd.prog [0] 26 ⟨26,c26,[.tmp 4]⟩:=Ar.by Tryd.func26 (by kernel_rfl) (by kernel_rfl) Tryd.ntmps26 (by rw[Tryd.results26]) (by kernel_rfl)
theorem YC:Ar Tryd.prog [0] 27 ⟨22,xZ,[.tmp 4,.tmp 5]⟩:=Ar.by Tryd.func27 (by kernel_rfl) (by kernel_rfl) Tryd.ntmps27 (by rw[Tryd.results27]) (by kernel_rfl)
theorem Zt:Ar Tryd.prog [0] 28 ⟨45,yA,[]⟩:=Ar.by Tryd.func28 (by kernel_rfl) (by kernel_rfl) Tryd.ntmps28 (by rw[Tryd.results28]) (by kernel_rfl)
theorem Zu:Ar Tryd.prog [0] 29 ⟨12,yB,[.tmp 2,.tmp 3]⟩:=Ar.by Tryd.func29 (by kernel_rfl) (by kernel_rfl) Tryd.ntmps29 (by rw[Tryd.results29]) (by kernel_rfl)
theorem uA:Ar Tryd.prog [0] 30 ⟨44,c30,[.tmp 2,.tmp 3]⟩:=Ar.by Tryd.func30 (by kernel_rfl) (by kernel_rfl) Tryd.ntmps30 (by rw[Tryd.results30]) (by kernel_rfl)
theorem uB:Ar Tryd.prog [0] 31 ⟨12,c31,[.tmp 2,.tmp 3]⟩:=Ar.by Tryd.func31 (by kernel_rfl) (by kernel_rfl) Tryd.ntmps31 (by rw[Tryd.results31]) (by kernel_rfl)
theorem uC:Ar Tryd.prog [0] 34 ⟨39,c34,[.tmp 4]⟩:=Ar.by Tryd.func34 (by kernel_rfl) (by kernel_rfl) Tryd.ntmps34 (by rw[Tryd.results34]) (by kernel_rfl)
theorem uD:Ar Tryd.prog [0] 38 ⟨13,c38,[.tmp 2,.tmp 3]⟩:=Ar.by Tryd.func38 (by kernel_rfl) (by kernel_rfl) Tryd.ntmps38 (by rw[Tryd.results38]) (by kernel_rfl)
theorem uE:Ar Tryd.prog [0] 39 ⟨6,c39,[.cell 0 24]⟩:=Ar.by Tryd.func39 (by kernel_rfl) (by kernel_rfl) Tryd.ntmps39 (by rw[Tryd.results39]) (by kernel_rfl)
theorem uF:Ar Tryd.prog [0] 40 ⟨6,c40,[.cell 0 24]⟩:=Ar.by Tryd.func40 (by kernel_rfl) (by kernel_rfl) Tryd.ntmps40 (by rw[Tryd.results40]) (by kernel_rfl)
theorem uG:Ar Tryd.prog [0] 41 ⟨4,c41,[.tmp 2]⟩:=Ar.by Tryd.func41 (by kernel_rfl) (by kernel_rfl) Tryd.ntmps41 (by rw[Tryd.results41]) (by kernel_rfl)
theorem uH:Ar Tryd.prog [0] 42 ⟨4,c42,[.tmp 2]⟩:=Ar.by Tryd.func42 (by kernel_rfl) (by kernel_rfl) Tryd.ntmps42 (by rw[Tryd.results42]) (by kernel_rfl)
theorem uI:Ar Tryd.prog [0] 43 ⟨36,c43,[.cell 6 24]⟩:=Ar.by Tryd.func43 (by kernel_rfl) (by kernel_rfl) Tryd.ntmps43 (by rw[Tryd.results43]) (by kernel_rfl)
theorem Zv:Ar Tryd.prog [0] 44 ⟨13,yC,[.tmp 2]⟩:=Ar.by Tryd.func44 (by kernel_rfl) (by kernel_rfl) Tryd.ntmps44 (by rw[Tryd.results44]) (by kernel_rfl)
end Go.Proofs.YtlgmapibifphaaaDoor.MnW
set_option maxRecDepth 100000
namespace Go.Proofs.YtlgmapibifphaaaDoor.MnW
open Go Go.Sp Go.MnW
theorem Zw:Ar Tryd.prog [0] 47 ⟨73,yD,[.tmp 2]⟩:=Ar.by Tryd.func47 (by kernel_rfl) (by kernel_rfl) Tryd.ntmps47 (by rw[Tryd.results47]) (by kernel_rfl)
theorem uJ:Ar Tryd.prog [0] 48 ⟨46,Si,[.tmp 2]⟩:=Ar.by Tryd.func48 (by kernel_rfl) (by kernel_rfl) Tryd.ntmps48 (by rw[Tryd.results48]) (by kernel_rfl)
theorem Zx:Ar Tryd.prog [0] 51 ⟨27,yE,[.tmp 2]⟩:=Ar.by Tryd.func51 (by kernel_rfl) (by kernel_rfl) Tryd.ntmps51 (by rw[Tryd.results51]) (by kernel_rfl)
theorem Zy:Ar Tryd.prog [0] 52 ⟨15,yF,[.tmp 6]⟩:=Ar.by Tryd.func52 (by kernel_rfl) (by kernel_rfl) Tryd.ntmps52 (by rw[Tryd.results52]) (by kernel_rfl)
theorem Zz:Ar Tryd.prog [0] 53 ⟨10,yG,[.tmp 4]⟩:=Ar.by Tryd.func53 (by kernel_rfl) (by kernel_rfl) Tryd.ntmps53 (by rw[Tryd.results53]) (by kernel_rfl)
theorem uK:Ar Tryd.prog [0] 57 ⟨25,c57,[.tmp 6]⟩:=Ar.by Tryd.func57 (by kernel_rfl) (by kernel_rfl) Tryd.ntmps57 (by rw[Tryd.results57]) (by kernel_rfl)
theorem uL:Ar Tryd.prog [0] 58 ⟨49,c58,[.tmp 2]⟩:=Ar.by Tryd.func58 (by kernel_rfl) (by kernel_rfl) Tryd.ntmps58 (by rw[Tryd.results58]) (by kernel_rfl)
theorem ZA:Ar Tryd.prog [0] 62 ⟨16,yH,[.tmp 2]⟩:=Ar.by Tryd.func62 (by kernel_rfl) (by kernel_rfl) Tryd.ntmps62 (by rw[Tryd.results62]) (by kernel_rfl)
theorem uM:Ar Tryd.prog [0] 63 ⟨8,xB,[.tmp 2]⟩:=Ar.by Tryd.func63 (by kernel_rfl) (by kernel_rfl) Tryd.ntmps63 (by rw[Tryd.results63]) (by kernel_rfl)
theorem ZB:Ar Tryd.prog [0] 64 ⟨11,yI,[.tmp 2]⟩:=Ar.by Tryd.func64 (by kernel_rfl) (by kernel_rfl) Tryd.ntmps64 (by rw[Tryd.results64]) (by kernel_rfl)
theorem ZC:Ar Tryd.prog [0] 65 ⟨8,yJ,[.tmp 2]⟩:=Ar.by Tryd.func65 (by kernel_rfl) (by kernel_rfl) Tryd.ntmps65 (by rw[Tryd.results65]) (by kernel_rfl)
theorem ZE:Ar Tryd.prog [0] 66 ⟨52,yK,[.tmp 4]⟩:=Ar.by Tryd.func66 (by kernel_rfl) (by kernel_rfl) Tryd.ntmps66 (by rw[Tryd.results66]) (by kernel_rfl)
theorem ZF:Ar Tryd.prog [0] 67 ⟨15,yL,[.tmp 2]⟩:=Ar.by Tryd.func67 (by kernel_rfl) (by kernel_rfl) Tryd.ntmps67 (by rw[Tryd.results67]) (by kernel_rfl)
theorem uN:Ar Tryd.prog [0] 68 ⟨94,c68,[.tmp 8]⟩:=Ar.by Tryd.func68 (by kernel_rfl) (by kernel_rfl) Tryd.ntmps68 (by rw[Tryd.results68]) (by kernel_rfl)
theorem ZG:Ar Tryd.prog [0] 71 ⟨38,yM,[.tmp 4]⟩:=Ar.by Tryd.func71 (by kernel_rfl) (by kernel_rfl) Tryd.ntmps71 (by rw[Tryd.results71]) (by kernel_rfl)
theorem uO:Ar Tryd.prog [0] 72 ⟨9,c72,[.tmp 2]⟩:=Ar.by Tryd.func72 (by kernel_rfl) (by kernel_rfl) Tryd.ntmps72 (by rw[Tryd.results72]) (by kernel_rfl)
end Go.Proofs.YtlgmapibifphaaaDoor.MnW
set_option maxRecDepth 100000
namespace Go.Proofs.YtlgmapibifphaaaDoor.MnW
open Go Go.Sp Go.MnW
theorem yR:Cu Tryd.prog 3 ti3:=Cu.by Tryd.underlying3 (inf:=Tryd.t3) (by kernel_rfl) (by kernel_rfl) (by kernel_rfl) (by kernel_rfl) (by kernel_rfl) (fun h=>by cases h)
theorem yS:Cu Tryd.prog 4 ti4:=Cu.by Tryd.underlying4 (inf:=Tryd.t4) (by kernel_rfl) (by kernel_rfl) (by kernel_rfl) (by kernel_rfl) (by kernel_rfl) (fun h=>by cases h)
theorem yT:Cu Tryd.prog 5 ti5:=Cu.by Tryd.underlying5 (inf:=Tryd.t5) (by kernel_rfl) (by kernel_rfl) (by kernel_rfl) (by kernel_rfl) (by kernel_rfl) (fun h=>by cases h)
theorem yU:Cu Tryd.prog 9 ti9:=Cu.by Tryd.underlying9 (inf:=Tryd.t9) (by kernel_rfl) (by kernel_rfl) (by kernel_rfl) (by kernel_rfl) (by kernel_rfl) (fun h=>by cases h)
theorem uP:Cu Tryd.prog 22 rQ:=Cu.by Tryd.underlying22 (inf:=Tryd.t22) (by kernel_rfl) (by kernel_rfl) (by kernel_rfl) (by kernel_rfl) (by kernel_rfl) (fun h=>by cases h)
theorem uQ:Cu Tryd.prog 24 rR:=Cu.by Tryd.underlying24 (inf:=Tryd.t24) (by kernel_rfl) (by kernel_rfl) (by kernel_rfl) (by kernel_rfl) (by kernel_rfl) (fun h=>by cases h)
theorem uR:Cu Tryd.prog 27 rT:=Cu.by Tryd.underlying27 (inf:=Tryd.t27) (by kernel_rfl) (by kernel_rfl) (by kernel_rfl) (by kernel_rfl) (by kernel_rfl) (fun h=>by cases h)
theorem uS:Cu Tryd.prog 28 rU:=Cu.by Tryd.underlying28 (inf:=Tryd.t28) (by kernel_rfl) (by kernel_rfl) (by kernel_rfl) (by kernel_rfl) (by kernel_rfl) (fun h=>by cases h)
theorem uT:Cu Tryd.prog 34 rV:=Cu.by Tryd.underlying34 (inf:=Tryd.t34) (by kernel_rfl) (by kernel_rfl) (by kernel_rfl) (by kernel_rfl) (by kernel_rfl) (fun h=>by cases h)
theorem uU:Cu Tryd.prog 47 rW:=Cu.by Tryd.underlying47 (inf:=Tryd.t47) (by kernel_rfl) (by kernel_rfl) (by kernel_rfl) (by kernel_rfl) (by kernel_rfl) (fun h=>by cases h)
theorem uV:Cu Tryd.prog 51 rX:=Cu.by Tryd.underlying51 (inf:=Tryd.t51) (by kernel_rfl) (by kernel_rfl) (by kernel_rfl) (by kernel_rfl) (by kernel_rfl) (fun _=>⟨_,rfl,Fl.ok (d:=8) (⟨by kernel_rfl,.inr (.inr (.inr (.inl ⟨2,3,[(.int .i64 0)],Tryd.underlying51,⟨by kernel_rfl,.inl ⟨⟨_,Tryd.underlying3⟩,_,_,rfl⟩⟩,by kernel_rfl⟩)))⟩) (by decide) ⟨_,Tryd.underlying51,rfl⟩ (by kernel_rfl)⟩)
theorem uW:Cu Tryd.prog 57 rY:=Cu.by Tryd.underlying57 (inf:=Tryd.t57) (by kernel_rfl) (by kernel_rfl) (by kernel_rfl) (by kernel_rfl) (by kernel_rfl) (fun h=>by cases h)
theorem uX:Cu Tryd.prog 79 rZ:=Cu.by Tryd.underlying79 (inf:=Tryd.t79) (by kernel_rfl) (by kernel_rfl) (by kernel_rfl) (by kernel_rfl) (by kernel_rfl) (fun h=>by cases h)
theorem uY:Cu Tryd.prog 80 sG:=Cu.by Tryd.underlying80 (inf:=Tryd.t80) (by kernel_rfl) (by kernel_rfl) (by kernel_rfl) (by kernel_rfl) (by kernel_rfl) (fun h=>by cases h)
theorem uZ:Cu Tryd.prog 94 sH:=Cu.by Tryd.underlying94 (inf:=Tryd.t94) (by kernel_rfl) (by kernel_rfl) (by kernel_rfl) (by kernel_rfl) (by kernel_rfl) (fun h=>by cases h)
theorem vC:Cu Tryd.prog 97 sI:=Cu.by Tryd.underlying97 (inf:=Tryd.t97) (by kernel_rfl) (by kernel_rfl) (by kernel_rfl) (by kernel_rfl) (by kernel_rfl) (fun _=>⟨_,rfl,Fl.ok (d:=8) (⟨by kernel_rfl,.inr (.inr (.inr (.inl ⟨5,3,[(.int .i64 0)],Tryd.underlying97,⟨by kernel_rfl,.inl ⟨⟨_,Tryd.underlying3⟩,_,_,rfl⟩⟩,by kernel_rfl⟩)))⟩) (by decide) ⟨_,Tryd.underlying97,rfl⟩ (by kernel_rfl)⟩)
theorem iO:Cu Tryd.prog 101 Yt:=Cu.by Tryd.underlying101 (inf:=Tryd.t101) (by kernel_rfl) (by kernel_rfl) (by kernel_rfl) (by kernel_rfl) (by kernel_rfl) (fun h=>by cases h)
theorem iR:Cu Tryd.prog 102 Yu:=Cu.by Tryd.underlying102 (inf:=Tryd.t102) (by kernel_rfl) (by kernel_rfl) (by kernel_rfl) (by kernel_rfl) (by kernel_rfl) (fun h=>by cases h)
theorem iT:Cu Tryd.prog 103 Yv:=Cu.by Tryd.underlying103 (inf:=Tryd.t103) (by kernel_rfl) (by kernel_rfl) (by kernel_rfl) (by kernel_rfl) (by kernel_rfl) (fun h=>by cases h)
theorem iU:Cu Tryd.prog 105 Yw:=Cu.by Tryd.underlying105 (inf:=Tryd.t105) (by kernel_rfl) (by kernel_rfl) (by kernel_rfl) (by kernel_rfl) (by kernel_rfl) (fun h=>by cases h)
theorem iV:Cu Tryd.prog 107 Yx:=Cu.by Tryd.underlying107 (inf:=Tryd.t107) (by kernel_rfl) (by kernel_rfl) (by kernel_rfl) (by kernel_rfl) (by kernel_rfl) (fun _=>⟨_,rfl,Fl.ok (d:=8) (⟨by kernel_rfl,.inr (.inr (.inr (.inl ⟨32,5,[(.int .u8 0)],Tryd.underlying107,⟨by kernel_rfl,.inl ⟨⟨_,Tryd.underlying5⟩,_,_,rfl⟩⟩,by kernel_rfl⟩)))⟩) (by decide) ⟨_,Tryd.underlying107,rfl⟩ (by kernel_rfl)⟩)
theorem iW:Cu Tryd.prog 108 Yy:=Cu.by Tryd.underlying108 (inf:=Tryd.t108) (by kernel_rfl) (by kernel_rfl) (by kernel_rfl) (by kernel_rfl) (by kernel_rfl) (fun h=>by cases h)
theorem ttOk:Jm Tryd.prog tt:=Jm.of_all (t:=sJ) ⟨trivial,⟨trivial,⟨yR,⟨trivial,⟨trivial,trivial,⟨uU,⟨uX,trivial,trivial⟩,trivial⟩⟩,⟨trivial,⟨trivial,trivial,⟨iT,trivial,trivial⟩⟩,trivial⟩⟩,⟨trivial,⟨trivial,trivial,⟨uV,trivial,trivial⟩⟩,⟨uR,⟨trivial,trivial,⟨iV,trivial,trivial⟩⟩,trivial⟩⟩⟩,⟨yT,⟨yU,⟨trivial,⟨trivial,trivial,⟨vC,trivial,trivial⟩⟩,trivial⟩,⟨trivial,⟨trivial,trivial,⟨iU,trivial,trivial⟩⟩,⟨uW,trivial,trivial⟩⟩⟩,⟨trivial,⟨trivial,⟨trivial,trivial,⟨iO,trivial,trivial⟩⟩,trivial⟩,trivial⟩⟩⟩,⟨trivial,⟨yS,⟨trivial,⟨trivial,trivial,⟨trivial,⟨uY,trivial,trivial⟩,trivial⟩⟩,⟨uQ,trivial,trivial⟩⟩,⟨trivial,trivial,⟨uS,⟨trivial,trivial,⟨iW,trivial,trivial⟩⟩,trivial⟩⟩⟩,⟨trivial,⟨trivial,⟨trivial,⟨uT,trivial,trivial⟩,trivial⟩,trivial⟩,⟨trivial,⟨uP,⟨trivial,trivial,⟨iR,trivial,trivial⟩⟩,trivial⟩,⟨trivial,trivial,⟨trivial,⟨uZ,trivial,trivial⟩,trivial⟩⟩⟩⟩⟩⟩
theorem vE:sK.All (Ar Tryd.prog [0]):=⟨trivial,⟨trivial,⟨trivial,⟨trivial,⟨tQ,⟨uB,⟨uM,trivial,trivial⟩,trivial⟩,⟨Zw,trivial,trivial⟩⟩,⟨YA,⟨uE,⟨ZG,trivial,trivial⟩,trivial⟩,trivial⟩⟩,⟨trivial,⟨trivial,⟨trivial,⟨ZF,trivial,trivial⟩,trivial⟩,⟨Zx,trivial,trivial⟩⟩,⟨YC,⟨uI,trivial,trivial⟩,trivial⟩⟩⟩,⟨trivial,⟨trivial,⟨trivial,⟨trivial,⟨ZC,trivial,trivial⟩,trivial⟩,trivial⟩,⟨tY,⟨uG,trivial,trivial⟩,⟨uK,trivial,trivial⟩⟩⟩,⟨tO,⟨trivial,trivial,⟨Zz,trivial,trivial⟩⟩,⟨Zu,trivial,trivial⟩⟩⟩⟩,⟨trivial,⟨trivial,⟨trivial,⟨tT,⟨trivial,⟨ZB,trivial,trivial⟩,trivial⟩,⟨uJ,trivial,trivial⟩⟩,⟨YB,⟨uF,⟨uO,trivial,trivial⟩,trivial⟩,trivial⟩⟩,⟨tN,⟨tX,⟨trivial,⟨uN,trivial,trivial⟩,trivial⟩,⟨Zy,trivial,trivial⟩⟩,⟨Zt,⟨Zv,trivial,trivial⟩,trivial⟩⟩⟩,⟨tL,⟨trivial,⟨tV,⟨uC,⟨ZE,trivial,trivial⟩,trivial⟩,trivial⟩,⟨tZ,⟨uH,trivial,trivial⟩,⟨uL,trivial,trivial⟩⟩⟩,⟨trivial,⟨Yz,⟨uD,trivial,trivial⟩,trivial⟩,⟨uA,trivial,⟨ZA,trivial,trivial⟩⟩⟩⟩⟩⟩
theorem fnsOk (f:FuncId) (r:Xq) (h:LZ f=some r):Ar Tryd.prog [0] f r:=vE.get h
end Go.Proofs.YtlgmapibifphaaaDoor.MnW
set_option maxRecDepth 100000
namespace Go.Proofs.YtlgmapibifphaaaDoor.MnW
open Go Go.Sp Go.MnWM Go.MnW
noncomputable section
theorem fk6:Ar Tryd.prog (List.range tabs.length) 6 ⟨130,Ua,[.tmp 4]⟩:=by
 have h:c6=Ua:=by kernel_rfl
 rw[←h];exact tL
theorem vF:Ar Tryd.prog (List.range tabs.length) 23 ⟨18,Ps,[.tmp 2]⟩:=by
 have h:xX=Ps:=by kernel_rfl
 rw[←h];exact YA
theorem vG:Ar Tryd.prog (List.range tabs.length) 24 ⟨26,Ub,[.tmp 6]⟩:=by
 have h:xY=Ub:=by kernel_rfl
 rw[←h];exact YB
theorem vH:Ar Tryd.prog (List.range tabs.length) 27 ⟨22,Ud,[.tmp 4,.tmp 5]⟩:=by
 have h:xZ=Ud:=by kernel_rfl
 rw[←h];exact YC
theorem vI:Ar Tryd.prog (List.range tabs.length) 44 ⟨13,Ue,[.tmp 2]⟩:=by
 have h:yC=Ue:=by kernel_rfl
 rw[←h];exact Zv
theorem vJ:Ar Tryd.prog (List.range tabs.length) 47 ⟨73,Pt,[.tmp 2]⟩:=by
 have h:yD=Pt:=by kernel_rfl
 rw[←h];exact Zw
theorem vK:Ar Tryd.prog (List.range tabs.length) 51 ⟨27,PI,[.tmp 2]⟩:=by
 have h:yE=PI:=by kernel_rfl
 rw[←h];exact Zx
theorem vL:Ar Tryd.prog (List.range tabs.length) 52 ⟨15,Uf,[.tmp 6]⟩:=by
 have h:yF=Uf:=by kernel_rfl
 rw[←h];exact Zy
theorem vM:Ar Tryd.prog (List.range tabs.length) 53 ⟨10,Ug,[.tmp 4]⟩:=by
 have h:yG=Ug:=by kernel_rfl
 rw[←h];exact Zz
theorem vN:Ar Tryd.prog (List.range tabs.length) 62 ⟨16,PK,[.tmp 2]⟩:=by
 have h:yH=PK:=by kernel_rfl
 rw[←h];exact ZA
theorem vO:Ar Tryd.prog (List.range tabs.length) 64 ⟨11,Uh,[.tmp 2]⟩:=by
 have h:yI=Uh:=by kernel_rfl
 rw[←h];exact ZB
theorem vP:Ar Tryd.prog (List.range tabs.length) 67 ⟨15,Ui,[.tmp 2]⟩:=by
 have h:yL=Ui:=by kernel_rfl
 rw[←h];exact ZF
theorem vQ:Ar Tryd.prog (List.range tabs.length) 71 ⟨38,PM,[.tmp 4]⟩:=by
 have h:yM=PM:=by kernel_rfl
 rw[←h];exact ZG
theorem vR:Ar Tryd.prog (List.range tabs.length) 28 ⟨45,Oy,[]⟩:=by
 have h:yA=Oy:=by kernel_rfl
 rw[←h];exact Zt
theorem vS:Ar Tryd.prog (List.range tabs.length) 22 ⟨77,Oz,[.tmp 4]⟩:=by
 have h:xW=Oz:=by kernel_rfl
 rw[←h];exact Yz
theorem vT:Ar Tryd.prog (List.range tabs.length) 29 ⟨12,OA,[.tmp 2,.tmp 3]⟩:=by
 have h:yB=OA:=by kernel_rfl
 rw[←h];exact Zu
theorem vU:Ar Tryd.prog (List.range tabs.length) 65 ⟨8,QE,[.tmp 2]⟩:=by
 have h:yJ=QE:=by kernel_rfl
 rw[←h];exact ZC
theorem vV:Ar Tryd.prog (List.range tabs.length) 66 ⟨52,OB,[.tmp 4]⟩:=by
 have h:yK=OB:=by kernel_rfl
 rw[←h];exact ZE
theorem K4:∀ t∈tabs,t≠[]:=by intro t ht;simp[tabs] at ht;subst ht;intro h;cases h
theorem K5:∀ t∈tabs,∀ x∈t,BR x=true:=by intro t ht x hx;simp[tabs] at ht;subst ht;simp[PN] at hx;rcases hx with rfl | rfl | rfl | rfl | rfl | rfl | rfl | rfl | rfl | rfl | rfl | rfl | rfl | rfl | rfl | rfl | rfl | rfl | rfl | rfl | rfl | rfl | rfl | rfl | rfl | rfl | rfl | rfl | rfl | rfl | rfl | rfl <;> rfl
theorem iX (hm:Tryd.prog.follows .mixedOrders=true) {pu:Af} (h0:Cn Tryd.prog tabs 6 6 28 (pu 10280)) (h1:Cn Tryd.prog tabs 2 0 22 (pu 10220)) (h2:Cn Tryd.prog tabs 1 0 29 (pu 10290)) (h3:Cn Tryd.prog tabs 1 0 65 (pu 10650)) (h4:Cn Tryd.prog tabs 2 2 66 (pu 10660)):CO Tryd.prog (List.range tabs.length) (inl pu):=fun g args H v H' h=>by
 replace h:bb (Nat.beq g 63) (Sk 1 8 args H) (bb (Nat.beq g 28) (EK tabs [[none],[none],[none],[none],[none],[none]] 6 [.tmp 1 false,.tmp 2 true,.tmp 3 false,.tmp 4 false,.tmp 5 true,.cell 2 0 false] [false,true,false,false,true,false] (pu 10280) args H) (bb (Nat.beq g 22) (Ox tabs 2 (pu 10220) args H) (bb (Nat.beq g 29) (EK tabs [[none,some 1,some 1]] 1 [] [] (pu 10290) args H) (bb (Nat.beq g 65) (EK tabs [[none,some 1,some 1]] 1 [] [true,false] (pu 10650) args H) (bb (Nat.beq g 66) (EK tabs [[none],[none]] 2 [.tmp 0 true,.cell 1 3 false] [true,false] (pu 10660) args H) (none))))))=some (v,H'):=h
 have hq:=Ag h;clear h;rcases hq with⟨e,h⟩ | ⟨_,h⟩
 ·obtain rfl:=Nat.eq_of_beq_eq_true e
  exact Sm ttOk fnsOk hm h
 have hq:=Ag h;clear h;rcases hq with⟨e,h⟩ | ⟨_,h⟩
 ·obtain rfl:=Nat.eq_of_beq_eq_true e
  exact Ip (rs:=[.tmp 1 false,.tmp 2 true,.tmp 3 false,.tmp 4 false,.tmp 5 true,.cell 2 0 false]) K4 K5 h0 h
 have hq:=Ag h;clear h;rcases hq with⟨e,h⟩ | ⟨_,h⟩
 ·obtain rfl:=Nat.eq_of_beq_eq_true e
  exact VY K4 K5 h1 h
 have hq:=Ag h;clear h;rcases hq with⟨e,h⟩ | ⟨_,h⟩
 ·obtain rfl:=Nat.eq_of_beq_eq_true e
  exact Ip (rs:=[]) K4 K5 h2 h
 have hq:=Ag h;clear h;rcases hq with⟨e,h⟩ | ⟨_,h⟩
 ·obtain rfl:=Nat.eq_of_beq_eq_true e
  exact Ip (rs:=[]) K4 K5 h3 h
 have hq:=Ag h;clear h;rcases hq with⟨e,h⟩ | ⟨_,h⟩
 ·obtain rfl:=Nat.eq_of_beq_eq_true e
  exact Ip (rs:=[.tmp 0 true,.cell 1 3 false]) K4 K5 h4 h
 cases h
theorem XZ (hm:Tryd.prog.follows .mixedOrders=true) (hw:BA Tryd.prog tabs 12 (fun args=>ll args (some (.bool true)) fun _ _=>none)) {pu:Af} (hall:(∀ g,Iq g=true→BA Tryd.prog tabs g (pu g))∧Cn Tryd.prog tabs 6 6 28 (pu 10280)∧Cn Tryd.prog tabs 2 0 22 (pu 10220)∧Cn Tryd.prog tabs 1 0 29 (pu 10290)∧Cn Tryd.prog tabs 1 0 65 (pu 10650)∧Cn Tryd.prog tabs 2 2 66 (pu 10660)):(∀ g,Iq g=true→BA Tryd.prog tabs g (Sz pu g))∧Cn Tryd.prog tabs 6 6 28 (Sz pu 10280)∧Cn Tryd.prog tabs 2 0 22 (Sz pu 10220)∧Cn Tryd.prog tabs 1 0 29 (Sz pu 10290)∧Cn Tryd.prog tabs 1 0 65 (Sz pu 10650)∧Cn Tryd.prog tabs 2 2 66 (Sz pu 10660):=by
 obtain⟨hpu,h0,h4,h5,h6,h7⟩:=hall
 have hcall:=TG (P:=Tryd.prog) (tabs:=tabs) K4 K5 (iX hm h0 h4 h5 h6 h7) hpu
 refine⟨fun g hg=>?_,?_,?_,?_,?_,?_⟩
 ·have hg:g∈QF:=CS.1 hg
  simp only[QF,List.mem_cons,List.not_mem_nil,or_false] at hg
  rcases hg with rfl | rfl | rfl | rfl | rfl | rfl | rfl | rfl | rfl | rfl | rfl | rfl | rfl | rfl
  ·exact Aw (tabs:=tabs) (f:=m6 pu L) ttOk hm hcall fk6 fun args v h hc=>r6 pu L rfl h hc
  ·exact hw
  ·exact Aw (tabs:=tabs) (f:=sN pu L) ttOk hm hcall vF fun args v h hc=>r23 pu L rfl h hc
  ·exact Aw (tabs:=tabs) (f:=lX pu L) ttOk hm hcall vG fun args v h hc=>r24 pu L rfl h hc
  ·exact Aw (tabs:=tabs) (f:=xD pu L) ttOk hm hcall vH fun args v h hc=>r27 pu L rfl h hc
  ·exact Aw (tabs:=tabs) (f:=xE pu L) ttOk hm hcall vI fun args v h hc=>r44 pu L rfl h hc
  ·exact Aw (tabs:=tabs) (f:=xG pu L) ttOk hm hcall vJ fun args v h hc=>r47 pu L rfl h hc
  ·exact Aw (tabs:=tabs) (f:=xH pu L) ttOk hm hcall vK fun args v h hc=>r51 pu L rfl h hc
  ·exact Aw (tabs:=tabs) (f:=xI pu L) ttOk hm hcall vL fun args v h hc=>r52 pu L rfl h hc
  ·exact Aw (tabs:=tabs) (f:=xJ pu L) ttOk hm hcall vM fun args v h hc=>r53 pu L rfl h hc
  ·exact Aw (tabs:=tabs) (f:=xK pu L) ttOk hm hcall vN fun args v h hc=>r62 pu L rfl h hc
  ·exact Aw (tabs:=tabs) (f:=m64 pu L) ttOk hm hcall vO fun args v h hc=>r64 pu L rfl h hc
  ·exact Aw (tabs:=tabs) (f:=xL pu L) ttOk hm hcall vP fun args v h hc=>Um pu L rfl h hc
  ·exact Aw (tabs:=tabs) (f:=xM pu L) ttOk hm hcall vQ fun args v h hc=>r71 pu L rfl h hc
 ·exact Dx (tabs:=tabs) (f:=K7 pu L) ttOk hm hcall vR fun args os z h1 h2 h3 h=>iF pu L rfl h1 h2 h3 h
 ·exact Dx (tabs:=tabs) (f:=OH pu L) ttOk hm hcall vS fun args os z h1 h2 h3 h=>iH pu L rfl h1 h2 h3 h
 ·exact Dx (tabs:=tabs) (f:=OJ pu L) ttOk hm hcall vT fun args os z h1 h2 h3 h=>iJ pu L rfl h1 h2 h3 h
 ·exact Dx (tabs:=tabs) (f:=OL pu L) ttOk hm hcall vU fun args os z h1 h2 h3 h=>iL pu L rfl h1 h2 h3 h
 ·exact Dx (tabs:=tabs) (f:=JN pu L) ttOk hm hcall vV fun args os z h1 h2 h3 h=>iN pu L rfl h1 h2 h3 h
theorem iY (hm:Tryd.prog.follows .mixedOrders=true) (hw:BA Tryd.prog tabs 12 (fun args=>ll args (some (.bool true)) fun _ _=>none)):∀ n,(∀ g,Iq g=true→BA Tryd.prog tabs g (Eb n g))∧Cn Tryd.prog tabs 6 6 28 (Eb n 10280)∧Cn Tryd.prog tabs 2 0 22 (Eb n 10220)∧Cn Tryd.prog tabs 1 0 29 (Eb n 10290)∧Cn Tryd.prog tabs 1 0 65 (Eb n 10650)∧Cn Tryd.prog tabs 2 2 66 (Eb n 10660):=fun n=>by
 induction n with
 | zero =>
  refine⟨fun g hg=>?_,?_,?_,?_,?_,?_⟩
  ·have hg:g∈QF:=CS.1 hg
   simp only[QF,List.mem_cons,List.not_mem_nil,or_false] at hg
   rcases hg with rfl | rfl | rfl | rfl | rfl | rfl | rfl | rfl | rfl | rfl | rfl | rfl | rfl | rfl
   ·exact⟨A9 fk6,fun args v h=>by cases h⟩
   ·exact⟨(hw).1,fun args v h=>by cases h⟩
   ·exact⟨A9 vF,fun args v h=>by cases h⟩
   ·exact⟨A9 vG,fun args v h=>by cases h⟩
   ·exact⟨A9 vH,fun args v h=>by cases h⟩
   ·exact⟨A9 vI,fun args v h=>by cases h⟩
   ·exact⟨A9 vJ,fun args v h=>by cases h⟩
   ·exact⟨A9 vK,fun args v h=>by cases h⟩
   ·exact⟨A9 vL,fun args v h=>by cases h⟩
   ·exact⟨A9 vM,fun args v h=>by cases h⟩
   ·exact⟨A9 vN,fun args v h=>by cases h⟩
   ·exact⟨A9 vO,fun args v h=>by cases h⟩
   ·exact⟨A9 vP,fun args v h=>by cases h⟩
   ·exact⟨A9 vQ,fun args v h=>by cases h⟩
  ·exact⟨A9 vR,fun args os z h1 h2 h3 h=>by cases h⟩
  ·exact⟨A9 vS,fun args os z h1 h2 h3 h=>by cases h⟩
  ·exact⟨A9 vT,fun args os z h1 h2 h3 h=>by cases h⟩
  ·exact⟨A9 vU,fun args os z h1 h2 h3 h=>by cases h⟩
  ·exact⟨A9 vV,fun args os z h1 h2 h3 h=>by cases h⟩
 | succ n ih=>exact XZ hm hw ih
theorem pu_ok (hm:Tryd.prog.follows .mixedOrders=true) (hw:BA Tryd.prog tabs 12 (fun args=>ll args (some (.bool true)) fun _ _=>none)):∀ n g,Iq g=true→BA Tryd.prog tabs g (Eb n g):=fun n=>(iY hm hw n).1
end
end Go.Proofs.YtlgmapibifphaaaDoor.MnW
