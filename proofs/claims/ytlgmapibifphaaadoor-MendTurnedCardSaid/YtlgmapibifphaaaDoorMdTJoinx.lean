/- Made from wip. -/
import Derived.Test.YtlgmapibifphaaaDoorProg
import Derived.Test.YtlgmapibifphaaaDoorSpObjx
import Derived.Test.YtlgmapibifphaaaDoorMdTCodex
import Derived.Test.YtlgmapibifphaaaDoorMdTPux

set_option maxRecDepth 100000
namespace Go.Proofs.YtlgmapibifphaaaDoor.MdT
open Go Go.Sp Go.MdT
theorem sI:Ar Tryd.prog [0] 8 ⟨269,c8,[.tmp 8]⟩:=Ar.by Tryd.func8 (by kernel_rfl) (by kernel_rfl) Tryd.ntmps8 (by rw[Tryd.results8]) (by kernel_rfl)
theorem sJ:Ar Tryd.prog [0] 12 ⟨218,zC,[.tmp 0]⟩:=Ar.by Tryd.func12 (by kernel_rfl) (by kernel_rfl) Tryd.ntmps12 (by rw[Tryd.results12]) (by kernel_rfl)
theorem sK:Ar Tryd.prog [0] 13 ⟨47,zD,[.tmp 2,.tmp 3]⟩:=Ar.by Tryd.func13 (by kernel_rfl) (by kernel_rfl) Tryd.ntmps13 (by rw[Tryd.results13]) (by kernel_rfl)
theorem sM:Ar Tryd.prog [0] 15 ⟨26,zF,[.tmp 4]⟩:=Ar.by Tryd.func15 (by kernel_rfl) (by kernel_rfl) Tryd.ntmps15 (by rw[Tryd.results15]) (by kernel_rfl)
theorem W9:Ar Tryd.prog [0] 16 ⟨12,xG,[.tmp 2,.tmp 3]⟩:=Ar.by Tryd.func16 (by kernel_rfl) (by kernel_rfl) Tryd.ntmps16 (by rw[Tryd.results16]) (by kernel_rfl)
theorem sN:Ar Tryd.prog [0] 18 ⟨91,zG,[.tmp 4,.tmp 5]⟩:=Ar.by Tryd.func18 (by kernel_rfl) (by kernel_rfl) Tryd.ntmps18 (by rw[Tryd.results18]) (by kernel_rfl)
theorem sO:Ar Tryd.prog [0] 20 ⟨27,zH,[.tmp 4]⟩:=Ar.by Tryd.func20 (by kernel_rfl) (by kernel_rfl) Tryd.ntmps20 (by rw[Tryd.results20]) (by kernel_rfl)
theorem Xa:Ar Tryd.prog [0] 21 ⟨83,xH,[.cell 6 24]⟩:=Ar.by Tryd.func21 (by kernel_rfl) (by kernel_rfl) Tryd.ntmps21 (by rw[Tryd.results21]) (by kernel_rfl)
theorem sP:Ar Tryd.prog [0] 25 ⟨25,zJ,[.cell 6 24,.tmp 7]⟩:=Ar.by Tryd.func25 (by kernel_rfl) (by kernel_rfl) Tryd.ntmps25 (by rw[Tryd.results25]) (by kernel_rfl)
theorem sQ:Ar Tryd.prog [0] 26 ⟨26,zK,[.tmp 4]⟩:=Ar.by Tryd.func26 (by kernel_rfl) (by kernel_rfl) Tryd.ntmps26 (by rw[Tryd.results26]) (by kernel_rfl)
theorem sS:Ar Tryd.prog [0] 27 ⟨22,zL,[.tmp 4,.tmp 5]⟩:=Ar.by Tryd.func27 (by kernel_rfl) (by kernel_rfl) Tryd.ntmps27 (by rw[Tryd.results27]) (by kernel_rfl)
theorem Xb:Ar Tryd.prog [0] 29 ⟨12,xI,[.tmp 2,.tmp 3]⟩:=Ar.by Tryd.func29 (by kernel_rfl) (by kernel_rfl) Tryd.ntmps29 (by rw[Tryd.results29]) (by kernel_rfl)
theorem Xc:Ar Tryd.prog [0] 30 ⟨44,xJ,[.tmp 2,.tmp 3]⟩:=Ar.by Tryd.func30 (by kernel_rfl) (by kernel_rfl) Tryd.ntmps30 (by rw[Tryd.results30]) (by kernel_rfl)
theorem sV:Ar Tryd.prog [0] 31 ⟨12,zM,[.tmp 2,.tmp 3]⟩:=Ar.by Tryd.func31 (by kernel_rfl) (by kernel_rfl) Tryd.ntmps31 (by rw[Tryd.results31]) (by kernel_rfl)
theorem sW:Ar Tryd.prog [0] 34 ⟨39,zN,[.tmp 4]⟩:=Ar.by Tryd.func34 (by kernel_rfl) (by kernel_rfl) Tryd.ntmps34 (by rw[Tryd.results34]) (by kernel_rfl)
theorem sZ:Ar Tryd.prog [0] 38 ⟨13,zO,[.tmp 2,.tmp 3]⟩:=Ar.by Tryd.func38 (by kernel_rfl) (by kernel_rfl) Tryd.ntmps38 (by rw[Tryd.results38]) (by kernel_rfl)
theorem tC:Ar Tryd.prog [0] 39 ⟨6,zP,[.cell 0 24]⟩:=Ar.by Tryd.func39 (by kernel_rfl) (by kernel_rfl) Tryd.ntmps39 (by rw[Tryd.results39]) (by kernel_rfl)
theorem tH:Ar Tryd.prog [0] 40 ⟨6,zQ,[.cell 0 24]⟩:=Ar.by Tryd.func40 (by kernel_rfl) (by kernel_rfl) Tryd.ntmps40 (by rw[Tryd.results40]) (by kernel_rfl)
theorem tJ:Ar Tryd.prog [0] 41 ⟨4,zR,[.tmp 2]⟩:=Ar.by Tryd.func41 (by kernel_rfl) (by kernel_rfl) Tryd.ntmps41 (by rw[Tryd.results41]) (by kernel_rfl)
theorem tK:Ar Tryd.prog [0] 42 ⟨4,zS,[.tmp 2]⟩:=Ar.by Tryd.func42 (by kernel_rfl) (by kernel_rfl) Tryd.ntmps42 (by rw[Tryd.results42]) (by kernel_rfl)
theorem tL:Ar Tryd.prog [0] 43 ⟨36,zT,[.cell 6 24]⟩:=Ar.by Tryd.func43 (by kernel_rfl) (by kernel_rfl) Tryd.ntmps43 (by rw[Tryd.results43]) (by kernel_rfl)
theorem Xd:Ar Tryd.prog [0] 44 ⟨13,xK,[.tmp 2]⟩:=Ar.by Tryd.func44 (by kernel_rfl) (by kernel_rfl) Tryd.ntmps44 (by rw[Tryd.results44]) (by kernel_rfl)
theorem Xe:Ar Tryd.prog [0] 47 ⟨73,xL,[.tmp 2]⟩:=Ar.by Tryd.func47 (by kernel_rfl) (by kernel_rfl) Tryd.ntmps47 (by rw[Tryd.results47]) (by kernel_rfl)
theorem Xf:Ar Tryd.prog [0] 48 ⟨46,xM,[.tmp 2]⟩:=Ar.by Tryd.func48 (by kernel_rfl) (by kernel_rfl) Tryd.ntmps48 (by rw[Tryd.results48]) (by kernel_rfl)
theorem Xg:Ar Tryd.prog [0] 51 ⟨27,xN,[.tmp 2]⟩:=Ar.by Tryd.func51 (by kernel_rfl) (by kernel_rfl) Tryd.ntmps51 (by rw[Tryd.results51]) (by kernel_rfl)
end Go.Proofs.YtlgmapibifphaaaDoor.MdT
set_option maxRecDepth 100000
namespace Go.Proofs.YtlgmapibifphaaaDoor.MdT
open Go Go.Sp Go.MdT
theorem Xh:Ar Tryd.prog [0] 52 ⟨15,xO,[.tmp 6]⟩:=Ar.by Tryd.func52 (by kernel_rfl) (by kernel_rfl) Tryd.ntmps52 (by rw[Tryd.results52]) (by kernel_rfl)
theorem XJ:Ar Tryd.prog [0] 53 ⟨10,xP,[.tmp 4]⟩:=Ar.by Tryd.func53 (by kernel_rfl) (by kernel_rfl) Tryd.ntmps53 (by rw[Tryd.results53]) (by kernel_rfl)
theorem tN:Ar Tryd.prog [0] 57 ⟨25,zU,[.tmp 6]⟩:=Ar.by Tryd.func57 (by kernel_rfl) (by kernel_rfl) Tryd.ntmps57 (by rw[Tryd.results57]) (by kernel_rfl)
theorem XK:Ar Tryd.prog [0] 58 ⟨49,xQ,[.tmp 2]⟩:=Ar.by Tryd.func58 (by kernel_rfl) (by kernel_rfl) Tryd.ntmps58 (by rw[Tryd.results58]) (by kernel_rfl)
theorem XL:Ar Tryd.prog [0] 62 ⟨16,xR,[.tmp 2]⟩:=Ar.by Tryd.func62 (by kernel_rfl) (by kernel_rfl) Tryd.ntmps62 (by rw[Tryd.results62]) (by kernel_rfl)
theorem tO:Ar Tryd.prog [0] 63 ⟨8,wI,[.tmp 2]⟩:=Ar.by Tryd.func63 (by kernel_rfl) (by kernel_rfl) Tryd.ntmps63 (by rw[Tryd.results63]) (by kernel_rfl)
theorem XM:Ar Tryd.prog [0] 64 ⟨11,xS,[.tmp 2]⟩:=Ar.by Tryd.func64 (by kernel_rfl) (by kernel_rfl) Tryd.ntmps64 (by rw[Tryd.results64]) (by kernel_rfl)
theorem XN:Ar Tryd.prog [0] 65 ⟨8,xU,[.tmp 2]⟩:=Ar.by Tryd.func65 (by kernel_rfl) (by kernel_rfl) Tryd.ntmps65 (by rw[Tryd.results65]) (by kernel_rfl)
theorem XO:Ar Tryd.prog [0] 66 ⟨52,xV,[.tmp 4]⟩:=Ar.by Tryd.func66 (by kernel_rfl) (by kernel_rfl) Tryd.ntmps66 (by rw[Tryd.results66]) (by kernel_rfl)
theorem XP:Ar Tryd.prog [0] 67 ⟨15,xW,[.tmp 2]⟩:=Ar.by Tryd.func67 (by kernel_rfl) (by kernel_rfl) Tryd.ntmps67 (by rw[Tryd.results67]) (by kernel_rfl)
theorem XQ:Ar Tryd.prog [0] 68 ⟨94,xX,[.tmp 8]⟩:=Ar.by Tryd.func68 (by kernel_rfl) (by kernel_rfl) Tryd.ntmps68 (by rw[Tryd.results68]) (by kernel_rfl)
theorem XR:Ar Tryd.prog [0] 71 ⟨38,xY,[.tmp 4]⟩:=Ar.by Tryd.func71 (by kernel_rfl) (by kernel_rfl) Tryd.ntmps71 (by rw[Tryd.results71]) (by kernel_rfl)
theorem XT:Ar Tryd.prog [0] 72 ⟨9,xZ,[.tmp 2]⟩:=Ar.by Tryd.func72 (by kernel_rfl) (by kernel_rfl) Tryd.ntmps72 (by rw[Tryd.results72]) (by kernel_rfl)
end Go.Proofs.YtlgmapibifphaaaDoor.MdT
set_option maxRecDepth 100000
namespace Go.Proofs.YtlgmapibifphaaaDoor.MdT
open Go Go.Sp Go.MdT
theorem yC:Cu Tryd.prog 3 wJ:=Cu.by Tryd.underlying3 (inf:=Tryd.t3) (by kernel_rfl) (by kernel_rfl) (by kernel_rfl) (by kernel_rfl) (by kernel_rfl) (fun h=>by cases h)
theorem yD:Cu Tryd.prog 5 zV:=Cu.by Tryd.underlying5 (inf:=Tryd.t5) (by kernel_rfl) (by kernel_rfl) (by kernel_rfl) (by kernel_rfl) (by kernel_rfl) (fun h=>by cases h)
theorem yE:Cu Tryd.prog 9 zW:=Cu.by Tryd.underlying9 (inf:=Tryd.t9) (by kernel_rfl) (by kernel_rfl) (by kernel_rfl) (by kernel_rfl) (by kernel_rfl) (fun h=>by cases h)
theorem tQ:Cu Tryd.prog 22 qR:=Cu.by Tryd.underlying22 (inf:=Tryd.t22) (by kernel_rfl) (by kernel_rfl) (by kernel_rfl) (by kernel_rfl) (by kernel_rfl) (fun h=>by cases h)
theorem tV:Cu Tryd.prog 24 qU:=Cu.by Tryd.underlying24 (inf:=Tryd.t24) (by kernel_rfl) (by kernel_rfl) (by kernel_rfl) (by kernel_rfl) (by kernel_rfl) (fun h=>by cases h)
theorem tX:Cu Tryd.prog 27 qV:=Cu.by Tryd.underlying27 (inf:=Tryd.t27) (by kernel_rfl) (by kernel_rfl) (by kernel_rfl) (by kernel_rfl) (by kernel_rfl) (fun h=>by cases h)
theorem tY:Cu Tryd.prog 28 qW:=Cu.by Tryd.underlying28 (inf:=Tryd.t28) (by kernel_rfl) (by kernel_rfl) (by kernel_rfl) (by kernel_rfl) (by kernel_rfl) (fun h=>by cases h)
theorem tZ:Cu Tryd.prog 34 qX:=Cu.by Tryd.underlying34 (inf:=Tryd.t34) (by kernel_rfl) (by kernel_rfl) (by kernel_rfl) (by kernel_rfl) (by kernel_rfl) (fun h=>by cases h)
theorem uA:Cu Tryd.prog 43 qY:=Cu.by Tryd.underlying43 (inf:=Tryd.t43) (by kernel_rfl) (by kernel_rfl) (by kernel_rfl) (by kernel_rfl) (by kernel_rfl) (fun _=>⟨_,rfl,Fl.ok (d:=8) (⟨by kernel_rfl,.inr (.inr (.inr (.inl ⟨10,5,[(.int .u8 0)],Tryd.underlying43,⟨by kernel_rfl,.inl ⟨⟨_,Tryd.underlying5⟩,_,_,rfl⟩⟩,by kernel_rfl⟩)))⟩) (by decide) ⟨_,Tryd.underlying43,rfl⟩ (by kernel_rfl)⟩)
theorem uB:Cu Tryd.prog 45 qZ:=Cu.by Tryd.underlying45 (inf:=Tryd.t45) (by kernel_rfl) (by kernel_rfl) (by kernel_rfl) (by kernel_rfl) (by kernel_rfl) (fun _=>⟨_,rfl,Fl.ok (d:=8) (⟨by kernel_rfl,.inr (.inr (.inr (.inr ⟨_,Tryd.underlying45,by kernel_rfl,⟨by decide,rfl,[(.int .u8 0)],[(.int .u8 0),(.int .u8 0),(.int .u8 0),(.int .u8 0),(.int .u8 0),(.int .u8 0),(.int .u8 0),(.int .u8 0),(.int .u8 0),(.int .u8 0),(.int .u8 0),(.int .u8 0),(.int .u8 0),(.int .u8 0),(.int .u8 0),(.int .u8 0),(.int .u8 0),(.int .u8 0),(.int .u8 0),(.int .u8 0),(.int .u8 0)],rfl,⟨by kernel_rfl,.inl ⟨⟨_,Tryd.underlying5⟩,_,_,rfl⟩⟩,⟨by decide,rfl,[(.int .u8 0)],[(.int .u8 0),(.int .u8 0),(.int .u8 0),(.int .u8 0),(.int .u8 0),(.int .u8 0),(.int .u8 0),(.int .u8 0),(.int .u8 0),(.int .u8 0),(.int .u8 0),(.int .u8 0),(.int .u8 0),(.int .u8 0),(.int .u8 0),(.int .u8 0),(.int .u8 0),(.int .u8 0),(.int .u8 0),(.int .u8 0)],rfl,⟨by kernel_rfl,.inl ⟨⟨_,Tryd.underlying5⟩,_,_,rfl⟩⟩,⟨by decide,rfl,[(.int .u8 0),(.int .u8 0),(.int .u8 0),(.int .u8 0),(.int .u8 0),(.int .u8 0),(.int .u8 0),(.int .u8 0),(.int .u8 0),(.int .u8 0)],[(.int .u8 0),(.int .u8 0),(.int .u8 0),(.int .u8 0),(.int .u8 0),(.int .u8 0),(.int .u8 0),(.int .u8 0),(.int .u8 0),(.int .u8 0)],rfl,⟨by kernel_rfl,.inr (.inr (.inr (.inl ⟨10,5,[(.int .u8 0)],Tryd.underlying43,⟨by kernel_rfl,.inl ⟨⟨_,Tryd.underlying5⟩,_,_,rfl⟩⟩,by kernel_rfl⟩)))⟩,⟨by decide,rfl,[(.int .u8 0),(.int .u8 0),(.int .u8 0),(.int .u8 0),(.int .u8 0),(.int .u8 0),(.int .u8 0),(.int .u8 0),(.int .u8 0),(.int .u8 0)],[],rfl,⟨by kernel_rfl,.inr (.inr (.inr (.inl ⟨10,5,[(.int .u8 0)],Tryd.underlying43,⟨by kernel_rfl,.inl ⟨⟨_,Tryd.underlying5⟩,_,_,rfl⟩⟩,by kernel_rfl⟩)))⟩,rfl⟩⟩⟩⟩⟩)))⟩) (by decide) ⟨_,Tryd.underlying45,rfl⟩ (by kernel_rfl)⟩)
theorem uC:Cu Tryd.prog 51 rA:=Cu.by Tryd.underlying51 (inf:=Tryd.t51) (by kernel_rfl) (by kernel_rfl) (by kernel_rfl) (by kernel_rfl) (by kernel_rfl) (fun _=>⟨_,rfl,Fl.ok (d:=8) (⟨by kernel_rfl,.inr (.inr (.inr (.inl ⟨2,3,[(.int .i64 0)],Tryd.underlying51,⟨by kernel_rfl,.inl ⟨⟨_,Tryd.underlying3⟩,_,_,rfl⟩⟩,by kernel_rfl⟩)))⟩) (by decide) ⟨_,Tryd.underlying51,rfl⟩ (by kernel_rfl)⟩)
theorem uD:Cu Tryd.prog 79 rC:=Cu.by Tryd.underlying79 (inf:=Tryd.t79) (by kernel_rfl) (by kernel_rfl) (by kernel_rfl) (by kernel_rfl) (by kernel_rfl) (fun h=>by cases h)
theorem uE:Cu Tryd.prog 80 rD:=Cu.by Tryd.underlying80 (inf:=Tryd.t80) (by kernel_rfl) (by kernel_rfl) (by kernel_rfl) (by kernel_rfl) (by kernel_rfl) (fun h=>by cases h)
theorem uF:Cu Tryd.prog 94 rE:=Cu.by Tryd.underlying94 (inf:=Tryd.t94) (by kernel_rfl) (by kernel_rfl) (by kernel_rfl) (by kernel_rfl) (by kernel_rfl) (fun h=>by cases h)
theorem uG:Cu Tryd.prog 97 rF:=Cu.by Tryd.underlying97 (inf:=Tryd.t97) (by kernel_rfl) (by kernel_rfl) (by kernel_rfl) (by kernel_rfl) (by kernel_rfl) (fun _=>⟨_,rfl,Fl.ok (d:=8) (⟨by kernel_rfl,.inr (.inr (.inr (.inl ⟨5,3,[(.int .i64 0)],Tryd.underlying97,⟨by kernel_rfl,.inl ⟨⟨_,Tryd.underlying3⟩,_,_,rfl⟩⟩,by kernel_rfl⟩)))⟩) (by decide) ⟨_,Tryd.underlying97,rfl⟩ (by kernel_rfl)⟩)
theorem fP:Cu Tryd.prog 101 WU:=Cu.by Tryd.underlying101 (inf:=Tryd.t101) (by kernel_rfl) (by kernel_rfl) (by kernel_rfl) (by kernel_rfl) (by kernel_rfl) (fun h=>by cases h)
theorem fQ:Cu Tryd.prog 102 WV:=Cu.by Tryd.underlying102 (inf:=Tryd.t102) (by kernel_rfl) (by kernel_rfl) (by kernel_rfl) (by kernel_rfl) (by kernel_rfl) (fun h=>by cases h)
theorem fT:Cu Tryd.prog 103 WW:=Cu.by Tryd.underlying103 (inf:=Tryd.t103) (by kernel_rfl) (by kernel_rfl) (by kernel_rfl) (by kernel_rfl) (by kernel_rfl) (fun h=>by cases h)
theorem fU:Cu Tryd.prog 105 WX:=Cu.by Tryd.underlying105 (inf:=Tryd.t105) (by kernel_rfl) (by kernel_rfl) (by kernel_rfl) (by kernel_rfl) (by kernel_rfl) (fun h=>by cases h)
theorem fV:Cu Tryd.prog 107 WY:=Cu.by Tryd.underlying107 (inf:=Tryd.t107) (by kernel_rfl) (by kernel_rfl) (by kernel_rfl) (by kernel_rfl) (by kernel_rfl) (fun _=>⟨_,rfl,Fl.ok (d:=8) (⟨by kernel_rfl,.inr (.inr (.inr (.inl ⟨32,5,[(.int .u8 0)],Tryd.underlying107,⟨by kernel_rfl,.inl ⟨⟨_,Tryd.underlying5⟩,_,_,rfl⟩⟩,by kernel_rfl⟩)))⟩) (by decide) ⟨_,Tryd.underlying107,rfl⟩ (by kernel_rfl)⟩)
theorem fZ:Cu Tryd.prog 108 WZ:=Cu.by Tryd.underlying108 (inf:=Tryd.t108) (by kernel_rfl) (by kernel_rfl) (by kernel_rfl) (by kernel_rfl) (by kernel_rfl) (fun h=>by cases h)
theorem ttOk:Jm Tryd.prog tt:=Jm.of_all (t:=rG) ⟨trivial,⟨trivial,⟨yC,⟨trivial,⟨trivial,trivial,⟨trivial,⟨uD,trivial,trivial⟩,trivial⟩⟩,⟨trivial,⟨trivial,trivial,⟨fT,trivial,trivial⟩⟩,trivial⟩⟩,⟨trivial,⟨trivial,trivial,⟨uC,trivial,trivial⟩⟩,⟨tX,⟨uA,trivial,⟨fV,trivial,trivial⟩⟩,trivial⟩⟩⟩,⟨yD,⟨yE,⟨trivial,⟨trivial,trivial,⟨uG,trivial,trivial⟩⟩,trivial⟩,⟨trivial,⟨trivial,trivial,⟨fU,trivial,trivial⟩⟩,trivial⟩⟩,⟨trivial,⟨trivial,⟨trivial,trivial,⟨fP,trivial,trivial⟩⟩,trivial⟩,⟨trivial,⟨uB,trivial,trivial⟩,trivial⟩⟩⟩⟩,⟨trivial,⟨trivial,⟨trivial,⟨trivial,trivial,⟨trivial,⟨uE,trivial,trivial⟩,trivial⟩⟩,⟨tV,trivial,trivial⟩⟩,⟨trivial,trivial,⟨tY,⟨trivial,trivial,⟨fZ,trivial,trivial⟩⟩,trivial⟩⟩⟩,⟨trivial,⟨trivial,⟨trivial,⟨tZ,trivial,trivial⟩,trivial⟩,trivial⟩,⟨trivial,⟨tQ,⟨trivial,trivial,⟨fQ,trivial,trivial⟩⟩,trivial⟩,⟨trivial,trivial,⟨trivial,⟨uF,trivial,trivial⟩,trivial⟩⟩⟩⟩⟩⟩
theorem uH:rH.All (Ar Tryd.prog [0]):=⟨trivial,⟨trivial,⟨trivial,⟨trivial,⟨sM,⟨sV,⟨tO,trivial,trivial⟩,trivial⟩,⟨Xe,trivial,trivial⟩⟩,⟨trivial,⟨tC,⟨XR,trivial,trivial⟩,trivial⟩,trivial⟩⟩,⟨trivial,⟨trivial,⟨trivial,⟨XP,trivial,trivial⟩,trivial⟩,⟨Xg,trivial,trivial⟩⟩,⟨sS,⟨tL,trivial,trivial⟩,trivial⟩⟩⟩,⟨trivial,⟨trivial,⟨trivial,⟨trivial,⟨XN,trivial,trivial⟩,trivial⟩,trivial⟩,⟨sP,⟨tJ,trivial,trivial⟩,⟨tN,trivial,trivial⟩⟩⟩,⟨sK,⟨Xa,trivial,⟨XJ,trivial,trivial⟩⟩,⟨Xb,trivial,trivial⟩⟩⟩⟩,⟨trivial,⟨trivial,⟨sI,⟨W9,⟨trivial,⟨XM,trivial,trivial⟩,trivial⟩,⟨Xf,trivial,trivial⟩⟩,⟨trivial,⟨tH,⟨XT,trivial,trivial⟩,trivial⟩,trivial⟩⟩,⟨sJ,⟨sO,⟨trivial,⟨XQ,trivial,trivial⟩,trivial⟩,⟨Xh,trivial,trivial⟩⟩,⟨trivial,⟨Xd,trivial,trivial⟩,trivial⟩⟩⟩,⟨trivial,⟨trivial,⟨sN,⟨sW,⟨XO,trivial,trivial⟩,trivial⟩,trivial⟩,⟨sQ,⟨tK,trivial,trivial⟩,⟨XK,trivial,trivial⟩⟩⟩,⟨trivial,⟨trivial,⟨sZ,trivial,trivial⟩,trivial⟩,⟨Xc,trivial,⟨XL,trivial,trivial⟩⟩⟩⟩⟩⟩
theorem fnsOk (f:FuncId) (r:Xq) (h:JP f=some r):Ar Tryd.prog [0] f r:=uH.get h
end Go.Proofs.YtlgmapibifphaaaDoor.MdT
set_option maxRecDepth 100000
namespace Go.Proofs.YtlgmapibifphaaaDoor.MdT
open Go Go.Sp Go.MdTM Go.MdT
noncomputable section
theorem zX:Ar Tryd.prog (List.range tabs.length) 8 ⟨269,RV,[.tmp 8]⟩:=by
 have h:c8=RV:=by kernel_rfl
 rw[←h];exact sI
theorem uI:Ar Tryd.prog (List.range tabs.length) 16 ⟨12,OH,[.tmp 2,.tmp 3]⟩:=by
 have h:xG=OH:=by kernel_rfl
 rw[←h];exact W9
theorem uJ:Ar Tryd.prog (List.range tabs.length) 21 ⟨83,OJ,[.cell 6 24]⟩:=by
 have h:xH=OJ:=by kernel_rfl
 rw[←h];exact Xa
theorem uK:Ar Tryd.prog (List.range tabs.length) 30 ⟨44,OL,[.tmp 2,.tmp 3]⟩:=by
 have h:xJ=OL:=by kernel_rfl
 rw[←h];exact Xc
theorem uL:Ar Tryd.prog (List.range tabs.length) 44 ⟨13,RX,[.tmp 2]⟩:=by
 have h:xK=RX:=by kernel_rfl
 rw[←h];exact Xd
theorem uM:Ar Tryd.prog (List.range tabs.length) 47 ⟨73,OM,[.tmp 2]⟩:=by
 have h:xL=OM:=by kernel_rfl
 rw[←h];exact Xe
theorem uN:Ar Tryd.prog (List.range tabs.length) 48 ⟨46,OO,[.tmp 2]⟩:=by
 have h:xM=OO:=by kernel_rfl
 rw[←h];exact Xf
theorem uO:Ar Tryd.prog (List.range tabs.length) 51 ⟨27,OP,[.tmp 2]⟩:=by
 have h:xN=OP:=by kernel_rfl
 rw[←h];exact Xg
theorem uP:Ar Tryd.prog (List.range tabs.length) 52 ⟨15,RY,[.tmp 6]⟩:=by
 have h:xO=RY:=by kernel_rfl
 rw[←h];exact Xh
theorem uQ:Ar Tryd.prog (List.range tabs.length) 53 ⟨10,RZ,[.tmp 4]⟩:=by
 have h:xP=RZ:=by kernel_rfl
 rw[←h];exact XJ
theorem uR:Ar Tryd.prog (List.range tabs.length) 58 ⟨49,OQ,[.tmp 2]⟩:=by
 have h:xQ=OQ:=by kernel_rfl
 rw[←h];exact XK
theorem uS:Ar Tryd.prog (List.range tabs.length) 62 ⟨16,OT,[.tmp 2]⟩:=by
 have h:xR=OT:=by kernel_rfl
 rw[←h];exact XL
theorem uT:Ar Tryd.prog (List.range tabs.length) 64 ⟨11,R3,[.tmp 2]⟩:=by
 have h:xS=R3:=by kernel_rfl
 rw[←h];exact XM
theorem uU:Ar Tryd.prog (List.range tabs.length) 67 ⟨15,R4,[.tmp 2]⟩:=by
 have h:xW=R4:=by kernel_rfl
 rw[←h];exact XP
theorem uV:Ar Tryd.prog (List.range tabs.length) 71 ⟨38,OU,[.tmp 4]⟩:=by
 have h:xY=OU:=by kernel_rfl
 rw[←h];exact XR
theorem uW:Ar Tryd.prog (List.range tabs.length) 72 ⟨9,R5,[.tmp 2]⟩:=by
 have h:xZ=R5:=by kernel_rfl
 rw[←h];exact XT
theorem uX:Ar Tryd.prog (List.range tabs.length) 29 ⟨12,KV,[.tmp 2,.tmp 3]⟩:=by
 have h:xI=KV:=by kernel_rfl
 rw[←h];exact Xb
theorem uY:Ar Tryd.prog (List.range tabs.length) 65 ⟨8,Pe,[.tmp 2]⟩:=by
 have h:xU=Pe:=by kernel_rfl
 rw[←h];exact XN
theorem uZ:Ar Tryd.prog (List.range tabs.length) 66 ⟨52,KW,[.tmp 4]⟩:=by
 have h:xV=KW:=by kernel_rfl
 rw[←h];exact XO
theorem vB:Ar Tryd.prog (List.range tabs.length) 68 ⟨94,KX,[.tmp 8]⟩:=by
 have h:xX=KX:=by kernel_rfl
 rw[←h];exact XQ
theorem Jd:∀ t∈tabs,t≠[]:=by intro t ht;simp[tabs] at ht;subst ht;intro h;cases h
theorem Je:∀ t∈tabs,∀ x∈t,BR x=true:=by intro t ht x hx;simp[tabs] at ht;subst ht;simp[OW] at hx;rcases hx with rfl | rfl | rfl | rfl | rfl | rfl | rfl | rfl | rfl | rfl | rfl | rfl | rfl | rfl | rfl | rfl | rfl | rfl | rfl | rfl | rfl | rfl | rfl | rfl | rfl | rfl | rfl | rfl | rfl | rfl | rfl | rfl <;> rfl
theorem gD (hm:Tryd.prog.follows .mixedOrders=true) {pu:Af} (h0:Cn Tryd.prog tabs 1 0 29 (pu 10290)) (h1:Cn Tryd.prog tabs 1 0 65 (pu 10650)) (h2:Cn Tryd.prog tabs 2 2 66 (pu 10660)) (h3:Cn Tryd.prog tabs 4 2 68 (pu 10680)):CO Tryd.prog (List.range tabs.length) (inl pu):=fun g args H v H' h=>by
 replace h:bb (Nat.beq g 63) (QJ 1 8 args H) (bb (Nat.beq g 29) (EK tabs [[none,some 1,some 1]] 1 [] [] (pu 10290) args H) (bb (Nat.beq g 65) (EK tabs [[none,some 1,some 1]] 1 [] [true,false] (pu 10650) args H) (bb (Nat.beq g 66) (EK tabs [[none],[none]] 2 [.tmp 0 true,.cell 1 3 false] [true,false] (pu 10660) args H) (bb (Nat.beq g 68) (EK tabs [[none],[some 1],[none],[none]] 4 [.tmp 0 true,.cell 1 3 false] [true,false] (pu 10680) args H) (none)))))=some (v,H'):=h
 have hq:=Ag h;clear h;rcases hq with⟨e,h⟩ | ⟨_,h⟩
 ·obtain rfl:=Nat.eq_of_beq_eq_true e
  exact QK ttOk fnsOk hm h
 have hq:=Ag h;clear h;rcases hq with⟨e,h⟩ | ⟨_,h⟩
 ·obtain rfl:=Nat.eq_of_beq_eq_true e
  exact Ip (rs:=[]) Jd Je h0 h
 have hq:=Ag h;clear h;rcases hq with⟨e,h⟩ | ⟨_,h⟩
 ·obtain rfl:=Nat.eq_of_beq_eq_true e
  exact Ip (rs:=[]) Jd Je h1 h
 have hq:=Ag h;clear h;rcases hq with⟨e,h⟩ | ⟨_,h⟩
 ·obtain rfl:=Nat.eq_of_beq_eq_true e
  exact Ip (rs:=[.tmp 0 true,.cell 1 3 false]) Jd Je h2 h
 have hq:=Ag h;clear h;rcases hq with⟨e,h⟩ | ⟨_,h⟩
 ·obtain rfl:=Nat.eq_of_beq_eq_true e
  exact Ip (rs:=[.tmp 0 true,.cell 1 3 false]) Jd Je h3 h
 cases h
theorem Ww (hm:Tryd.prog.follows .mixedOrders=true) (hw:BA Tryd.prog tabs 12 (fun args=>ll args (some (.bool true)) fun _ _=>none)) {pu:Af} (hall:(∀ g,Fp g=true→BA Tryd.prog tabs g (pu g))∧Cn Tryd.prog tabs 1 0 29 (pu 10290)∧Cn Tryd.prog tabs 1 0 65 (pu 10650)∧Cn Tryd.prog tabs 2 2 66 (pu 10660)∧Cn Tryd.prog tabs 4 2 68 (pu 10680)):(∀ g,Fp g=true→BA Tryd.prog tabs g (TV pu g))∧Cn Tryd.prog tabs 1 0 29 (TV pu 10290)∧Cn Tryd.prog tabs 1 0 65 (TV pu 10650)∧Cn Tryd.prog tabs 2 2 66 (TV pu 10660)∧Cn Tryd.prog tabs 4 2 68 (TV pu 10680):=by
 obtain⟨hpu,h0,h4,h5,h6⟩:=hall
 have hcall:=TG (P:=Tryd.prog) (tabs:=tabs) Jd Je (gD hm h0 h4 h5 h6) hpu
 refine⟨fun g hg=>?_,?_,?_,?_,?_⟩
 ·have hg:g∈Pf:=CS.1 hg
  simp only[Pf,List.mem_cons,List.not_mem_nil,or_false] at hg
  rcases hg with rfl | rfl | rfl | rfl | rfl | rfl | rfl | rfl | rfl | rfl | rfl | rfl | rfl | rfl | rfl | rfl | rfl
  ·exact Aw (tabs:=tabs) (f:=m8 pu L) ttOk hm hcall zX fun args v h hc=>r8 pu L rfl h hc
  ·exact hw
  ·exact Aw (tabs:=tabs) (f:=iR pu L) ttOk hm hcall uI fun args v h hc=>r16 pu L rfl h hc
  ·exact Aw (tabs:=tabs) (f:=iT pu L) ttOk hm hcall uJ fun args v h hc=>r21 pu L rfl h hc
  ·exact Aw (tabs:=tabs) (f:=iU pu L) ttOk hm hcall uK fun args v h hc=>r30 pu L rfl h hc
  ·exact Aw (tabs:=tabs) (f:=wL pu L) ttOk hm hcall uL fun args v h hc=>r44 pu L rfl h hc
  ·exact Aw (tabs:=tabs) (f:=wM pu L) ttOk hm hcall uM fun args v h hc=>r47 pu L rfl h hc
  ·exact Aw (tabs:=tabs) (f:=iV pu L) ttOk hm hcall uN fun args v h hc=>r48 pu L rfl h hc
  ·exact Aw (tabs:=tabs) (f:=wN pu L) ttOk hm hcall uO fun args v h hc=>r51 pu L rfl h hc
  ·exact Aw (tabs:=tabs) (f:=wO pu L) ttOk hm hcall uP fun args v h hc=>r52 pu L rfl h hc
  ·exact Aw (tabs:=tabs) (f:=wP pu L) ttOk hm hcall uQ fun args v h hc=>r53 pu L rfl h hc
  ·exact Aw (tabs:=tabs) (f:=iW pu L) ttOk hm hcall uR fun args v h hc=>r58 pu L rfl h hc
  ·exact Aw (tabs:=tabs) (f:=wQ pu L) ttOk hm hcall uS fun args v h hc=>r62 pu L rfl h hc
  ·exact Aw (tabs:=tabs) (f:=m64 pu L) ttOk hm hcall uT fun args v h hc=>r64 pu L rfl h hc
  ·exact Aw (tabs:=tabs) (f:=wR pu L) ttOk hm hcall uU fun args v h hc=>r67 pu L rfl h hc
  ·exact Aw (tabs:=tabs) (f:=wS pu L) ttOk hm hcall uV fun args v h hc=>r71 pu L rfl h hc
  ·exact Aw (tabs:=tabs) (f:=wT pu L) ttOk hm hcall uW fun args v h hc=>r72 pu L rfl h hc
 ·exact Dx (tabs:=tabs) (f:=Iz pu L) ttOk hm hcall uX fun args os z h1 h2 h3 h=>fE pu L rfl h1 h2 h3 h
 ·exact Dx (tabs:=tabs) (f:=LK pu L) ttOk hm hcall uY fun args os z h1 h2 h3 h=>fH pu L rfl h1 h2 h3 h
 ·exact Dx (tabs:=tabs) (f:=Gs pu L) ttOk hm hcall uZ fun args os z h1 h2 h3 h=>fK pu L rfl h1 h2 h3 h
 ·exact Dx (tabs:=tabs) (f:=IB pu L) ttOk hm hcall vB fun args os z h1 h2 h3 h=>fO pu L rfl h1 h2 h3 h
theorem gF (hm:Tryd.prog.follows .mixedOrders=true) (hw:BA Tryd.prog tabs 12 (fun args=>ll args (some (.bool true)) fun _ _=>none)):∀ n,(∀ g,Fp g=true→BA Tryd.prog tabs g (BB n g))∧Cn Tryd.prog tabs 1 0 29 (BB n 10290)∧Cn Tryd.prog tabs 1 0 65 (BB n 10650)∧Cn Tryd.prog tabs 2 2 66 (BB n 10660)∧Cn Tryd.prog tabs 4 2 68 (BB n 10680):=fun n=>by
 induction n with
 | zero =>
  refine⟨fun g hg=>?_,?_,?_,?_,?_⟩
  ·have hg:g∈Pf:=CS.1 hg
   simp only[Pf,List.mem_cons,List.not_mem_nil,or_false] at hg
   rcases hg with rfl | rfl | rfl | rfl | rfl | rfl | rfl | rfl | rfl | rfl | rfl | rfl | rfl | rfl | rfl | rfl | rfl
   ·exact⟨A9 zX,fun args v h=>by cases h⟩
   ·exact⟨(hw).1,fun args v h=>by cases h⟩
   ·exact⟨A9 uI,fun args v h=>by cases h⟩
   ·exact⟨A9 uJ,fun args v h=>by cases h⟩
   ·exact⟨A9 uK,fun args v h=>by cases h⟩
   ·exact⟨A9 uL,fun args v h=>by cases h⟩
   ·exact⟨A9 uM,fun args v h=>by cases h⟩
   ·exact⟨A9 uN,fun args v h=>by cases h⟩
   ·exact⟨A9 uO,fun args v h=>by cases h⟩
   ·exact⟨A9 uP,fun args v h=>by cases h⟩
   ·exact⟨A9 uQ,fun args v h=>by cases h⟩
   ·exact⟨A9 uR,fun args v h=>by cases h⟩
   ·exact⟨A9 uS,fun args v h=>by cases h⟩
   ·exact⟨A9 uT,fun args v h=>by cases h⟩
   ·exact⟨A9 uU,fun args v h=>by cases h⟩
   ·exact⟨A9 uV,fun args v h=>by cases h⟩
   ·exact⟨A9 uW,fun args v h=>by cases h⟩
  ·exact⟨A9 uX,fun args os z h1 h2 h3 h=>by cases h⟩
  ·exact⟨A9 uY,fun args os z h1 h2 h3 h=>by cases h⟩
  ·exact⟨A9 uZ,fun args os z h1 h2 h3 h=>by cases h⟩
  ·exact⟨A9 vB,fun args os z h1 h2 h3 h=>by cases h⟩
 | succ n ih=>exact Ww hm hw ih
theorem pu_ok (hm:Tryd.prog.follows .mixedOrders=true) (hw:BA Tryd.prog tabs 12 (fun args=>ll args (some (.bool true)) fun _ _=>none)):∀ n g,Fp g=true→BA Tryd.prog tabs g (BB n g):=fun n=>(gF hm hw n).1
end
end Go.Proofs.YtlgmapibifphaaaDoor.MdT
