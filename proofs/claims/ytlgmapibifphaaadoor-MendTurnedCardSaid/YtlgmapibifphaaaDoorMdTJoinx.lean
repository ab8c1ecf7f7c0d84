/- Made from wip. -/
import Derived.Test.YtlgmapibifphaaaDoorProg
import Derived.Test.YtlgmapibifphaaaDoorSpObjx
import Derived.Test.YtlgmapibifphaaaDoorMdTCodex
import Derived.Test.YtlgmapibifphaaaDoorMdTPux

set_option maxRecDepth 100000
namespace Go.Proofs.YtlgmapibifphaaaDoor.MdT
open Go Go.Sp Go.MdT
theorem tN:Ar Tryd.prog [0] 8 ⟨269,c8,[.tmp 8]⟩:=Ar.by Tryd.func8 (by kernel_rfl) (by kernel_rfl) Tryd.ntmps8 (by rw[Tryd.results8]) (by kernel_rfl)
theorem tO:Ar Tryd.prog [0] 12 ⟨218,zV,[.tmp 0]⟩:=Ar.by Tryd.func12 (by kernel_rfl) (by kernel_rfl) Tryd.ntmps12 (by rw[Tryd.results12]) (by kernel_rfl)
theorem tQ:Ar Tryd.prog [0] 13 ⟨47,zW,[.tmp 2,.tmp 3]⟩:=Ar.by Tryd.func13 (by kernel_rfl) (by kernel_rfl) Tryd.ntmps13 (by rw[Tryd.results13]) (by kernel_rfl)
theorem tV:Ar Tryd.prog [0] 15 ⟨26,zX,[.tmp 4]⟩:=Ar.by Tryd.func15 (by kernel_rfl) (by kernel_rfl) Tryd.ntmps15 (by rw[Tryd.results15]) (by kernel_rfl)
theorem XQ:Ar Tryd.prog [0] 16 ⟨12,xY,[.tmp 2,.tmp 3]⟩:=Ar.by Tryd.func16 (by kernel_rfl) (by kernel_rfl) Tryd.ntmps16 (by rw[Tryd.results16]) (by kernel_rfl)
theorem tX:Ar Tryd.prog [0] 18 ⟨91,zZ,[.tmp 4,.tmp 5]⟩:=Ar.by Tryd.func18 (by kernel_rfl) (by kernel_rfl) Tryd.ntmps18 (by rw[Tryd.results18]) (by kernel_rfl)
theorem tY:Ar Tryd.prog [0] 20 ⟨27,c20,[.tmp 4]⟩:=Ar.by Tryd.func20 (by kernel_rfl) (by kernel_rfl) Tryd.ntmps20 (by rw[Tryd.results20]) (by kernel_rfl)
theorem XR:Ar Tryd.prog [0] 21 ⟨83,xZ,[.cell 6 24]⟩:=Ar.by Tryd.func21 (by kernel_rfl) (by kernel_rfl) Tryd.ntmps21 (by rw[Tryd.results21]) (by kernel_rfl)
theorem tZ:Ar Tryd.prog [0] 25 ⟨25,c25,[.cell 6 24,.tmp 7]⟩:=Ar.by Tryd.func25 (by kernel_rfl) (by kernel_rfl) Tryd.ntmps25 (by rw[Tryd.results25]) (by kernel_rfl)
theorem uA:Ar Tryd.prog [0] 26 ⟨26,c26,[.tmp 4]⟩:=Ar.by Tryd.func26 (by kernel_rfl) (by kernel_rfl) Tryd.ntmps26 (by rw[Tryd.results26]) (by kernel_rfl)
theorem uB:Ar Tryd.prog [0] 27 ⟨22,c27,[.tmp 4,.tmp 5]⟩:=Ar.by Tryd.func27 (by kernel_rfl) (by kernel_rfl) Tryd.ntmps27 (by rw[Tryd.results27]) (by kernel_rfl)
theorem XT:Ar Tryd.prog [0] 29 ⟨12,yA,[.tmp 2,.tmp 3]⟩:=Ar.by Tryd.func29 (by kernel_rfl) (by kernel_rfl) Tryd.ntmps29 (by rw[Tryd.results29]) (by kernel_rfl)
theorem XU:Ar Tryd.prog [0] 30 ⟨44,yB,[.tmp 2,.tmp 3]⟩:=Ar.by Tryd.func30 (by kernel_rfl) (by kernel_rfl) Tryd.ntmps30 (by rw[Tryd.results30]) (by kernel_rfl)
theorem uC:Ar Tryd.prog [0] 31 ⟨12,c31,[.tmp 2,.tmp 3]⟩:=Ar.by Tryd.func31 (by kernel_rfl) (by kernel_rfl) Tryd.ntmps31 (by rw[Tryd.results31]) (by kernel_rfl)
theorem uD:Ar Tryd.prog [0] 34 ⟨39,c34,[.tmp 4]⟩:=Ar.by Tryd.func34 (by kernel_rfl) (by kernel_rfl) Tryd.ntmps34 (by rw[Tryd.results34]) (by kernel_rfl)
theorem uE:Ar Tryd.prog [0] 38 ⟨13,c38,[.tmp 2,.tmp 3]⟩:=Ar.by Tryd.func38 (by kernel_rfl) (by kernel_rfl) Tryd.ntmps38 (by rw[Tryd.results38]) (by kernel_rfl)
theorem uF:Ar Tryd.prog [0] 39 ⟨6,c39,[.cell 0 24]⟩:=Ar.by Tryd.func39 (by kernel_rfl) (by kernel_rfl) Tryd.ntmps39 (by rw[Tryd.results39]) (by kernel_rfl)
theorem uG:Ar Tryd.prog [0] 40 ⟨6,c40,[.cell 0 24]⟩:=Ar.by Tryd.func40 (by kernel_rfl) (by kernel_rfl) Tryd.ntmps40 (by rw[Tryd.results40]) (by kernel_rfl)
theorem uH:Ar Tryd.prog [0] 41 ⟨4,c41,[.tmp 2]⟩:=Ar.by Tryd.func41 (by kernel_rfl) (by kernel_rfl) Tryd.ntmps41 (by rw[Tryd.results41]) (by kernel_rfl)
theorem uI:Ar Tryd.prog [0] 42 ⟨4,c42,[.tmp 2]⟩:=Ar.by Tryd.func42 (by kernel_rfl) (by kernel_rfl) Tryd.ntmps42 (by rw[Tryd.results42]) (by kernel_rfl)
theorem uJ:Ar Tryd.prog [0] 43 ⟨36,c43,[.cell 6 24]⟩:=Ar.by Tryd.func43 (by kernel_rfl) (by kernel_rfl) Tryd.ntmps43 (by rw[Tryd.results43]) (by kernel_rfl)
theorem XZ:Ar Tryd.prog [0] 44 ⟨13,yC,[.tmp 2]⟩:=Ar.by Tryd.func44 (by kernel_rfl) (by kernel_rfl) Tryd.ntmps44 (by rw[Tryd.results44]) (by kernel_rfl)
theorem X0:Ar Tryd.prog [0] 47 ⟨73,yD,[.tmp 2]⟩:=Ar.by Tryd.func47 (by kernel_rfl) (by kernel_rfl) Tryd.ntmps47 (by rw[Tryd.results47]) (by kernel_rfl)
theorem X3:Ar Tryd.prog [0] 48 ⟨46,yE,[.tmp 2]⟩:=Ar.by Tryd.func48 (by kernel_rfl) (by kernel_rfl) Tryd.ntmps48 (by rw[Tryd.results48]) (by kernel_rfl)
theorem X4:Ar Tryd.prog [0] 51 ⟨27,yF,[.tmp 2]⟩:=Ar.by Tryd.func51 (by kernel_rfl) (by kernel_rfl) Tryd.ntmps51 (by rw[Tryd.results51]) (by kernel_rfl)
end Go.Proofs.YtlgmapibifphaaaDoor.MdT
set_option maxRecDepth 100000
namespace Go.Proofs.YtlgmapibifphaaaDoor.MdT
open Go Go.Sp Go.MdT
theorem X5:Ar Tryd.prog [0] 52 ⟨15,yG,[.tmp 6]⟩:=Ar.by Tryd.func52 (by kernel_rfl) (by kernel_rfl) Tryd.ntmps52 (by rw[Tryd.results52]) (by kernel_rfl)
theorem X6:Ar Tryd.prog [0] 53 ⟨10,yH,[.tmp 4]⟩:=Ar.by Tryd.func53 (by kernel_rfl) (by kernel_rfl) Tryd.ntmps53 (by rw[Tryd.results53]) (by kernel_rfl)
theorem uK:Ar Tryd.prog [0] 57 ⟨25,c57,[.tmp 6]⟩:=Ar.by Tryd.func57 (by kernel_rfl) (by kernel_rfl) Tryd.ntmps57 (by rw[Tryd.results57]) (by kernel_rfl)
theorem X7:Ar Tryd.prog [0] 58 ⟨49,yI,[.tmp 2]⟩:=Ar.by Tryd.func58 (by kernel_rfl) (by kernel_rfl) Tryd.ntmps58 (by rw[Tryd.results58]) (by kernel_rfl)
theorem X9:Ar Tryd.prog [0] 62 ⟨16,yJ,[.tmp 2]⟩:=Ar.by Tryd.func62 (by kernel_rfl) (by kernel_rfl) Tryd.ntmps62 (by rw[Tryd.results62]) (by kernel_rfl)
theorem uL:Ar Tryd.prog [0] 63 ⟨8,xB,[.tmp 2]⟩:=Ar.by Tryd.func63 (by kernel_rfl) (by kernel_rfl) Tryd.ntmps63 (by rw[Tryd.results63]) (by kernel_rfl)
theorem Ya:Ar Tryd.prog [0] 64 ⟨11,yK,[.tmp 2]⟩:=Ar.by Tryd.func64 (by kernel_rfl) (by kernel_rfl) Tryd.ntmps64 (by rw[Tryd.results64]) (by kernel_rfl)
theorem Yb:Ar Tryd.prog [0] 65 ⟨8,yL,[.tmp 2]⟩:=Ar.by Tryd.func65 (by kernel_rfl) (by kernel_rfl) Tryd.ntmps65 (by rw[Tryd.results65]) (by kernel_rfl)
theorem Yc:Ar Tryd.prog [0] 66 ⟨52,yM,[.tmp 4]⟩:=Ar.by Tryd.func66 (by kernel_rfl) (by kernel_rfl) Tryd.ntmps66 (by rw[Tryd.results66]) (by kernel_rfl)
theorem Yd:Ar Tryd.prog [0] 67 ⟨15,yN,[.tmp 2]⟩:=Ar.by Tryd.func67 (by kernel_rfl) (by kernel_rfl) Tryd.ntmps67 (by rw[Tryd.results67]) (by kernel_rfl)
theorem Ye:Ar Tryd.prog [0] 68 ⟨94,yO,[.tmp 8]⟩:=Ar.by Tryd.func68 (by kernel_rfl) (by kernel_rfl) Tryd.ntmps68 (by rw[Tryd.results68]) (by kernel_rfl)
theorem Yf:Ar Tryd.prog [0] 71 ⟨38,yP,[.tmp 4]⟩:=Ar.by Tryd.func71 (by kernel_rfl) (by kernel_rfl) Tryd.ntmps71 (by rw[Tryd.results71]) (by kernel_rfl)
theorem Yg:Ar Tryd.prog [0] 72 ⟨9,yQ,[.tmp 2]⟩:=Ar.by Tryd.func72 (by kernel_rfl) (by kernel_rfl) Tryd.ntmps72 (by rw[Tryd.results72]) (by kernel_rfl)
end Go.Proofs.YtlgmapibifphaaaDoor.MdT
set_option maxRecDepth 100000
namespace Go.Proofs.YtlgmapibifphaaaDoor.MdT
open Go Go.Sp Go.MdT
theorem yT:Cu Tryd.prog 3 xC:=Cu.by Tryd.underlying3 (inf:=Tryd.t3) (by kernel_rfl) (by kernel_rfl) (by kernel_rfl) (by kernel_rfl) (by kernel_rfl) (fun h=>by cases h)
theorem yU:Cu Tryd.prog 5 ti5:=Cu.by Tryd.underlying5 (inf:=Tryd.t5) (by kernel_rfl) (by kernel_rfl) (by kernel_rfl) (by kernel_rfl) (by kernel_rfl) (fun h=>by cases h)
theorem yV:Cu Tryd.prog 9 ti9:=Cu.by Tryd.underlying9 (inf:=Tryd.t9) (by kernel_rfl) (by kernel_rfl) (by kernel_rfl) (by kernel_rfl) (by kernel_rfl) (fun h=>by cases h)
theorem uM:Cu Tryd.prog 22 rO:=Cu.by Tryd.underlying22 (inf:=Tryd.t22) (by kernel_rfl) (by kernel_rfl) (by kernel_rfl) (by kernel_rfl) (by kernel_rfl) (fun h=>by cases h)
theorem uN:Cu Tryd.prog 24 rP:=Cu.by Tryd.underlying24 (inf:=Tryd.t24) (by kernel_rfl) (by kernel_rfl) (by kernel_rfl) (by kernel_rfl) (by kernel_rfl) (fun h=>by cases h)
theorem uO:Cu Tryd.prog 27 rQ:=Cu.by Tryd.underlying27 (inf:=Tryd.t27) (by kernel_rfl) (by kernel_rfl) (by kernel_rfl) (by kernel_rfl) (by kernel_rfl) (fun h=>by cases h)
theorem uP:Cu Tryd.prog 28 rR:=Cu.by Tryd.underlying28 (inf:=Tryd.t28) (by kernel_rfl) (by kernel_rfl) (by kernel_rfl) (by kernel_rfl) (by kernel_rfl) (fun h=>by cases h)
theorem uQ:Cu Tryd.prog 34 rT:=Cu.by Tryd.underlying34 (inf:=Tryd.t34) (by kernel_rfl) (by kernel_rfl) (by kernel_rfl) (by kernel_rfl) (by kernel_rfl) (fun h=>by cases h)
theorem uR:Cu Tryd.prog 43 rU:=Cu.by Tryd.underlying43 (inf:=Tryd.t43) (by kernel_rfl) (by kernel_rfl) (by kernel_rfl) (by kernel_rfl) (by kernel_rfl) (fun _=>⟨_,rfl,Fl.ok (d:=8) (⟨by kernel_rfl,.inr (.inr (.inr (.inl ⟨10,5,[(.int .u8 0)],Tryd.underlying43,⟨by kernel_rfl,.inl ⟨⟨_,Tryd.underlying5⟩,_,_,rfl⟩⟩,by kernel_rfl⟩)))⟩) (by decide) ⟨_,Tryd.underlying43,rfl⟩ (by kernel_rfl)⟩)
theorem uS:Cu Tryd.prog 45 rV:=Cu.by Tryd.underlying45 (inf:=Tryd.t45) (by kernel_rfl) (by kernel_rfl) (by kernel_rfl) (by kernel_rfl) (by kernel_rfl) (fun _=>⟨_,rfl,Fl.ok (d:=8) (⟨by kernel_rfl,.inr (.inr (.inr (.inr ⟨_,Tryd.underlying45,by kernel_rfl,⟨by decide,rfl,[(.int .u8 0)],[(.int .u8 0),(.int .u8 0),(.int .u8 0),(.int .u8 0),(.int .u8 0),(.int .u8 0),(.int .u8 0),(.int .u8 0),(.int .u8 0),(.int .u8 0),(.int .u8 0),(.int .u8 0),(.int .u8 0),(.int .u8 0),(.int .u8 0),(.int .u8 0),(.int .u8 0),(.int .u8 0),(.int .u8 0),(.int .u8 0),(.int .u8 0)],rfl,⟨by kernel_rfl,.inl ⟨⟨_,Tryd.underlying5⟩,_,_,rfl⟩⟩,⟨by decide,rfl,[(.int .u8 0)],[(.int .u8 0),(.int .u8 0),(.int .u8 0),(.int .u8 0),(.int .u8 0),(.int .u8 0),(.int .u8 0),(.int .u8 0),(.int .u8 0),(.int .u8 0),(.int .u8 0),(.int .u8 0),(.int .u8 0),(.int .u8 0),(.int .u8 0),(.int .u8 0),(.int .u8 0),(.int .u8 0),(.int .u8 0),(.int .u8 0)],rfl,⟨by kernel_rfl,.inl ⟨⟨_,Tryd.underlying5⟩,_,_,rfl⟩⟩,⟨by decide,rfl,[(.int .u8 0),(.int .u8 0),(.int .u8 0),(.int .u8 0),(.int .u8 0),(.int .u8 0),(.int .u8 0),(.int .u8 0),(.int .u8 0),(.int .u8 0)],[(.int .u8 0),(.int .u8 0),(.int .u8 0),(.int .u8 0),(.int .u8 0),(.int .u8 0),(.int .u8 0),(.int .u8 0),(.int .u8 0),(.int .u8 0)],rfl,⟨by kernel_rfl,.inr (.inr (.inr (.inl ⟨10,5,[(.int .u8 0)],Tryd.underlying43,⟨by kernel_rfl,.inl ⟨⟨_,Tryd.underlying5⟩,_,_,rfl⟩⟩,by kernel_rfl⟩)))⟩,⟨by decide,rfl,[(.int .u8 0),(.int .u8 0),(.int .u8 0),(.int .u8 0),(.int .u8 0),(.int .u8 0),(.int .u8 0),(.int .u8 0),(.int .u8 0),(.int .u8 0)],[],rfl,⟨by kernel_rfl,.inr (.inr (.inr (.inl ⟨10,5,[(.int .u8 0)],Tryd.underlying43,⟨by kernel_rfl,.inl ⟨⟨_,Tryd.underlying5⟩,_,_,rfl⟩⟩,by kernel_rfl⟩)))⟩,rfl⟩⟩⟩⟩⟩)))⟩) (by decide) ⟨_,Tryd.underlying45,rfl⟩ (by kernel_rfl)⟩)
theorem uT:Cu Tryd.prog 51 rW:=Cu.by Tryd.underlying51 (inf:=Tryd.t51) (by kernel_rfl) (by kernel_rfl) (by kernel_rfl) (by kernel_rfl) (by kernel_rfl) (fun _=>⟨_,rfl,Fl.ok (d:=8) (⟨by kernel_rfl,.inr (.inr (.inr (.inl ⟨2,3,[(.int .i64 0)],Tryd.underlying51,⟨by kernel_rfl,.inl ⟨⟨_,Tryd.underlying3⟩,_,_,rfl⟩⟩,by kernel_rfl⟩)))⟩) (by decide) ⟨_,Tryd.underlying51,rfl⟩ (by kernel_rfl)⟩)
theorem uU:Cu Tryd.prog 79 rX:=Cu.by Tryd.underlying79 (inf:=Tryd.t79) (by kernel_rfl) (by kernel_rfl) (by kernel_rfl) (by kernel_rfl) (by kernel_rfl) (fun h=>by cases h)
theorem uV:Cu Tryd.prog 80 rY:=Cu.by Tryd.underlying80 (inf:=Tryd.t80) (by kernel_rfl) (by kernel_rfl) (by kernel_rfl) (by kernel_rfl) (by kernel_rfl) (fun h=>by cases h)
theorem uW:Cu Tryd.prog 94 rZ:=Cu.by Tryd.underlying94 (inf:=Tryd.t94) (by kernel_rfl) (by kernel_rfl) (by kernel_rfl) (by kernel_rfl) (by kernel_rfl) (fun h=>by cases h)
theorem uX:Cu Tryd.prog 97 sD:=Cu.by Tryd.underlying97 (inf:=Tryd.t97) (by kernel_rfl) (by kernel_rfl) (by kernel_rfl) (by kernel_rfl) (by kernel_rfl) (fun _=>⟨_,rfl,Fl.ok (d:=8) (⟨by kernel_rfl,.inr (.inr (.inr (.inl ⟨5,3,[(.int .i64 0)],Tryd.underlying97,⟨by kernel_rfl,.inl ⟨⟨_,Tryd.underlying3⟩,_,_,rfl⟩⟩,by kernel_rfl⟩)))⟩) (by decide) ⟨_,Tryd.underlying97,rfl⟩ (by kernel_rfl)⟩)
theorem gU:Cu Tryd.prog 101 XK:=Cu.by Tryd.underlying101 (inf:=Tryd.t101) (by kernel_rfl) (by kernel_rfl) (by kernel_rfl) (by kernel_rfl) (by kernel_rfl) (fun h=>by cases h)
theorem gV:Cu Tryd.prog 102 XL:=Cu.by Tryd.underlying102 (inf:=Tryd.t102) (by kernel_rfl) (by kernel_rfl) (by kernel_rfl) (by kernel_rfl) (by kernel_rfl) (fun h=>by cases h)
theorem gZ:Cu Tryd.prog 103 XM:=Cu.by Tryd.underlying103 (inf:=Tryd.t103) (by kernel_rfl) (by kernel_rfl) (by kernel_rfl) (by kernel_rfl) (by kernel_rfl) (fun h=>by cases h)
theorem iA:Cu Tryd.prog 105 XN:=Cu.by Tryd.underlying105 (inf:=Tryd.t105) (by kernel_rfl) (by kernel_rfl) (by kernel_rfl) (by kernel_rfl) (by kernel_rfl) (fun h=>by cases h)
theorem iB:Cu Tryd.prog 107 XO:=Cu.by Tryd.underlying107 (inf:=Tryd.t107) (by kernel_rfl) (by kernel_rfl) (by kernel_rfl) (by kernel_rfl) (by kernel_rfl) (fun _=>⟨_,rfl,Fl.ok (d:=8) (⟨by kernel_rfl,.inr (.inr (.inr (.inl ⟨32,5,[(.int .u8 0)],Tryd.underlying107,⟨by kernel_rfl,.inl ⟨⟨_,Tryd.underlying5⟩,_,_,rfl⟩⟩,by kernel_rfl⟩)))⟩) (by decide) ⟨_,Tryd.underlying107,rfl⟩ (by kernel_rfl)⟩)
theorem iC:Cu Tryd.prog 108 XP:=Cu.by Tryd.underlying108 (inf:=Tryd.t108) (by kernel_rfl) (by kernel_rfl) (by kernel_rfl) (by kernel_rfl) (by kernel_rfl) (fun h=>by cases h)
theorem ttOk:Jm Tryd.prog tt:=Jm.of_all (t:=sF) ⟨trivial,⟨trivial,⟨yT,⟨trivial,⟨trivial,trivial,⟨trivial,⟨uU,trivial,trivial⟩,trivial⟩⟩,⟨trivial,⟨trivial,trivial,⟨gZ,trivial,trivial⟩⟩,trivial⟩⟩,⟨trivial,⟨trivial,trivial,⟨uT,trivial,trivial⟩⟩,⟨uO,⟨uR,trivial,⟨iB,trivial,trivial⟩⟩,trivial⟩⟩⟩,⟨yU,⟨yV,⟨trivial,⟨trivial,trivial,⟨uX,trivial,trivial⟩⟩,trivial⟩,⟨trivial,⟨trivial,trivial,⟨iA,trivial,trivial⟩⟩,trivial⟩⟩,⟨trivial,⟨trivial,⟨trivial,trivial,⟨gU,trivial,trivial⟩⟩,trivial⟩,⟨trivial,⟨uS,trivial,trivial⟩,trivial⟩⟩⟩⟩,⟨trivial,⟨trivial,⟨trivial,⟨trivial,trivial,⟨trivial,⟨uV,trivial,trivial⟩,trivial⟩⟩,⟨uN,trivial,trivial⟩⟩,⟨trivial,trivial,⟨uP,⟨trivial,trivial,⟨iC,trivial,trivial⟩⟩,trivial⟩⟩⟩,⟨trivial,⟨trivial,⟨trivial,⟨uQ,trivial,trivial⟩,trivial⟩,trivial⟩,⟨trivial,⟨uM,⟨trivial,trivial,⟨gV,trivial,trivial⟩⟩,trivial⟩,⟨trivial,trivial,⟨trivial,⟨uW,trivial,trivial⟩,trivial⟩⟩⟩⟩⟩⟩
theorem uY:sG.All (Ar Tryd.prog [0]):=⟨trivial,⟨trivial,⟨trivial,⟨trivial,⟨tV,⟨uC,⟨uL,trivial,trivial⟩,trivial⟩,⟨X0,trivial,trivial⟩⟩,⟨trivial,⟨uF,⟨Yf,trivial,trivial⟩,trivial⟩,trivial⟩⟩,⟨trivial,⟨trivial,⟨trivial,⟨Yd,trivial,trivial⟩,trivial⟩,⟨X4,trivial,trivial⟩⟩,⟨uB,⟨uJ,trivial,trivial⟩,trivial⟩⟩⟩,⟨trivial,⟨trivial,⟨trivial,⟨trivial,⟨Yb,trivial,trivial⟩,trivial⟩,trivial⟩,⟨tZ,⟨uH,trivial,trivial⟩,⟨uK,trivial,trivial⟩⟩⟩,⟨tQ,⟨XR,trivial,⟨X6,trivial,trivial⟩⟩,⟨XT,trivial,trivial⟩⟩⟩⟩,⟨trivial,⟨trivial,⟨tN,⟨XQ,⟨trivial,⟨Ya,trivial,trivial⟩,trivial⟩,⟨X3,trivial,trivial⟩⟩,⟨trivial,⟨uG,⟨Yg,trivial,trivial⟩,trivial⟩,trivial⟩⟩,⟨tO,⟨tY,⟨trivial,⟨Ye,trivial,trivial⟩,trivial⟩,⟨X5,trivial,trivial⟩⟩,⟨trivial,⟨XZ,trivial,trivial⟩,trivial⟩⟩⟩,⟨trivial,⟨trivial,⟨tX,⟨uD,⟨Yc,trivial,trivial⟩,trivial⟩,trivial⟩,⟨uA,⟨uI,trivial,trivial⟩,⟨X7,trivial,trivial⟩⟩⟩,⟨trivial,⟨trivial,⟨uE,trivial,trivial⟩,trivial⟩,⟨XU,trivial,⟨X9,trivial,trivial⟩⟩⟩⟩⟩⟩
theorem fnsOk (f:FuncId) (r:Xq) (h:K4 f=some r):Ar Tryd.prog [0] f r:=uY.get h
end Go.Proofs.YtlgmapibifphaaaDoor.MdT
set_option maxRecDepth 100000
namespace Go.Proofs.YtlgmapibifphaaaDoor.MdT
open Go Go.Sp Go.MdTM Go.MdT
noncomputable section
theorem fk8:Ar Tryd.prog (List.range tabs.length) 8 ⟨269,Si,[.tmp 8]⟩:=by
 have h:c8=Si:=by kernel_rfl
 rw[←h];exact tN
theorem uZ:Ar Tryd.prog (List.range tabs.length) 16 ⟨12,O4,[.tmp 2,.tmp 3]⟩:=by
 have h:xY=O4:=by kernel_rfl
 rw[←h];exact XQ
theorem vB:Ar Tryd.prog (List.range tabs.length) 21 ⟨83,O5,[.cell 6 24]⟩:=by
 have h:xZ=O5:=by kernel_rfl
 rw[←h];exact XR
theorem vC:Ar Tryd.prog (List.range tabs.length) 30 ⟨44,O6,[.tmp 2,.tmp 3]⟩:=by
 have h:yB=O6:=by kernel_rfl
 rw[←h];exact XU
theorem vD:Ar Tryd.prog (List.range tabs.length) 44 ⟨13,Sj,[.tmp 2]⟩:=by
 have h:yC=Sj:=by kernel_rfl
 rw[←h];exact XZ
theorem vE:Ar Tryd.prog (List.range tabs.length) 47 ⟨73,O7,[.tmp 2]⟩:=by
 have h:yD=O7:=by kernel_rfl
 rw[←h];exact X0
theorem vF:Ar Tryd.prog (List.range tabs.length) 48 ⟨46,O8,[.tmp 2]⟩:=by
 have h:yE=O8:=by kernel_rfl
 rw[←h];exact X3
theorem vG:Ar Tryd.prog (List.range tabs.length) 51 ⟨27,O9,[.tmp 2]⟩:=by
 have h:yF=O9:=by kernel_rfl
 rw[←h];exact X4
theorem vH:Ar Tryd.prog (List.range tabs.length) 52 ⟨15,Sk,[.tmp 6]⟩:=by
 have h:yG=Sk:=by kernel_rfl
 rw[←h];exact X5
theorem vI:Ar Tryd.prog (List.range tabs.length) 53 ⟨10,Sm,[.tmp 4]⟩:=by
 have h:yH=Sm:=by kernel_rfl
 rw[←h];exact X6
theorem vJ:Ar Tryd.prog (List.range tabs.length) 58 ⟨49,Pb,[.tmp 2]⟩:=by
 have h:yI=Pb:=by kernel_rfl
 rw[←h];exact X7
theorem vK:Ar Tryd.prog (List.range tabs.length) 62 ⟨16,Pe,[.tmp 2]⟩:=by
 have h:yJ=Pe:=by kernel_rfl
 rw[←h];exact X9
theorem vL:Ar Tryd.prog (List.range tabs.length) 64 ⟨11,Sn,[.tmp 2]⟩:=by
 have h:yK=Sn:=by kernel_rfl
 rw[←h];exact Ya
theorem vM:Ar Tryd.prog (List.range tabs.length) 67 ⟨15,Sq,[.tmp 2]⟩:=by
 have h:yN=Sq:=by kernel_rfl
 rw[←h];exact Yd
theorem vN:Ar Tryd.prog (List.range tabs.length) 71 ⟨38,Pf,[.tmp 4]⟩:=by
 have h:yP=Pf:=by kernel_rfl
 rw[←h];exact Yf
theorem vO:Ar Tryd.prog (List.range tabs.length) 72 ⟨9,Sr,[.tmp 2]⟩:=by
 have h:yQ=Sr:=by kernel_rfl
 rw[←h];exact Yg
theorem vP:Ar Tryd.prog (List.range tabs.length) 29 ⟨12,LU,[.tmp 2,.tmp 3]⟩:=by
 have h:yA=LU:=by kernel_rfl
 rw[←h];exact XT
theorem vQ:Ar Tryd.prog (List.range tabs.length) 65 ⟨8,PM,[.tmp 2]⟩:=by
 have h:yL=PM:=by kernel_rfl
 rw[←h];exact Yb
theorem vR:Ar Tryd.prog (List.range tabs.length) 66 ⟨52,LW,[.tmp 4]⟩:=by
 have h:yM=LW:=by kernel_rfl
 rw[←h];exact Yc
theorem vS:Ar Tryd.prog (List.range tabs.length) 68 ⟨94,LX,[.tmp 8]⟩:=by
 have h:yO=LX:=by kernel_rfl
 rw[←h];exact Ye
theorem Kh:∀ t∈tabs,t≠[]:=by intro t ht;simp[tabs] at ht;subst ht;intro h;cases h
theorem Ki:∀ t∈tabs,∀ x∈t,BR x=true:=by intro t ht x hx;simp[tabs] at ht;subst ht;simp[Pg] at hx;rcases hx with rfl | rfl | rfl | rfl | rfl | rfl | rfl | rfl | rfl | rfl | rfl | rfl | rfl | rfl | rfl | rfl | rfl | rfl | rfl | rfl | rfl | rfl | rfl | rfl | rfl | rfl | rfl | rfl | rfl | rfl | rfl | rfl <;> rfl
theorem iD (hm:Tryd.prog.follows .mixedOrders=true) {pu:Af} (h0:Cn Tryd.prog tabs 1 0 29 (pu 10290)) (h1:Cn Tryd.prog tabs 1 0 65 (pu 10650)) (h2:Cn Tryd.prog tabs 2 2 66 (pu 10660)) (h3:Cn Tryd.prog tabs 4 2 68 (pu 10680)):CO Tryd.prog (List.range tabs.length) (inl pu):=fun g args H v H' h=>by
 replace h:bb (Nat.beq g 63) (RZ 1 8 args H) (bb (Nat.beq g 29) (EK tabs [[none,some 1,some 1]] 1 [] [] (pu 10290) args H) (bb (Nat.beq g 65) (EK tabs [[none,some 1,some 1]] 1 [] [true,false] (pu 10650) args H) (bb (Nat.beq g 66) (EK tabs [[none],[none]] 2 [.tmp 0 true,.cell 1 3 false] [true,false] (pu 10660) args H) (bb (Nat.beq g 68) (EK tabs [[none],[some 1],[none],[none]] 4 [.tmp 0 true,.cell 1 3 false] [true,false] (pu 10680) args H) (none)))))=some (v,H'):=h
 have hq:=Ag h;clear h;rcases hq with⟨e,h⟩ | ⟨_,h⟩
 ·obtain rfl:=Nat.eq_of_beq_eq_true e
  exact R3 ttOk fnsOk hm h
 have hq:=Ag h;clear h;rcases hq with⟨e,h⟩ | ⟨_,h⟩
 ·obtain rfl:=Nat.eq_of_beq_eq_true e
  exact Ip (rs:=[]) Kh Ki h0 h
 have hq:=Ag h;clear h;rcases hq with⟨e,h⟩ | ⟨_,h⟩
 ·obtain rfl:=Nat.eq_of_beq_eq_true e
  exact Ip (rs:=[]) Kh Ki h1 h
 have hq:=Ag h;clear h;rcases hq with⟨e,h⟩ | ⟨_,h⟩
 ·obtain rfl:=Nat.eq_of_beq_eq_true e
  exact Ip (rs:=[.tmp 0 true,.cell 1 3 false]) Kh Ki h2 h
 have hq:=Ag h;clear h;rcases hq with⟨e,h⟩ | ⟨_,h⟩
 ·obtain rfl:=Nat.eq_of_beq_eq_true e
  exact Ip (rs:=[.tmp 0 true,.cell 1 3 false]) Kh Ki h3 h
 cases h
theorem WN (hm:Tryd.prog.follows .mixedOrders=true) (hw:BA Tryd.prog tabs 12 (fun args=>ll args (some (.bool true)) fun _ _=>none)) {pu:Af} (hall:(∀ g,Gy g=true→BA Tryd.prog tabs g (pu g))∧Cn Tryd.prog tabs 1 0 29 (pu 10290)∧Cn Tryd.prog tabs 1 0 65 (pu 10650)∧Cn Tryd.prog tabs 2 2 66 (pu 10660)∧Cn Tryd.prog tabs 4 2 68 (pu 10680)):(∀ g,Gy g=true→BA Tryd.prog tabs g (Um pu g))∧Cn Tryd.prog tabs 1 0 29 (Um pu 10290)∧Cn Tryd.prog tabs 1 0 65 (Um pu 10650)∧Cn Tryd.prog tabs 2 2 66 (Um pu 10660)∧Cn Tryd.prog tabs 4 2 68 (Um pu 10680):=by
 obtain⟨hpu,h0,h4,h5,h6⟩:=hall
 have hcall:=TG (P:=Tryd.prog) (tabs:=tabs) Kh Ki (iD hm h0 h4 h5 h6) hpu
 refine⟨fun g hg=>?_,?_,?_,?_,?_⟩
 ·have hg:g∈PN:=CS.1 hg
  simp only[PN,List.mem_cons,List.not_mem_nil,or_false] at hg
  rcases hg with rfl | rfl | rfl | rfl | rfl | rfl | rfl | rfl | rfl | rfl | rfl | rfl | rfl | rfl | rfl | rfl | rfl
  ·exact Aw (tabs:=tabs) (f:=m8 pu L) ttOk hm hcall fk8 fun args v h hc=>r8 pu L rfl h hc
  ·exact hw
  ·exact Aw (tabs:=tabs) (f:=kS pu L) ttOk hm hcall uZ fun args v h hc=>r16 pu L rfl h hc
  ·exact Aw (tabs:=tabs) (f:=kT pu L) ttOk hm hcall vB fun args v h hc=>r21 pu L rfl h hc
  ·exact Aw (tabs:=tabs) (f:=kU pu L) ttOk hm hcall vC fun args v h hc=>r30 pu L rfl h hc
  ·exact Aw (tabs:=tabs) (f:=xE pu L) ttOk hm hcall vD fun args v h hc=>r44 pu L rfl h hc
  ·exact Aw (tabs:=tabs) (f:=xG pu L) ttOk hm hcall vE fun args v h hc=>r47 pu L rfl h hc
  ·exact Aw (tabs:=tabs) (f:=kV pu L) ttOk hm hcall vF fun args v h hc=>r48 pu L rfl h hc
  ·exact Aw (tabs:=tabs) (f:=xH pu L) ttOk hm hcall vG fun args v h hc=>r51 pu L rfl h hc
  ·exact Aw (tabs:=tabs) (f:=xI pu L) ttOk hm hcall vH fun args v h hc=>r52 pu L rfl h hc
  ·exact Aw (tabs:=tabs) (f:=xJ pu L) ttOk hm hcall vI fun args v h hc=>r53 pu L rfl h hc
  ·exact Aw (tabs:=tabs) (f:=kW pu L) ttOk hm hcall vJ fun args v h hc=>r58 pu L rfl h hc
  ·exact Aw (tabs:=tabs) (f:=xK pu L) ttOk hm hcall vK fun args v h hc=>r62 pu L rfl h hc
  ·exact Aw (tabs:=tabs) (f:=m64 pu L) ttOk hm hcall vL fun args v h hc=>r64 pu L rfl h hc
  ·exact Aw (tabs:=tabs) (f:=xL pu L) ttOk hm hcall vM fun args v h hc=>r67 pu L rfl h hc
  ·exact Aw (tabs:=tabs) (f:=xM pu L) ttOk hm hcall vN fun args v h hc=>r71 pu L rfl h hc
  ·exact Aw (tabs:=tabs) (f:=xN pu L) ttOk hm hcall vO fun args v h hc=>r72 pu L rfl h hc
 ·exact Dx (tabs:=tabs) (f:=JN pu L) ttOk hm hcall vP fun args os z h1 h2 h3 h=>gI pu L rfl h1 h2 h3 h
 ·exact Dx (tabs:=tabs) (f:=MR pu L) ttOk hm hcall vQ fun args os z h1 h2 h3 h=>gL pu L rfl h1 h2 h3 h
 ·exact Dx (tabs:=tabs) (f:=Iy pu L) ttOk hm hcall vR fun args os z h1 h2 h3 h=>gP pu L rfl h1 h2 h3 h
 ·exact Dx (tabs:=tabs) (f:=JO pu L) ttOk hm hcall vS fun args os z h1 h2 h3 h=>gT pu L rfl h1 h2 h3 h
theorem iE (hm:Tryd.prog.follows .mixedOrders=true) (hw:BA Tryd.prog tabs 12 (fun args=>ll args (some (.bool true)) fun _ _=>none)):∀ n,(∀ g,Gy g=true→BA Tryd.prog tabs g (Fh n g))∧Cn Tryd.prog tabs 1 0 29 (Fh n 10290)∧Cn Tryd.prog tabs 1 0 65 (Fh n 10650)∧Cn Tryd.prog tabs 2 2 66 (Fh n 10660)∧Cn Tryd.prog tabs 4 2 68 (Fh n 10680):=fun n=>by
 induction n with
 | zero =>
  refine⟨fun g hg=>?_,?_,?_,?_,?_⟩
  ·have hg:g∈PN:=CS.1 hg
   simp only[PN,List.mem_cons,List.not_mem_nil,or_false] at hg
   rcases hg with rfl | rfl | rfl | rfl | rfl | rfl | rfl | rfl | rfl | rfl | rfl | rfl | rfl | rfl | rfl | rfl | rfl
   ·exact⟨A9 fk8,fun args v h=>by cases h⟩
   ·exact⟨(hw).1,fun args v h=>by cases h⟩
   ·exact⟨A9 uZ,fun args v h=>by cases h⟩
   ·exact⟨A9 vB,fun args v h=>by cases h⟩
   ·exact⟨A9 vC,fun args v h=>by cases h⟩
   ·exact⟨A9 vD,fun args v h=>by cases h⟩
   ·exact⟨A9 vE,fun args v h=>by cases h⟩
   ·exact⟨A9 vF,fun args v h=>by cases h⟩
   ·exact⟨A9 vG,fun args v h=>by cases h⟩
   ·exact⟨A9 vH,fun args v h=>by cases h⟩
   ·exact⟨A9 vI,fun args v h=>by cases h⟩
   ·exact⟨A9 vJ,fun args v h=>by cases h⟩
   ·exact⟨A9 vK,fun args v h=>by cases h⟩
   ·exact⟨A9 vL,fun args v h=>by cases h⟩
   ·exact⟨A9 vM,fun args v h=>by cases h⟩
   ·exact⟨A9 vN,fun args v h=>by cases h⟩
   ·exact⟨A9 vO,fun args v h=>by cases h⟩
  ·exact⟨A9 vP,fun args os z h1 h2 h3 h=>by cases h⟩
  ·exact⟨A9 vQ,fun args os z h1 h2 h3 h=>by cases h⟩
  ·exact⟨A9 vR,fun args os z h1 h2 h3 h=>by cases h⟩
  ·exact⟨A9 vS,fun args os z h1 h2 h3 h=>by cases h⟩
 | succ n ih=>exact WN hm hw ih
theorem pu_ok (hm:Tryd.prog.follows .mixedOrders=true) (hw:BA Tryd.prog tabs 12 (fun args=>ll args (some (.bool true)) fun _ _=>none)):∀ n g,Gy g=true→BA Tryd.prog tabs g (Fh n g):=fun n=>(iE hm hw n).1
end
end Go.Proofs.YtlgmapibifphaaaDoor.MdT
