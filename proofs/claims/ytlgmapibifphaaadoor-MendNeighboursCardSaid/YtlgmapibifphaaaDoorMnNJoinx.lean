/- Made from wip. -/
import Derived.Test.YtlgmapibifphaaaDoorProg
import Derived.Test.YtlgmapibifphaaaDoorSpObjx
import Derived.Test.YtlgmapibifphaaaDoorMnNCodex
import Derived.Test.YtlgmapibifphaaaDoorMnNPux

set_option maxRecDepth 100000
namespace Go.Proofs.YtlgmapibifphaaaDoor.MnN
open Go Go.Sp Go.MnN
theorem wK:Ar Tryd.prog [0] 7 ⟨157,c7,[.tmp 2]⟩:=Ar.by Tryd.func7 (by kernel_rfl) (by kernel_rfl) Tryd.ntmps7 (by rw[Tryd.results7]) (by kernel_rfl)
theorem wL:Ar Tryd.prog [0] 12 ⟨218,c12,[.tmp 0]⟩:=Ar.by Tryd.func12 (by kernel_rfl) (by kernel_rfl) Tryd.ntmps12 (by rw[Tryd.results12]) (by kernel_rfl)
theorem wM:Ar Tryd.prog [0] 13 ⟨47,c13,[.tmp 2,.tmp 3]⟩:=Ar.by Tryd.func13 (by kernel_rfl) (by kernel_rfl) Tryd.ntmps13 (by rw[Tryd.results13]) (by kernel_rfl)
theorem wN:Ar Tryd.prog [0] 15 ⟨26,c15,[.tmp 4]⟩:=Ar.by Tryd.func15 (by kernel_rfl) (by kernel_rfl) Tryd.ntmps15 (by rw[Tryd.results15]) (by kernel_rfl)
theorem wO:Ar Tryd.prog [0] 16 ⟨12,c16,[.tmp 2,.tmp 3]⟩:=Ar.by Tryd.func16 (by kernel_rfl) (by kernel_rfl) Tryd.ntmps16 (by rw[Tryd.results16]) (by kernel_rfl)
theorem wP:Ar Tryd.prog [0] 18 ⟨91,c18,[.tmp 4,.tmp 5]⟩:=Ar.by Tryd.func18 (by kernel_rfl) (by kernel_rfl) Tryd.ntmps18 (by rw[Tryd.results18]) (by kernel_rfl)
theorem wQ:Ar Tryd.prog [0] 20 ⟨27,c20,[.tmp 4]⟩:=Ar.by Tryd.func20 (by kernel_rfl) (by kernel_rfl) Tryd.ntmps20 (by rw[Tryd.results20]) (by kernel_rfl)
theorem bN:Ar Tryd.prog [0] 21 ⟨83,c21,[.cell 6 24]⟩:=Ar.by Tryd.func21 (by kernel_rfl) (by kernel_rfl) Tryd.ntmps21 (by rw[Tryd.results21]) (by kernel_rfl)
theorem bO:Ar Tryd.prog [0] 22 ⟨77,c22,[.tmp 4]⟩:=Ar.by Tryd.func22 (by kernel_rfl) (by kernel_rfl) Tryd.ntmps22 (by rw[Tryd.results22]) (by kernel_rfl)
theorem bP:Ar Tryd.prog [0] 23 ⟨18,c23,[.tmp 2]⟩:=Ar.by Tryd.func23 (by kernel_rfl) (by kernel_rfl) Tryd.ntmps23 (by rw[Tryd.results23]) (by kernel_rfl)
theorem bQ:Ar Tryd.prog [0] 24 ⟨26,c24,[.tmp 6]⟩:=Ar.by Tryd.func24 (by kernel_rfl) (by kernel_rfl) Tryd.ntmps24 (by rw[Tryd.results24]) (by kernel_rfl)
theorem wR:Ar Tryd.prog [0] 25 ⟨25,c25,[.cell 6 24,.tmp 7]⟩:=Ar.by Tryd.func25 (by kernel_rfl) (by kernel_rfl) Tryd.ntmps25 (by rw[Tryd.results25]) (by kernel_rfl)
theorem wS:Ar Tryd.prog [0] 26 ⟨26,c26,[.tmp 4]⟩:=Ar.by Tryd.func26 (by kernel_rfl) (by kernel_rfl) Tryd.ntmps26 (by rw[Tryd.results26]) (by kernel_rfl)
theorem wT:Ar Tryd.prog [0] 27 ⟨22,c27,[.tmp 4,.tmp 5]⟩:=Ar.by Tryd.func27 (by kernel_rfl) (by kernel_rfl) Tryd.ntmps27 (by rw[Tryd.results27]) (by kernel_rfl)
theorem bR:Ar Tryd.prog [0] 29 ⟨12,c29,[.tmp 2,.tmp 3]⟩:=Ar.by Tryd.func29 (by kernel_rfl) (by kernel_rfl) Tryd.ntmps29 (by rw[Tryd.results29]) (by kernel_rfl)
theorem bS:Ar Tryd.prog [0] 30 ⟨44,c30,[.tmp 2,.tmp 3]⟩:=Ar.by Tryd.func30 (by kernel_rfl) (by kernel_rfl) Tryd.ntmps30 (by rw[Tryd.results30]) (by kernel_rfl)
theorem bT:Ar Tryd.prog [0] 31 ⟨12,c31,[.tmp 2,.tmp 3]⟩:=Ar.by Tryd.func31 (by kernel_rfl) (by kernel_rfl) Tryd.ntmps31 (by rw[Tryd.results31]) (by kernel_rfl)
theorem wU:Ar Tryd.prog [0] 34 ⟨39,c34,[.tmp 4]⟩:=Ar.by Tryd.func34 (by kernel_rfl) (by kernel_rfl) Tryd.ntmps34 (by rw[Tryd.results34]) (by kernel_rfl)
theorem wV:Ar Tryd.prog [0] 38 ⟨13,c38,[.tmp 2,.tmp 3]⟩:=Ar.by Tryd.func38 (by kernel_rfl) (by kernel_rfl) Tryd.ntmps38 (by rw[Tryd.results38]) (by kernel_rfl)
theorem wW:Ar Tryd.prog [0] 39 ⟨6,c39,[.cell 0 24]⟩:=Ar.by Tryd.func39 (by kernel_rfl) (by kernel_rfl) Tryd.ntmps39 (by rw[Tryd.results39]) (by kernel_rfl)
theorem wZ:Ar Tryd.prog [0] 40 ⟨6,c40,[.cell 0 24]⟩:=Ar.by Tryd.func40 (by kernel_rfl) (by kernel_rfl) Tryd.ntmps40 (by rw[Tryd.results40]) (by kernel_rfl)
theorem xA:Ar Tryd.prog [0] 41 ⟨4,c41,[.tmp 2]⟩:=Ar.by Tryd.func41 (by kernel_rfl) (by kernel_rfl) Tryd.ntmps41 (by rw[Tryd.results41]) (by kernel_rfl)
theorem xB:Ar Tryd.prog [0] 42 ⟨4,c42,[.tmp 2]⟩:=Ar.by Tryd.func42 (by kernel_rfl) (by kernel_rfl) Tryd.ntmps42 (by rw[Tryd.results42]) (by kernel_rfl)
theorem xC:Ar Tryd.prog [0] 43 ⟨36,c43,[.cell 6 24]⟩:=Ar.by Tryd.func43 (by kernel_rfl) (by kernel_rfl) Tryd.ntmps43 (by rw[Tryd.results43]) (by kernel_rfl)
theorem bU:Ar Tryd.prog [0] 44 ⟨13,c44,[.tmp 2]⟩:=Ar.by Tryd.func44 (by kernel_rfl) (by kernel_rfl) Tryd.ntmps44 (by rw[Tryd.results44]) (by kernel_rfl)
end Go.Proofs.YtlgmapibifphaaaDoor.MnN
set_option maxRecDepth 100000
namespace Go.Proofs.YtlgmapibifphaaaDoor.MnN
open Go Go.Sp Go.MnN
theorem bV:Ar Tryd.prog [0] 47 ⟨73,c47,[.tmp 2]⟩:=Ar.by Tryd.func47 (by kernel_rfl) (by kernel_rfl) Tryd.ntmps47 (by rw[Tryd.results47]) (by kernel_rfl)
theorem xD:Ar Tryd.prog [0] 48 ⟨46,c48,[.tmp 2]⟩:=Ar.by Tryd.func48 (by kernel_rfl) (by kernel_rfl) Tryd.ntmps48 (by rw[Tryd.results48]) (by kernel_rfl)
theorem bW:Ar Tryd.prog [0] 51 ⟨27,c51,[.tmp 2]⟩:=Ar.by Tryd.func51 (by kernel_rfl) (by kernel_rfl) Tryd.ntmps51 (by rw[Tryd.results51]) (by kernel_rfl)
theorem bX:Ar Tryd.prog [0] 52 ⟨15,c52,[.tmp 6]⟩:=Ar.by Tryd.func52 (by kernel_rfl) (by kernel_rfl) Tryd.ntmps52 (by rw[Tryd.results52]) (by kernel_rfl)
theorem bY:Ar Tryd.prog [0] 53 ⟨10,c53,[.tmp 4]⟩:=Ar.by Tryd.func53 (by kernel_rfl) (by kernel_rfl) Tryd.ntmps53 (by rw[Tryd.results53]) (by kernel_rfl)
theorem xE:Ar Tryd.prog [0] 57 ⟨25,c57,[.tmp 6]⟩:=Ar.by Tryd.func57 (by kernel_rfl) (by kernel_rfl) Tryd.ntmps57 (by rw[Tryd.results57]) (by kernel_rfl)
theorem bZ:Ar Tryd.prog [0] 58 ⟨49,c58,[.tmp 2]⟩:=Ar.by Tryd.func58 (by kernel_rfl) (by kernel_rfl) Tryd.ntmps58 (by rw[Tryd.results58]) (by kernel_rfl)
theorem cB:Ar Tryd.prog [0] 62 ⟨16,c62,[.tmp 2]⟩:=Ar.by Tryd.func62 (by kernel_rfl) (by kernel_rfl) Tryd.ntmps62 (by rw[Tryd.results62]) (by kernel_rfl)
theorem xG:Ar Tryd.prog [0] 63 ⟨8,c63,[.tmp 2]⟩:=Ar.by Tryd.func63 (by kernel_rfl) (by kernel_rfl) Tryd.ntmps63 (by rw[Tryd.results63]) (by kernel_rfl)
theorem cK:Ar Tryd.prog [0] 64 ⟨11,c64,[.tmp 2]⟩:=Ar.by Tryd.func64 (by kernel_rfl) (by kernel_rfl) Tryd.ntmps64 (by rw[Tryd.results64]) (by kernel_rfl)
theorem cO:Ar Tryd.prog [0] 65 ⟨8,c65,[.tmp 2]⟩:=Ar.by Tryd.func65 (by kernel_rfl) (by kernel_rfl) Tryd.ntmps65 (by rw[Tryd.results65]) (by kernel_rfl)
theorem cZ:Ar Tryd.prog [0] 66 ⟨52,c66,[.tmp 4]⟩:=Ar.by Tryd.func66 (by kernel_rfl) (by kernel_rfl) Tryd.ntmps66 (by rw[Tryd.results66]) (by kernel_rfl)
theorem dA:Ar Tryd.prog [0] 67 ⟨15,c67,[.tmp 2]⟩:=Ar.by Tryd.func67 (by kernel_rfl) (by kernel_rfl) Tryd.ntmps67 (by rw[Tryd.results67]) (by kernel_rfl)
theorem xH:Ar Tryd.prog [0] 68 ⟨94,c68,[.tmp 8]⟩:=Ar.by Tryd.func68 (by kernel_rfl) (by kernel_rfl) Tryd.ntmps68 (by rw[Tryd.results68]) (by kernel_rfl)
theorem dB:Ar Tryd.prog [0] 71 ⟨38,c71,[.tmp 4]⟩:=Ar.by Tryd.func71 (by kernel_rfl) (by kernel_rfl) Tryd.ntmps71 (by rw[Tryd.results71]) (by kernel_rfl)
theorem xI:Ar Tryd.prog [0] 72 ⟨9,c72,[.tmp 2]⟩:=Ar.by Tryd.func72 (by kernel_rfl) (by kernel_rfl) Tryd.ntmps72 (by rw[Tryd.results72]) (by kernel_rfl)
end Go.Proofs.YtlgmapibifphaaaDoor.MnN
set_option maxRecDepth 100000
namespace Go.Proofs.YtlgmapibifphaaaDoor.MnN
open Go Go.Sp Go.MnN
theorem Aa2:Cu Tryd.prog 3 ti3:=Cu.by Tryd.underlying3 (inf:=Tryd.t3) (by kernel_rfl) (by kernel_rfl) (by kernel_rfl) (by kernel_rfl) (by kernel_rfl) (fun h=>by cases h)
theorem Aa3:Cu Tryd.prog 4 ti4:=Cu.by Tryd.underlying4 (inf:=Tryd.t4) (by kernel_rfl) (by kernel_rfl) (by kernel_rfl) (by kernel_rfl) (by kernel_rfl) (fun h=>by cases h)
theorem Aa4:Cu Tryd.prog 5 ti5:=Cu.by Tryd.underlying5 (inf:=Tryd.t5) (by kernel_rfl) (by kernel_rfl) (by kernel_rfl) (by kernel_rfl) (by kernel_rfl) (fun h=>by cases h)
theorem Aa5:Cu Tryd.prog 9 ti9:=Cu.by Tryd.underlying9 (inf:=Tryd.t9) (by kernel_rfl) (by kernel_rfl) (by kernel_rfl) (by kernel_rfl) (by kernel_rfl) (fun h=>by cases h)
theorem xJ:Cu Tryd.prog 22 uS:=Cu.by Tryd.underlying22 (inf:=Tryd.t22) (by kernel_rfl) (by kernel_rfl) (by kernel_rfl) (by kernel_rfl) (by kernel_rfl) (fun h=>by cases h)
theorem xK:Cu Tryd.prog 24 uT:=Cu.by Tryd.underlying24 (inf:=Tryd.t24) (by kernel_rfl) (by kernel_rfl) (by kernel_rfl) (by kernel_rfl) (by kernel_rfl) (fun h=>by cases h)
theorem xL:Cu Tryd.prog 27 uU:=Cu.by Tryd.underlying27 (inf:=Tryd.t27) (by kernel_rfl) (by kernel_rfl) (by kernel_rfl) (by kernel_rfl) (by kernel_rfl) (fun h=>by cases h)
theorem xM:Cu Tryd.prog 28 uV:=Cu.by Tryd.underlying28 (inf:=Tryd.t28) (by kernel_rfl) (by kernel_rfl) (by kernel_rfl) (by kernel_rfl) (by kernel_rfl) (fun h=>by cases h)
theorem xN:Cu Tryd.prog 34 uW:=Cu.by Tryd.underlying34 (inf:=Tryd.t34) (by kernel_rfl) (by kernel_rfl) (by kernel_rfl) (by kernel_rfl) (by kernel_rfl) (fun h=>by cases h)
theorem xO:Cu Tryd.prog 43 uX:=Cu.by Tryd.underlying43 (inf:=Tryd.t43) (by kernel_rfl) (by kernel_rfl) (by kernel_rfl) (by kernel_rfl) (by kernel_rfl) (fun _=>⟨_,rfl,Fl.ok (d:=8) (⟨by kernel_rfl,.inr (.inr (.inr (.inl ⟨10,5,[(.int .u8 0)],Tryd.underlying43,⟨by kernel_rfl,.inl ⟨⟨_,Tryd.underlying5⟩,_,_,rfl⟩⟩,by kernel_rfl⟩)))⟩) (by decide) ⟨_,Tryd.underlying43,rfl⟩ (by kernel_rfl)⟩)
theorem xP:Cu Tryd.prog 45 uY:=Cu.by Tryd.underlying45 (inf:=Tryd.t45) (by kernel_rfl) (by kernel_rfl) (by kernel_rfl) (by kernel_rfl) (by kernel_rfl) (fun _=>⟨_,rfl,Fl.ok (d:=8) (⟨by kernel_rfl,.inr (.inr (.inr (.inr ⟨_,Tryd.underlying45,by kernel_rfl,⟨by decide,rfl,[(.int .u8 0)],[(.int .u8 0),(.int .u8 0),(.int .u8 0),(.int .u8 0),(.int .u8 0),(.int .u8 0),(.int .u8 0),(.int .u8 0),(.int .u8 0),(.int .u8 0),(.int .u8 0),(.int .u8 0),(.int .u8 0),(.int .u8 0),(.int .u8 0),(.int .u8 0),(.int .u8 0),(.int .u8 0),(.int .u8 0),(.int .u8 0),(.int .u8 0)],rfl,⟨by kernel_rfl,.inl ⟨⟨_,Tryd.underlying5⟩,_,_,rfl⟩⟩,⟨by decide,rfl,[(.int .u8 0)],[(.int .u8 0),(.int .u8 0),(.int .u8 0),(.int .u8 0),(.int .u8 0),(.int .u8 0),(.int .u8 0),(.int .u8 0),(.int .u8 0),(.int .u8 0),(.int .u8 0),(.int .u8 0),(.int .u8 0),(.int .u8 0),(.int .u8 0),(.int .u8 0),(.int .u8 0),(.int .u8 0),(.int .u8 0),(.int .u8 0)],rfl,⟨by kernel_rfl,.inl ⟨⟨_,Tryd.underlying5⟩,_,_,rfl⟩⟩,⟨by decide,rfl,[(.int .u8 0),(.int .u8 0),(.int .u8 0),(.int .u8 0),(.int .u8 0),(.int .u8 0),(.int .u8 0),(.int .u8 0),(.int .u8 0),(.int .u8 0)],[(.int .u8 0),(.int .u8 0),(.int .u8 0),(.int .u8 0),(.int .u8 0),(.int .u8 0),(.int .u8 0),(.int .u8 0),(.int .u8 0),(.int .u8 0)],rfl,⟨by kernel_rfl,.inr (.inr (.inr (.inl ⟨10,5,[(.int .u8 0)],Tryd.underlying43,⟨by kernel_rfl,.inl ⟨⟨_,Tryd.underlying5⟩,_,_,rfl⟩⟩,by kernel_rfl⟩)))⟩,⟨by decide,rfl,[(.int .u8 0),(.int .u8 0),(.int .u8 0),(.int .u8 0),(.int .u8 0),(.int .u8 0),(.int .u8 0),(.int .u8 0),(.int .u8 0),(.int .u8 0)],[],rfl,⟨by kernel_rfl,.inr (.inr (.inr (.inl ⟨10,5,[(.int .u8 0)],Tryd.underlying43,⟨by kernel_rfl,.inl ⟨⟨_,Tryd.underlying5⟩,_,_,rfl⟩⟩,by kernel_rfl⟩)))⟩,rfl⟩⟩⟩⟩⟩)))⟩) (by decide) ⟨_,Tryd.underlying45,rfl⟩ (by kernel_rfl)⟩)
theorem xQ:Cu Tryd.prog 47 uZ:=Cu.by Tryd.underlying47 (inf:=Tryd.t47) (by kernel_rfl) (by kernel_rfl) (by kernel_rfl) (by kernel_rfl) (by kernel_rfl) (fun h=>by cases h)
theorem xR:Cu Tryd.prog 51 vC:=Cu.by Tryd.underlying51 (inf:=Tryd.t51) (by kernel_rfl) (by kernel_rfl) (by kernel_rfl) (by kernel_rfl) (by kernel_rfl) (fun _=>⟨_,rfl,Fl.ok (d:=8) (⟨by kernel_rfl,.inr (.inr (.inr (.inl ⟨2,3,[(.int .i64 0)],Tryd.underlying51,⟨by kernel_rfl,.inl ⟨⟨_,Tryd.underlying3⟩,_,_,rfl⟩⟩,by kernel_rfl⟩)))⟩) (by decide) ⟨_,Tryd.underlying51,rfl⟩ (by kernel_rfl)⟩)
theorem xS:Cu Tryd.prog 79 vD:=Cu.by Tryd.underlying79 (inf:=Tryd.t79) (by kernel_rfl) (by kernel_rfl) (by kernel_rfl) (by kernel_rfl) (by kernel_rfl) (fun h=>by cases h)
theorem xU:Cu Tryd.prog 80 vE:=Cu.by Tryd.underlying80 (inf:=Tryd.t80) (by kernel_rfl) (by kernel_rfl) (by kernel_rfl) (by kernel_rfl) (by kernel_rfl) (fun h=>by cases h)
theorem xV:Cu Tryd.prog 94 vF:=Cu.by Tryd.underlying94 (inf:=Tryd.t94) (by kernel_rfl) (by kernel_rfl) (by kernel_rfl) (by kernel_rfl) (by kernel_rfl) (fun h=>by cases h)
theorem xW:Cu Tryd.prog 97 vG:=Cu.by Tryd.underlying97 (inf:=Tryd.t97) (by kernel_rfl) (by kernel_rfl) (by kernel_rfl) (by kernel_rfl) (by kernel_rfl) (fun _=>⟨_,rfl,Fl.ok (d:=8) (⟨by kernel_rfl,.inr (.inr (.inr (.inl ⟨5,3,[(.int .i64 0)],Tryd.underlying97,⟨by kernel_rfl,.inl ⟨⟨_,Tryd.underlying3⟩,_,_,rfl⟩⟩,by kernel_rfl⟩)))⟩) (by decide) ⟨_,Tryd.underlying97,rfl⟩ (by kernel_rfl)⟩)
theorem nJ:Cu Tryd.prog 101 ZT:=Cu.by Tryd.underlying101 (inf:=Tryd.t101) (by kernel_rfl) (by kernel_rfl) (by kernel_rfl) (by kernel_rfl) (by kernel_rfl) (fun h=>by cases h)
theorem nK:Cu Tryd.prog 102 bI:=Cu.by Tryd.underlying102 (inf:=Tryd.t102) (by kernel_rfl) (by kernel_rfl) (by kernel_rfl) (by kernel_rfl) (by kernel_rfl) (fun h=>by cases h)
theorem nL:Cu Tryd.prog 103 bJ:=Cu.by Tryd.underlying103 (inf:=Tryd.t103) (by kernel_rfl) (by kernel_rfl) (by kernel_rfl) (by kernel_rfl) (by kernel_rfl) (fun h=>by cases h)
theorem nM:Cu Tryd.prog 105 bK:=Cu.by Tryd.underlying105 (inf:=Tryd.t105) (by kernel_rfl) (by kernel_rfl) (by kernel_rfl) (by kernel_rfl) (by kernel_rfl) (fun h=>by cases h)
theorem nN:Cu Tryd.prog 107 bL:=Cu.by Tryd.underlying107 (inf:=Tryd.t107) (by kernel_rfl) (by kernel_rfl) (by kernel_rfl) (by kernel_rfl) (by kernel_rfl) (fun _=>⟨_,rfl,Fl.ok (d:=8) (⟨by kernel_rfl,.inr (.inr (.inr (.inl ⟨32,5,[(.int .u8 0)],Tryd.underlying107,⟨by kernel_rfl,.inl ⟨⟨_,Tryd.underlying5⟩,_,_,rfl⟩⟩,by kernel_rfl⟩)))⟩) (by decide) ⟨_,Tryd.underlying107,rfl⟩ (by kernel_rfl)⟩)
theorem nO:Cu Tryd.prog 108 bM:=Cu.by Tryd.underlying108 (inf:=Tryd.t108) (by kernel_rfl) (by kernel_rfl) (by kernel_rfl) (by kernel_rfl) (by kernel_rfl) (fun h=>by cases h)
theorem ttOk:Jm Tryd.prog tt:=Jm.of_all (t:=vH) ⟨trivial,⟨trivial,⟨Aa2,⟨trivial,⟨trivial,trivial,⟨xQ,⟨xS,trivial,trivial⟩,trivial⟩⟩,⟨trivial,⟨trivial,trivial,⟨nL,trivial,trivial⟩⟩,trivial⟩⟩,⟨trivial,⟨trivial,trivial,⟨xR,trivial,trivial⟩⟩,⟨xL,⟨xO,trivial,⟨nN,trivial,trivial⟩⟩,trivial⟩⟩⟩,⟨Aa4,⟨Aa5,⟨trivial,⟨trivial,trivial,⟨xW,trivial,trivial⟩⟩,trivial⟩,⟨trivial,⟨trivial,trivial,⟨nM,trivial,trivial⟩⟩,trivial⟩⟩,⟨trivial,⟨trivial,⟨trivial,trivial,⟨nJ,trivial,trivial⟩⟩,trivial⟩,⟨trivial,⟨xP,trivial,trivial⟩,trivial⟩⟩⟩⟩,⟨trivial,⟨Aa3,⟨trivial,⟨trivial,trivial,⟨trivial,⟨xU,trivial,trivial⟩,trivial⟩⟩,⟨xK,trivial,trivial⟩⟩,⟨trivial,trivial,⟨xM,⟨trivial,trivial,⟨nO,trivial,trivial⟩⟩,trivial⟩⟩⟩,⟨trivial,⟨trivial,⟨trivial,⟨xN,trivial,trivial⟩,trivial⟩,trivial⟩,⟨trivial,⟨xJ,⟨trivial,trivial,⟨nK,trivial,trivial⟩⟩,trivial⟩,⟨trivial,trivial,⟨trivial,⟨xV,trivial,trivial⟩,trivial⟩⟩⟩⟩⟩⟩
theorem xX:vI.All (Ar Tryd.prog [0]):=⟨trivial,⟨trivial,⟨trivial,⟨wK,⟨wN,⟨bT,⟨xG,trivial,trivial⟩,trivial⟩,⟨bV,trivial,trivial⟩⟩,⟨bP,⟨wW,⟨dB,trivial,trivial⟩,trivial⟩,trivial⟩⟩,⟨trivial,⟨trivial,⟨trivial,⟨dA,trivial,trivial⟩,trivial⟩,⟨bW,trivial,trivial⟩⟩,⟨wT,⟨xC,trivial,trivial⟩,trivial⟩⟩⟩,⟨trivial,⟨trivial,⟨trivial,⟨trivial,⟨cO,trivial,trivial⟩,trivial⟩,trivial⟩,⟨wR,⟨xA,trivial,trivial⟩,⟨xE,trivial,trivial⟩⟩⟩,⟨wM,⟨bN,trivial,⟨bY,trivial,trivial⟩⟩,⟨bR,trivial,trivial⟩⟩⟩⟩,⟨trivial,⟨trivial,⟨trivial,⟨wO,⟨trivial,⟨cK,trivial,trivial⟩,trivial⟩,⟨xD,trivial,trivial⟩⟩,⟨bQ,⟨wZ,⟨xI,trivial,trivial⟩,trivial⟩,trivial⟩⟩,⟨wL,⟨wQ,⟨trivial,⟨xH,trivial,trivial⟩,trivial⟩,⟨bX,trivial,trivial⟩⟩,⟨trivial,⟨bU,trivial,trivial⟩,trivial⟩⟩⟩,⟨trivial,⟨trivial,⟨wP,⟨wU,⟨cZ,trivial,trivial⟩,trivial⟩,trivial⟩,⟨wS,⟨xB,trivial,trivial⟩,⟨bZ,trivial,trivial⟩⟩⟩,⟨trivial,⟨bO,⟨wV,trivial,trivial⟩,trivial⟩,⟨bS,trivial,⟨cB,trivial,trivial⟩⟩⟩⟩⟩⟩
theorem fnsOk (f:FuncId) (r:Xq) (h:LX f=some r):Ar Tryd.prog [0] f r:=xX.get h
end Go.Proofs.YtlgmapibifphaaaDoor.MnN
set_option maxRecDepth 100000
namespace Go.Proofs.YtlgmapibifphaaaDoor.MnN
open Go Go.Sp Go.MnNM Go.MnN
noncomputable section
theorem fk7:Ar Tryd.prog (List.range tabs.length) 7 ⟨157,UA,[.tmp 2]⟩:=by
 have h:c7=UA:=by kernel_rfl
 rw[←h];exact wK
theorem xY:Ar Tryd.prog (List.range tabs.length) 21 ⟨83,PP,[.cell 6 24]⟩:=by
 have h:c21=PP:=by kernel_rfl
 rw[←h];exact bN
theorem xZ:Ar Tryd.prog (List.range tabs.length) 23 ⟨18,PQ,[.tmp 2]⟩:=by
 have h:c23=PQ:=by kernel_rfl
 rw[←h];exact bP
theorem yA:Ar Tryd.prog (List.range tabs.length) 24 ⟨26,UB,[.tmp 6]⟩:=by
 have h:c24=UB:=by kernel_rfl
 rw[←h];exact bQ
theorem yB:Ar Tryd.prog (List.range tabs.length) 29 ⟨12,Qp,[.tmp 2,.tmp 3]⟩:=by
 have h:c29=Qp:=by kernel_rfl
 rw[←h];exact bR
theorem yC:Ar Tryd.prog (List.range tabs.length) 30 ⟨44,Qq,[.tmp 2,.tmp 3]⟩:=by
 have h:c30=Qq:=by kernel_rfl
 rw[←h];exact bS
theorem yD:Ar Tryd.prog (List.range tabs.length) 31 ⟨12,Qt,[.tmp 2,.tmp 3]⟩:=by
 have h:c31=Qt:=by kernel_rfl
 rw[←h];exact bT
theorem yE:Ar Tryd.prog (List.range tabs.length) 44 ⟨13,UC,[.tmp 2]⟩:=by
 have h:c44=UC:=by kernel_rfl
 rw[←h];exact bU
theorem yF:Ar Tryd.prog (List.range tabs.length) 47 ⟨73,Qu,[.tmp 2]⟩:=by
 have h:c47=Qu:=by kernel_rfl
 rw[←h];exact bV
theorem yG:Ar Tryd.prog (List.range tabs.length) 51 ⟨27,Qv,[.tmp 2]⟩:=by
 have h:c51=Qv:=by kernel_rfl
 rw[←h];exact bW
theorem yH:Ar Tryd.prog (List.range tabs.length) 52 ⟨15,UD,[.tmp 6]⟩:=by
 have h:c52=UD:=by kernel_rfl
 rw[←h];exact bX
theorem yI:Ar Tryd.prog (List.range tabs.length) 53 ⟨10,UE,[.tmp 4]⟩:=by
 have h:c53=UE:=by kernel_rfl
 rw[←h];exact bY
theorem yJ:Ar Tryd.prog (List.range tabs.length) 58 ⟨49,Qw,[.tmp 2]⟩:=by
 have h:c58=Qw:=by kernel_rfl
 rw[←h];exact bZ
theorem yK:Ar Tryd.prog (List.range tabs.length) 62 ⟨16,Qz,[.tmp 2]⟩:=by
 have h:c62=Qz:=by kernel_rfl
 rw[←h];exact cB
theorem yL:Ar Tryd.prog (List.range tabs.length) 64 ⟨11,UF,[.tmp 2]⟩:=by
 have h:c64=UF:=by kernel_rfl
 rw[←h];exact cK
theorem yM:Ar Tryd.prog (List.range tabs.length) 67 ⟨15,UG,[.tmp 2]⟩:=by
 have h:c67=UG:=by kernel_rfl
 rw[←h];exact dA
theorem yN:Ar Tryd.prog (List.range tabs.length) 71 ⟨38,QA,[.tmp 4]⟩:=by
 have h:c71=QA:=by kernel_rfl
 rw[←h];exact dB
theorem yO:Ar Tryd.prog (List.range tabs.length) 22 ⟨77,Ni,[.tmp 4]⟩:=by
 have h:c22=Ni:=by kernel_rfl
 rw[←h];exact bO
theorem yP:Ar Tryd.prog (List.range tabs.length) 65 ⟨8,RU,[.tmp 2]⟩:=by
 have h:c65=RU:=by kernel_rfl
 rw[←h];exact cO
theorem yQ:Ar Tryd.prog (List.range tabs.length) 66 ⟨52,Oi,[.tmp 4]⟩:=by
 have h:c66=Oi:=by kernel_rfl
 rw[←h];exact cZ
theorem MU:∀ t∈tabs,t≠[]:=by intro t ht;simp[tabs] at ht;subst ht;intro h;cases h
theorem M8:∀ t∈tabs,∀ x∈t,BR x=true:=by intro t ht x hx;simp[tabs] at ht;subst ht;simp[QB] at hx;rcases hx with rfl | rfl | rfl | rfl | rfl | rfl | rfl | rfl | rfl | rfl | rfl | rfl | rfl | rfl | rfl | rfl | rfl | rfl | rfl | rfl | rfl | rfl | rfl | rfl | rfl | rfl | rfl | rfl | rfl | rfl | rfl | rfl <;> rfl
theorem nP (hm:Tryd.prog.follows .mixedOrders=true) {pu:Af} (h0:Cn Tryd.prog tabs 2 0 22 (pu 10220)) (h1:Cn Tryd.prog tabs 1 0 65 (pu 10650)) (h2:Cn Tryd.prog tabs 2 2 66 (pu 10660)):CO Tryd.prog (List.range tabs.length) (inl pu):=fun g args H v H' h=>by
 replace h:bb (Nat.beq g 63) (Ua 1 8 args H) (bb (Nat.beq g 22) (EK tabs [[some 1],[none]] 2 [] [false] (pu 10220) args H) (bb (Nat.beq g 65) (EK tabs [[none,some 1,some 1]] 1 [] [true,false] (pu 10650) args H) (bb (Nat.beq g 66) (EK tabs [[none],[none]] 2 [.tmp 0 true,.cell 1 3 false] [true,false] (pu 10660) args H) (none))))=some (v,H'):=h
 have hq:=Ag h;clear h;rcases hq with⟨e,h⟩ | ⟨_,h⟩
 ·obtain rfl:=Nat.eq_of_beq_eq_true e
  exact Ub ttOk fnsOk hm h
 have hq:=Ag h;clear h;rcases hq with⟨e,h⟩ | ⟨_,h⟩
 ·obtain rfl:=Nat.eq_of_beq_eq_true e
  exact Ip (rs:=[]) MU M8 h0 h
 have hq:=Ag h;clear h;rcases hq with⟨e,h⟩ | ⟨_,h⟩
 ·obtain rfl:=Nat.eq_of_beq_eq_true e
  exact Ip (rs:=[]) MU M8 h1 h
 have hq:=Ag h;clear h;rcases hq with⟨e,h⟩ | ⟨_,h⟩
 ·obtain rfl:=Nat.eq_of_beq_eq_true e
  exact Ip (rs:=[.tmp 0 true,.cell 1 3 false]) MU M8 h2 h
 cases h
theorem Yz (hm:Tryd.prog.follows .mixedOrders=true) (hw:BA Tryd.prog tabs 12 (fun args=>ll args (some (.bool true)) fun _ _=>none)) {pu:Af} (hall:(∀ g,Ir g=true→BA Tryd.prog tabs g (pu g))∧Cn Tryd.prog tabs 2 0 22 (pu 10220)∧Cn Tryd.prog tabs 1 0 65 (pu 10650)∧Cn Tryd.prog tabs 2 2 66 (pu 10660)):(∀ g,Ir g=true→BA Tryd.prog tabs g (Xa pu g))∧Cn Tryd.prog tabs 2 0 22 (Xa pu 10220)∧Cn Tryd.prog tabs 1 0 65 (Xa pu 10650)∧Cn Tryd.prog tabs 2 2 66 (Xa pu 10660):=by
 obtain⟨hpu,h0,h4,h5⟩:=hall
 have hcall:=TG (P:=Tryd.prog) (tabs:=tabs) MU M8 (nP hm h0 h4 h5) hpu
 refine⟨fun g hg=>?_,?_,?_,?_⟩
 ·have hg:g∈RX:=CS.1 hg
  simp only[RX,List.mem_cons,List.not_mem_nil,or_false] at hg
  rcases hg with rfl | rfl | rfl | rfl | rfl | rfl | rfl | rfl | rfl | rfl | rfl | rfl | rfl | rfl | rfl | rfl | rfl | rfl
  ·exact Aw (tabs:=tabs) (f:=m7 pu L) ttOk hm hcall fk7 fun args v h hc=>r7 pu L rfl h hc
  ·exact hw
  ·exact Aw (tabs:=tabs) (f:=pG pu L) ttOk hm hcall xY fun args v h hc=>r21 pu L rfl h hc
  ·exact Aw (tabs:=tabs) (f:=vP pu L) ttOk hm hcall xZ fun args v h hc=>r23 pu L rfl h hc
  ·exact Aw (tabs:=tabs) (f:=pI pu L) ttOk hm hcall yA fun args v h hc=>r24 pu L rfl h hc
  ·exact Aw (tabs:=tabs) (f:=m29 pu L) ttOk hm hcall yB fun args v h hc=>r29 pu L rfl h hc
  ·exact Aw (tabs:=tabs) (f:=pJ pu L) ttOk hm hcall yC fun args v h hc=>r30 pu L rfl h hc
  ·exact Aw (tabs:=tabs) (f:=pK pu L) ttOk hm hcall yD fun args v h hc=>r31 pu L rfl h hc
  ·exact Aw (tabs:=tabs) (f:=m44 pu L) ttOk hm hcall yE fun args v h hc=>r44 pu L rfl h hc
  ·exact Aw (tabs:=tabs) (f:=m47 pu L) ttOk hm hcall yF fun args v h hc=>UK pu L rfl h hc
  ·exact Aw (tabs:=tabs) (f:=m51 pu L) ttOk hm hcall yG fun args v h hc=>r51 pu L rfl h hc
  ·exact Aw (tabs:=tabs) (f:=m52 pu L) ttOk hm hcall yH fun args v h hc=>r52 pu L rfl h hc
  ·exact Aw (tabs:=tabs) (f:=m53 pu L) ttOk hm hcall yI fun args v h hc=>r53 pu L rfl h hc
  ·exact Aw (tabs:=tabs) (f:=pM pu L) ttOk hm hcall yJ fun args v h hc=>r58 pu L rfl h hc
  ·exact Aw (tabs:=tabs) (f:=m62 pu L) ttOk hm hcall yK fun args v h hc=>r62 pu L rfl h hc
  ·exact Aw (tabs:=tabs) (f:=m64 pu L) ttOk hm hcall yL fun args v h hc=>r64 pu L rfl h hc
  ·exact Aw (tabs:=tabs) (f:=m67 pu L) ttOk hm hcall yM fun args v h hc=>r67 pu L rfl h hc
  ·exact Aw (tabs:=tabs) (f:=m71 pu L) ttOk hm hcall yN fun args v h hc=>r71 pu L rfl h hc
 ·exact Dx (tabs:=tabs) (f:=OE pu L) ttOk hm hcall yO fun args os z h1 h2 h3 h=>mQ pu L rfl h1 h2 h3 h
 ·exact Dx (tabs:=tabs) (f:=OG pu L) ttOk hm hcall yP fun args os z h1 h2 h3 h=>nG pu L rfl h1 h2 h3 h
 ·exact Dx (tabs:=tabs) (f:=Jj pu L) ttOk hm hcall yQ fun args os z h1 h2 h3 h=>nI pu L rfl h1 h2 h3 h
theorem nQ (hm:Tryd.prog.follows .mixedOrders=true) (hw:BA Tryd.prog tabs 12 (fun args=>ll args (some (.bool true)) fun _ _=>none)):∀ n,(∀ g,Ir g=true→BA Tryd.prog tabs g (FD n g))∧Cn Tryd.prog tabs 2 0 22 (FD n 10220)∧Cn Tryd.prog tabs 1 0 65 (FD n 10650)∧Cn Tryd.prog tabs 2 2 66 (FD n 10660):=fun n=>by
 induction n with
 | zero =>
  refine⟨fun g hg=>?_,?_,?_,?_⟩
  ·have hg:g∈RX:=CS.1 hg
   simp only[RX,List.mem_cons,List.not_mem_nil,or_false] at hg
   rcases hg with rfl | rfl | rfl | rfl | rfl | rfl | rfl | rfl | rfl | rfl | rfl | rfl | rfl | rfl | rfl | rfl | rfl | rfl
   ·exact⟨A9 fk7,fun args v h=>by cases h⟩
   ·exact⟨(hw).1,fun args v h=>by cases h⟩
   ·exact⟨A9 xY,fun args v h=>by cases h⟩
   ·exact⟨A9 xZ,fun args v h=>by cases h⟩
   ·exact⟨A9 yA,fun args v h=>by cases h⟩
   ·exact⟨A9 yB,fun args v h=>by cases h⟩
   ·exact⟨A9 yC,fun args v h=>by cases h⟩
   ·exact⟨A9 yD,fun args v h=>by cases h⟩
   ·exact⟨A9 yE,fun args v h=>by cases h⟩
   ·exact⟨A9 yF,fun args v h=>by cases h⟩
   ·exact⟨A9 yG,fun args v h=>by cases h⟩
   ·exact⟨A9 yH,fun args v h=>by cases h⟩
   ·exact⟨A9 yI,fun args v h=>by cases h⟩
   ·exact⟨A9 yJ,fun args v h=>by cases h⟩
   ·exact⟨A9 yK,fun args v h=>by cases h⟩
   ·exact⟨A9 yL,fun args v h=>by cases h⟩
   ·exact⟨A9 yM,fun args v h=>by cases h⟩
   ·exact⟨A9 yN,fun args v h=>by cases h⟩
  ·exact⟨A9 yO,fun args os z h1 h2 h3 h=>by cases h⟩
  ·exact⟨A9 yP,fun args os z h1 h2 h3 h=>by cases h⟩
  ·exact⟨A9 yQ,fun args os z h1 h2 h3 h=>by cases h⟩
 | succ n ih=>exact Yz hm hw ih
theorem pu_ok (hm:Tryd.prog.follows .mixedOrders=true) (hw:BA Tryd.prog tabs 12 (fun args=>ll args (some (.bool true)) fun _ _=>none)):∀ n g,Ir g=true→BA Tryd.prog tabs g (FD n g):=fun n=>(nQ hm hw n).1
end
end Go.Proofs.YtlgmapibifphaaaDoor.MnN
