/- Made from wip. -/
import Derived.Test.YtlgmapibifphaaaDoorProg
import Derived.Test.YtlgmapibifphaaaDoorSpObjx
import Derived.Test.YtlgmapibifphaaaDoorMnOCodex
import Derived.Test.YtlgmapibifphaaaDoorMnOPux

set_option maxRecDepth 100000
namespace Go.Proofs.YtlgmapibifphaaaDoor.MnO
open Go Go.Sp Go.MnO
theorem Abe:Ar Tryd.prog [0] 5 ⟨187,c5,[.tmp 2]⟩:=Ar.by Tryd.func5 (by kernel_rfl) (by kernel_rfl) Tryd.ntmps5 (by rw[Tryd.results5]) (by kernel_rfl)
theorem Abf:Ar Tryd.prog [0] 12 ⟨218,c12,[.tmp 0]⟩:=Ar.by Tryd.func12 (by kernel_rfl) (by kernel_rfl) Tryd.ntmps12 (by rw[Tryd.results12]) (by kernel_rfl)
theorem fE:Ar Tryd.prog [0] 13 ⟨47,c13,[.tmp 2,.tmp 3]⟩:=Ar.by Tryd.func13 (by kernel_rfl) (by kernel_rfl) Tryd.ntmps13 (by rw[Tryd.results13]) (by kernel_rfl)
theorem fF:Ar Tryd.prog [0] 15 ⟨26,c15,[.tmp 4]⟩:=Ar.by Tryd.func15 (by kernel_rfl) (by kernel_rfl) Tryd.ntmps15 (by rw[Tryd.results15]) (by kernel_rfl)
theorem fG:Ar Tryd.prog [0] 16 ⟨12,c16,[.tmp 2,.tmp 3]⟩:=Ar.by Tryd.func16 (by kernel_rfl) (by kernel_rfl) Tryd.ntmps16 (by rw[Tryd.results16]) (by kernel_rfl)
theorem Abg:Ar Tryd.prog [0] 18 ⟨91,c18,[.tmp 4,.tmp 5]⟩:=Ar.by Tryd.func18 (by kernel_rfl) (by kernel_rfl) Tryd.ntmps18 (by rw[Tryd.results18]) (by kernel_rfl)
theorem Abh:Ar Tryd.prog [0] 20 ⟨27,c20,[.tmp 4]⟩:=Ar.by Tryd.func20 (by kernel_rfl) (by kernel_rfl) Tryd.ntmps20 (by rw[Tryd.results20]) (by kernel_rfl)
theorem fH:Ar Tryd.prog [0] 21 ⟨83,c21,[.cell 6 24]⟩:=Ar.by Tryd.func21 (by kernel_rfl) (by kernel_rfl) Tryd.ntmps21 (by rw[Tryd.results21]) (by kernel_rfl)
theorem fI:Ar Tryd.prog [0] 22 ⟨77,c22,[.tmp 4]⟩:=Ar.by Tryd.func22 (by kernel_rfl) (by kernel_rfl) Tryd.ntmps22 (by rw[Tryd.results22]) (by kernel_rfl)
theorem fK:Ar Tryd.prog [0] 23 ⟨18,c23,[.tmp 2]⟩:=Ar.by Tryd.func23 (by kernel_rfl) (by kernel_rfl) Tryd.ntmps23 (by rw[Tryd.results23]) (by kernel_rfl)
theorem fM:Ar Tryd.prog [0] 24 ⟨26,c24,[.tmp 6]⟩:=Ar.by Tryd.func24 (by kernel_rfl) (by kernel_rfl) Tryd.ntmps24 (by rw[Tryd.results24]) (by kernel_rfl)
theorem fO:Ar Tryd.prog [0] 25 ⟨25,c25,[.cell 6 24,.tmp 7]⟩:=Ar.by Tryd.func25 (by kernel_rfl) (by kernel_rfl) Tryd.ntmps25 (by rw[Tryd.results25]) (by kernel_rfl)
theorem fP:Ar Tryd.prog [0] 26 ⟨26,c26,[.tmp 4]⟩:=Ar.by Tryd.func26 (by kernel_rfl) (by kernel_rfl) Tryd.ntmps26 (by rw[Tryd.results26]) (by kernel_rfl)
theorem Abi:Ar Tryd.prog [0] 27 ⟨22,c27,[.tmp 4,.tmp 5]⟩:=Ar.by Tryd.func27 (by kernel_rfl) (by kernel_rfl) Tryd.ntmps27 (by rw[Tryd.results27]) (by kernel_rfl)
theorem fQ:Ar Tryd.prog [0] 29 ⟨12,c29,[.tmp 2,.tmp 3]⟩:=Ar.by Tryd.func29 (by kernel_rfl) (by kernel_rfl) Tryd.ntmps29 (by rw[Tryd.results29]) (by kernel_rfl)
theorem Abj:Ar Tryd.prog [0] 30 ⟨44,c30,[.tmp 2,.tmp 3]⟩:=Ar.by Tryd.func30 (by kernel_rfl) (by kernel_rfl) Tryd.ntmps30 (by rw[Tryd.results30]) (by kernel_rfl)
theorem Abk:Ar Tryd.prog [0] 31 ⟨12,c31,[.tmp 2,.tmp 3]⟩:=Ar.by Tryd.func31 (by kernel_rfl) (by kernel_rfl) Tryd.ntmps31 (by rw[Tryd.results31]) (by kernel_rfl)
theorem Abl:Ar Tryd.prog [0] 34 ⟨39,c34,[.tmp 4]⟩:=Ar.by Tryd.func34 (by kernel_rfl) (by kernel_rfl) Tryd.ntmps34 (by rw[Tryd.results34]) (by kernel_rfl)
theorem Abm:Ar Tryd.prog [0] 38 ⟨13,c38,[.tmp 2,.tmp 3]⟩:=Ar.by Tryd.func38 (by kernel_rfl) (by kernel_rfl) Tryd.ntmps38 (by rw[Tryd.results38]) (by kernel_rfl)
theorem Abn:Ar Tryd.prog [0] 39 ⟨6,c39,[.cell 0 24]⟩:=Ar.by Tryd.func39 (by kernel_rfl) (by kernel_rfl) Tryd.ntmps39 (by rw[Tryd.results39]) (by kernel_rfl)
theorem Abo:Ar Tryd.prog [0] 40 ⟨6,c40,[.cell 0 24]⟩:=Ar.by Tryd.func40 (by kernel_rfl) (by kernel_rfl) Tryd.ntmps40 (by rw[Tryd.results40]) (by kernel_rfl)
theorem Abp:Ar Tryd.prog [0] 41 ⟨4,c41,[.tmp 2]⟩:=Ar.by Tryd.func41 (by kernel_rfl) (by kernel_rfl) Tryd.ntmps41 (by rw[Tryd.results41]) (by kernel_rfl)
theorem Abq:Ar Tryd.prog [0] 42 ⟨4,c42,[.tmp 2]⟩:=Ar.by Tryd.func42 (by kernel_rfl) (by kernel_rfl) Tryd.ntmps42 (by rw[Tryd.results42]) (by kernel_rfl)
theorem fT:Ar Tryd.prog [0] 43 ⟨36,c43,[.cell 6 24]⟩:=Ar.by Tryd.func43 (by kernel_rfl) (by kernel_rfl) Tryd.ntmps43 (by rw[Tryd.results43]) (by kernel_rfl)
theorem fU:Ar Tryd.prog [0] 44 ⟨13,c44,[.tmp 2]⟩:=Ar.by Tryd.func44 (by kernel_rfl) (by kernel_rfl) Tryd.ntmps44 (by rw[Tryd.results44]) (by kernel_rfl)
end Go.Proofs.YtlgmapibifphaaaDoor.MnO
set_option maxRecDepth 100000
namespace Go.Proofs.YtlgmapibifphaaaDoor.MnO
open Go Go.Sp Go.MnO
theorem fV:Ar Tryd.prog [0] 47 ⟨73,c47,[.tmp 2]⟩:=Ar.by Tryd.func47 (by kernel_rfl) (by kernel_rfl) Tryd.ntmps47 (by rw[Tryd.results47]) (by kernel_rfl)
theorem fZ:Ar Tryd.prog [0] 48 ⟨46,c48,[.tmp 2]⟩:=Ar.by Tryd.func48 (by kernel_rfl) (by kernel_rfl) Tryd.ntmps48 (by rw[Tryd.results48]) (by kernel_rfl)
theorem gD:Ar Tryd.prog [0] 51 ⟨27,c51,[.tmp 2]⟩:=Ar.by Tryd.func51 (by kernel_rfl) (by kernel_rfl) Tryd.ntmps51 (by rw[Tryd.results51]) (by kernel_rfl)
theorem gF:Ar Tryd.prog [0] 52 ⟨15,c52,[.tmp 6]⟩:=Ar.by Tryd.func52 (by kernel_rfl) (by kernel_rfl) Tryd.ntmps52 (by rw[Tryd.results52]) (by kernel_rfl)
theorem gG:Ar Tryd.prog [0] 53 ⟨10,c53,[.tmp 4]⟩:=Ar.by Tryd.func53 (by kernel_rfl) (by kernel_rfl) Tryd.ntmps53 (by rw[Tryd.results53]) (by kernel_rfl)
theorem gI:Ar Tryd.prog [0] 57 ⟨25,c57,[.tmp 6]⟩:=Ar.by Tryd.func57 (by kernel_rfl) (by kernel_rfl) Tryd.ntmps57 (by rw[Tryd.results57]) (by kernel_rfl)
theorem Abr:Ar Tryd.prog [0] 58 ⟨49,c58,[.tmp 2]⟩:=Ar.by Tryd.func58 (by kernel_rfl) (by kernel_rfl) Tryd.ntmps58 (by rw[Tryd.results58]) (by kernel_rfl)
theorem gK:Ar Tryd.prog [0] 62 ⟨16,c62,[.tmp 2]⟩:=Ar.by Tryd.func62 (by kernel_rfl) (by kernel_rfl) Tryd.ntmps62 (by rw[Tryd.results62]) (by kernel_rfl)
theorem Abs:Ar Tryd.prog [0] 63 ⟨8,c63,[.tmp 2]⟩:=Ar.by Tryd.func63 (by kernel_rfl) (by kernel_rfl) Tryd.ntmps63 (by rw[Tryd.results63]) (by kernel_rfl)
theorem gL:Ar Tryd.prog [0] 64 ⟨11,c64,[.tmp 2]⟩:=Ar.by Tryd.func64 (by kernel_rfl) (by kernel_rfl) Tryd.ntmps64 (by rw[Tryd.results64]) (by kernel_rfl)
theorem gM:Ar Tryd.prog [0] 65 ⟨8,c65,[.tmp 2]⟩:=Ar.by Tryd.func65 (by kernel_rfl) (by kernel_rfl) Tryd.ntmps65 (by rw[Tryd.results65]) (by kernel_rfl)
theorem gP:Ar Tryd.prog [0] 66 ⟨52,c66,[.tmp 4]⟩:=Ar.by Tryd.func66 (by kernel_rfl) (by kernel_rfl) Tryd.ntmps66 (by rw[Tryd.results66]) (by kernel_rfl)
theorem gQ:Ar Tryd.prog [0] 67 ⟨15,c67,[.tmp 2]⟩:=Ar.by Tryd.func67 (by kernel_rfl) (by kernel_rfl) Tryd.ntmps67 (by rw[Tryd.results67]) (by kernel_rfl)
theorem gT:Ar Tryd.prog [0] 68 ⟨94,c68,[.tmp 8]⟩:=Ar.by Tryd.func68 (by kernel_rfl) (by kernel_rfl) Tryd.ntmps68 (by rw[Tryd.results68]) (by kernel_rfl)
theorem gU:Ar Tryd.prog [0] 71 ⟨38,c71,[.tmp 4]⟩:=Ar.by Tryd.func71 (by kernel_rfl) (by kernel_rfl) Tryd.ntmps71 (by rw[Tryd.results71]) (by kernel_rfl)
theorem gV:Ar Tryd.prog [0] 72 ⟨9,c72,[.tmp 2]⟩:=Ar.by Tryd.func72 (by kernel_rfl) (by kernel_rfl) Tryd.ntmps72 (by rw[Tryd.results72]) (by kernel_rfl)
end Go.Proofs.YtlgmapibifphaaaDoor.MnO
set_option maxRecDepth 100000
namespace Go.Proofs.YtlgmapibifphaaaDoor.MnO
open Go Go.Sp Go.MnO
theorem AdM:Cu Tryd.prog 3 ti3:=Cu.by Tryd.underlying3 (inf:=Tryd.t3) (by kernel_rfl) (by kernel_rfl) (by kernel_rfl) (by kernel_rfl) (by kernel_rfl) (fun h=>by cases h)
theorem AdN:Cu Tryd.prog 4 ti4:=Cu.by Tryd.underlying4 (inf:=Tryd.t4) (by kernel_rfl) (by kernel_rfl) (by kernel_rfl) (by kernel_rfl) (by kernel_rfl) (fun h=>by cases h)
theorem AdO:Cu Tryd.prog 5 ti5:=Cu.by Tryd.underlying5 (inf:=Tryd.t5) (by kernel_rfl) (by kernel_rfl) (by kernel_rfl) (by kernel_rfl) (by kernel_rfl) (fun h=>by cases h)
theorem AdP:Cu Tryd.prog 9 ti9:=Cu.by Tryd.underlying9 (inf:=Tryd.t9) (by kernel_rfl) (by kernel_rfl) (by kernel_rfl) (by kernel_rfl) (by kernel_rfl) (fun h=>by cases h)
theorem Abt:Cu Tryd.prog 22 Aay:=Cu.by Tryd.underlying22 (inf:=Tryd.t22) (by kernel_rfl) (by kernel_rfl) (by kernel_rfl) (by kernel_rfl) (by kernel_rfl) (fun h=>by cases h)
theorem Abu:Cu Tryd.prog 24 Aaz:=Cu.by Tryd.underlying24 (inf:=Tryd.t24) (by kernel_rfl) (by kernel_rfl) (by kernel_rfl) (by kernel_rfl) (by kernel_rfl) (fun h=>by cases h)
theorem Abv:Cu Tryd.prog 27 AaA:=Cu.by Tryd.underlying27 (inf:=Tryd.t27) (by kernel_rfl) (by kernel_rfl) (by kernel_rfl) (by kernel_rfl) (by kernel_rfl) (fun h=>by cases h)
theorem Abw:Cu Tryd.prog 28 AaB:=Cu.by Tryd.underlying28 (inf:=Tryd.t28) (by kernel_rfl) (by kernel_rfl) (by kernel_rfl) (by kernel_rfl) (by kernel_rfl) (fun h=>by cases h)
theorem Abx:Cu Tryd.prog 34 AaC:=Cu.by Tryd.underlying34 (inf:=Tryd.t34) (by kernel_rfl) (by kernel_rfl) (by kernel_rfl) (by kernel_rfl) (by kernel_rfl) (fun h=>by cases h)
theorem Aby:Cu Tryd.prog 43 AaD:=Cu.by Tryd.underlying43 (inf:=Tryd.t43) (by kernel_rfl) (by kernel_rfl) (by kernel_rfl) (by kernel_rfl) (by kernel_rfl) (fun _=>⟨_,rfl,Fl.ok (d:=8) (⟨by kernel_rfl,.inr (.inr (.inr (.inl ⟨10,5,[(.int .u8 0)],Tryd.underlying43,⟨by kernel_rfl,.inl ⟨⟨_,Tryd.underlying5⟩,_,_,rfl⟩⟩,by kernel_rfl⟩)))⟩) (by decide) ⟨_,Tryd.underlying43,rfl⟩ (by kernel_rfl)⟩)
theorem Abz:Cu Tryd.prog 45 AaE:=Cu.by Tryd.underlying45 (inf:=Tryd.t45) (by kernel_rfl) (by kernel_rfl) (by kernel_rfl) (by kernel_rfl) (by kernel_rfl) (fun _=>⟨_,rfl,Fl.ok (d:=8) (⟨by kernel_rfl,.inr (.inr (.inr (.inr ⟨_,Tryd.underlying45,by kernel_rfl,⟨by decide,rfl,[(.int .u8 0)],[(.int .u8 0),(.int .u8 0),(.int .u8 0),(.int .u8 0),(.int .u8 0),(.int .u8 0),(.int .u8 0),(.int .u8 0),(.int .u8 0),(.int .u8 0),(.int .u8 0),(.int .u8 0),(.int .u8 0),(.int .u8 0),(.int .u8 0),(.int .u8 0),(.int .u8 0),(.int .u8 0),(.int .u8 0),(.int .u8 0),(.int .u8 0)],rfl,⟨by kernel_rfl,.inl ⟨⟨_,Tryd.underlying5⟩,_,_,rfl⟩⟩,⟨by decide,rfl,[(.int .u8 0)],[(.int .u8 0),(.int .u8 0),(.int .u8 0),(.int .u8 0),(.int .u8 0),(.int .u8 0),(.int .u8 0),(.int .u8 0),(.int .u8 0),(.int .u8 0),(.int .u8 0),(.int .u8 0),(.int .u8 0),(.int .u8 0),(.int .u8 0),(.int .u8 0),(.int .u8 0),(.int .u8 0),(.int .u8 0),(.int .u8 0)],rfl,⟨by kernel_rfl,.inl ⟨⟨_,Tryd.underlying5⟩,_,_,rfl⟩⟩,⟨by decide,rfl,[(.int .u8 0),(.int .u8 0),(.int .u8 0),(.int .u8 0),(.int .u8 0),(.int .u8 0),(.int .u8 0),(.int .u8 0),(.int .u8 0),(.int .u8 0)],[(.int .u8 0),(.int .u8 0),(.int .u8 0),(.int .u8 0),(.int .u8 0),(.int .u8 0),(.int .u8 0),(.int .u8 0),(.int .u8 0),(.int .u8 0)],rfl,⟨by kernel_rfl,.inr (.inr (.inr (.inl ⟨10,5,[(.int .u8 0)],Tryd.underlying43,⟨by kernel_rfl,.inl ⟨⟨_,Tryd.underlying5⟩,_,_,rfl⟩⟩,by kernel_rfl⟩)))⟩,⟨by decide,rfl,[(.int .u8 0),(.int .u8 0),(.int .u8 0),(.int .u8 0),(.int .u8 0),(.int .u8 0),(.int .u8 0),(.int .u8 0),(.int .u8 0),(.int .u8 0)],[],rfl,⟨by kernel_rfl,.inr (.inr (.inr (.inl ⟨10,5,[(.int .u8 0)],Tryd.underlying43,⟨by kernel_rfl,.inl ⟨⟨_,Tryd.underlying5⟩,_,_,rfl⟩⟩,by kernel_rfl⟩)))⟩,rfl⟩⟩⟩⟩⟩)))⟩) (by decide) ⟨_,Tryd.underlying45,rfl⟩ (by kernel_rfl)⟩)
theorem AbA:Cu Tryd.prog 47 AaF:=Cu.by Tryd.underlying47 (inf:=Tryd.t47) (by kernel_rfl) (by kernel_rfl) (by kernel_rfl) (by kernel_rfl) (by kernel_rfl) (fun h=>by cases h)
theorem AbB:Cu Tryd.prog 51 AaG:=Cu.by Tryd.underlying51 (inf:=Tryd.t51) (by kernel_rfl) (by kernel_rfl) (by kernel_rfl) (by kernel_rfl) (by kernel_rfl) (fun _=>⟨_,rfl,Fl.ok (d:=8) (⟨by kernel_rfl,.inr (.inr (.inr (.inl ⟨2,3,[(.int .i64 0)],Tryd.underlying51,⟨by kernel_rfl,.inl ⟨⟨_,Tryd.underlying3⟩,_,_,rfl⟩⟩,by kernel_rfl⟩)))⟩) (by decide) ⟨_,Tryd.underlying51,rfl⟩ (by kernel_rfl)⟩)
theorem AbC:Cu Tryd.prog 79 AaH:=Cu.by Tryd.underlying79 (inf:=Tryd.t79) (by kernel_rfl) (by kernel_rfl) (by kernel_rfl) (by kernel_rfl) (by kernel_rfl) (fun h=>by cases h)
theorem AbD:Cu Tryd.prog 80 AaI:=Cu.by Tryd.underlying80 (inf:=Tryd.t80) (by kernel_rfl) (by kernel_rfl) (by kernel_rfl) (by kernel_rfl) (by kernel_rfl) (fun h=>by cases h)
theorem AbE:Cu Tryd.prog 94 AaJ:=Cu.by Tryd.underlying94 (inf:=Tryd.t94) (by kernel_rfl) (by kernel_rfl) (by kernel_rfl) (by kernel_rfl) (by kernel_rfl) (fun h=>by cases h)
theorem AbF:Cu Tryd.prog 97 AaK:=Cu.by Tryd.underlying97 (inf:=Tryd.t97) (by kernel_rfl) (by kernel_rfl) (by kernel_rfl) (by kernel_rfl) (by kernel_rfl) (fun _=>⟨_,rfl,Fl.ok (d:=8) (⟨by kernel_rfl,.inr (.inr (.inr (.inl ⟨5,3,[(.int .i64 0)],Tryd.underlying97,⟨by kernel_rfl,.inl ⟨⟨_,Tryd.underlying3⟩,_,_,rfl⟩⟩,by kernel_rfl⟩)))⟩) (by decide) ⟨_,Tryd.underlying97,rfl⟩ (by kernel_rfl)⟩)
theorem sO:Cu Tryd.prog 101 eP:=Cu.by Tryd.underlying101 (inf:=Tryd.t101) (by kernel_rfl) (by kernel_rfl) (by kernel_rfl) (by kernel_rfl) (by kernel_rfl) (fun h=>by cases h)
theorem sP:Cu Tryd.prog 102 eQ:=Cu.by Tryd.underlying102 (inf:=Tryd.t102) (by kernel_rfl) (by kernel_rfl) (by kernel_rfl) (by kernel_rfl) (by kernel_rfl) (fun h=>by cases h)
theorem sQ:Cu Tryd.prog 103 eT:=Cu.by Tryd.underlying103 (inf:=Tryd.t103) (by kernel_rfl) (by kernel_rfl) (by kernel_rfl) (by kernel_rfl) (by kernel_rfl) (fun h=>by cases h)
theorem sS:Cu Tryd.prog 105 eU:=Cu.by Tryd.underlying105 (inf:=Tryd.t105) (by kernel_rfl) (by kernel_rfl) (by kernel_rfl) (by kernel_rfl) (by kernel_rfl) (fun h=>by cases h)
theorem sU:Cu Tryd.prog 107 fA:=Cu.by Tryd.underlying107 (inf:=Tryd.t107) (by kernel_rfl) (by kernel_rfl) (by kernel_rfl) (by kernel_rfl) (by kernel_rfl) (fun _=>⟨_,rfl,Fl.ok (d:=8) (⟨by kernel_rfl,.inr (.inr (.inr (.inl ⟨32,5,[(.int .u8 0)],Tryd.underlying107,⟨by kernel_rfl,.inl ⟨⟨_,Tryd.underlying5⟩,_,_,rfl⟩⟩,by kernel_rfl⟩)))⟩) (by decide) ⟨_,Tryd.underlying107,rfl⟩ (by kernel_rfl)⟩)
theorem sV:Cu Tryd.prog 108 fB:=Cu.by Tryd.underlying108 (inf:=Tryd.t108) (by kernel_rfl) (by kernel_rfl) (by kernel_rfl) (by kernel_rfl) (by kernel_rfl) (fun h=>by cases h)
theorem ttOk:Jm Tryd.prog tt:=Jm.of_all (t:=AaL) ⟨trivial,⟨trivial,⟨AdM,⟨trivial,⟨trivial,trivial,⟨AbA,⟨AbC,trivial,trivial⟩,trivial⟩⟩,⟨trivial,⟨trivial,trivial,⟨sQ,trivial,trivial⟩⟩,trivial⟩⟩,⟨trivial,⟨trivial,trivial,⟨AbB,trivial,trivial⟩⟩,⟨Abv,⟨Aby,trivial,⟨sU,trivial,trivial⟩⟩,trivial⟩⟩⟩,⟨AdO,⟨AdP,⟨trivial,⟨trivial,trivial,⟨AbF,trivial,trivial⟩⟩,trivial⟩,⟨trivial,⟨trivial,trivial,⟨sS,trivial,trivial⟩⟩,trivial⟩⟩,⟨trivial,⟨trivial,⟨trivial,trivial,⟨sO,trivial,trivial⟩⟩,trivial⟩,⟨trivial,⟨Abz,trivial,trivial⟩,trivial⟩⟩⟩⟩,⟨trivial,⟨AdN,⟨trivial,⟨trivial,trivial,⟨trivial,⟨AbD,trivial,trivial⟩,trivial⟩⟩,⟨Abu,trivial,trivial⟩⟩,⟨trivial,trivial,⟨Abw,⟨trivial,trivial,⟨sV,trivial,trivial⟩⟩,trivial⟩⟩⟩,⟨trivial,⟨trivial,⟨trivial,⟨Abx,trivial,trivial⟩,trivial⟩,trivial⟩,⟨trivial,⟨Abt,⟨trivial,trivial,⟨sP,trivial,trivial⟩⟩,trivial⟩,⟨trivial,trivial,⟨trivial,⟨AbE,trivial,trivial⟩,trivial⟩⟩⟩⟩⟩⟩
theorem AbG:AaM.All (Ar Tryd.prog [0]):=⟨trivial,⟨trivial,⟨trivial,⟨trivial,⟨fF,⟨Abk,⟨Abs,trivial,trivial⟩,trivial⟩,⟨fV,trivial,trivial⟩⟩,⟨fK,⟨Abn,⟨gU,trivial,trivial⟩,trivial⟩,trivial⟩⟩,⟨trivial,⟨trivial,⟨trivial,⟨gQ,trivial,trivial⟩,trivial⟩,⟨gD,trivial,trivial⟩⟩,⟨Abi,⟨fT,trivial,trivial⟩,trivial⟩⟩⟩,⟨Abe,⟨trivial,⟨trivial,⟨trivial,⟨gM,trivial,trivial⟩,trivial⟩,trivial⟩,⟨fO,⟨Abp,trivial,trivial⟩,⟨gI,trivial,trivial⟩⟩⟩,⟨fE,⟨fH,trivial,⟨gG,trivial,trivial⟩⟩,⟨fQ,trivial,trivial⟩⟩⟩⟩,⟨trivial,⟨trivial,⟨trivial,⟨fG,⟨trivial,⟨gL,trivial,trivial⟩,trivial⟩,⟨fZ,trivial,trivial⟩⟩,⟨fM,⟨Abo,⟨gV,trivial,trivial⟩,trivial⟩,trivial⟩⟩,⟨Abf,⟨Abh,⟨trivial,⟨gT,trivial,trivial⟩,trivial⟩,⟨gF,trivial,trivial⟩⟩,⟨trivial,⟨fU,trivial,trivial⟩,trivial⟩⟩⟩,⟨trivial,⟨trivial,⟨Abg,⟨Abl,⟨gP,trivial,trivial⟩,trivial⟩,trivial⟩,⟨fP,⟨Abq,trivial,trivial⟩,⟨Abr,trivial,trivial⟩⟩⟩,⟨trivial,⟨fI,⟨Abm,trivial,trivial⟩,trivial⟩,⟨Abj,trivial,⟨gK,trivial,trivial⟩⟩⟩⟩⟩⟩
theorem fnsOk (f:FuncId) (r:Xq) (h:OD f=some r):Ar Tryd.prog [0] f r:=AbG.get h
end Go.Proofs.YtlgmapibifphaaaDoor.MnO
set_option maxRecDepth 100000
namespace Go.Proofs.YtlgmapibifphaaaDoor.MnO
open Go Go.Sp Go.MnOM Go.MnO
noncomputable section
theorem fk5:Ar Tryd.prog (List.range tabs.length) 5 ⟨187,R3,[.tmp 2]⟩:=by
 have h:c5=R3:=by kernel_rfl
 rw[←h];exact Abe
theorem AbH:Ar Tryd.prog (List.range tabs.length) 13 ⟨47,R4,[.tmp 2,.tmp 3]⟩:=by
 have h:c13=R4:=by kernel_rfl
 rw[←h];exact fE
theorem AbP:Ar Tryd.prog (List.range tabs.length) 16 ⟨12,R5,[.tmp 2,.tmp 3]⟩:=by
 have h:c16=R5:=by kernel_rfl
 rw[←h];exact fG
theorem AbQ:Ar Tryd.prog (List.range tabs.length) 21 ⟨83,R6,[.cell 6 24]⟩:=by
 have h:c21=R6:=by kernel_rfl
 rw[←h];exact fH
theorem AbR:Ar Tryd.prog (List.range tabs.length) 23 ⟨18,R7,[.tmp 2]⟩:=by
 have h:c23=R7:=by kernel_rfl
 rw[←h];exact fK
theorem AbS:Ar Tryd.prog (List.range tabs.length) 24 ⟨26,Wq,[.tmp 6]⟩:=by
 have h:c24=Wq:=by kernel_rfl
 rw[←h];exact fM
theorem Ab0:Ar Tryd.prog (List.range tabs.length) 25 ⟨25,R8,[.cell 6 24,.tmp 7]⟩:=by
 have h:c25=R8:=by kernel_rfl
 rw[←h];exact fO
theorem Ab4:Ar Tryd.prog (List.range tabs.length) 26 ⟨26,R9,[.tmp 4]⟩:=by
 have h:c26=R9:=by kernel_rfl
 rw[←h];exact fP
theorem Ab8:Ar Tryd.prog (List.range tabs.length) 29 ⟨12,Sa,[.tmp 2,.tmp 3]⟩:=by
 have h:c29=Sa:=by kernel_rfl
 rw[←h];exact fQ
theorem Ab9:Ar Tryd.prog (List.range tabs.length) 43 ⟨36,Ws,[.cell 6 24]⟩:=by
 have h:c43=Ws:=by kernel_rfl
 rw[←h];exact fT
theorem Aca:Ar Tryd.prog (List.range tabs.length) 44 ⟨13,Wt,[.tmp 2]⟩:=by
 have h:c44=Wt:=by kernel_rfl
 rw[←h];exact fU
theorem Acb:Ar Tryd.prog (List.range tabs.length) 47 ⟨73,Sb,[.tmp 2]⟩:=by
 have h:c47=Sb:=by kernel_rfl
 rw[←h];exact fV
theorem Acc:Ar Tryd.prog (List.range tabs.length) 48 ⟨46,Sc,[.tmp 2]⟩:=by
 have h:c48=Sc:=by kernel_rfl
 rw[←h];exact fZ
theorem Acd:Ar Tryd.prog (List.range tabs.length) 51 ⟨27,Sd,[.tmp 2]⟩:=by
 have h:c51=Sd:=by kernel_rfl
 rw[←h];exact gD
theorem Ace:Ar Tryd.prog (List.range tabs.length) 52 ⟨15,Wu,[.tmp 6]⟩:=by
 have h:c52=Wu:=by kernel_rfl
 rw[←h];exact gF
theorem Acf:Ar Tryd.prog (List.range tabs.length) 53 ⟨10,Wv,[.tmp 4]⟩:=by
 have h:c53=Wv:=by kernel_rfl
 rw[←h];exact gG
theorem Acg:Ar Tryd.prog (List.range tabs.length) 57 ⟨25,Sg,[.tmp 6]⟩:=by
 have h:c57=Sg:=by kernel_rfl
 rw[←h];exact gI
theorem Ach:Ar Tryd.prog (List.range tabs.length) 62 ⟨16,Si,[.tmp 2]⟩:=by
 have h:c62=Si:=by kernel_rfl
 rw[←h];exact gK
theorem Aci:Ar Tryd.prog (List.range tabs.length) 64 ⟨11,Ww,[.tmp 2]⟩:=by
 have h:c64=Ww:=by kernel_rfl
 rw[←h];exact gL
theorem Acj:Ar Tryd.prog (List.range tabs.length) 67 ⟨15,Wx,[.tmp 2]⟩:=by
 have h:c67=Wx:=by kernel_rfl
 rw[←h];exact gQ
theorem Ack:Ar Tryd.prog (List.range tabs.length) 71 ⟨38,Sj,[.tmp 4]⟩:=by
 have h:c71=Sj:=by kernel_rfl
 rw[←h];exact gU
theorem Acl:Ar Tryd.prog (List.range tabs.length) 72 ⟨9,Wy,[.tmp 2]⟩:=by
 have h:c72=Wy:=by kernel_rfl
 rw[←h];exact gV
theorem Acm:Ar Tryd.prog (List.range tabs.length) 22 ⟨77,O7,[.tmp 4]⟩:=by
 have h:c22=O7:=by kernel_rfl
 rw[←h];exact fI
theorem Acn:Ar Tryd.prog (List.range tabs.length) 15 ⟨26,O8,[.tmp 4]⟩:=by
 have h:c15=O8:=by kernel_rfl
 rw[←h];exact fF
theorem Aco:Ar Tryd.prog (List.range tabs.length) 65 ⟨8,TY,[.tmp 2]⟩:=by
 have h:c65=TY:=by kernel_rfl
 rw[←h];exact gM
theorem Acp:Ar Tryd.prog (List.range tabs.length) 66 ⟨52,O9,[.tmp 4]⟩:=by
 have h:c66=O9:=by kernel_rfl
 rw[←h];exact gP
theorem Acr:Ar Tryd.prog (List.range tabs.length) 68 ⟨94,Pb,[.tmp 8]⟩:=by
 have h:c68=Pb:=by kernel_rfl
 rw[←h];exact gT
theorem LQ:∀ t∈tabs,t≠[]:=by intro t ht;simp[tabs] at ht;subst ht;intro h;cases h
theorem LU:∀ t∈tabs,∀ x∈t,BR x=true:=by intro t ht x hx;simp[tabs] at ht;subst ht;simp[Sk] at hx;rcases hx with rfl | rfl | rfl | rfl | rfl | rfl | rfl | rfl | rfl | rfl | rfl | rfl | rfl | rfl | rfl | rfl | rfl | rfl | rfl | rfl | rfl | rfl | rfl | rfl | rfl | rfl | rfl | rfl | rfl | rfl | rfl | rfl <;> rfl
theorem sW (hm:Tryd.prog.follows .mixedOrders=true) {pu:Af} (h0:Cn Tryd.prog tabs 2 0 22 (pu 10220)) (h1:Cn Tryd.prog tabs 2 0 15 (pu 10150)) (h2:Cn Tryd.prog tabs 1 0 65 (pu 10650)) (h3:Cn Tryd.prog tabs 2 2 66 (pu 10660)) (h4:Cn Tryd.prog tabs 4 2 68 (pu 10680)):CO Tryd.prog (List.range tabs.length) (inl pu):=fun g args H v H' h=>by
 replace h:bb (Nat.beq g 63) (VM 1 8 args H) (bb (Nat.beq g 22) (EK tabs [[some 1],[none]] 2 [] [false] (pu 10220) args H) (bb (Nat.beq g 15) (EK tabs [[some 2],[some 2]] 2 [] [] (pu 10150) args H) (bb (Nat.beq g 65) (EK tabs [[none,some 1,some 1]] 1 [] [true,false] (pu 10650) args H) (bb (Nat.beq g 66) (EK tabs [[none],[none]] 2 [.tmp 0 true,.cell 1 3 false] [true,false] (pu 10660) args H) (bb (Nat.beq g 68) (EK tabs [[none],[some 1],[none],[none]] 4 [.tmp 0 true,.cell 1 3 false] [true,false] (pu 10680) args H) (none))))))=some (v,H'):=h
 have hq:=Ag h;clear h;rcases hq with⟨e,h⟩ | ⟨_,h⟩
 ·obtain rfl:=Nat.eq_of_beq_eq_true e
  exact VU ttOk fnsOk hm h
 have hq:=Ag h;clear h;rcases hq with⟨e,h⟩ | ⟨_,h⟩
 ·obtain rfl:=Nat.eq_of_beq_eq_true e
  exact Ip (rs:=[]) LQ LU h0 h
 have hq:=Ag h;clear h;rcases hq with⟨e,h⟩ | ⟨_,h⟩
 ·obtain rfl:=Nat.eq_of_beq_eq_true e
  exact Ip (rs:=[]) LQ LU h1 h
 have hq:=Ag h;clear h;rcases hq with⟨e,h⟩ | ⟨_,h⟩
 ·obtain rfl:=Nat.eq_of_beq_eq_true e
  exact Ip (rs:=[]) LQ LU h2 h
 have hq:=Ag h;clear h;rcases hq with⟨e,h⟩ | ⟨_,h⟩
 ·obtain rfl:=Nat.eq_of_beq_eq_true e
  exact Ip (rs:=[.tmp 0 true,.cell 1 3 false]) LQ LU h3 h
 have hq:=Ag h;clear h;rcases hq with⟨e,h⟩ | ⟨_,h⟩
 ·obtain rfl:=Nat.eq_of_beq_eq_true e
  exact Ip (rs:=[.tmp 0 true,.cell 1 3 false]) LQ LU h4 h
 cases h
theorem bU (hm:Tryd.prog.follows .mixedOrders=true) (hw:BA Tryd.prog tabs 12 (fun args=>ll args (some (.bool true)) fun _ _=>none)) {pu:Af} (hall:(∀ g,HV g=true→BA Tryd.prog tabs g (pu g))∧Cn Tryd.prog tabs 2 0 22 (pu 10220)∧Cn Tryd.prog tabs 2 0 15 (pu 10150)∧Cn Tryd.prog tabs 1 0 65 (pu 10650)∧Cn Tryd.prog tabs 2 2 66 (pu 10660)∧Cn Tryd.prog tabs 4 2 68 (pu 10680)):(∀ g,HV g=true→BA Tryd.prog tabs g (V3 pu g))∧Cn Tryd.prog tabs 2 0 22 (V3 pu 10220)∧Cn Tryd.prog tabs 2 0 15 (V3 pu 10150)∧Cn Tryd.prog tabs 1 0 65 (V3 pu 10650)∧Cn Tryd.prog tabs 2 2 66 (V3 pu 10660)∧Cn Tryd.prog tabs 4 2 68 (V3 pu 10680):=by
 obtain⟨hpu,h0,h4,h5,h6,h7⟩:=hall
 have hcall:=TG (P:=Tryd.prog) (tabs:=tabs) LQ LU (sW hm h0 h4 h5 h6 h7) hpu
 refine⟨fun g hg=>?_,?_,?_,?_,?_,?_⟩
 ·have hg:g∈Ua:=CS.1 hg
  simp only[Ua,List.mem_cons,List.not_mem_nil,or_false] at hg
  rcases hg with rfl | rfl | rfl | rfl | rfl | rfl | rfl | rfl | rfl | rfl | rfl | rfl | rfl | rfl | rfl | rfl | rfl | rfl | rfl | rfl | rfl | rfl | rfl
  ·exact Aw (tabs:=tabs) (f:=m5 pu L) ttOk hm hcall fk5 fun args v h hc=>r5 pu L rfl h hc
  ·exact hw
  ·exact Aw (tabs:=tabs) (f:=m13 pu L) ttOk hm hcall AbH fun args v h hc=>r13 pu L rfl h hc
  ·exact Aw (tabs:=tabs) (f:=uW pu L) ttOk hm hcall AbP fun args v h hc=>r16 pu L rfl h hc
  ·exact Aw (tabs:=tabs) (f:=uX pu L) ttOk hm hcall AbQ fun args v h hc=>r21 pu L rfl h hc
  ·exact Aw (tabs:=tabs) (f:=m23 pu L) ttOk hm hcall AbR fun args v h hc=>r23 pu L rfl h hc
  ·exact Aw (tabs:=tabs) (f:=uY pu L) ttOk hm hcall AbS fun args v h hc=>r24 pu L rfl h hc
  ·exact Aw (tabs:=tabs) (f:=uZ pu L) ttOk hm hcall Ab0 fun args v h hc=>r25 pu L rfl h hc
  ·exact Aw (tabs:=tabs) (f:=m26 pu L) ttOk hm hcall Ab4 fun args v h hc=>r26 pu L rfl h hc
  ·exact Aw (tabs:=tabs) (f:=m29 pu L) ttOk hm hcall Ab8 fun args v h hc=>r29 pu L rfl h hc
  ·exact Aw (tabs:=tabs) (f:=m43 pu L) ttOk hm hcall Ab9 fun args v h hc=>r43 pu L rfl h hc
  ·exact Aw (tabs:=tabs) (f:=m44 pu L) ttOk hm hcall Aca fun args v h hc=>r44 pu L rfl h hc
  ·exact Aw (tabs:=tabs) (f:=m47 pu L) ttOk hm hcall Acb fun args v h hc=>WE pu L rfl h hc
  ·exact Aw (tabs:=tabs) (f:=vC pu L) ttOk hm hcall Acc fun args v h hc=>r48 pu L rfl h hc
  ·exact Aw (tabs:=tabs) (f:=m51 pu L) ttOk hm hcall Acd fun args v h hc=>r51 pu L rfl h hc
  ·exact Aw (tabs:=tabs) (f:=m52 pu L) ttOk hm hcall Ace fun args v h hc=>r52 pu L rfl h hc
  ·exact Aw (tabs:=tabs) (f:=m53 pu L) ttOk hm hcall Acf fun args v h hc=>r53 pu L rfl h hc
  ·exact Aw (tabs:=tabs) (f:=m57 pu L) ttOk hm hcall Acg fun args v h hc=>r57 pu L rfl h hc
  ·exact Aw (tabs:=tabs) (f:=m62 pu L) ttOk hm hcall Ach fun args v h hc=>r62 pu L rfl h hc
  ·exact Aw (tabs:=tabs) (f:=m64 pu L) ttOk hm hcall Aci fun args v h hc=>r64 pu L rfl h hc
  ·exact Aw (tabs:=tabs) (f:=m67 pu L) ttOk hm hcall Acj fun args v h hc=>r67 pu L rfl h hc
  ·exact Aw (tabs:=tabs) (f:=m71 pu L) ttOk hm hcall Ack fun args v h hc=>r71 pu L rfl h hc
  ·exact Aw (tabs:=tabs) (f:=m72 pu L) ttOk hm hcall Acl fun args v h hc=>r72 pu L rfl h hc
 ·exact Dx (tabs:=tabs) (f:=Pq pu L) ttOk hm hcall Acm fun args os z h1 h2 h3 h=>rY pu L rfl h1 h2 h3 h
 ·exact Dx (tabs:=tabs) (f:=Ps pu L) ttOk hm hcall Acn fun args os z h1 h2 h3 h=>sG pu L rfl h1 h2 h3 h
 ·exact Dx (tabs:=tabs) (f:=Pt pu L) ttOk hm hcall Aco fun args os z h1 h2 h3 h=>sI pu L rfl h1 h2 h3 h
 ·exact Dx (tabs:=tabs) (f:=Kg pu L) ttOk hm hcall Acp fun args os z h1 h2 h3 h=>sK pu L rfl h1 h2 h3 h
 ·exact Dx (tabs:=tabs) (f:=MG pu L) ttOk hm hcall Acr fun args os z h1 h2 h3 h=>sN pu L rfl h1 h2 h3 h
theorem sZ (hm:Tryd.prog.follows .mixedOrders=true) (hw:BA Tryd.prog tabs 12 (fun args=>ll args (some (.bool true)) fun _ _=>none)):∀ n,(∀ g,HV g=true→BA Tryd.prog tabs g (Eb n g))∧Cn Tryd.prog tabs 2 0 22 (Eb n 10220)∧Cn Tryd.prog tabs 2 0 15 (Eb n 10150)∧Cn Tryd.prog tabs 1 0 65 (Eb n 10650)∧Cn Tryd.prog tabs 2 2 66 (Eb n 10660)∧Cn Tryd.prog tabs 4 2 68 (Eb n 10680):=fun n=>by
 induction n with
 | zero =>
  refine⟨fun g hg=>?_,?_,?_,?_,?_,?_⟩
  ·have hg:g∈Ua:=CS.1 hg
   simp only[Ua,List.mem_cons,List.not_mem_nil,or_false] at hg
   rcases hg with rfl | rfl | rfl | rfl | rfl | rfl | rfl | rfl | rfl | rfl | rfl | rfl | rfl | rfl | rfl | rfl | rfl | rfl | rfl | rfl | rfl | rfl | rfl
   ·exact⟨A9 fk5,fun args v h=>by cases h⟩
   ·exact⟨(hw).1,fun args v h=>by cases h⟩
   ·exact⟨A9 AbH,fun args v h=>by cases h⟩
   ·exact⟨A9 AbP,fun args v h=>by cases h⟩
   ·exact⟨A9 AbQ,fun args v h=>by cases h⟩
   ·exact⟨A9 AbR,fun args v h=>by cases h⟩
   ·exact⟨A9 AbS,fun args v h=>by cases h⟩
   ·exact⟨A9 Ab0,fun args v h=>by cases h⟩
   ·exact⟨A9 Ab4,fun args v h=>by cases h⟩
   ·exact⟨A9 Ab8,fun args v h=>by cases h⟩
   ·exact⟨A9 Ab9,fun args v h=>by cases h⟩
   ·exact⟨A9 Aca,fun args v h=>by cases h⟩
   ·exact⟨A9 Acb,fun args v h=>by cases h⟩
   ·exact⟨A9 Acc,fun args v h=>by cases h⟩
   ·exact⟨A9 Acd,fun args v h=>by cases h⟩
   ·exact⟨A9 Ace,fun args v h=>by cases h⟩
   ·exact⟨A9 Acf,fun args v h=>by cases h⟩
   ·exact⟨A9 Acg,fun args v h=>by cases h⟩
   ·exact⟨A9 Ach,fun args v h=>by cases h⟩
   ·exact⟨A9 Aci,fun args v h=>by cases h⟩
   ·exact⟨A9 Acj,fun args v h=>by cases h⟩
   ·exact⟨A9 Ack,fun args v h=>by cases h⟩
   ·exact⟨A9 Acl,fun args v h=>by cases h⟩
  ·exact⟨A9 Acm,fun args os z h1 h2 h3 h=>by cases h⟩
  ·exact⟨A9 Acn,fun args os z h1 h2 h3 h=>by cases h⟩
  ·exact⟨A9 Aco,fun args os z h1 h2 h3 h=>by cases h⟩
  ·exact⟨A9 Acp,fun args os z h1 h2 h3 h=>by cases h⟩
  ·exact⟨A9 Acr,fun args os z h1 h2 h3 h=>by cases h⟩
 | succ n ih=>exact bU hm hw ih
theorem pu_ok (hm:Tryd.prog.follows .mixedOrders=true) (hw:BA Tryd.prog tabs 12 (fun args=>ll args (some (.bool true)) fun _ _=>none)):∀ n g,HV g=true→BA Tryd.prog tabs g (Eb n g):=fun n=>(sZ hm hw n).1
end
end Go.Proofs.YtlgmapibifphaaaDoor.MnO
