import Derived.Test.YtlgmapibifphaaaDoorProg
import Derived.Test.YtlgmapibifphaaaDoorSpObjx
import Derived.Test.YtlgmapibifphaaaDoorMnSMod0x
import Derived.Test.YtlgmapibifphaaaDoorMnSPux
set_option maxRecDepth 100000
namespace Go.Proofs.YtlgmapibifphaaaDoor.MnS
open Go Go.Sp Go.MnS
theorem pW:Ar Tryd.prog [0] 10 ⟨137,c10,[.tmp 2]⟩:=Ar.by Tryd.func10 (by kernel_rfl) (by kernel_rfl) Tryd.ntmps10 (by rw[Tryd.results10]) (by kernel_rfl)
theorem AfS:Ar Tryd.prog [0] 12 ⟨218,c12,[.tmp 0]⟩:=Ar.by Tryd.func12 (by kernel_rfl) (by kernel_rfl) Tryd.ntmps12 (by rw[Tryd.results12]) (by kernel_rfl)
theorem AfT:Ar Tryd.prog [0] 13 ⟨47,c13,[.tmp 2,.tmp 3]⟩:=Ar.by Tryd.func13 (by kernel_rfl) (by kernel_rfl) Tryd.ntmps13 (by rw[Tryd.results13]) (by kernel_rfl)
theorem AfU:Ar Tryd.prog [0] 15 ⟨26,c15,[.tmp 4]⟩:=Ar.by Tryd.func15 (by kernel_rfl) (by kernel_rfl) Tryd.ntmps15 (by rw[Tryd.results15]) (by kernel_rfl)
theorem pX:Ar Tryd.prog [0] 16 ⟨12,c16,[.tmp 2,.tmp 3]⟩:=Ar.by Tryd.func16 (by kernel_rfl) (by kernel_rfl) Tryd.ntmps16 (by rw[Tryd.results16]) (by kernel_rfl)
theorem pY:Ar Tryd.prog [0] 18 ⟨91,c18,[.tmp 4,.tmp 5]⟩:=Ar.by Tryd.func18 (by kernel_rfl) (by kernel_rfl) Tryd.ntmps18 (by rw[Tryd.results18]) (by kernel_rfl)
theorem qA:Ar Tryd.prog [0] 20 ⟨27,c20,[.tmp 4]⟩:=Ar.by Tryd.func20 (by kernel_rfl) (by kernel_rfl) Tryd.ntmps20 (by rw[Tryd.results20]) (by kernel_rfl)
theorem qB:Ar Tryd.prog [0] 21 ⟨83,c21,[.cell 6 24]⟩:=Ar.by Tryd.func21 (by kernel_rfl) (by kernel_rfl) Tryd.ntmps21 (by rw[Tryd.results21]) (by kernel_rfl)
theorem qC:Ar Tryd.prog [0] 22 ⟨77,c22,[.tmp 4]⟩:=Ar.by Tryd.func22 (by kernel_rfl) (by kernel_rfl) Tryd.ntmps22 (by rw[Tryd.results22]) (by kernel_rfl)
theorem qR:Ar Tryd.prog [0] 23 ⟨18,c23,[.tmp 2]⟩:=Ar.by Tryd.func23 (by kernel_rfl) (by kernel_rfl) Tryd.ntmps23 (by rw[Tryd.results23]) (by kernel_rfl)
theorem qU:Ar Tryd.prog [0] 24 ⟨26,c24,[.tmp 6]⟩:=Ar.by Tryd.func24 (by kernel_rfl) (by kernel_rfl) Tryd.ntmps24 (by rw[Tryd.results24]) (by kernel_rfl)
theorem AfV:Ar Tryd.prog [0] 25 ⟨25,c25,[.cell 6 24,.tmp 7]⟩:=Ar.by Tryd.func25 (by kernel_rfl) (by kernel_rfl) Tryd.ntmps25 (by rw[Tryd.results25]) (by kernel_rfl)
theorem qV:Ar Tryd.prog [0] 26 ⟨26,c26,[.tmp 4]⟩:=Ar.by Tryd.func26 (by kernel_rfl) (by kernel_rfl) Tryd.ntmps26 (by rw[Tryd.results26]) (by kernel_rfl)
theorem AfW:Ar Tryd.prog [0] 27 ⟨22,c27,[.tmp 4,.tmp 5]⟩:=Ar.by Tryd.func27 (by kernel_rfl) (by kernel_rfl) Tryd.ntmps27 (by rw[Tryd.results27]) (by kernel_rfl)
theorem qW:Ar Tryd.prog [0] 29 ⟨12,c29,[.tmp 2,.tmp 3]⟩:=Ar.by Tryd.func29 (by kernel_rfl) (by kernel_rfl) Tryd.ntmps29 (by rw[Tryd.results29]) (by kernel_rfl)
theorem AfX:Ar Tryd.prog [0] 30 ⟨44,c30,[.tmp 2,.tmp 3]⟩:=Ar.by Tryd.func30 (by kernel_rfl) (by kernel_rfl) Tryd.ntmps30 (by rw[Tryd.results30]) (by kernel_rfl)
theorem AfY:Ar Tryd.prog [0] 31 ⟨12,c31,[.tmp 2,.tmp 3]⟩:=Ar.by Tryd.func31 (by kernel_rfl) (by kernel_rfl) Tryd.ntmps31 (by rw[Tryd.results31]) (by kernel_rfl)
theorem qX:Ar Tryd.prog [0] 33 ⟨53,c33,[.tmp 2,.tmp 3]⟩:=Ar.by Tryd.func33 (by kernel_rfl) (by kernel_rfl) Tryd.ntmps33 (by rw[Tryd.results33]) (by kernel_rfl)
theorem rA:Ar Tryd.prog [0] 34 ⟨39,c34,[.tmp 4]⟩:=Ar.by Tryd.func34 (by kernel_rfl) (by kernel_rfl) Tryd.ntmps34 (by rw[Tryd.results34]) (by kernel_rfl)
theorem rC:Ar Tryd.prog [0] 36 ⟨37,c36,[.tmp 2]⟩:=Ar.by Tryd.func36 (by kernel_rfl) (by kernel_rfl) Tryd.ntmps36 (by rw[Tryd.results36]) (by kernel_rfl)
theorem rD:Ar Tryd.prog [0] 37 ⟨26,c37,[.tmp 2]⟩:=Ar.by Tryd.func37 (by kernel_rfl) (by kernel_rfl) Tryd.ntmps37 (by rw[Tryd.results37]) (by kernel_rfl)
theorem AfZ:Ar Tryd.prog [0] 38 ⟨13,c38,[.tmp 2,.tmp 3]⟩:=Ar.by Tryd.func38 (by kernel_rfl) (by kernel_rfl) Tryd.ntmps38 (by rw[Tryd.results38]) (by kernel_rfl)
theorem Af0:Ar Tryd.prog [0] 39 ⟨6,c39,[.cell 0 24]⟩:=Ar.by Tryd.func39 (by kernel_rfl) (by kernel_rfl) Tryd.ntmps39 (by rw[Tryd.results39]) (by kernel_rfl)
theorem Af1:Ar Tryd.prog [0] 40 ⟨6,c40,[.cell 0 24]⟩:=Ar.by Tryd.func40 (by kernel_rfl) (by kernel_rfl) Tryd.ntmps40 (by rw[Tryd.results40]) (by kernel_rfl)
theorem Af2:Ar Tryd.prog [0] 41 ⟨4,c41,[.tmp 2]⟩:=Ar.by Tryd.func41 (by kernel_rfl) (by kernel_rfl) Tryd.ntmps41 (by rw[Tryd.results41]) (by kernel_rfl)
end Go.Proofs.YtlgmapibifphaaaDoor.MnS
set_option maxRecDepth 100000
namespace Go.Proofs.YtlgmapibifphaaaDoor.MnS
open Go Go.Sp Go.MnS
theorem Af3:Ar Tryd.prog [0] 42 ⟨4,c42,[.tmp 2]⟩:=Ar.by Tryd.func42 (by kernel_rfl) (by kernel_rfl) Tryd.ntmps42 (by rw[Tryd.results42]) (by kernel_rfl)
theorem rE:Ar Tryd.prog [0] 43 ⟨36,c43,[.cell 6 24]⟩:=Ar.by Tryd.func43 (by kernel_rfl) (by kernel_rfl) Tryd.ntmps43 (by rw[Tryd.results43]) (by kernel_rfl)
theorem rF:Ar Tryd.prog [0] 44 ⟨13,c44,[.tmp 2]⟩:=Ar.by Tryd.func44 (by kernel_rfl) (by kernel_rfl) Tryd.ntmps44 (by rw[Tryd.results44]) (by kernel_rfl)
theorem rH:Ar Tryd.prog [0] 47 ⟨73,c47,[.tmp 2]⟩:=Ar.by Tryd.func47 (by kernel_rfl) (by kernel_rfl) Tryd.ntmps47 (by rw[Tryd.results47]) (by kernel_rfl)
theorem rJ:Ar Tryd.prog [0] 48 ⟨46,c48,[.tmp 2]⟩:=Ar.by Tryd.func48 (by kernel_rfl) (by kernel_rfl) Tryd.ntmps48 (by rw[Tryd.results48]) (by kernel_rfl)
theorem rM:Ar Tryd.prog [0] 51 ⟨27,c51,[.tmp 2]⟩:=Ar.by Tryd.func51 (by kernel_rfl) (by kernel_rfl) Tryd.ntmps51 (by rw[Tryd.results51]) (by kernel_rfl)
theorem rO:Ar Tryd.prog [0] 52 ⟨15,c52,[.tmp 6]⟩:=Ar.by Tryd.func52 (by kernel_rfl) (by kernel_rfl) Tryd.ntmps52 (by rw[Tryd.results52]) (by kernel_rfl)
theorem rP:Ar Tryd.prog [0] 53 ⟨10,c53,[.tmp 4]⟩:=Ar.by Tryd.func53 (by kernel_rfl) (by kernel_rfl) Tryd.ntmps53 (by rw[Tryd.results53]) (by kernel_rfl)
theorem rQ:Ar Tryd.prog [0] 57 ⟨25,c57,[.tmp 6]⟩:=Ar.by Tryd.func57 (by kernel_rfl) (by kernel_rfl) Tryd.ntmps57 (by rw[Tryd.results57]) (by kernel_rfl)
theorem Af4:Ar Tryd.prog [0] 58 ⟨49,c58,[.tmp 2]⟩:=Ar.by Tryd.func58 (by kernel_rfl) (by kernel_rfl) Tryd.ntmps58 (by rw[Tryd.results58]) (by kernel_rfl)
theorem rR:Ar Tryd.prog [0] 60 ⟨108,c60,[]⟩:=Ar.by Tryd.func60 (by kernel_rfl) (by kernel_rfl) Tryd.ntmps60 (by rw[Tryd.results60]) (by kernel_rfl)
theorem rT:Ar Tryd.prog [0] 61 ⟨70,c61,[.tmp 4]⟩:=Ar.by Tryd.func61 (by kernel_rfl) (by kernel_rfl) Tryd.ntmps61 (by rw[Tryd.results61]) (by kernel_rfl)
theorem rU:Ar Tryd.prog [0] 62 ⟨16,c62,[.tmp 2]⟩:=Ar.by Tryd.func62 (by kernel_rfl) (by kernel_rfl) Tryd.ntmps62 (by rw[Tryd.results62]) (by kernel_rfl)
theorem Af5:Ar Tryd.prog [0] 63 ⟨8,c63,[.tmp 2]⟩:=Ar.by Tryd.func63 (by kernel_rfl) (by kernel_rfl) Tryd.ntmps63 (by rw[Tryd.results63]) (by kernel_rfl)
theorem rV:Ar Tryd.prog [0] 64 ⟨11,c64,[.tmp 2]⟩:=Ar.by Tryd.func64 (by kernel_rfl) (by kernel_rfl) Tryd.ntmps64 (by rw[Tryd.results64]) (by kernel_rfl)
theorem rW:Ar Tryd.prog [0] 65 ⟨8,c65,[.tmp 2]⟩:=Ar.by Tryd.func65 (by kernel_rfl) (by kernel_rfl) Tryd.ntmps65 (by rw[Tryd.results65]) (by kernel_rfl)
theorem rX:Ar Tryd.prog [0] 66 ⟨52,c66,[.tmp 4]⟩:=Ar.by Tryd.func66 (by kernel_rfl) (by kernel_rfl) Tryd.ntmps66 (by rw[Tryd.results66]) (by kernel_rfl)
theorem rY:Ar Tryd.prog [0] 67 ⟨15,c67,[.tmp 2]⟩:=Ar.by Tryd.func67 (by kernel_rfl) (by kernel_rfl) Tryd.ntmps67 (by rw[Tryd.results67]) (by kernel_rfl)
theorem rZ:Ar Tryd.prog [0] 68 ⟨94,c68,[.tmp 8]⟩:=Ar.by Tryd.func68 (by kernel_rfl) (by kernel_rfl) Tryd.ntmps68 (by rw[Tryd.results68]) (by kernel_rfl)
theorem sG:Ar Tryd.prog [0] 71 ⟨38,c71,[.tmp 4]⟩:=Ar.by Tryd.func71 (by kernel_rfl) (by kernel_rfl) Tryd.ntmps71 (by rw[Tryd.results71]) (by kernel_rfl)
theorem sH:Ar Tryd.prog [0] 72 ⟨9,c72,[.tmp 2]⟩:=Ar.by Tryd.func72 (by kernel_rfl) (by kernel_rfl) Tryd.ntmps72 (by rw[Tryd.results72]) (by kernel_rfl)
end Go.Proofs.YtlgmapibifphaaaDoor.MnS
set_option maxRecDepth 100000
namespace Go.Proofs.YtlgmapibifphaaaDoor.MnS
open Go Go.Sp Go.MnS
theorem Aio:Cu Tryd.prog 3 ti3:=Cu.by Tryd.underlying3 (inf:=Tryd.t3) (by kernel_rfl) (by kernel_rfl) (by kernel_rfl) (by kernel_rfl) (by kernel_rfl) (λh=>by cases h)
theorem Aip:Cu Tryd.prog 4 ti4:=Cu.by Tryd.underlying4 (inf:=Tryd.t4) (by kernel_rfl) (by kernel_rfl) (by kernel_rfl) (by kernel_rfl) (by kernel_rfl) (λh=>by cases h)
theorem Aiq:Cu Tryd.prog 5 ti5:=Cu.by Tryd.underlying5 (inf:=Tryd.t5) (by kernel_rfl) (by kernel_rfl) (by kernel_rfl) (by kernel_rfl) (by kernel_rfl) (λh=>by cases h)
theorem Air:Cu Tryd.prog 9 ti9:=Cu.by Tryd.underlying9 (inf:=Tryd.t9) (by kernel_rfl) (by kernel_rfl) (by kernel_rfl) (by kernel_rfl) (by kernel_rfl) (λh=>by cases h)
theorem Af6:Cu Tryd.prog 22 Ae8:=Cu.by Tryd.underlying22 (inf:=Tryd.t22) (by kernel_rfl) (by kernel_rfl) (by kernel_rfl) (by kernel_rfl) (by kernel_rfl) (λh=>by cases h)
theorem Af7:Cu Tryd.prog 24 Ae9:=Cu.by Tryd.underlying24 (inf:=Tryd.t24) (by kernel_rfl) (by kernel_rfl) (by kernel_rfl) (by kernel_rfl) (by kernel_rfl) (λh=>by cases h)
theorem Af8:Cu Tryd.prog 27 Afa:=Cu.by Tryd.underlying27 (inf:=Tryd.t27) (by kernel_rfl) (by kernel_rfl) (by kernel_rfl) (by kernel_rfl) (by kernel_rfl) (λh=>by cases h)
theorem Af9:Cu Tryd.prog 28 Afb:=Cu.by Tryd.underlying28 (inf:=Tryd.t28) (by kernel_rfl) (by kernel_rfl) (by kernel_rfl) (by kernel_rfl) (by kernel_rfl) (λh=>by cases h)
theorem Aga:Cu Tryd.prog 34 Afc:=Cu.by Tryd.underlying34 (inf:=Tryd.t34) (by kernel_rfl) (by kernel_rfl) (by kernel_rfl) (by kernel_rfl) (by kernel_rfl) (λh=>by cases h)
theorem Agb:Cu Tryd.prog 43 Afd:=Cu.by Tryd.underlying43 (inf:=Tryd.t43) (by kernel_rfl) (by kernel_rfl) (by kernel_rfl) (by kernel_rfl) (by kernel_rfl) (λ_=>⟨_,rfl,Fl.ok (d:=8) (⟨by kernel_rfl,.inr (.inr (.inr (.inl ⟨10,5,[(.int .u8 0)],Tryd.underlying43,⟨by kernel_rfl,.inl ⟨⟨_,Tryd.underlying5⟩,_,_,rfl⟩⟩,by kernel_rfl⟩)))⟩) (by decide) ⟨_,Tryd.underlying43,rfl⟩ (by kernel_rfl)⟩)
theorem Agc:Cu Tryd.prog 45 Afe:=Cu.by Tryd.underlying45 (inf:=Tryd.t45) (by kernel_rfl) (by kernel_rfl) (by kernel_rfl) (by kernel_rfl) (by kernel_rfl) (λ_=>⟨_,rfl,Fl.ok (d:=8) (⟨by kernel_rfl,.inr (.inr (.inr (.inr ⟨_,Tryd.underlying45,by kernel_rfl,⟨by decide,rfl,[(.int .u8 0)],[(.int .u8 0),(.int .u8 0),(.int .u8 0),(.int .u8 0),(.int .u8 0),(.int .u8 0),(.int .u8 0),(.int .u8 0),(.int .u8 0),(.int .u8 0),(.int .u8 0),(.int .u8 0),(.int .u8 0),(.int .u8 0),(.int .u8 0),(.int .u8 0),(.int .u8 0),(.int .u8 0),(.int .u8 0),(.int .u8 0),(.int .u8 0)],rfl,⟨by kernel_rfl,.inl ⟨⟨_,Tryd.underlying5⟩,_,_,rfl⟩⟩,⟨by decide,rfl,[(.int .u8 0)],[(.int .u8 0),(.int .u8 0),(.int .u8 0),(.int .u8 0),(.int .u8 0),(.int .u8 0),(.int .u8 0),(.int .u8 0),(.int .u8 0),(.int .u8 0),(.int .u8 0),(.int .u8 0),(.int .u8 0),(.int .u8 0),(.int .u8 0),(.int .u8 0),(.int .u8 0),(.int .u8 0),(.int .u8 0),(.int .u8 0)],rfl,⟨by kernel_rfl,.inl ⟨⟨_,Tryd.underlying5⟩,_,_,rfl⟩⟩,⟨by decide,rfl,[(.int .u8 0),(.int .u8 0),(.int .u8 0),(.int .u8 0),(.int .u8 0),(.int .u8 0),(.int .u8 0),(.int .u8 0),(.int .u8 0),(.int .u8 0)],[(.int .u8 0),(.int .u8 0),(.int .u8 0),(.int .u8 0),(.int .u8 0),(.int .u8 0),(.int .u8 0),(.int .u8 0),(.int .u8 0),(.int .u8 0)],rfl,⟨by kernel_rfl,.inr (.inr (.inr (.inl ⟨10,5,[(.int .u8 0)],Tryd.underlying43,⟨by kernel_rfl,.inl ⟨⟨_,Tryd.underlying5⟩,_,_,rfl⟩⟩,by kernel_rfl⟩)))⟩,⟨by decide,rfl,[(.int .u8 0),(.int .u8 0),(.int .u8 0),(.int .u8 0),(.int .u8 0),(.int .u8 0),(.int .u8 0),(.int .u8 0),(.int .u8 0),(.int .u8 0)],[],rfl,⟨by kernel_rfl,.inr (.inr (.inr (.inl ⟨10,5,[(.int .u8 0)],Tryd.underlying43,⟨by kernel_rfl,.inl ⟨⟨_,Tryd.underlying5⟩,_,_,rfl⟩⟩,by kernel_rfl⟩)))⟩,rfl⟩⟩⟩⟩⟩)))⟩) (by decide) ⟨_,Tryd.underlying45,rfl⟩ (by kernel_rfl)⟩)
theorem Agd:Cu Tryd.prog 47 Aff:=Cu.by Tryd.underlying47 (inf:=Tryd.t47) (by kernel_rfl) (by kernel_rfl) (by kernel_rfl) (by kernel_rfl) (by kernel_rfl) (λh=>by cases h)
theorem Agf:Cu Tryd.prog 51 Afg:=Cu.by Tryd.underlying51 (inf:=Tryd.t51) (by kernel_rfl) (by kernel_rfl) (by kernel_rfl) (by kernel_rfl) (by kernel_rfl) (λ_=>⟨_,rfl,Fl.ok (d:=8) (⟨by kernel_rfl,.inr (.inr (.inr (.inl ⟨2,3,[(.int .i64 0)],Tryd.underlying51,⟨by kernel_rfl,.inl ⟨⟨_,Tryd.underlying3⟩,_,_,rfl⟩⟩,by kernel_rfl⟩)))⟩) (by decide) ⟨_,Tryd.underlying51,rfl⟩ (by kernel_rfl)⟩)
theorem Agg:Cu Tryd.prog 57 Afh:=Cu.by Tryd.underlying57 (inf:=Tryd.t57) (by kernel_rfl) (by kernel_rfl) (by kernel_rfl) (by kernel_rfl) (by kernel_rfl) (λh=>by cases h)
theorem Agh:Cu Tryd.prog 79 Afi:=Cu.by Tryd.underlying79 (inf:=Tryd.t79) (by kernel_rfl) (by kernel_rfl) (by kernel_rfl) (by kernel_rfl) (by kernel_rfl) (λh=>by cases h)
theorem Agi:Cu Tryd.prog 80 Afj:=Cu.by Tryd.underlying80 (inf:=Tryd.t80) (by kernel_rfl) (by kernel_rfl) (by kernel_rfl) (by kernel_rfl) (by kernel_rfl) (λh=>by cases h)
theorem Agj:Cu Tryd.prog 91 Afk:=Cu.by Tryd.underlying91 (inf:=Tryd.t91) (by kernel_rfl) (by kernel_rfl) (by kernel_rfl) (by kernel_rfl) (by kernel_rfl) (λh=>by cases h)
theorem Agk:Cu Tryd.prog 94 Afl:=Cu.by Tryd.underlying94 (inf:=Tryd.t94) (by kernel_rfl) (by kernel_rfl) (by kernel_rfl) (by kernel_rfl) (by kernel_rfl) (λh=>by cases h)
theorem Agl:Cu Tryd.prog 97 Afm:=Cu.by Tryd.underlying97 (inf:=Tryd.t97) (by kernel_rfl) (by kernel_rfl) (by kernel_rfl) (by kernel_rfl) (by kernel_rfl) (λ_=>⟨_,rfl,Fl.ok (d:=8) (⟨by kernel_rfl,.inr (.inr (.inr (.inl ⟨5,3,[(.int .i64 0)],Tryd.underlying97,⟨by kernel_rfl,.inl ⟨⟨_,Tryd.underlying3⟩,_,_,rfl⟩⟩,by kernel_rfl⟩)))⟩) (by decide) ⟨_,Tryd.underlying97,rfl⟩ (by kernel_rfl)⟩)
theorem AbR:Cu Tryd.prog 101 pK:=Cu.by Tryd.underlying101 (inf:=Tryd.t101) (by kernel_rfl) (by kernel_rfl) (by kernel_rfl) (by kernel_rfl) (by kernel_rfl) (λh=>by cases h)
theorem AbS:Cu Tryd.prog 102 pM:=Cu.by Tryd.underlying102 (inf:=Tryd.t102) (by kernel_rfl) (by kernel_rfl) (by kernel_rfl) (by kernel_rfl) (by kernel_rfl) (λh=>by cases h)
theorem Ab0:Cu Tryd.prog 103 pO:=Cu.by Tryd.underlying103 (inf:=Tryd.t103) (by kernel_rfl) (by kernel_rfl) (by kernel_rfl) (by kernel_rfl) (by kernel_rfl) (λh=>by cases h)
theorem Ab4:Cu Tryd.prog 105 pQ:=Cu.by Tryd.underlying105 (inf:=Tryd.t105) (by kernel_rfl) (by kernel_rfl) (by kernel_rfl) (by kernel_rfl) (by kernel_rfl) (λh=>by cases h)
theorem Ab8:Cu Tryd.prog 107 pR:=Cu.by Tryd.underlying107 (inf:=Tryd.t107) (by kernel_rfl) (by kernel_rfl) (by kernel_rfl) (by kernel_rfl) (by kernel_rfl) (λ_=>⟨_,rfl,Fl.ok (d:=8) (⟨by kernel_rfl,.inr (.inr (.inr (.inl ⟨32,5,[(.int .u8 0)],Tryd.underlying107,⟨by kernel_rfl,.inl ⟨⟨_,Tryd.underlying5⟩,_,_,rfl⟩⟩,by kernel_rfl⟩)))⟩) (by decide) ⟨_,Tryd.underlying107,rfl⟩ (by kernel_rfl)⟩)
theorem Ab9:Cu Tryd.prog 108 pV:=Cu.by Tryd.underlying108 (inf:=Tryd.t108) (by kernel_rfl) (by kernel_rfl) (by kernel_rfl) (by kernel_rfl) (by kernel_rfl) (λh=>by cases h)
theorem ttOk:Jm Tryd.prog tt:=Jm.of_all (t:=Afn) ⟨trivial,⟨trivial,⟨Aio,⟨trivial,⟨trivial,trivial,⟨Agd,⟨Agh,trivial,trivial⟩,trivial⟩⟩,⟨trivial,⟨trivial,trivial,⟨Ab0,trivial,trivial⟩⟩,trivial⟩⟩,⟨trivial,⟨trivial,trivial,⟨Agf,trivial,trivial⟩⟩,⟨Af8,⟨Agb,trivial,⟨Ab8,trivial,trivial⟩⟩,⟨trivial,⟨Agj,trivial,trivial⟩,trivial⟩⟩⟩⟩,⟨Aiq,⟨Air,⟨trivial,⟨trivial,trivial,⟨Agl,trivial,trivial⟩⟩,trivial⟩,⟨trivial,⟨trivial,trivial,⟨Ab4,trivial,trivial⟩⟩,⟨Agg,trivial,trivial⟩⟩⟩,⟨trivial,⟨trivial,⟨trivial,trivial,⟨AbR,trivial,trivial⟩⟩,trivial⟩,⟨trivial,⟨Agc,trivial,trivial⟩,trivial⟩⟩⟩⟩,⟨trivial,⟨Aip,⟨trivial,⟨trivial,trivial,⟨trivial,⟨Agi,trivial,trivial⟩,trivial⟩⟩,⟨Af7,trivial,trivial⟩⟩,⟨trivial,trivial,⟨Af9,⟨trivial,trivial,⟨Ab9,trivial,trivial⟩⟩,trivial⟩⟩⟩,⟨trivial,⟨trivial,⟨trivial,⟨Aga,trivial,trivial⟩,trivial⟩,trivial⟩,⟨trivial,⟨Af6,⟨trivial,trivial,⟨AbS,trivial,trivial⟩⟩,trivial⟩,⟨trivial,trivial,⟨trivial,⟨Agk,trivial,trivial⟩,trivial⟩⟩⟩⟩⟩⟩
theorem Agm:Afo.All (Ar Tryd.prog [0]):=⟨trivial,⟨trivial,⟨trivial,⟨trivial,⟨AfU,⟨AfY,⟨Af5,trivial,trivial⟩,trivial⟩,⟨rH,trivial,trivial⟩⟩,⟨qR,⟨Af0,⟨sG,trivial,trivial⟩,trivial⟩,trivial⟩⟩,⟨trivial,⟨trivial,⟨trivial,⟨rY,trivial,trivial⟩,trivial⟩,⟨rM,trivial,trivial⟩⟩,⟨AfW,⟨rE,trivial,trivial⟩,trivial⟩⟩⟩,⟨trivial,⟨trivial,⟨trivial,⟨qX,⟨rW,trivial,trivial⟩,trivial⟩,trivial⟩,⟨AfV,⟨Af2,trivial,trivial⟩,⟨rQ,trivial,trivial⟩⟩⟩,⟨AfT,⟨qB,⟨rD,trivial,trivial⟩,⟨rP,trivial,trivial⟩⟩,⟨qW,trivial,⟨rT,trivial,trivial⟩⟩⟩⟩⟩,⟨trivial,⟨trivial,⟨trivial,⟨pX,⟨trivial,⟨rV,trivial,trivial⟩,trivial⟩,⟨rJ,trivial,trivial⟩⟩,⟨qU,⟨Af1,⟨sH,trivial,trivial⟩,trivial⟩,trivial⟩⟩,⟨AfS,⟨qA,⟨rC,⟨rZ,trivial,trivial⟩,trivial⟩,⟨rO,trivial,trivial⟩⟩,⟨trivial,⟨rF,trivial,trivial⟩,⟨rR,trivial,trivial⟩⟩⟩⟩,⟨trivial,⟨pW,⟨pY,⟨rA,⟨rX,trivial,trivial⟩,trivial⟩,trivial⟩,⟨qV,⟨Af3,trivial,trivial⟩,⟨Af4,trivial,trivial⟩⟩⟩,⟨trivial,⟨qC,⟨AfZ,trivial,trivial⟩,trivial⟩,⟨AfX,trivial,⟨rU,trivial,trivial⟩⟩⟩⟩⟩⟩
theorem fnsOk (f:FuncId) (r:Xq) (h:Pf f=some r):Ar Tryd.prog [0] f r:=Agm.get h
end Go.Proofs.YtlgmapibifphaaaDoor.MnS
set_option maxRecDepth 100000
namespace Go.Proofs.YtlgmapibifphaaaDoor.MnS
open Go Go.Sp Go.MnSM Go.MnS
noncomputable section
theorem Agn:Ar Tryd.prog (List.range tabs.length) 10 ⟨137,UB,[.tmp 2]⟩:=by
 have h:c10=UB:=by kernel_rfl
 rw[←h];exact pW
theorem Ago:Ar Tryd.prog (List.range tabs.length) 16 ⟨12,UC,[.tmp 2,.tmp 3]⟩:=by
 have h:c16=UC:=by kernel_rfl
 rw[←h];exact pX
theorem Agp:Ar Tryd.prog (List.range tabs.length) 18 ⟨91,UD,[.tmp 4,.tmp 5]⟩:=by
 have h:c18=UD:=by kernel_rfl
 rw[←h];exact pY
theorem Agq:Ar Tryd.prog (List.range tabs.length) 20 ⟨27,UE,[.tmp 4]⟩:=by
 have h:c20=UE:=by kernel_rfl
 rw[←h];exact qA
theorem Agr:Ar Tryd.prog (List.range tabs.length) 21 ⟨83,UF,[.cell 6 24]⟩:=by
 have h:c21=UF:=by kernel_rfl
 rw[←h];exact qB
theorem Ags:Ar Tryd.prog (List.range tabs.length) 23 ⟨18,UG,[.tmp 2]⟩:=by
 have h:c23=UG:=by kernel_rfl
 rw[←h];exact qR
theorem Agt:Ar Tryd.prog (List.range tabs.length) 24 ⟨26,Yq,[.tmp 6]⟩:=by
 have h:c24=Yq:=by kernel_rfl
 rw[←h];exact qU
theorem Agu:Ar Tryd.prog (List.range tabs.length) 26 ⟨26,UH,[.tmp 4]⟩:=by
 have h:c26=UH:=by kernel_rfl
 rw[←h];exact qV
theorem Agv:Ar Tryd.prog (List.range tabs.length) 29 ⟨12,UI,[.tmp 2,.tmp 3]⟩:=by
 have h:c29=UI:=by kernel_rfl
 rw[←h];exact qW
theorem Agw:Ar Tryd.prog (List.range tabs.length) 33 ⟨53,UJ,[.tmp 2,.tmp 3]⟩:=by
 have h:c33=UJ:=by kernel_rfl
 rw[←h];exact qX
theorem Agx:Ar Tryd.prog (List.range tabs.length) 34 ⟨39,UK,[.tmp 4]⟩:=by
 have h:c34=UK:=by kernel_rfl
 rw[←h];exact rA
theorem Agy:Ar Tryd.prog (List.range tabs.length) 36 ⟨37,UL,[.tmp 2]⟩:=by
 have h:c36=UL:=by kernel_rfl
 rw[←h];exact rC
theorem Agz:Ar Tryd.prog (List.range tabs.length) 37 ⟨26,UM,[.tmp 2]⟩:=by
 have h:c37=UM:=by kernel_rfl
 rw[←h];exact rD
theorem AgA:Ar Tryd.prog (List.range tabs.length) 43 ⟨36,Yr,[.cell 6 24]⟩:=by
 have h:c43=Yr:=by kernel_rfl
 rw[←h];exact rE
theorem AgB:Ar Tryd.prog (List.range tabs.length) 44 ⟨13,Yt,[.tmp 2]⟩:=by
 have h:c44=Yt:=by kernel_rfl
 rw[←h];exact rF
theorem AgC:Ar Tryd.prog (List.range tabs.length) 47 ⟨73,UN,[.tmp 2]⟩:=by
 have h:c47=UN:=by kernel_rfl
 rw[←h];exact rH
theorem AgD:Ar Tryd.prog (List.range tabs.length) 48 ⟨46,UO,[.tmp 2]⟩:=by
 have h:c48=UO:=by kernel_rfl
 rw[←h];exact rJ
theorem AgE:Ar Tryd.prog (List.range tabs.length) 51 ⟨27,UQ,[.tmp 2]⟩:=by
 have h:c51=UQ:=by kernel_rfl
 rw[←h];exact rM
theorem AgF:Ar Tryd.prog (List.range tabs.length) 52 ⟨15,Yu,[.tmp 6]⟩:=by
 have h:c52=Yu:=by kernel_rfl
 rw[←h];exact rO
theorem AgG:Ar Tryd.prog (List.range tabs.length) 53 ⟨10,Yv,[.tmp 4]⟩:=by
 have h:c53=Yv:=by kernel_rfl
 rw[←h];exact rP
theorem AgH:Ar Tryd.prog (List.range tabs.length) 57 ⟨25,UT,[.tmp 6]⟩:=by
 have h:c57=UT:=by kernel_rfl
 rw[←h];exact rQ
theorem AgI:Ar Tryd.prog (List.range tabs.length) 61 ⟨70,UU,[.tmp 4]⟩:=by
 have h:c61=UU:=by kernel_rfl
 rw[←h];exact rT
theorem AgJ:Ar Tryd.prog (List.range tabs.length) 62 ⟨16,UV,[.tmp 2]⟩:=by
 have h:c62=UV:=by kernel_rfl
 rw[←h];exact rU
theorem AgK:Ar Tryd.prog (List.range tabs.length) 64 ⟨11,Yw,[.tmp 2]⟩:=by
 have h:c64=Yw:=by kernel_rfl
 rw[←h];exact rV
theorem AgL:Ar Tryd.prog (List.range tabs.length) 67 ⟨15,Yx,[.tmp 2]⟩:=by
 have h:c67=Yx:=by kernel_rfl
 rw[←h];exact rY
theorem AgM:Ar Tryd.prog (List.range tabs.length) 71 ⟨38,UW,[.tmp 4]⟩:=by
 have h:c71=UW:=by kernel_rfl
 rw[←h];exact sG
theorem AgN:Ar Tryd.prog (List.range tabs.length) 72 ⟨9,Yy,[.tmp 2]⟩:=by
 have h:c72=Yy:=by kernel_rfl
 rw[←h];exact sH
theorem AgO:Ar Tryd.prog (List.range tabs.length) 22 ⟨77,QD,[.tmp 4]⟩:=by
 have h:c22=QD:=by kernel_rfl
 rw[←h];exact qC
theorem AgP:Ar Tryd.prog (List.range tabs.length) 60 ⟨108,QE,[]⟩:=by
 have h:c60=QE:=by kernel_rfl
 rw[←h];exact rR
theorem AgQ:Ar Tryd.prog (List.range tabs.length) 65 ⟨8,Wn,[.tmp 2]⟩:=by
 have h:c65=Wn:=by kernel_rfl
 rw[←h];exact rW
theorem AgR:Ar Tryd.prog (List.range tabs.length) 66 ⟨52,QF,[.tmp 4]⟩:=by
 have h:c66=QF:=by kernel_rfl
 rw[←h];exact rX
theorem AgS:Ar Tryd.prog (List.range tabs.length) 68 ⟨94,QG,[.tmp 8]⟩:=by
 have h:c68=QG:=by kernel_rfl
 rw[←h];exact rZ
theorem Oi:∀ t∈tabs,t≠[]:=by intro t ht;simp[tabs] at ht;subst ht;intro h;cases h
theorem Ov:∀ t∈tabs,∀ x∈t,BR x=true:=by intro t ht x hx;simp[tabs] at ht;subst ht;simp[UY] at hx;rcases hx with rfl | rfl | rfl | rfl | rfl | rfl | rfl | rfl | rfl | rfl | rfl | rfl | rfl | rfl | rfl | rfl | rfl | rfl | rfl | rfl | rfl | rfl | rfl | rfl | rfl | rfl | rfl | rfl | rfl | rfl | rfl | rfl <;> rfl
theorem Aca (hm:Tryd.prog.follows .mixedOrders=true) {pu:Af} (h0:Cn Tryd.prog tabs 2 0 22 (pu 10220)) (h1:Cn Tryd.prog tabs 7 8 60 (pu 10600)) (h2:Cn Tryd.prog tabs 1 0 65 (pu 10650)) (h3:Cn Tryd.prog tabs 2 2 66 (pu 10660)) (h4:Cn Tryd.prog tabs 4 2 68 (pu 10680)):CO Tryd.prog (List.range tabs.length) (inl pu):=fun g args H v H' h=>by
 replace h:bb (Nat.beq g 63) (X9 1 8 args H) (bb (Nat.beq g 22) (EK tabs [[some 1],[none]] 2 [] [false] (pu 10220) args H) (bb (Nat.beq g 60) (EK tabs [[none],[none],[none],[none],[none],[none],[none]] 7 [.tmp 1 false,.tmp 2 true,.tmp 3 false,.tmp 4 true,.tmp 5 true,.tmp 6 false,.cell 2 0 false,.cell 4 0 false] [false,true,false,true,true,false,false,false] (pu 10600) args H) (bb (Nat.beq g 65) (EK tabs [[none,some 1,some 1]] 1 [] [true,false] (pu 10650) args H) (bb (Nat.beq g 66) (EK tabs [[none],[none]] 2 [.tmp 0 true,.cell 1 3 false] [true,false] (pu 10660) args H) (bb (Nat.beq g 68) (EK tabs [[none],[some 1],[none],[none]] 4 [.tmp 0 true,.cell 1 3 false] [true,false] (pu 10680) args H) (none))))))=some (v,H'):=h
 have hq:=Ag h;clear h;rcases hq with⟨e,h⟩|⟨_,h⟩
 ·obtain rfl:=Nat.eq_of_beq_eq_true e
  exact Ya ttOk fnsOk hm h
 have hq:=Ag h;clear h;rcases hq with⟨e,h⟩|⟨_,h⟩
 ·obtain rfl:=Nat.eq_of_beq_eq_true e
  exact Ip (rs:=[]) Oi Ov h0 h
 have hq:=Ag h;clear h;rcases hq with⟨e,h⟩|⟨_,h⟩
 ·obtain rfl:=Nat.eq_of_beq_eq_true e
  exact Ip (rs:=[.tmp 1 false,.tmp 2 true,.tmp 3 false,.tmp 4 true,.tmp 5 true,.tmp 6 false,.cell 2 0 false,.cell 4 0 false]) Oi Ov h1 h
 have hq:=Ag h;clear h;rcases hq with⟨e,h⟩|⟨_,h⟩
 ·obtain rfl:=Nat.eq_of_beq_eq_true e
  exact Ip (rs:=[]) Oi Ov h2 h
 have hq:=Ag h;clear h;rcases hq with⟨e,h⟩|⟨_,h⟩
 ·obtain rfl:=Nat.eq_of_beq_eq_true e
  exact Ip (rs:=[.tmp 0 true,.cell 1 3 false]) Oi Ov h3 h
 have hq:=Ag h;clear h;rcases hq with⟨e,h⟩|⟨_,h⟩
 ·obtain rfl:=Nat.eq_of_beq_eq_true e
  exact Ip (rs:=[.tmp 0 true,.cell 1 3 false]) Oi Ov h4 h
 cases h
theorem nS (hm:Tryd.prog.follows .mixedOrders=true) (hw:BA Tryd.prog tabs 12 (fun args=>ll args (some (.bool true)) fun _ _=>none)) {pu:Af} (hall:(∀ g,Ir g=true→BA Tryd.prog tabs g (pu g))∧Cn Tryd.prog tabs 2 0 22 (pu 10220)∧Cn Tryd.prog tabs 7 8 60 (pu 10600)∧Cn Tryd.prog tabs 1 0 65 (pu 10650)∧Cn Tryd.prog tabs 2 2 66 (pu 10660)∧Cn Tryd.prog tabs 4 2 68 (pu 10680)):(∀ g,Ir g=true→BA Tryd.prog tabs g (Yb pu g))∧Cn Tryd.prog tabs 2 0 22 (Yb pu 10220)∧Cn Tryd.prog tabs 7 8 60 (Yb pu 10600)∧Cn Tryd.prog tabs 1 0 65 (Yb pu 10650)∧Cn Tryd.prog tabs 2 2 66 (Yb pu 10660)∧Cn Tryd.prog tabs 4 2 68 (Yb pu 10680):=by
 obtain⟨hpu,h0,h4,h5,h6,h7⟩:=hall
 have hcall:=TG (P:=Tryd.prog) (tabs:=tabs) Oi Ov (Aca hm h0 h4 h5 h6 h7) hpu
 refine⟨λg hg=>?_,?_,?_,?_,?_,?_⟩
 ·have hg:g∈Wo:=CS.1 hg
  simp only[Wo,List.mem_cons,List.not_mem_nil,or_false] at hg
  rcases hg with rfl | rfl | rfl | rfl | rfl | rfl | rfl | rfl | rfl | rfl | rfl | rfl | rfl | rfl | rfl | rfl | rfl | rfl | rfl | rfl | rfl | rfl | rfl | rfl | rfl | rfl | rfl | rfl
  ·exact Aw (tabs:=tabs) (f:=m10 pu L) ttOk hm hcall Agn λargs v h hc=>r10 pu L rfl h hc
  ·exact hw
  ·exact Aw (tabs:=tabs) (f:=m16 pu L) ttOk hm hcall Ago λargs v h hc=>r16 pu L rfl h hc
  ·exact Aw (tabs:=tabs) (f:=m18 pu L) ttOk hm hcall Agp λargs v h hc=>r18 pu L rfl h hc
  ·exact Aw (tabs:=tabs) (f:=m20 pu L) ttOk hm hcall Agq λargs v h hc=>r20 pu L rfl h hc
  ·exact Aw (tabs:=tabs) (f:=m21 pu L) ttOk hm hcall Agr λargs v h hc=>r21 pu L rfl h hc
  ·exact Aw (tabs:=tabs) (f:=m23 pu L) ttOk hm hcall Ags λargs v h hc=>r23 pu L rfl h hc
  ·exact Aw (tabs:=tabs) (f:=m24 pu L) ttOk hm hcall Agt λargs v h hc=>r24 pu L rfl h hc
  ·exact Aw (tabs:=tabs) (f:=m26 pu L) ttOk hm hcall Agu λargs v h hc=>r26 pu L rfl h hc
  ·exact Aw (tabs:=tabs) (f:=m29 pu L) ttOk hm hcall Agv λargs v h hc=>r29 pu L rfl h hc
  ·exact Aw (tabs:=tabs) (f:=m33 pu L) ttOk hm hcall Agw λargs v h hc=>r33 pu L rfl h hc
  ·exact Aw (tabs:=tabs) (f:=m34 pu L) ttOk hm hcall Agx λargs v h hc=>r34 pu L rfl h hc
  ·exact Aw (tabs:=tabs) (f:=m36 pu L) ttOk hm hcall Agy λargs v h hc=>r36 pu L rfl h hc
  ·exact Aw (tabs:=tabs) (f:=m37 pu L) ttOk hm hcall Agz λargs v h hc=>r37 pu L rfl h hc
  ·exact Aw (tabs:=tabs) (f:=m43 pu L) ttOk hm hcall AgA λargs v h hc=>r43 pu L rfl h hc
  ·exact Aw (tabs:=tabs) (f:=m44 pu L) ttOk hm hcall AgB λargs v h hc=>r44 pu L rfl h hc
  ·exact Aw (tabs:=tabs) (f:=m47 pu L) ttOk hm hcall AgC λargs v h hc=>Zu pu L rfl h hc
  ·exact Aw (tabs:=tabs) (f:=m48 pu L) ttOk hm hcall AgD λargs v h hc=>r48 pu L rfl h hc
  ·exact Aw (tabs:=tabs) (f:=m51 pu L) ttOk hm hcall AgE λargs v h hc=>r51 pu L rfl h hc
  ·exact Aw (tabs:=tabs) (f:=m52 pu L) ttOk hm hcall AgF λargs v h hc=>r52 pu L rfl h hc
  ·exact Aw (tabs:=tabs) (f:=m53 pu L) ttOk hm hcall AgG λargs v h hc=>r53 pu L rfl h hc
  ·exact Aw (tabs:=tabs) (f:=m57 pu L) ttOk hm hcall AgH λargs v h hc=>r57 pu L rfl h hc
  ·exact Aw (tabs:=tabs) (f:=m61 pu L) ttOk hm hcall AgI λargs v h hc=>r61 pu L rfl h hc
  ·exact Aw (tabs:=tabs) (f:=m62 pu L) ttOk hm hcall AgJ λargs v h hc=>r62 pu L rfl h hc
  ·exact Aw (tabs:=tabs) (f:=m64 pu L) ttOk hm hcall AgK λargs v h hc=>r64 pu L rfl h hc
  ·exact Aw (tabs:=tabs) (f:=m67 pu L) ttOk hm hcall AgL λargs v h hc=>r67 pu L rfl h hc
  ·exact Aw (tabs:=tabs) (f:=m71 pu L) ttOk hm hcall AgM λargs v h hc=>r71 pu L rfl h hc
  ·exact Aw (tabs:=tabs) (f:=m72 pu L) ttOk hm hcall AgN λargs v h hc=>r72 pu L rfl h hc
 ·exact Dx (tabs:=tabs) (f:=RY pu L) ttOk hm hcall AgO λargs os z h1 h2 h3 h=>AbB pu L rfl h1 h2 h3 h
 ·exact Dx (tabs:=tabs) (f:=OD pu L) ttOk hm hcall AgP λargs os z h1 h2 h3 h=>AbD pu L rfl h1 h2 h3 h
 ·exact Dx (tabs:=tabs) (f:=RZ pu L) ttOk hm hcall AgQ λargs os z h1 h2 h3 h=>AbF pu L rfl h1 h2 h3 h
 ·exact Dx (tabs:=tabs) (f:=LU pu L) ttOk hm hcall AgR λargs os z h1 h2 h3 h=>AbH pu L rfl h1 h2 h3 h
 ·exact Dx (tabs:=tabs) (f:=OE pu L) ttOk hm hcall AgS λargs os z h1 h2 h3 h=>AbQ pu L rfl h1 h2 h3 h
theorem Acb (hm:Tryd.prog.follows .mixedOrders=true) (hw:BA Tryd.prog tabs 12 (fun args=>ll args (some (.bool true)) fun _ _=>none)):∀ n,(∀ g,Ir g=true→BA Tryd.prog tabs g (FK n g))∧Cn Tryd.prog tabs 2 0 22 (FK n 10220)∧Cn Tryd.prog tabs 7 8 60 (FK n 10600)∧Cn Tryd.prog tabs 1 0 65 (FK n 10650)∧Cn Tryd.prog tabs 2 2 66 (FK n 10660)∧Cn Tryd.prog tabs 4 2 68 (FK n 10680):=fun n=>by
 induction n with
 | zero =>
  refine⟨λg hg=>?_,?_,?_,?_,?_,?_⟩
  ·have hg:g∈Wo:=CS.1 hg
   simp only[Wo,List.mem_cons,List.not_mem_nil,or_false] at hg
   rcases hg with rfl | rfl | rfl | rfl | rfl | rfl | rfl | rfl | rfl | rfl | rfl | rfl | rfl | rfl | rfl | rfl | rfl | rfl | rfl | rfl | rfl | rfl | rfl | rfl | rfl | rfl | rfl | rfl
   ·exact⟨A9 Agn,λargs v h=>by cases h⟩
   ·exact⟨(hw).1,λargs v h=>by cases h⟩
   ·exact⟨A9 Ago,λargs v h=>by cases h⟩
   ·exact⟨A9 Agp,λargs v h=>by cases h⟩
   ·exact⟨A9 Agq,λargs v h=>by cases h⟩
   ·exact⟨A9 Agr,λargs v h=>by cases h⟩
   ·exact⟨A9 Ags,λargs v h=>by cases h⟩
   ·exact⟨A9 Agt,λargs v h=>by cases h⟩
   ·exact⟨A9 Agu,λargs v h=>by cases h⟩
   ·exact⟨A9 Agv,λargs v h=>by cases h⟩
   ·exact⟨A9 Agw,λargs v h=>by cases h⟩
   ·exact⟨A9 Agx,λargs v h=>by cases h⟩
   ·exact⟨A9 Agy,λargs v h=>by cases h⟩
   ·exact⟨A9 Agz,λargs v h=>by cases h⟩
   ·exact⟨A9 AgA,λargs v h=>by cases h⟩
   ·exact⟨A9 AgB,λargs v h=>by cases h⟩
   ·exact⟨A9 AgC,λargs v h=>by cases h⟩
   ·exact⟨A9 AgD,λargs v h=>by cases h⟩
   ·exact⟨A9 AgE,λargs v h=>by cases h⟩
   ·exact⟨A9 AgF,λargs v h=>by cases h⟩
   ·exact⟨A9 AgG,λargs v h=>by cases h⟩
   ·exact⟨A9 AgH,λargs v h=>by cases h⟩
   ·exact⟨A9 AgI,λargs v h=>by cases h⟩
   ·exact⟨A9 AgJ,λargs v h=>by cases h⟩
   ·exact⟨A9 AgK,λargs v h=>by cases h⟩
   ·exact⟨A9 AgL,λargs v h=>by cases h⟩
   ·exact⟨A9 AgM,λargs v h=>by cases h⟩
   ·exact⟨A9 AgN,λargs v h=>by cases h⟩
  ·exact⟨A9 AgO,λargs os z h1 h2 h3 h=>by cases h⟩
  ·exact⟨A9 AgP,λargs os z h1 h2 h3 h=>by cases h⟩
  ·exact⟨A9 AgQ,λargs os z h1 h2 h3 h=>by cases h⟩
  ·exact⟨A9 AgR,λargs os z h1 h2 h3 h=>by cases h⟩
  ·exact⟨A9 AgS,λargs os z h1 h2 h3 h=>by cases h⟩
 | succ n ih=>exact nS hm hw ih
theorem pu_ok (hm:Tryd.prog.follows .mixedOrders=true) (hw:BA Tryd.prog tabs 12 (λargs=>ll args (some (.bool true)) λ_ _=>none)):∀ n g,Ir g=true→BA Tryd.prog tabs g (FK n g):=λn=>(Acb hm hw n).1
end
end Go.Proofs.YtlgmapibifphaaaDoor.MnS
