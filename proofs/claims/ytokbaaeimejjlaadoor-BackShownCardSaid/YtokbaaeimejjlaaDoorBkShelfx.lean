/- Made from wip. -/
import Derived.Test.YtokbaaeimejjlaaDoorProg
import Derived.Test.YtokbaaeimejjlaaDoorSpMorex
import Derived.Test.YtokbaaeimejjlaaDoorBkSInlx
import Derived.Shelf.Sort.Plain

set_option maxRecDepth 100000
namespace Go.Proofs.YtokbaaeimejjlaaDoor.BkS
open Go Go.Sp Go.BkS
theorem AaQ:Ar Tryd.prog [0] 4 ⟨157,c4,[.tmp 2]⟩:=Ar.by Tryd.func4 (by kernel_rfl) (by kernel_rfl) Tryd.ntmps4 (by rw[Tryd.results4]) (by kernel_rfl)
theorem AaR:Ar Tryd.prog [0] 9 ⟨79,c9,[.cell 6 27,.tmp 7]⟩:=Ar.by Tryd.func9 (by kernel_rfl) (by kernel_rfl) Tryd.ntmps9 (by rw[Tryd.results9]) (by kernel_rfl)
theorem fC:Ar Tryd.prog [0] 10 ⟨103,c10,[.tmp 8]⟩:=Ar.by Tryd.func10 (by kernel_rfl) (by kernel_rfl) Tryd.ntmps10 (by rw[Tryd.results10]) (by kernel_rfl)
theorem AaS:Ar Tryd.prog [0] 11 ⟨34,c11,[.tmp 6,.tmp 7]⟩:=Ar.by Tryd.func11 (by kernel_rfl) (by kernel_rfl) Tryd.ntmps11 (by rw[Tryd.results11]) (by kernel_rfl)
theorem fD:Ar Tryd.prog [0] 12 ⟨26,c12,[.tmp 4]⟩:=Ar.by Tryd.func12 (by kernel_rfl) (by kernel_rfl) Tryd.ntmps12 (by rw[Tryd.results12]) (by kernel_rfl)
theorem fE:Ar Tryd.prog [0] 13 ⟨30,c13,[.tmp 4]⟩:=Ar.by Tryd.func13 (by kernel_rfl) (by kernel_rfl) Tryd.ntmps13 (by rw[Tryd.results13]) (by kernel_rfl)
theorem AaT:Ar Tryd.prog [0] 14 ⟨21,c14,[.tmp 4,.tmp 5]⟩:=Ar.by Tryd.func14 (by kernel_rfl) (by kernel_rfl) Tryd.ntmps14 (by rw[Tryd.results14]) (by kernel_rfl)
theorem AaZ:Ar Tryd.prog [0] 15 ⟨43,c15,[.tmp 4,.tmp 5]⟩:=Ar.by Tryd.func15 (by kernel_rfl) (by kernel_rfl) Tryd.ntmps15 (by rw[Tryd.results15]) (by kernel_rfl)
theorem Aa0:Ar Tryd.prog [0] 16 ⟨27,c16,[.tmp 4]⟩:=Ar.by Tryd.func16 (by kernel_rfl) (by kernel_rfl) Tryd.ntmps16 (by rw[Tryd.results16]) (by kernel_rfl)
theorem Aa1:Ar Tryd.prog [0] 17 ⟨23,c17,[.tmp 4,.tmp 5]⟩:=Ar.by Tryd.func17 (by kernel_rfl) (by kernel_rfl) Tryd.ntmps17 (by rw[Tryd.results17]) (by kernel_rfl)
theorem Aa2:Ar Tryd.prog [0] 18 ⟨42,c18,[.tmp 6,.tmp 7]⟩:=Ar.by Tryd.func18 (by kernel_rfl) (by kernel_rfl) Tryd.ntmps18 (by rw[Tryd.results18]) (by kernel_rfl)
theorem fF:Ar Tryd.prog [0] 19 ⟨209,c19,[.tmp 0]⟩:=Ar.by Tryd.func19 (by kernel_rfl) (by kernel_rfl) Tryd.ntmps19 (by rw[Tryd.results19]) (by kernel_rfl)
theorem fG:Ar Tryd.prog [0] 20 ⟨25,c20,[.tmp 4,.tmp 5]⟩:=Ar.by Tryd.func20 (by kernel_rfl) (by kernel_rfl) Tryd.ntmps20 (by rw[Tryd.results20]) (by kernel_rfl)
theorem fH:Ar Tryd.prog [0] 21 ⟨70,c21,[.tmp 6]⟩:=Ar.by Tryd.func21 (by kernel_rfl) (by kernel_rfl) Tryd.ntmps21 (by rw[Tryd.results21]) (by kernel_rfl)
theorem fI:Ar Tryd.prog [0] 22 ⟨4,c22,[.tmp 2]⟩:=Ar.by Tryd.func22 (by kernel_rfl) (by kernel_rfl) Tryd.ntmps22 (by rw[Tryd.results22]) (by kernel_rfl)
theorem Aa3:Ar Tryd.prog [0] 23 ⟨39,c23,[.tmp 2,.tmp 3]⟩:=Ar.by Tryd.func23 (by kernel_rfl) (by kernel_rfl) Tryd.ntmps23 (by rw[Tryd.results23]) (by kernel_rfl)
theorem Aa4:Ar Tryd.prog [0] 24 ⟨20,c24,[.tmp 4,.tmp 5]⟩:=Ar.by Tryd.func24 (by kernel_rfl) (by kernel_rfl) Tryd.ntmps24 (by rw[Tryd.results24]) (by kernel_rfl)
theorem Aa5:Ar Tryd.prog [0] 29 ⟨29,c29,[.tmp 4,.tmp 5]⟩:=Ar.by Tryd.func29 (by kernel_rfl) (by kernel_rfl) Tryd.ntmps29 (by rw[Tryd.results29]) (by kernel_rfl)
theorem Aa6:Ar Tryd.prog [0] 30 ⟨93,c30,[.tmp 4,.tmp 5]⟩:=Ar.by Tryd.func30 (by kernel_rfl) (by kernel_rfl) Tryd.ntmps30 (by rw[Tryd.results30]) (by kernel_rfl)
theorem Aa7:Ar Tryd.prog [0] 31 ⟨4,c31,[.cell 0 27]⟩:=Ar.by Tryd.func31 (by kernel_rfl) (by kernel_rfl) Tryd.ntmps31 (by rw[Tryd.results31]) (by kernel_rfl)
theorem fK:Ar Tryd.prog [0] 32 ⟨33,c32,[.tmp 4,.tmp 5]⟩:=Ar.by Tryd.func32 (by kernel_rfl) (by kernel_rfl) Tryd.ntmps32 (by rw[Tryd.results32]) (by kernel_rfl)
theorem Aa8:Ar Tryd.prog [0] 33 ⟨19,c33,[.tmp 4]⟩:=Ar.by Tryd.func33 (by kernel_rfl) (by kernel_rfl) Tryd.ntmps33 (by rw[Tryd.results33]) (by kernel_rfl)
theorem Aa9:Ar Tryd.prog [0] 34 ⟨35,c34,[.tmp 6]⟩:=Ar.by Tryd.func34 (by kernel_rfl) (by kernel_rfl) Tryd.ntmps34 (by rw[Tryd.results34]) (by kernel_rfl)
theorem Aba:Ar Tryd.prog [0] 35 ⟨28,c35,[.tmp 4]⟩:=Ar.by Tryd.func35 (by kernel_rfl) (by kernel_rfl) Tryd.ntmps35 (by rw[Tryd.results35]) (by kernel_rfl)
theorem fM:Ar Tryd.prog [0] 36 ⟨38,c36,[.tmp 6]⟩:=Ar.by Tryd.func36 (by kernel_rfl) (by kernel_rfl) Tryd.ntmps36 (by rw[Tryd.results36]) (by kernel_rfl)
end Go.Proofs.YtokbaaeimejjlaaDoor.BkS
set_option maxRecDepth 100000
namespace Go.Proofs.YtokbaaeimejjlaaDoor.BkS
open Go Go.Sp Go.BkS
theorem Abb:Ar Tryd.prog [0] 37 ⟨26,c37,[.tmp 4]⟩:=Ar.by Tryd.func37 (by kernel_rfl) (by kernel_rfl) Tryd.ntmps37 (by rw[Tryd.results37]) (by kernel_rfl)
theorem Abc:Ar Tryd.prog [0] 38 ⟨4,c38,[.cell 0 27]⟩:=Ar.by Tryd.func38 (by kernel_rfl) (by kernel_rfl) Tryd.ntmps38 (by rw[Tryd.results38]) (by kernel_rfl)
theorem Abd:Ar Tryd.prog [0] 39 ⟨4,c39,[.tmp 2]⟩:=Ar.by Tryd.func39 (by kernel_rfl) (by kernel_rfl) Tryd.ntmps39 (by rw[Tryd.results39]) (by kernel_rfl)
theorem fO:Ar Tryd.prog [0] 40 ⟨88,c40,[]⟩:=Ar.by Tryd.func40 (by kernel_rfl) (by kernel_rfl) Tryd.ntmps40 (by rw[Tryd.results40]) (by kernel_rfl)
theorem fP:Ar Tryd.prog [0] 41 ⟨9,c41,[.tmp 4]⟩:=Ar.by Tryd.func41 (by kernel_rfl) (by kernel_rfl) Tryd.ntmps41 (by rw[Tryd.results41]) (by kernel_rfl)
theorem fQ:Ar Tryd.prog [0] 42 ⟨9,c42,[.tmp 3]⟩:=Ar.by Tryd.func42 (by kernel_rfl) (by kernel_rfl) Tryd.ntmps42 (by rw[Tryd.results42]) (by kernel_rfl)
theorem Abe:Ar Tryd.prog [0] 43 ⟨9,c43,[.tmp 2]⟩:=Ar.by Tryd.func43 (by kernel_rfl) (by kernel_rfl) Tryd.ntmps43 (by rw[Tryd.results43]) (by kernel_rfl)
theorem fT:Ar Tryd.prog [0] 44 ⟨4,c44,[.tmp 2]⟩:=Ar.by Tryd.func44 (by kernel_rfl) (by kernel_rfl) Tryd.ntmps44 (by rw[Tryd.results44]) (by kernel_rfl)
theorem fU:Ar Tryd.prog [0] 45 ⟨36,c45,[.tmp 4]⟩:=Ar.by Tryd.func45 (by kernel_rfl) (by kernel_rfl) Tryd.ntmps45 (by rw[Tryd.results45]) (by kernel_rfl)
theorem fV:Ar Tryd.prog [0] 46 ⟨9,c46,[.tmp 2]⟩:=Ar.by Tryd.func46 (by kernel_rfl) (by kernel_rfl) Tryd.ntmps46 (by rw[Tryd.results46]) (by kernel_rfl)
theorem fZ:Ar Tryd.prog [0] 47 ⟨15,c47,[.tmp 2]⟩:=Ar.by Tryd.func47 (by kernel_rfl) (by kernel_rfl) Tryd.ntmps47 (by rw[Tryd.results47]) (by kernel_rfl)
theorem gD:Ar Tryd.prog [0] 48 ⟨15,c48,[.tmp 6]⟩:=Ar.by Tryd.func48 (by kernel_rfl) (by kernel_rfl) Tryd.ntmps48 (by rw[Tryd.results48]) (by kernel_rfl)
theorem gF:Ar Tryd.prog [0] 49 ⟨110,c49,[.tmp 2,.tmp 3]⟩:=Ar.by Tryd.func49 (by kernel_rfl) (by kernel_rfl) Tryd.ntmps49 (by rw[Tryd.results49]) (by kernel_rfl)
theorem Abf:Ar Tryd.prog [0] 50 ⟨27,c50,[.tmp 4]⟩:=Ar.by Tryd.func50 (by kernel_rfl) (by kernel_rfl) Tryd.ntmps50 (by rw[Tryd.results50]) (by kernel_rfl)
theorem gG:Ar Tryd.prog [0] 51 ⟨18,c51,[.cell 2 86]⟩:=Ar.by Tryd.func51 (by kernel_rfl) (by kernel_rfl) Tryd.ntmps51 (by rw[Tryd.results51]) (by kernel_rfl)
theorem gH:Ar Tryd.prog [0] 52 ⟨22,c52,[.cell 4 86]⟩:=Ar.by Tryd.func52 (by kernel_rfl) (by kernel_rfl) Tryd.ntmps52 (by rw[Tryd.results52]) (by kernel_rfl)
theorem gI:Ar Tryd.prog [0] 53 ⟨22,c53,[.tmp 2]⟩:=Ar.by Tryd.func53 (by kernel_rfl) (by kernel_rfl) Tryd.ntmps53 (by rw[Tryd.results53]) (by kernel_rfl)
theorem Abg:Ar Tryd.prog [0] 55 ⟨8,c55,[.tmp 2]⟩:=Ar.by Tryd.func55 (by kernel_rfl) (by kernel_rfl) Tryd.ntmps55 (by rw[Tryd.results55]) (by kernel_rfl)
theorem Abh:Ar Tryd.prog [0] 56 ⟨15,c56,[.tmp 4]⟩:=Ar.by Tryd.func56 (by kernel_rfl) (by kernel_rfl) Tryd.ntmps56 (by rw[Tryd.results56]) (by kernel_rfl)
theorem Abi:Ar Tryd.prog [0] 57 ⟨50,c57,[.cell 4 91]⟩:=Ar.by Tryd.func57 (by kernel_rfl) (by kernel_rfl) Tryd.ntmps57 (by rw[Tryd.results57]) (by kernel_rfl)
theorem gK:Ar Tryd.prog [0] 58 ⟨34,c58,[.tmp 4]⟩:=Ar.by Tryd.func58 (by kernel_rfl) (by kernel_rfl) Tryd.ntmps58 (by rw[Tryd.results58]) (by kernel_rfl)
theorem Abj:Ar Tryd.prog [0] 59 ⟨14,c59,[]⟩:=Ar.by Tryd.func59 (by kernel_rfl) (by kernel_rfl) Tryd.ntmps59 (by rw[Tryd.results59]) (by kernel_rfl)
theorem Abk:Ar Tryd.prog [0] 60 ⟨66,c60,[.tmp 4]⟩:=Ar.by Tryd.func60 (by kernel_rfl) (by kernel_rfl) Tryd.ntmps60 (by rw[Tryd.results60]) (by kernel_rfl)
theorem gL:Ar Tryd.prog [0] 61 ⟨19,c61,[.tmp 4]⟩:=Ar.by Tryd.func61 (by kernel_rfl) (by kernel_rfl) Tryd.ntmps61 (by rw[Tryd.results61]) (by kernel_rfl)
theorem Abl:Ar Tryd.prog [0] 62 ⟨5,c62,[.tmp 2]⟩:=Ar.by Tryd.func62 (by kernel_rfl) (by kernel_rfl) Tryd.ntmps62 (by rw[Tryd.results62]) (by kernel_rfl)
end Go.Proofs.YtokbaaeimejjlaaDoor.BkS
set_option maxRecDepth 100000
namespace Go.Proofs.YtokbaaeimejjlaaDoor.BkS
open Go Go.Sp Go.BkS
theorem Abm:Ar Tryd.prog [0] 63 ⟨11,c63,[]⟩:=Ar.by Tryd.func63 (by kernel_rfl) (by kernel_rfl) Tryd.ntmps63 (by rw[Tryd.results63]) (by kernel_rfl)
theorem Abn:Ar Tryd.prog [0] 64 ⟨16,c64,[]⟩:=Ar.by Tryd.func64 (by kernel_rfl) (by kernel_rfl) Tryd.ntmps64 (by rw[Tryd.results64]) (by kernel_rfl)
theorem gM:Ar Tryd.prog [0] 65 ⟨20,c65,[.tmp 4]⟩:=Ar.by Tryd.func65 (by kernel_rfl) (by kernel_rfl) Tryd.ntmps65 (by rw[Tryd.results65]) (by kernel_rfl)
theorem gP:Ar Tryd.prog [0] 66 ⟨47,c66,[.tmp 4]⟩:=Ar.by Tryd.func66 (by kernel_rfl) (by kernel_rfl) Tryd.ntmps66 (by rw[Tryd.results66]) (by kernel_rfl)
theorem Abo:Ar Tryd.prog [0] 67 ⟨70,c67,[.tmp 9]⟩:=Ar.by Tryd.func67 (by kernel_rfl) (by kernel_rfl) Tryd.ntmps67 (by rw[Tryd.results67]) (by kernel_rfl)
theorem gQ:Ar Tryd.prog [0] 68 ⟨25,c68,[.tmp 2]⟩:=Ar.by Tryd.func68 (by kernel_rfl) (by kernel_rfl) Tryd.ntmps68 (by rw[Tryd.results68]) (by kernel_rfl)
theorem gT:Ar Tryd.prog [0] 69 ⟨25,c69,[.tmp 2]⟩:=Ar.by Tryd.func69 (by kernel_rfl) (by kernel_rfl) Tryd.ntmps69 (by rw[Tryd.results69]) (by kernel_rfl)
theorem Abp:Ar Tryd.prog [0] 70 ⟨148,c70,[]⟩:=Ar.by Tryd.func70 (by kernel_rfl) (by kernel_rfl) Tryd.ntmps70 (by rw[Tryd.results70]) (by kernel_rfl)
theorem Abq:Ar Tryd.prog [0] 71 ⟨8,c71,[.tmp 2]⟩:=Ar.by Tryd.func71 (by kernel_rfl) (by kernel_rfl) Tryd.ntmps71 (by rw[Tryd.results71]) (by kernel_rfl)
theorem Abr:Ar Tryd.prog [0] 73 ⟨134,c73,[]⟩:=Ar.by Tryd.func73 (by kernel_rfl) (by kernel_rfl) Tryd.ntmps73 (by rw[Tryd.results73]) (by kernel_rfl)
theorem gU:Ar Tryd.prog [0] 74 ⟨6,c74,[.tmp 2]⟩:=Ar.by Tryd.func74 (by kernel_rfl) (by kernel_rfl) Tryd.ntmps74 (by rw[Tryd.results74]) (by kernel_rfl)
theorem Abs:Ar Tryd.prog [0] 75 ⟨28,c75,[]⟩:=Ar.by Tryd.func75 (by kernel_rfl) (by kernel_rfl) Tryd.ntmps75 (by rw[Tryd.results75]) (by kernel_rfl)
theorem Abt:Ar Tryd.prog [0] 76 ⟨34,c76,[.tmp 4]⟩:=Ar.by Tryd.func76 (by kernel_rfl) (by kernel_rfl) Tryd.ntmps76 (by rw[Tryd.results76]) (by kernel_rfl)
theorem Abu:Ar Tryd.prog [0] 78 ⟨53,c78,[]⟩:=Ar.by Tryd.func78 (by kernel_rfl) (by kernel_rfl) Tryd.ntmps78 (by rw[Tryd.results78]) (by kernel_rfl)
theorem Abv:Ar Tryd.prog [0] 86 ⟨19,c86,[.tmp 2]⟩:=Ar.by Tryd.func86 (by kernel_rfl) (by kernel_rfl) Tryd.ntmps86 (by rw[Tryd.results86]) (by kernel_rfl)
theorem Abw:Ar Tryd.prog [0] 87 ⟨25,c87,[.tmp 2]⟩:=Ar.by Tryd.func87 (by kernel_rfl) (by kernel_rfl) Tryd.ntmps87 (by rw[Tryd.results87]) (by kernel_rfl)
theorem Abx:Ar Tryd.prog [0] 88 ⟨49,c88,[]⟩:=Ar.by Tryd.func88 (by kernel_rfl) (by kernel_rfl) Tryd.ntmps88 (by rw[Tryd.results88]) (by kernel_rfl)
theorem Aby:Ar Tryd.prog [0] 94 ⟨17,c94,[.tmp 4]⟩:=Ar.by Tryd.func94 (by kernel_rfl) (by kernel_rfl) Tryd.ntmps94 (by rw[Tryd.results94]) (by kernel_rfl)
end Go.Proofs.YtokbaaeimejjlaaDoor.BkS
set_option maxRecDepth 100000
namespace Go.Proofs.YtokbaaeimejjlaaDoor.BkS
open Go Go.Sp Go.BkS
theorem Aet:Cu Tryd.prog 3 ti3:=Cu.by Tryd.underlying3 (inf:=Tryd.t3) (by kernel_rfl) (by kernel_rfl) (by kernel_rfl) (by kernel_rfl) (by kernel_rfl) (fun h=>by cases h)
theorem Aeu:Cu Tryd.prog 4 ti4:=Cu.by Tryd.underlying4 (inf:=Tryd.t4) (by kernel_rfl) (by kernel_rfl) (by kernel_rfl) (by kernel_rfl) (by kernel_rfl) (fun h=>by cases h)
theorem Aev:Cu Tryd.prog 5 ti5:=Cu.by Tryd.underlying5 (inf:=Tryd.t5) (by kernel_rfl) (by kernel_rfl) (by kernel_rfl) (by kernel_rfl) (by kernel_rfl) (fun h=>by cases h)
theorem Aew:Cu Tryd.prog 9 ti9:=Cu.by Tryd.underlying9 (inf:=Tryd.t9) (by kernel_rfl) (by kernel_rfl) (by kernel_rfl) (by kernel_rfl) (by kernel_rfl) (fun h=>by cases h)
theorem Abz:Cu Tryd.prog 22 Aaw:=Cu.by Tryd.underlying22 (inf:=Tryd.t22) (by kernel_rfl) (by kernel_rfl) (by kernel_rfl) (by kernel_rfl) (by kernel_rfl) (fun _=>⟨_,rfl,Fl.ok (d:=8) (⟨by kernel_rfl,.inr (.inr (.inr (.inl ⟨16,5,[(.int .u8 0)],Tryd.underlying22,⟨by kernel_rfl,.inl ⟨⟨_,Tryd.underlying5⟩,_,_,rfl⟩⟩,by kernel_rfl⟩)))⟩) (by decide) ⟨_,Tryd.underlying22,rfl⟩ (by kernel_rfl)⟩)
theorem AbA:Cu Tryd.prog 24 Aax:=Cu.by Tryd.underlying24 (inf:=Tryd.t24) (by kernel_rfl) (by kernel_rfl) (by kernel_rfl) (by kernel_rfl) (by kernel_rfl) (fun _=>⟨_,rfl,Fl.ok (d:=8) (⟨by kernel_rfl,.inr (.inr (.inr (.inr ⟨_,Tryd.underlying24,by kernel_rfl,⟨by decide,rfl,[(.int .u8 0)],[(.int .u8 0),(.int .u8 0),(.int .u8 0),(.int .u8 0),(.int .u8 0),(.int .u8 0),(.int .u8 0),(.int .u8 0),(.int .u8 0),(.int .u8 0),(.int .u8 0),(.int .u8 0),(.int .u8 0),(.int .u8 0),(.int .u8 0),(.int .u8 0),(.int .u8 0),(.int .u8 0),(.int .u8 0)],rfl,⟨by kernel_rfl,.inl ⟨⟨_,Tryd.underlying5⟩,_,_,rfl⟩⟩,⟨by decide,rfl,[(.int .u8 0)],[(.int .u8 0),(.int .u8 0),(.int .u8 0),(.int .u8 0),(.int .u8 0),(.int .u8 0),(.int .u8 0),(.int .u8 0),(.int .u8 0),(.int .u8 0),(.int .u8 0),(.int .u8 0),(.int .u8 0),(.int .u8 0),(.int .u8 0),(.int .u8 0),(.int .u8 0),(.int .u8 0)],rfl,⟨by kernel_rfl,.inl ⟨⟨_,Tryd.underlying5⟩,_,_,rfl⟩⟩,⟨by decide,rfl,[(.int .u8 0)],[(.int .u8 0),(.int .u8 0),(.int .u8 0),(.int .u8 0),(.int .u8 0),(.int .u8 0),(.int .u8 0),(.int .u8 0),(.int .u8 0),(.int .u8 0),(.int .u8 0),(.int .u8 0),(.int .u8 0),(.int .u8 0),(.int .u8 0),(.int .u8 0),(.int .u8 0)],rfl,⟨by kernel_rfl,.inl ⟨⟨_,Tryd.underlying5⟩,_,_,rfl⟩⟩,⟨by decide,rfl,[(.int .u8 0)],[(.int .u8 0),(.int .u8 0),(.int .u8 0),(.int .u8 0),(.int .u8 0),(.int .u8 0),(.int .u8 0),(.int .u8 0),(.int .u8 0),(.int .u8 0),(.int .u8 0),(.int .u8 0),(.int .u8 0),(.int .u8 0),(.int .u8 0),(.int .u8 0)],rfl,⟨by kernel_rfl,.inl ⟨⟨_,Tryd.underlying5⟩,_,_,rfl⟩⟩,⟨by decide,rfl,[(.int .u8 0),(.int .u8 0),(.int .u8 0),(.int .u8 0),(.int .u8 0),(.int .u8 0),(.int .u8 0),(.int .u8 0),(.int .u8 0),(.int .u8 0),(.int .u8 0),(.int .u8 0),(.int .u8 0),(.int .u8 0),(.int .u8 0),(.int .u8 0)],[],rfl,⟨by kernel_rfl,.inr (.inr (.inr (.inl ⟨16,5,[(.int .u8 0)],Tryd.underlying22,⟨by kernel_rfl,.inl ⟨⟨_,Tryd.underlying5⟩,_,_,rfl⟩⟩,by kernel_rfl⟩)))⟩,rfl⟩⟩⟩⟩⟩⟩)))⟩) (by decide) ⟨_,Tryd.underlying24,rfl⟩ (by kernel_rfl)⟩)
theorem AbB:Cu Tryd.prog 25 Aay:=Cu.by Tryd.underlying25 (inf:=Tryd.t25) (by kernel_rfl) (by kernel_rfl) (by kernel_rfl) (by kernel_rfl) (by kernel_rfl) (fun h=>by cases h)
theorem AbC:Cu Tryd.prog 27 Aaz:=Cu.by Tryd.underlying27 (inf:=Tryd.t27) (by kernel_rfl) (by kernel_rfl) (by kernel_rfl) (by kernel_rfl) (by kernel_rfl) (fun h=>by cases h)
theorem AbD:Cu Tryd.prog 30 AaA:=Cu.by Tryd.underlying30 (inf:=Tryd.t30) (by kernel_rfl) (by kernel_rfl) (by kernel_rfl) (by kernel_rfl) (by kernel_rfl) (fun h=>by cases h)
theorem AbE:Cu Tryd.prog 32 AaB:=Cu.by Tryd.underlying32 (inf:=Tryd.t32) (by kernel_rfl) (by kernel_rfl) (by kernel_rfl) (by kernel_rfl) (by kernel_rfl) (fun h=>by cases h)
theorem AbF:Cu Tryd.prog 35 AaC:=Cu.by Tryd.underlying35 (inf:=Tryd.t35) (by kernel_rfl) (by kernel_rfl) (by kernel_rfl) (by kernel_rfl) (by kernel_rfl) (fun h=>by cases h)
theorem AbG:Cu Tryd.prog 61 AaD:=Cu.by Tryd.underlying61 (inf:=Tryd.t61) (by kernel_rfl) (by kernel_rfl) (by kernel_rfl) (by kernel_rfl) (by kernel_rfl) (fun h=>by cases h)
theorem AbH:Cu Tryd.prog 66 AaE:=Cu.by Tryd.underlying66 (inf:=Tryd.t66) (by kernel_rfl) (by kernel_rfl) (by kernel_rfl) (by kernel_rfl) (by kernel_rfl) (fun h=>by cases h)
theorem AbP:Cu Tryd.prog 69 AaF:=Cu.by Tryd.underlying69 (inf:=Tryd.t69) (by kernel_rfl) (by kernel_rfl) (by kernel_rfl) (by kernel_rfl) (by kernel_rfl) (fun h=>by cases h)
theorem AbQ:Cu Tryd.prog 72 AaG:=Cu.by Tryd.underlying72 (inf:=Tryd.t72) (by kernel_rfl) (by kernel_rfl) (by kernel_rfl) (by kernel_rfl) (by kernel_rfl) (fun h=>by cases h)
theorem AbR:Cu Tryd.prog 74 AaH:=Cu.by Tryd.underlying74 (inf:=Tryd.t74) (by kernel_rfl) (by kernel_rfl) (by kernel_rfl) (by kernel_rfl) (by kernel_rfl) (fun h=>by cases h)
theorem AbS:Cu Tryd.prog 77 AaI:=Cu.by Tryd.underlying77 (inf:=Tryd.t77) (by kernel_rfl) (by kernel_rfl) (by kernel_rfl) (by kernel_rfl) (by kernel_rfl) (fun h=>by cases h)
theorem Ab0:Cu Tryd.prog 79 AaJ:=Cu.by Tryd.underlying79 (inf:=Tryd.t79) (by kernel_rfl) (by kernel_rfl) (by kernel_rfl) (by kernel_rfl) (by kernel_rfl) (fun h=>by cases h)
theorem Ab4:Cu Tryd.prog 86 AaK:=Cu.by Tryd.underlying86 (inf:=Tryd.t86) (by kernel_rfl) (by kernel_rfl) (by kernel_rfl) (by kernel_rfl) (by kernel_rfl) (fun _=>⟨_,rfl,Fl.ok (d:=8) (⟨by kernel_rfl,.inr (.inr (.inr (.inr ⟨_,Tryd.underlying86,by kernel_rfl,⟨by decide,rfl,[(.int .i64 0)],[(.bool false)],rfl,⟨by kernel_rfl,.inl ⟨⟨_,Tryd.underlying3⟩,_,_,rfl⟩⟩,⟨by decide,rfl,[(.bool false)],[],rfl,⟨by kernel_rfl,.inr (.inl ⟨Tryd.underlying4,_,rfl⟩)⟩,rfl⟩⟩⟩)))⟩) (by decide) ⟨_,Tryd.underlying86,rfl⟩ (by kernel_rfl)⟩)
theorem Ab8:Cu Tryd.prog 91 AaL:=Cu.by Tryd.underlying91 (inf:=Tryd.t91) (by kernel_rfl) (by kernel_rfl) (by kernel_rfl) (by kernel_rfl) (by kernel_rfl) (fun _=>⟨_,rfl,Fl.ok (d:=8) (⟨by kernel_rfl,.inr (.inr (.inr (.inl ⟨17,3,[(.int .i64 0)],Tryd.underlying91,⟨by kernel_rfl,.inl ⟨⟨_,Tryd.underlying3⟩,_,_,rfl⟩⟩,by kernel_rfl⟩)))⟩) (by decide) ⟨_,Tryd.underlying91,rfl⟩ (by kernel_rfl)⟩)
theorem Ab9:Cu Tryd.prog 98 AaM:=Cu.by Tryd.underlying98 (inf:=Tryd.t98) (by kernel_rfl) (by kernel_rfl) (by kernel_rfl) (by kernel_rfl) (by kernel_rfl) (fun _=>⟨_,rfl,Fl.ok (d:=8) (⟨by kernel_rfl,.inr (.inr (.inr (.inl ⟨32,5,[(.int .u8 0)],Tryd.underlying98,⟨by kernel_rfl,.inl ⟨⟨_,Tryd.underlying5⟩,_,_,rfl⟩⟩,by kernel_rfl⟩)))⟩) (by decide) ⟨_,Tryd.underlying98,rfl⟩ (by kernel_rfl)⟩)
theorem Aca:Cu Tryd.prog 99 AaN:=Cu.by Tryd.underlying99 (inf:=Tryd.t99) (by kernel_rfl) (by kernel_rfl) (by kernel_rfl) (by kernel_rfl) (by kernel_rfl) (fun h=>by cases h)
theorem tT:Cu Tryd.prog 100 eX:=Cu.by Tryd.underlying100 (inf:=Tryd.t100) (by kernel_rfl) (by kernel_rfl) (by kernel_rfl) (by kernel_rfl) (by kernel_rfl) (fun h=>by cases h)
theorem tV:Cu Tryd.prog 102 eY:=Cu.by Tryd.underlying102 (inf:=Tryd.t102) (by kernel_rfl) (by kernel_rfl) (by kernel_rfl) (by kernel_rfl) (by kernel_rfl) (fun h=>by cases h)
theorem tX:Cu Tryd.prog 109 fA:=Cu.by Tryd.underlying109 (inf:=Tryd.t109) (by kernel_rfl) (by kernel_rfl) (by kernel_rfl) (by kernel_rfl) (by kernel_rfl) (fun h=>by cases h)
theorem tY:Cu Tryd.prog 118 fB:=Cu.by Tryd.underlying118 (inf:=Tryd.t118) (by kernel_rfl) (by kernel_rfl) (by kernel_rfl) (by kernel_rfl) (by kernel_rfl) (fun h=>by cases h)
theorem Eo:Jm Tryd.prog tt:=Jm.of_all (t:=AaO) ⟨trivial,⟨trivial,⟨Aet,⟨trivial,⟨trivial,trivial,⟨trivial,⟨Ab0,trivial,trivial⟩,trivial⟩⟩,trivial⟩,⟨trivial,⟨trivial,⟨AbF,trivial,⟨Aca,trivial,trivial⟩⟩,trivial⟩,⟨AbC,trivial,⟨trivial,⟨Ab8,trivial,trivial⟩,trivial⟩⟩⟩⟩,⟨Aev,⟨Aew,trivial,⟨AbB,trivial,trivial⟩⟩,⟨trivial,⟨trivial,⟨trivial,⟨AbP,trivial,trivial⟩,trivial⟩,trivial⟩,⟨trivial,⟨trivial,⟨AbS,trivial,trivial⟩,⟨tX,trivial,trivial⟩⟩,⟨AbG,trivial,trivial⟩⟩⟩⟩⟩,⟨trivial,⟨Aeu,⟨trivial,⟨trivial,⟨AbE,trivial,trivial⟩,trivial⟩,⟨AbA,⟨trivial,⟨AbQ,trivial,trivial⟩,trivial⟩,trivial⟩⟩,⟨trivial,⟨trivial,⟨trivial,trivial,⟨tT,trivial,trivial⟩⟩,trivial⟩,trivial⟩⟩,⟨trivial,⟨trivial,⟨trivial,⟨trivial,⟨AbH,trivial,trivial⟩,⟨Ab9,trivial,trivial⟩⟩,trivial⟩,⟨trivial,⟨trivial,⟨AbR,trivial,trivial⟩,trivial⟩,trivial⟩⟩,⟨trivial,⟨Abz,⟨trivial,trivial,⟨tV,trivial,trivial⟩⟩,⟨trivial,⟨Ab4,trivial,trivial⟩,⟨tY,trivial,trivial⟩⟩⟩,⟨AbD,trivial,trivial⟩⟩⟩⟩⟩
theorem Acb:AaP.All (Ar Tryd.prog [0]):=⟨trivial,⟨trivial,⟨trivial,⟨trivial,⟨AaZ,⟨Aa7,⟨Abm,trivial,trivial⟩,trivial⟩,⟨fZ,trivial,trivial⟩⟩,⟨Aa3,⟨Abd,⟨Abq,trivial,trivial⟩,trivial⟩,⟨Abg,⟨Abw,trivial,trivial⟩,trivial⟩⟩⟩,⟨AaS,⟨fF,⟨Aba,⟨Abo,trivial,trivial⟩,trivial⟩,⟨gG,trivial,trivial⟩⟩,⟨trivial,⟨Abe,⟨Abs,trivial,trivial⟩,trivial⟩,⟨Abj,trivial,trivial⟩⟩⟩⟩,⟨trivial,⟨AaR,⟨Aa1,⟨Aa8,⟨gM,trivial,trivial⟩,trivial⟩,⟨gF,trivial,trivial⟩⟩,⟨trivial,⟨fP,⟨Abr,trivial,trivial⟩,trivial⟩,⟨Abi,trivial,trivial⟩⟩⟩,⟨fE,⟨fH,⟨Abb,⟨gT,trivial,trivial⟩,trivial⟩,⟨gI,trivial,trivial⟩⟩,⟨Aa5,⟨fU,trivial,trivial⟩,⟨gL,trivial,trivial⟩⟩⟩⟩⟩,⟨trivial,⟨AaQ,⟨trivial,⟨Aa0,⟨fK,⟨Abn,trivial,trivial⟩,trivial⟩,⟨gD,trivial,trivial⟩⟩,⟨Aa4,⟨fO,trivial,trivial⟩,⟨Abh,⟨Abx,trivial,trivial⟩,trivial⟩⟩⟩,⟨fD,⟨fG,⟨fM,⟨gQ,trivial,trivial⟩,trivial⟩,⟨gH,trivial,trivial⟩⟩,⟨trivial,⟨fT,⟨Abt,trivial,trivial⟩,trivial⟩,⟨Abk,trivial,trivial⟩⟩⟩⟩,⟨trivial,⟨fC,⟨Aa2,⟨Aa9,⟨gP,trivial,trivial⟩,trivial⟩,⟨Abf,trivial,trivial⟩⟩,⟨trivial,⟨fQ,⟨gU,trivial,trivial⟩,trivial⟩,⟨gK,trivial,trivial⟩⟩⟩,⟨AaT,⟨fI,⟨Abc,⟨Abp,trivial,trivial⟩,trivial⟩,⟨trivial,⟨Abv,trivial,trivial⟩,trivial⟩⟩,⟨Aa6,⟨fV,⟨Abu,trivial,trivial⟩,trivial⟩,⟨Abl,⟨Aby,trivial,trivial⟩,trivial⟩⟩⟩⟩⟩⟩
theorem RZ (f:FuncId) (r:Xq) (h:Jb f=some r):Ar Tryd.prog [0] f r:=Acb.get h
end Go.Proofs.YtokbaaeimejjlaaDoor.BkS
namespace Go.Proofs
open Go.Shelf
def Tryd.lays189_ren:Go.Shelf.Ren:=⟨fun | 189=>63 | 125=>71 | 257=>73 | 128=>86 | 129=>87 | 294=>88 | 295=>89 | 296=>90 | 297=>91 | 298=>92 | 299=>93 | 216=>94 | 300=>95 | 301=>96 | 328=>103 | 329=>99 | 330=>100 | 331=>104 | 332=>105 | 215=>74 | 343=>108 | n=>n,fun | 28=>25 | 3=>3 | 46=>100 | 0=>0 | 51=>99 | 53=>118 | 4=>4 | 183=>110 | 182=>109 | 131=>114 | 5=>5 | 9=>9 | 218=>128 | 222=>132 | 228=>137 | 229=>138 | n=>n,fun | n=>n⟩
theorem Tryd.lays189:Go.Proofs.Lays.n189 Tryd.prog Tryd.lays189_ren:={
 mixed:=by kernel_rfl
 f125:=Tryd.func71.trans (congrArg some (by kernel_rfl))
 f128:=Tryd.func86.trans (congrArg some (by kernel_rfl))
 f129:=Tryd.func87.trans (congrArg some (by kernel_rfl))
 f189:=Tryd.func63.trans (congrArg some (by kernel_rfl))
 f215:=Tryd.func74.trans (congrArg some (by kernel_rfl))
 f216:=Tryd.func94.trans (congrArg some (by kernel_rfl))
 f257:=Tryd.func73.trans (congrArg some (by kernel_rfl))
 f294:=Tryd.func88.trans (congrArg some (by kernel_rfl))
 f295:=Tryd.func89.trans (congrArg some (by kernel_rfl))
 f296:=Tryd.func90.trans (congrArg some (by kernel_rfl))
 f297:=Tryd.func91.trans (congrArg some (by kernel_rfl))
 f298:=Tryd.func92.trans (congrArg some (by kernel_rfl))
 f299:=Tryd.func93.trans (congrArg some (by kernel_rfl))
 f300:=Tryd.func95.trans (congrArg some (by kernel_rfl))
 f301:=Tryd.func96.trans (congrArg some (by kernel_rfl))
 f328:=Tryd.func103.trans (congrArg some (by kernel_rfl))
 f329:=Tryd.func99.trans (congrArg some (by kernel_rfl))
 f330:=Tryd.func100.trans (congrArg some (by kernel_rfl))
 f331:=Tryd.func104.trans (congrArg some (by kernel_rfl))
 f332:=Tryd.func105.trans (congrArg some (by kernel_rfl))
 f343:=Tryd.func108.trans (congrArg some (by kernel_rfl))
 t0:=Tryd.underlying0
 a0:=Tryd.isAgg0
 z0:=Tryd.sizeOf0
 v0:=Tryd.zeroValue0
 t3:=Tryd.underlying3
 a3:=Tryd.isAgg3
 z3:=Tryd.sizeOf3
 v3:=Tryd.zeroValue3
 t4:=Tryd.underlying4
 a4:=Tryd.isAgg4
 z4:=Tryd.sizeOf4
 v4:=Tryd.zeroValue4
 t5:=Tryd.underlying5
 a5:=Tryd.isAgg5
 z5:=Tryd.sizeOf5
 v5:=Tryd.zeroValue5
 t9:=Tryd.underlying9
 a9:=Tryd.isAgg9
 z9:=Tryd.sizeOf9
 v9:=Tryd.zeroValue9
 t28:=Tryd.underlying25
 a28:=Tryd.isAgg25
 z28:=Tryd.sizeOf25
 v28:=Tryd.zeroValue25
 t46:=Tryd.underlying100
 a46:=Tryd.isAgg100
 z46:=Tryd.sizeOf100
 v46:=Tryd.zeroValue100
 t51:=Tryd.underlying99
 a51:=Tryd.isAgg99
 z51:=Tryd.sizeOf99
 v51:=Tryd.zeroValue99
 t53:=Tryd.underlying118
 a53:=Tryd.isAgg118
 z53:=Tryd.sizeOf118
 v53:=Tryd.zeroValue118
 t131:=Tryd.underlying114
 a131:=Tryd.isAgg114
 z131:=Tryd.sizeOf114
 v131:=Tryd.zeroValue114
 t182:=Tryd.underlying109
 a182:=Tryd.isAgg109
 z182:=Tryd.sizeOf109
 v182:=Tryd.zeroValue109
 t183:=Tryd.underlying110
 a183:=Tryd.isAgg110
 z183:=Tryd.sizeOf110
 v183:=Tryd.zeroValue110
 t218:=Tryd.underlying128
 a218:=Tryd.isAgg128
 z218:=Tryd.sizeOf128
 v218:=Tryd.zeroValue128
 t222:=Tryd.underlying132
 a222:=Tryd.isAgg132
 z222:=Tryd.sizeOf132
 v222:=Tryd.zeroValue132
 t228:=Tryd.underlying137
 a228:=Tryd.isAgg137
 z228:=Tryd.sizeOf137
 v228:=Tryd.zeroValue137
 t229:=Tryd.underlying138
 a229:=Tryd.isAgg138
 z229:=Tryd.sizeOf138
 v229:=Tryd.zeroValue138 }
open Go.Sort Go.RowKit in
theorem Tryd.slices_Sort_int (blk off cap:Nat) (zs:List Int) (w:World) (hH:Holds (Value.int .i64) w blk off zs.toArray) (hblk:blk < w.heap.size) (hsz:zs.length < 4611686018427387904) :
 Calls Tryd.prog 63 #[.slice (some ⟨blk,off,none⟩) zs.length cap] w fun e w'=>
  e = .returned (.tuple #[])∧∃ n os,w'=grow (putRow (Value.int .i64) (Sort.ahead w n) blk off (zs.mergeSort fun x y=>decide (x≤y)).toArray) os:=Any.slices_Sort_int Tryd.lays189 blk off cap zs w hH hblk hsz
end Go.Proofs
