/- Made from wip. -/
import Derived.Test.YtokbaaeimejjlaaDoorProg
import Derived.Test.YtokbaaeimejjlaaDoorSpMorex
import Derived.Test.YtokbaaeimejjlaaDoorBkOMod0x
import Derived.Test.YtokbaaeimejjlaaDoorBkOPux
import Derived.RangeFuncNested
import Derived.RangeFuncBound
import Derived.RangeFuncCalls
import Derived.RangeFuncLeaves
import Derived.Shelf.Abstract
import Derived.Shelf.RegionOpen
import Derived.WalkKit
import Derived.OwnWalkIn
import Derived.TacticsInMore
import Derived.LoopNIn
import Derived.LoopIn

set_option maxRecDepth 100000
namespace Go.Proofs.YtokbaaeimejjlaaDoor.BkO
open Go Go.Sp Go.BkO
theorem AeY:Ar Tryd.prog [0] 3 ⟨244,c3,[.tmp 2]⟩:=Ar.by Tryd.func3 (by kernel_rfl) (by kernel_rfl) Tryd.ntmps3 (by rw[Tryd.results3]) (by kernel_rfl)
theorem AeZ:Ar Tryd.prog [0] 9 ⟨79,c9,[.cell 6 27,.tmp 7]⟩:=Ar.by Tryd.func9 (by kernel_rfl) (by kernel_rfl) Tryd.ntmps9 (by rw[Tryd.results9]) (by kernel_rfl)
theorem iO:Ar Tryd.prog [0] 10 ⟨103,c10,[.tmp 8]⟩:=Ar.by Tryd.func10 (by kernel_rfl) (by kernel_rfl) Tryd.ntmps10 (by rw[Tryd.results10]) (by kernel_rfl)
theorem iP:Ar Tryd.prog [0] 11 ⟨34,c11,[.tmp 6,.tmp 7]⟩:=Ar.by Tryd.func11 (by kernel_rfl) (by kernel_rfl) Tryd.ntmps11 (by rw[Tryd.results11]) (by kernel_rfl)
theorem iQ:Ar Tryd.prog [0] 12 ⟨26,c12,[.tmp 4]⟩:=Ar.by Tryd.func12 (by kernel_rfl) (by kernel_rfl) Tryd.ntmps12 (by rw[Tryd.results12]) (by kernel_rfl)
theorem iR:Ar Tryd.prog [0] 13 ⟨30,c13,[.tmp 4]⟩:=Ar.by Tryd.func13 (by kernel_rfl) (by kernel_rfl) Tryd.ntmps13 (by rw[Tryd.results13]) (by kernel_rfl)
theorem iT:Ar Tryd.prog [0] 14 ⟨21,c14,[.tmp 4,.tmp 5]⟩:=Ar.by Tryd.func14 (by kernel_rfl) (by kernel_rfl) Tryd.ntmps14 (by rw[Tryd.results14]) (by kernel_rfl)
theorem iU:Ar Tryd.prog [0] 15 ⟨43,c15,[.tmp 4,.tmp 5]⟩:=Ar.by Tryd.func15 (by kernel_rfl) (by kernel_rfl) Tryd.ntmps15 (by rw[Tryd.results15]) (by kernel_rfl)
theorem iV:Ar Tryd.prog [0] 16 ⟨27,c16,[.tmp 4]⟩:=Ar.by Tryd.func16 (by kernel_rfl) (by kernel_rfl) Tryd.ntmps16 (by rw[Tryd.results16]) (by kernel_rfl)
theorem iW:Ar Tryd.prog [0] 17 ⟨23,c17,[.tmp 4,.tmp 5]⟩:=Ar.by Tryd.func17 (by kernel_rfl) (by kernel_rfl) Tryd.ntmps17 (by rw[Tryd.results17]) (by kernel_rfl)
theorem iX:Ar Tryd.prog [0] 18 ⟨42,c18,[.tmp 6,.tmp 7]⟩:=Ar.by Tryd.func18 (by kernel_rfl) (by kernel_rfl) Tryd.ntmps18 (by rw[Tryd.results18]) (by kernel_rfl)
theorem iY:Ar Tryd.prog [0] 19 ⟨209,c19,[.tmp 0]⟩:=Ar.by Tryd.func19 (by kernel_rfl) (by kernel_rfl) Tryd.ntmps19 (by rw[Tryd.results19]) (by kernel_rfl)
theorem Ae0:Ar Tryd.prog [0] 20 ⟨25,c20,[.tmp 4,.tmp 5]⟩:=Ar.by Tryd.func20 (by kernel_rfl) (by kernel_rfl) Tryd.ntmps20 (by rw[Tryd.results20]) (by kernel_rfl)
theorem Ae1:Ar Tryd.prog [0] 21 ⟨70,c21,[.tmp 6]⟩:=Ar.by Tryd.func21 (by kernel_rfl) (by kernel_rfl) Tryd.ntmps21 (by rw[Tryd.results21]) (by kernel_rfl)
theorem iZ:Ar Tryd.prog [0] 22 ⟨4,c22,[.tmp 2]⟩:=Ar.by Tryd.func22 (by kernel_rfl) (by kernel_rfl) Tryd.ntmps22 (by rw[Tryd.results22]) (by kernel_rfl)
theorem Ae2:Ar Tryd.prog [0] 23 ⟨39,c23,[.tmp 2,.tmp 3]⟩:=Ar.by Tryd.func23 (by kernel_rfl) (by kernel_rfl) Tryd.ntmps23 (by rw[Tryd.results23]) (by kernel_rfl)
theorem Ae3:Ar Tryd.prog [0] 24 ⟨20,c24,[.tmp 4,.tmp 5]⟩:=Ar.by Tryd.func24 (by kernel_rfl) (by kernel_rfl) Tryd.ntmps24 (by rw[Tryd.results24]) (by kernel_rfl)
theorem Ae4:Ar Tryd.prog [0] 29 ⟨29,c29,[.tmp 4,.tmp 5]⟩:=Ar.by Tryd.func29 (by kernel_rfl) (by kernel_rfl) Tryd.ntmps29 (by rw[Tryd.results29]) (by kernel_rfl)
theorem Ae5:Ar Tryd.prog [0] 30 ⟨93,c30,[.tmp 4,.tmp 5]⟩:=Ar.by Tryd.func30 (by kernel_rfl) (by kernel_rfl) Tryd.ntmps30 (by rw[Tryd.results30]) (by kernel_rfl)
theorem Ae6:Ar Tryd.prog [0] 31 ⟨4,c31,[.cell 0 27]⟩:=Ar.by Tryd.func31 (by kernel_rfl) (by kernel_rfl) Tryd.ntmps31 (by rw[Tryd.results31]) (by kernel_rfl)
theorem jA:Ar Tryd.prog [0] 32 ⟨33,c32,[.tmp 4,.tmp 5]⟩:=Ar.by Tryd.func32 (by kernel_rfl) (by kernel_rfl) Tryd.ntmps32 (by rw[Tryd.results32]) (by kernel_rfl)
theorem jC:Ar Tryd.prog [0] 33 ⟨19,c33,[.tmp 4]⟩:=Ar.by Tryd.func33 (by kernel_rfl) (by kernel_rfl) Tryd.ntmps33 (by rw[Tryd.results33]) (by kernel_rfl)
theorem jD:Ar Tryd.prog [0] 34 ⟨35,c34,[.tmp 6]⟩:=Ar.by Tryd.func34 (by kernel_rfl) (by kernel_rfl) Tryd.ntmps34 (by rw[Tryd.results34]) (by kernel_rfl)
theorem jE:Ar Tryd.prog [0] 35 ⟨28,c35,[.tmp 4]⟩:=Ar.by Tryd.func35 (by kernel_rfl) (by kernel_rfl) Tryd.ntmps35 (by rw[Tryd.results35]) (by kernel_rfl)
theorem jJ:Ar Tryd.prog [0] 36 ⟨38,c36,[.tmp 6]⟩:=Ar.by Tryd.func36 (by kernel_rfl) (by kernel_rfl) Tryd.ntmps36 (by rw[Tryd.results36]) (by kernel_rfl)
end Go.Proofs.YtokbaaeimejjlaaDoor.BkO
set_option maxRecDepth 100000
namespace Go.Proofs.YtokbaaeimejjlaaDoor.BkO
open Go Go.Sp Go.BkO
theorem jK:Ar Tryd.prog [0] 37 ⟨26,c37,[.tmp 4]⟩:=Ar.by Tryd.func37 (by kernel_rfl) (by kernel_rfl) Tryd.ntmps37 (by rw[Tryd.results37]) (by kernel_rfl)
theorem Ae7:Ar Tryd.prog [0] 38 ⟨4,c38,[.cell 0 27]⟩:=Ar.by Tryd.func38 (by kernel_rfl) (by kernel_rfl) Tryd.ntmps38 (by rw[Tryd.results38]) (by kernel_rfl)
theorem Ae8:Ar Tryd.prog [0] 39 ⟨4,c39,[.tmp 2]⟩:=Ar.by Tryd.func39 (by kernel_rfl) (by kernel_rfl) Tryd.ntmps39 (by rw[Tryd.results39]) (by kernel_rfl)
theorem Ae9:Ar Tryd.prog [0] 40 ⟨88,c40,[]⟩:=Ar.by Tryd.func40 (by kernel_rfl) (by kernel_rfl) Tryd.ntmps40 (by rw[Tryd.results40]) (by kernel_rfl)
theorem Afa:Ar Tryd.prog [0] 41 ⟨9,c41,[.tmp 4]⟩:=Ar.by Tryd.func41 (by kernel_rfl) (by kernel_rfl) Tryd.ntmps41 (by rw[Tryd.results41]) (by kernel_rfl)
theorem Afb:Ar Tryd.prog [0] 42 ⟨9,c42,[.tmp 3]⟩:=Ar.by Tryd.func42 (by kernel_rfl) (by kernel_rfl) Tryd.ntmps42 (by rw[Tryd.results42]) (by kernel_rfl)
theorem Afc:Ar Tryd.prog [0] 43 ⟨9,c43,[.tmp 2]⟩:=Ar.by Tryd.func43 (by kernel_rfl) (by kernel_rfl) Tryd.ntmps43 (by rw[Tryd.results43]) (by kernel_rfl)
theorem Afd:Ar Tryd.prog [0] 44 ⟨4,c44,[.tmp 2]⟩:=Ar.by Tryd.func44 (by kernel_rfl) (by kernel_rfl) Tryd.ntmps44 (by rw[Tryd.results44]) (by kernel_rfl)
theorem jL:Ar Tryd.prog [0] 45 ⟨36,c45,[.tmp 4]⟩:=Ar.by Tryd.func45 (by kernel_rfl) (by kernel_rfl) Tryd.ntmps45 (by rw[Tryd.results45]) (by kernel_rfl)
theorem Afe:Ar Tryd.prog [0] 46 ⟨9,c46,[.tmp 2]⟩:=Ar.by Tryd.func46 (by kernel_rfl) (by kernel_rfl) Tryd.ntmps46 (by rw[Tryd.results46]) (by kernel_rfl)
theorem Aff:Ar Tryd.prog [0] 47 ⟨15,c47,[.tmp 2]⟩:=Ar.by Tryd.func47 (by kernel_rfl) (by kernel_rfl) Tryd.ntmps47 (by rw[Tryd.results47]) (by kernel_rfl)
theorem kQ:Ar Tryd.prog [0] 48 ⟨15,c48,[.tmp 6]⟩:=Ar.by Tryd.func48 (by kernel_rfl) (by kernel_rfl) Tryd.ntmps48 (by rw[Tryd.results48]) (by kernel_rfl)
theorem kR:Ar Tryd.prog [0] 49 ⟨110,c49,[.tmp 2,.tmp 3]⟩:=Ar.by Tryd.func49 (by kernel_rfl) (by kernel_rfl) Tryd.ntmps49 (by rw[Tryd.results49]) (by kernel_rfl)
theorem Afg:Ar Tryd.prog [0] 50 ⟨27,c50,[.tmp 4]⟩:=Ar.by Tryd.func50 (by kernel_rfl) (by kernel_rfl) Tryd.ntmps50 (by rw[Tryd.results50]) (by kernel_rfl)
theorem kS:Ar Tryd.prog [0] 51 ⟨18,c51,[.cell 2 86]⟩:=Ar.by Tryd.func51 (by kernel_rfl) (by kernel_rfl) Tryd.ntmps51 (by rw[Tryd.results51]) (by kernel_rfl)
theorem kT:Ar Tryd.prog [0] 52 ⟨22,c52,[.cell 4 86]⟩:=Ar.by Tryd.func52 (by kernel_rfl) (by kernel_rfl) Tryd.ntmps52 (by rw[Tryd.results52]) (by kernel_rfl)
theorem kU:Ar Tryd.prog [0] 53 ⟨22,c53,[.tmp 2]⟩:=Ar.by Tryd.func53 (by kernel_rfl) (by kernel_rfl) Tryd.ntmps53 (by rw[Tryd.results53]) (by kernel_rfl)
theorem Afh:Ar Tryd.prog [0] 55 ⟨8,c55,[.tmp 2]⟩:=Ar.by Tryd.func55 (by kernel_rfl) (by kernel_rfl) Tryd.ntmps55 (by rw[Tryd.results55]) (by kernel_rfl)
theorem Afi:Ar Tryd.prog [0] 56 ⟨15,c56,[.tmp 4]⟩:=Ar.by Tryd.func56 (by kernel_rfl) (by kernel_rfl) Tryd.ntmps56 (by rw[Tryd.results56]) (by kernel_rfl)
theorem Afj:Ar Tryd.prog [0] 57 ⟨50,c57,[.cell 4 91]⟩:=Ar.by Tryd.func57 (by kernel_rfl) (by kernel_rfl) Tryd.ntmps57 (by rw[Tryd.results57]) (by kernel_rfl)
theorem kV:Ar Tryd.prog [0] 58 ⟨34,c58,[.tmp 4]⟩:=Ar.by Tryd.func58 (by kernel_rfl) (by kernel_rfl) Tryd.ntmps58 (by rw[Tryd.results58]) (by kernel_rfl)
theorem kW:Ar Tryd.prog [0] 59 ⟨14,c59,[]⟩:=Ar.by Tryd.func59 (by kernel_rfl) (by kernel_rfl) Tryd.ntmps59 (by rw[Tryd.results59]) (by kernel_rfl)
theorem kX:Ar Tryd.prog [0] 60 ⟨66,c60,[.tmp 4]⟩:=Ar.by Tryd.func60 (by kernel_rfl) (by kernel_rfl) Tryd.ntmps60 (by rw[Tryd.results60]) (by kernel_rfl)
theorem Afk:Ar Tryd.prog [0] 61 ⟨19,c61,[.tmp 4]⟩:=Ar.by Tryd.func61 (by kernel_rfl) (by kernel_rfl) Tryd.ntmps61 (by rw[Tryd.results61]) (by kernel_rfl)
theorem Afl:Ar Tryd.prog [0] 62 ⟨5,c62,[.tmp 2]⟩:=Ar.by Tryd.func62 (by kernel_rfl) (by kernel_rfl) Tryd.ntmps62 (by rw[Tryd.results62]) (by kernel_rfl)
end Go.Proofs.YtokbaaeimejjlaaDoor.BkO
set_option maxRecDepth 100000
namespace Go.Proofs.YtokbaaeimejjlaaDoor.BkO
open Go Go.Sp Go.BkO
theorem Afm:Ar Tryd.prog [0] 63 ⟨11,c63,[]⟩:=Ar.by Tryd.func63 (by kernel_rfl) (by kernel_rfl) Tryd.ntmps63 (by rw[Tryd.results63]) (by kernel_rfl)
theorem Afn:Ar Tryd.prog [0] 64 ⟨16,c64,[]⟩:=Ar.by Tryd.func64 (by kernel_rfl) (by kernel_rfl) Tryd.ntmps64 (by rw[Tryd.results64]) (by kernel_rfl)
theorem kY:Ar Tryd.prog [0] 65 ⟨20,c65,[.tmp 4]⟩:=Ar.by Tryd.func65 (by kernel_rfl) (by kernel_rfl) Tryd.ntmps65 (by rw[Tryd.results65]) (by kernel_rfl)
theorem kZ:Ar Tryd.prog [0] 66 ⟨47,c66,[.tmp 4]⟩:=Ar.by Tryd.func66 (by kernel_rfl) (by kernel_rfl) Tryd.ntmps66 (by rw[Tryd.results66]) (by kernel_rfl)
theorem Afo:Ar Tryd.prog [0] 67 ⟨70,c67,[.tmp 9]⟩:=Ar.by Tryd.func67 (by kernel_rfl) (by kernel_rfl) Tryd.ntmps67 (by rw[Tryd.results67]) (by kernel_rfl)
theorem lH:Ar Tryd.prog [0] 68 ⟨25,c68,[.tmp 2]⟩:=Ar.by Tryd.func68 (by kernel_rfl) (by kernel_rfl) Tryd.ntmps68 (by rw[Tryd.results68]) (by kernel_rfl)
theorem lI:Ar Tryd.prog [0] 69 ⟨25,c69,[.tmp 2]⟩:=Ar.by Tryd.func69 (by kernel_rfl) (by kernel_rfl) Tryd.ntmps69 (by rw[Tryd.results69]) (by kernel_rfl)
theorem lJ:Ar Tryd.prog [0] 70 ⟨148,c70,[]⟩:=Ar.by Tryd.func70 (by kernel_rfl) (by kernel_rfl) Tryd.ntmps70 (by rw[Tryd.results70]) (by kernel_rfl)
theorem lK:Ar Tryd.prog [0] 71 ⟨8,c71,[.tmp 2]⟩:=Ar.by Tryd.func71 (by kernel_rfl) (by kernel_rfl) Tryd.ntmps71 (by rw[Tryd.results71]) (by kernel_rfl)
theorem Afp:Ar Tryd.prog [0] 73 ⟨134,c73,[]⟩:=Ar.by Tryd.func73 (by kernel_rfl) (by kernel_rfl) Tryd.ntmps73 (by rw[Tryd.results73]) (by kernel_rfl)
theorem lL:Ar Tryd.prog [0] 74 ⟨6,c74,[.tmp 2]⟩:=Ar.by Tryd.func74 (by kernel_rfl) (by kernel_rfl) Tryd.ntmps74 (by rw[Tryd.results74]) (by kernel_rfl)
theorem Afq:Ar Tryd.prog [0] 75 ⟨28,c75,[]⟩:=Ar.by Tryd.func75 (by kernel_rfl) (by kernel_rfl) Tryd.ntmps75 (by rw[Tryd.results75]) (by kernel_rfl)
theorem Afr:Ar Tryd.prog [0] 76 ⟨34,c76,[.tmp 4]⟩:=Ar.by Tryd.func76 (by kernel_rfl) (by kernel_rfl) Tryd.ntmps76 (by rw[Tryd.results76]) (by kernel_rfl)
theorem lM:Ar Tryd.prog [0] 78 ⟨53,c78,[]⟩:=Ar.by Tryd.func78 (by kernel_rfl) (by kernel_rfl) Tryd.ntmps78 (by rw[Tryd.results78]) (by kernel_rfl)
theorem Afs:Ar Tryd.prog [0] 86 ⟨19,c86,[.tmp 2]⟩:=Ar.by Tryd.func86 (by kernel_rfl) (by kernel_rfl) Tryd.ntmps86 (by rw[Tryd.results86]) (by kernel_rfl)
theorem lN:Ar Tryd.prog [0] 87 ⟨25,c87,[.tmp 2]⟩:=Ar.by Tryd.func87 (by kernel_rfl) (by kernel_rfl) Tryd.ntmps87 (by rw[Tryd.results87]) (by kernel_rfl)
theorem Afu:Ar Tryd.prog [0] 88 ⟨49,c88,[]⟩:=Ar.by Tryd.func88 (by kernel_rfl) (by kernel_rfl) Tryd.ntmps88 (by rw[Tryd.results88]) (by kernel_rfl)
theorem Afv:Ar Tryd.prog [0] 94 ⟨17,c94,[.tmp 4]⟩:=Ar.by Tryd.func94 (by kernel_rfl) (by kernel_rfl) Tryd.ntmps94 (by rw[Tryd.results94]) (by kernel_rfl)
end Go.Proofs.YtokbaaeimejjlaaDoor.BkO
set_option maxRecDepth 100000
namespace Go.Proofs.YtokbaaeimejjlaaDoor.BkO
open Go Go.Sp Go.BkO
theorem AhI:Cu Tryd.prog 3 ti3:=Cu.by Tryd.underlying3 (inf:=Tryd.t3) (by kernel_rfl) (by kernel_rfl) (by kernel_rfl) (by kernel_rfl) (by kernel_rfl) (fun h=>by cases h)
theorem AhJ:Cu Tryd.prog 4 ti4:=Cu.by Tryd.underlying4 (inf:=Tryd.t4) (by kernel_rfl) (by kernel_rfl) (by kernel_rfl) (by kernel_rfl) (by kernel_rfl) (fun h=>by cases h)
theorem AhK:Cu Tryd.prog 5 ti5:=Cu.by Tryd.underlying5 (inf:=Tryd.t5) (by kernel_rfl) (by kernel_rfl) (by kernel_rfl) (by kernel_rfl) (by kernel_rfl) (fun h=>by cases h)
theorem AhL:Cu Tryd.prog 9 ti9:=Cu.by Tryd.underlying9 (inf:=Tryd.t9) (by kernel_rfl) (by kernel_rfl) (by kernel_rfl) (by kernel_rfl) (by kernel_rfl) (fun h=>by cases h)
theorem Afw:Cu Tryd.prog 22 AdB:=Cu.by Tryd.underlying22 (inf:=Tryd.t22) (by kernel_rfl) (by kernel_rfl) (by kernel_rfl) (by kernel_rfl) (by kernel_rfl) (fun _=>⟨_,rfl,Fl.ok (d:=8) (⟨by kernel_rfl,.inr (.inr (.inr (.inl ⟨16,5,[(.int .u8 0)],Tryd.underlying22,⟨by kernel_rfl,.inl ⟨⟨_,Tryd.underlying5⟩,_,_,rfl⟩⟩,by kernel_rfl⟩)))⟩) (by decide) ⟨_,Tryd.underlying22,rfl⟩ (by kernel_rfl)⟩)
theorem Afx:Cu Tryd.prog 24 AdC:=Cu.by Tryd.underlying24 (inf:=Tryd.t24) (by kernel_rfl) (by kernel_rfl) (by kernel_rfl) (by kernel_rfl) (by kernel_rfl) (fun _=>⟨_,rfl,Fl.ok (d:=8) (⟨by kernel_rfl,.inr (.inr (.inr (.inr ⟨_,Tryd.underlying24,by kernel_rfl,⟨by decide,rfl,[(.int .u8 0)],[(.int .u8 0),(.int .u8 0),(.int .u8 0),(.int .u8 0),(.int .u8 0),(.int .u8 0),(.int .u8 0),(.int .u8 0),(.int .u8 0),(.int .u8 0),(.int .u8 0),(.int .u8 0),(.int .u8 0),(.int .u8 0),(.int .u8 0),(.int .u8 0),(.int .u8 0),(.int .u8 0),(.int .u8 0)],rfl,⟨by kernel_rfl,.inl ⟨⟨_,Tryd.underlying5⟩,_,_,rfl⟩⟩,⟨by decide,rfl,[(.int .u8 0)],[(.int .u8 0),(.int .u8 0),(.int .u8 0),(.int .u8 0),(.int .u8 0),(.int .u8 0),(.int .u8 0),(.int .u8 0),(.int .u8 0),(.int .u8 0),(.int .u8 0),(.int .u8 0),(.int .u8 0),(.int .u8 0),(.int .u8 0),(.int .u8 0),(.int .u8 0),(.int .u8 0)],rfl,⟨by kernel_rfl,.inl ⟨⟨_,Tryd.underlying5⟩,_,_,rfl⟩⟩,⟨by decide,rfl,[(.int .u8 0)],[(.int .u8 0),(.int .u8 0),(.int .u8 0),(.int .u8 0),(.int .u8 0),(.int .u8 0),(.int .u8 0),(.int .u8 0),(.int .u8 0),(.int .u8 0),(.int .u8 0),(.int .u8 0),(.int .u8 0),(.int .u8 0),(.int .u8 0),(.int .u8 0),(.int .u8 0)],rfl,⟨by kernel_rfl,.inl ⟨⟨_,Tryd.underlying5⟩,_,_,rfl⟩⟩,⟨by decide,rfl,[(.int .u8 0)],[(.int .u8 0),(.int .u8 0),(.int .u8 0),(.int .u8 0),(.int .u8 0),(.int .u8 0),(.int .u8 0),(.int .u8 0),(.int .u8 0),(.int .u8 0),(.int .u8 0),(.int .u8 0),(.int .u8 0),(.int .u8 0),(.int .u8 0),(.int .u8 0)],rfl,⟨by kernel_rfl,.inl ⟨⟨_,Tryd.underlying5⟩,_,_,rfl⟩⟩,⟨by decide,rfl,[(.int .u8 0),(.int .u8 0),(.int .u8 0),(.int .u8 0),(.int .u8 0),(.int .u8 0),(.int .u8 0),(.int .u8 0),(.int .u8 0),(.int .u8 0),(.int .u8 0),(.int .u8 0),(.int .u8 0),(.int .u8 0),(.int .u8 0),(.int .u8 0)],[],rfl,⟨by kernel_rfl,.inr (.inr (.inr (.inl ⟨16,5,[(.int .u8 0)],Tryd.underlying22,⟨by kernel_rfl,.inl ⟨⟨_,Tryd.underlying5⟩,_,_,rfl⟩⟩,by kernel_rfl⟩)))⟩,rfl⟩⟩⟩⟩⟩⟩)))⟩) (by decide) ⟨_,Tryd.underlying24,rfl⟩ (by kernel_rfl)⟩)
theorem Afy:Cu Tryd.prog 25 AdD:=Cu.by Tryd.underlying25 (inf:=Tryd.t25) (by kernel_rfl) (by kernel_rfl) (by kernel_rfl) (by kernel_rfl) (by kernel_rfl) (fun h=>by cases h)
theorem Afz:Cu Tryd.prog 27 AdE:=Cu.by Tryd.underlying27 (inf:=Tryd.t27) (by kernel_rfl) (by kernel_rfl) (by kernel_rfl) (by kernel_rfl) (by kernel_rfl) (fun h=>by cases h)
theorem AfA:Cu Tryd.prog 30 AdF:=Cu.by Tryd.underlying30 (inf:=Tryd.t30) (by kernel_rfl) (by kernel_rfl) (by kernel_rfl) (by kernel_rfl) (by kernel_rfl) (fun h=>by cases h)
theorem AfB:Cu Tryd.prog 32 AdG:=Cu.by Tryd.underlying32 (inf:=Tryd.t32) (by kernel_rfl) (by kernel_rfl) (by kernel_rfl) (by kernel_rfl) (by kernel_rfl) (fun h=>by cases h)
theorem AfC:Cu Tryd.prog 35 AdH:=Cu.by Tryd.underlying35 (inf:=Tryd.t35) (by kernel_rfl) (by kernel_rfl) (by kernel_rfl) (by kernel_rfl) (by kernel_rfl) (fun h=>by cases h)
theorem AfD:Cu Tryd.prog 61 AdI:=Cu.by Tryd.underlying61 (inf:=Tryd.t61) (by kernel_rfl) (by kernel_rfl) (by kernel_rfl) (by kernel_rfl) (by kernel_rfl) (fun h=>by cases h)
theorem AfE:Cu Tryd.prog 66 AdJ:=Cu.by Tryd.underlying66 (inf:=Tryd.t66) (by kernel_rfl) (by kernel_rfl) (by kernel_rfl) (by kernel_rfl) (by kernel_rfl) (fun h=>by cases h)
theorem AfF:Cu Tryd.prog 69 AdK:=Cu.by Tryd.underlying69 (inf:=Tryd.t69) (by kernel_rfl) (by kernel_rfl) (by kernel_rfl) (by kernel_rfl) (by kernel_rfl) (fun h=>by cases h)
theorem AfG:Cu Tryd.prog 72 AdL:=Cu.by Tryd.underlying72 (inf:=Tryd.t72) (by kernel_rfl) (by kernel_rfl) (by kernel_rfl) (by kernel_rfl) (by kernel_rfl) (fun h=>by cases h)
theorem AfH:Cu Tryd.prog 74 AdM:=Cu.by Tryd.underlying74 (inf:=Tryd.t74) (by kernel_rfl) (by kernel_rfl) (by kernel_rfl) (by kernel_rfl) (by kernel_rfl) (fun h=>by cases h)
theorem AfI:Cu Tryd.prog 77 AdN:=Cu.by Tryd.underlying77 (inf:=Tryd.t77) (by kernel_rfl) (by kernel_rfl) (by kernel_rfl) (by kernel_rfl) (by kernel_rfl) (fun h=>by cases h)
theorem AfJ:Cu Tryd.prog 79 AdO:=Cu.by Tryd.underlying79 (inf:=Tryd.t79) (by kernel_rfl) (by kernel_rfl) (by kernel_rfl) (by kernel_rfl) (by kernel_rfl) (fun h=>by cases h)
theorem AfK:Cu Tryd.prog 86 AdP:=Cu.by Tryd.underlying86 (inf:=Tryd.t86) (by kernel_rfl) (by kernel_rfl) (by kernel_rfl) (by kernel_rfl) (by kernel_rfl) (fun _=>⟨_,rfl,Fl.ok (d:=8) (⟨by kernel_rfl,.inr (.inr (.inr (.inr ⟨_,Tryd.underlying86,by kernel_rfl,⟨by decide,rfl,[(.int .i64 0)],[(.bool false)],rfl,⟨by kernel_rfl,.inl ⟨⟨_,Tryd.underlying3⟩,_,_,rfl⟩⟩,⟨by decide,rfl,[(.bool false)],[],rfl,⟨by kernel_rfl,.inr (.inl ⟨Tryd.underlying4,_,rfl⟩)⟩,rfl⟩⟩⟩)))⟩) (by decide) ⟨_,Tryd.underlying86,rfl⟩ (by kernel_rfl)⟩)
theorem AfL:Cu Tryd.prog 91 AdQ:=Cu.by Tryd.underlying91 (inf:=Tryd.t91) (by kernel_rfl) (by kernel_rfl) (by kernel_rfl) (by kernel_rfl) (by kernel_rfl) (fun _=>⟨_,rfl,Fl.ok (d:=8) (⟨by kernel_rfl,.inr (.inr (.inr (.inl ⟨17,3,[(.int .i64 0)],Tryd.underlying91,⟨by kernel_rfl,.inl ⟨⟨_,Tryd.underlying3⟩,_,_,rfl⟩⟩,by kernel_rfl⟩)))⟩) (by decide) ⟨_,Tryd.underlying91,rfl⟩ (by kernel_rfl)⟩)
theorem AfM:Cu Tryd.prog 98 AdR:=Cu.by Tryd.underlying98 (inf:=Tryd.t98) (by kernel_rfl) (by kernel_rfl) (by kernel_rfl) (by kernel_rfl) (by kernel_rfl) (fun _=>⟨_,rfl,Fl.ok (d:=8) (⟨by kernel_rfl,.inr (.inr (.inr (.inl ⟨32,5,[(.int .u8 0)],Tryd.underlying98,⟨by kernel_rfl,.inl ⟨⟨_,Tryd.underlying5⟩,_,_,rfl⟩⟩,by kernel_rfl⟩)))⟩) (by decide) ⟨_,Tryd.underlying98,rfl⟩ (by kernel_rfl)⟩)
theorem AfN:Cu Tryd.prog 99 AdS:=Cu.by Tryd.underlying99 (inf:=Tryd.t99) (by kernel_rfl) (by kernel_rfl) (by kernel_rfl) (by kernel_rfl) (by kernel_rfl) (fun h=>by cases h)
theorem yU:Cu Tryd.prog 100 iK:=Cu.by Tryd.underlying100 (inf:=Tryd.t100) (by kernel_rfl) (by kernel_rfl) (by kernel_rfl) (by kernel_rfl) (by kernel_rfl) (fun h=>by cases h)
theorem yV:Cu Tryd.prog 102 iL:=Cu.by Tryd.underlying102 (inf:=Tryd.t102) (by kernel_rfl) (by kernel_rfl) (by kernel_rfl) (by kernel_rfl) (by kernel_rfl) (fun h=>by cases h)
theorem yX:Cu Tryd.prog 109 iM:=Cu.by Tryd.underlying109 (inf:=Tryd.t109) (by kernel_rfl) (by kernel_rfl) (by kernel_rfl) (by kernel_rfl) (by kernel_rfl) (fun h=>by cases h)
theorem yY:Cu Tryd.prog 118 iN:=Cu.by Tryd.underlying118 (inf:=Tryd.t118) (by kernel_rfl) (by kernel_rfl) (by kernel_rfl) (by kernel_rfl) (by kernel_rfl) (fun h=>by cases h)
theorem DT:Jm Tryd.prog tt:=Jm.of_all (t:=AdT) ⟨trivial,⟨trivial,⟨AhI,⟨trivial,⟨trivial,trivial,⟨trivial,⟨AfJ,trivial,trivial⟩,trivial⟩⟩,trivial⟩,⟨trivial,⟨trivial,⟨AfC,trivial,⟨AfN,trivial,trivial⟩⟩,trivial⟩,⟨Afz,trivial,⟨trivial,⟨AfL,trivial,trivial⟩,trivial⟩⟩⟩⟩,⟨AhK,⟨AhL,trivial,⟨Afy,trivial,trivial⟩⟩,⟨trivial,⟨trivial,⟨trivial,⟨AfF,trivial,trivial⟩,trivial⟩,trivial⟩,⟨trivial,⟨trivial,⟨AfI,trivial,trivial⟩,⟨yX,trivial,trivial⟩⟩,⟨AfD,trivial,trivial⟩⟩⟩⟩⟩,⟨trivial,⟨AhJ,⟨trivial,⟨trivial,⟨AfB,trivial,trivial⟩,trivial⟩,⟨Afx,⟨trivial,⟨AfG,trivial,trivial⟩,trivial⟩,trivial⟩⟩,⟨trivial,⟨trivial,⟨trivial,trivial,⟨yU,trivial,trivial⟩⟩,trivial⟩,trivial⟩⟩,⟨trivial,⟨trivial,⟨trivial,⟨trivial,⟨AfE,trivial,trivial⟩,⟨AfM,trivial,trivial⟩⟩,trivial⟩,⟨trivial,⟨trivial,⟨AfH,trivial,trivial⟩,trivial⟩,trivial⟩⟩,⟨trivial,⟨Afw,⟨trivial,trivial,⟨yV,trivial,trivial⟩⟩,⟨trivial,⟨AfK,trivial,trivial⟩,⟨yY,trivial,trivial⟩⟩⟩,⟨AfA,trivial,trivial⟩⟩⟩⟩⟩
theorem AfO:AdU.All (Ar Tryd.prog [0]):=⟨trivial,⟨trivial,⟨AeY,⟨trivial,⟨iU,⟨Ae6,⟨Afm,trivial,trivial⟩,trivial⟩,⟨Aff,trivial,trivial⟩⟩,⟨Ae2,⟨Ae8,⟨lK,trivial,trivial⟩,trivial⟩,⟨Afh,⟨lN,trivial,trivial⟩,trivial⟩⟩⟩,⟨iP,⟨iY,⟨jE,⟨Afo,trivial,trivial⟩,trivial⟩,⟨kS,trivial,trivial⟩⟩,⟨trivial,⟨Afc,⟨Afq,trivial,trivial⟩,trivial⟩,⟨kW,trivial,trivial⟩⟩⟩⟩,⟨trivial,⟨AeZ,⟨iW,⟨jC,⟨kY,trivial,trivial⟩,trivial⟩,⟨kR,trivial,trivial⟩⟩,⟨trivial,⟨Afa,⟨Afp,trivial,trivial⟩,trivial⟩,⟨Afj,trivial,trivial⟩⟩⟩,⟨iR,⟨Ae1,⟨jK,⟨lI,trivial,trivial⟩,trivial⟩,⟨kU,trivial,trivial⟩⟩,⟨Ae4,⟨jL,trivial,trivial⟩,⟨Afk,trivial,trivial⟩⟩⟩⟩⟩,⟨trivial,⟨trivial,⟨trivial,⟨iV,⟨jA,⟨Afn,trivial,trivial⟩,trivial⟩,⟨kQ,trivial,trivial⟩⟩,⟨Ae3,⟨Ae9,trivial,trivial⟩,⟨Afi,⟨Afu,trivial,trivial⟩,trivial⟩⟩⟩,⟨iQ,⟨Ae0,⟨jJ,⟨lH,trivial,trivial⟩,trivial⟩,⟨kT,trivial,trivial⟩⟩,⟨trivial,⟨Afd,⟨Afr,trivial,trivial⟩,trivial⟩,⟨kX,trivial,trivial⟩⟩⟩⟩,⟨trivial,⟨iO,⟨iX,⟨jD,⟨kZ,trivial,trivial⟩,trivial⟩,⟨Afg,trivial,trivial⟩⟩,⟨trivial,⟨Afb,⟨lL,trivial,trivial⟩,trivial⟩,⟨kV,trivial,trivial⟩⟩⟩,⟨iT,⟨iZ,⟨Ae7,⟨lJ,trivial,trivial⟩,trivial⟩,⟨trivial,⟨Afs,trivial,trivial⟩,trivial⟩⟩,⟨Ae5,⟨Afe,⟨lM,trivial,trivial⟩,trivial⟩,⟨Afl,⟨Afv,trivial,trivial⟩,trivial⟩⟩⟩⟩⟩⟩
theorem UA (f:FuncId) (r:Xq) (h:Jf f=some r):Ar Tryd.prog [0] f r:=AfO.get h
end Go.Proofs.YtokbaaeimejjlaaDoor.BkO
set_option maxRecDepth 100000
namespace Go.Proofs.YtokbaaeimejjlaaDoor.BkO
open Go Go.Sp Go.BkOM Go.BkO
noncomputable section
theorem fk3:Ar Tryd.prog (List.range tabs.length) 3 ⟨244,RV,[.tmp 2]⟩:=by
 have h:c3=RV:=by kernel_rfl
 rw[←h];exact AeY
theorem fk9:Ar Tryd.prog (List.range tabs.length) 9 ⟨79,WA,[.cell 6 27,.tmp 7]⟩:=by
 have h:c9=WA:=by kernel_rfl
 rw[←h];exact AeZ
theorem AfP:Ar Tryd.prog (List.range tabs.length) 10 ⟨103,RX,[.tmp 8]⟩:=by
 have h:c10=RX:=by kernel_rfl
 rw[←h];exact iO
theorem AfQ:Ar Tryd.prog (List.range tabs.length) 11 ⟨34,RY,[.tmp 6,.tmp 7]⟩:=by
 have h:c11=RY:=by kernel_rfl
 rw[←h];exact iP
theorem AfR:Ar Tryd.prog (List.range tabs.length) 13 ⟨30,RZ,[.tmp 4]⟩:=by
 have h:c13=RZ:=by kernel_rfl
 rw[←h];exact iR
theorem AfS:Ar Tryd.prog (List.range tabs.length) 14 ⟨21,R4,[.tmp 4,.tmp 5]⟩:=by
 have h:c14=R4:=by kernel_rfl
 rw[←h];exact iT
theorem AfT:Ar Tryd.prog (List.range tabs.length) 15 ⟨43,R5,[.tmp 4,.tmp 5]⟩:=by
 have h:c15=R5:=by kernel_rfl
 rw[←h];exact iU
theorem AfU:Ar Tryd.prog (List.range tabs.length) 17 ⟨23,R6,[.tmp 4,.tmp 5]⟩:=by
 have h:c17=R6:=by kernel_rfl
 rw[←h];exact iW
theorem AfV:Ar Tryd.prog (List.range tabs.length) 18 ⟨42,R7,[.tmp 6,.tmp 7]⟩:=by
 have h:c18=R7:=by kernel_rfl
 rw[←h];exact iX
theorem AfW:Ar Tryd.prog (List.range tabs.length) 22 ⟨4,WB,[.tmp 2]⟩:=by
 have h:c22=WB:=by kernel_rfl
 rw[←h];exact iZ
theorem AfX:Ar Tryd.prog (List.range tabs.length) 32 ⟨33,R8,[.tmp 4,.tmp 5]⟩:=by
 have h:c32=R8:=by kernel_rfl
 rw[←h];exact jA
theorem AfY:Ar Tryd.prog (List.range tabs.length) 33 ⟨19,R9,[.tmp 4]⟩:=by
 have h:c33=R9:=by kernel_rfl
 rw[←h];exact jC
theorem AfZ:Ar Tryd.prog (List.range tabs.length) 34 ⟨35,Sa,[.tmp 6]⟩:=by
 have h:c34=Sa:=by kernel_rfl
 rw[←h];exact jD
theorem Af0:Ar Tryd.prog (List.range tabs.length) 35 ⟨28,Sb,[.tmp 4]⟩:=by
 have h:c35=Sb:=by kernel_rfl
 rw[←h];exact jE
theorem Af1:Ar Tryd.prog (List.range tabs.length) 36 ⟨38,Sc,[.tmp 6]⟩:=by
 have h:c36=Sc:=by kernel_rfl
 rw[←h];exact jJ
theorem Af2:Ar Tryd.prog (List.range tabs.length) 37 ⟨26,Sd,[.tmp 4]⟩:=by
 have h:c37=Sd:=by kernel_rfl
 rw[←h];exact jK
theorem Af3:Ar Tryd.prog (List.range tabs.length) 45 ⟨36,Sg,[.tmp 4]⟩:=by
 have h:c45=Sg:=by kernel_rfl
 rw[←h];exact jL
theorem Af4:Ar Tryd.prog (List.range tabs.length) 48 ⟨15,WC,[.tmp 6]⟩:=by
 have h:c48=WC:=by kernel_rfl
 rw[←h];exact kQ
theorem Af5:Ar Tryd.prog (List.range tabs.length) 49 ⟨110,Si,[.tmp 2,.tmp 3]⟩:=by
 have h:c49=Si:=by kernel_rfl
 rw[←h];exact kR
theorem Af6:Ar Tryd.prog (List.range tabs.length) 51 ⟨18,Sj,[.cell 2 86]⟩:=by
 have h:c51=Sj:=by kernel_rfl
 rw[←h];exact kS
theorem Af7:Ar Tryd.prog (List.range tabs.length) 52 ⟨22,WE,[.cell 4 86]⟩:=by
 have h:c52=WE:=by kernel_rfl
 rw[←h];exact kT
theorem Af8:Ar Tryd.prog (List.range tabs.length) 53 ⟨22,Sk,[.tmp 2]⟩:=by
 have h:c53=Sk:=by kernel_rfl
 rw[←h];exact kU
theorem Af9:Ar Tryd.prog (List.range tabs.length) 58 ⟨34,Sm,[.tmp 4]⟩:=by
 have h:c58=Sm:=by kernel_rfl
 rw[←h];exact kV
theorem Aga:Ar Tryd.prog (List.range tabs.length) 65 ⟨20,Sn,[.tmp 4]⟩:=by
 have h:c65=Sn:=by kernel_rfl
 rw[←h];exact kY
theorem Agb:Ar Tryd.prog (List.range tabs.length) 68 ⟨25,Sq,[.tmp 2]⟩:=by
 have h:c68=Sq:=by kernel_rfl
 rw[←h];exact lH
theorem Agc:Ar Tryd.prog (List.range tabs.length) 69 ⟨25,Sr,[.tmp 2]⟩:=by
 have h:c69=Sr:=by kernel_rfl
 rw[←h];exact lI
theorem Agd:Ar Tryd.prog (List.range tabs.length) 71 ⟨8,WF,[.tmp 2]⟩:=by
 have h:c71=WF:=by kernel_rfl
 rw[←h];exact lK
theorem Agf:Ar Tryd.prog (List.range tabs.length) 74 ⟨6,WG,[.tmp 2]⟩:=by
 have h:c74=WG:=by kernel_rfl
 rw[←h];exact lL
theorem Agg:Ar Tryd.prog (List.range tabs.length) 87 ⟨25,Sz,[.tmp 2]⟩:=by
 have h:c87=Sz:=by kernel_rfl
 rw[←h];exact lN
theorem Agh:Ar Tryd.prog (List.range tabs.length) 12 ⟨26,OO,[.tmp 4]⟩:=by
 have h:c12=OO:=by kernel_rfl
 rw[←h];exact iQ
theorem Agi:Ar Tryd.prog (List.range tabs.length) 16 ⟨27,OP,[.tmp 4]⟩:=by
 have h:c16=OP:=by kernel_rfl
 rw[←h];exact iV
theorem Agj:Ar Tryd.prog (List.range tabs.length) 59 ⟨14,TZ,[]⟩:=by
 have h:c59=TZ:=by kernel_rfl
 rw[←h];exact kW
theorem Agk:Ar Tryd.prog (List.range tabs.length) 70 ⟨148,OQ,[]⟩:=by
 have h:c70=OQ:=by kernel_rfl
 rw[←h];exact lJ
theorem Agl:Ar Tryd.prog (List.range tabs.length) 78 ⟨53,OT,[]⟩:=by
 have h:c78=OT:=by kernel_rfl
 rw[←h];exact lM
theorem Agm:Ar Tryd.prog (List.range tabs.length) 60 ⟨66,OU,[.tmp 4]⟩:=by
 have h:c60=OU:=by kernel_rfl
 rw[←h];exact kX
theorem FX:∀ t∈tabs,t≠[]:=by intro t ht;simp[tabs] at ht;subst ht;intro h;cases h
theorem FY:∀ t∈tabs,∀ x∈t,BR x=true:=by intro t ht x hx;simp[tabs] at ht;subst ht;simp[VY] at hx;rcases hx with rfl | rfl | rfl | rfl | rfl | rfl | rfl | rfl | rfl | rfl | rfl | rfl | rfl | rfl | rfl | rfl | rfl | rfl | rfl | rfl | rfl | rfl | rfl | rfl | rfl | rfl | rfl | rfl | rfl | rfl | rfl | rfl <;> rfl
theorem yZ (hm:Tryd.prog.follows .mixedOrders=true) {pu:Af} (hg22:BA Tryd.prog tabs 22 (pu 22)) (hg77:BA Tryd.prog tabs 77 (pu 77)) (hg32:BA Tryd.prog tabs 32 (pu 32)) (h0:Cn Tryd.prog tabs 2 0 12 (pu 10120)) (h1:Cn Tryd.prog tabs 2 0 16 (pu 10160)) (h2:Cn Tryd.prog tabs 2 1 59 (pu 10590)) (h3:Cn Tryd.prog tabs 5 1 70 (pu 10700)) (h4:Cn Tryd.prog tabs 4 1 78 (pu 10780)) (h5:Cn Tryd.prog tabs 2 1 60 (pu 10600)):CO Tryd.prog (List.range tabs.length) (inl pu):=fun g args H v H' h=>by
 replace h:bb (Nat.beq g 22) (Hr tabs 1 (pu 22) args H) (bb (Nat.beq g 77) (Hr tabs 1 (pu 77) args H) (bb (Nat.beq g 32) (Hr tabs 1 (pu 32) args H) (bb (Nat.beq g 12) (EK tabs [[some 1],[some 1]] 2 [] [] (pu 10120) args H) (bb (Nat.beq g 16) (EK tabs [[some 1],[some 1]] 2 [] [] (pu 10160) args H) (bb (Nat.beq g 59) (EK tabs [[none],[none]] 2 [.tmp 0 false] [false] (pu 10590) args H) (bb (Nat.beq g 70) (EK tabs [[none],[none],[none],[none],[none]] 5 [.tmp 0 false] [false] (pu 10700) args H) (bb (Nat.beq g 78) (EK tabs [[none],[none],[none],[none]] 4 [.tmp 0 false] [false] (pu 10780) args H) (bb (Nat.beq g 60) (EK tabs [[none],[none]] 2 [.tmp 0 false] [false] (pu 10600) args H) (none)))))))))=some (v,H'):=h
 have hq:=Ag h;clear h;rcases hq with⟨e,h⟩ | ⟨_,h⟩
 ·obtain rfl:=Nat.eq_of_beq_eq_true e
  exact Og FX FY hg22 h
 have hq:=Ag h;clear h;rcases hq with⟨e,h⟩ | ⟨_,h⟩
 ·obtain rfl:=Nat.eq_of_beq_eq_true e
  exact Og FX FY hg77 h
 have hq:=Ag h;clear h;rcases hq with⟨e,h⟩ | ⟨_,h⟩
 ·obtain rfl:=Nat.eq_of_beq_eq_true e
  exact Og FX FY hg32 h
 have hq:=Ag h;clear h;rcases hq with⟨e,h⟩ | ⟨_,h⟩
 ·obtain rfl:=Nat.eq_of_beq_eq_true e
  exact Ip (rs:=[]) FX FY h0 h
 have hq:=Ag h;clear h;rcases hq with⟨e,h⟩ | ⟨_,h⟩
 ·obtain rfl:=Nat.eq_of_beq_eq_true e
  exact Ip (rs:=[]) FX FY h1 h
 have hq:=Ag h;clear h;rcases hq with⟨e,h⟩ | ⟨_,h⟩
 ·obtain rfl:=Nat.eq_of_beq_eq_true e
  exact Ip (rs:=[.tmp 0 false]) FX FY h2 h
 have hq:=Ag h;clear h;rcases hq with⟨e,h⟩ | ⟨_,h⟩
 ·obtain rfl:=Nat.eq_of_beq_eq_true e
  exact Ip (rs:=[.tmp 0 false]) FX FY h3 h
 have hq:=Ag h;clear h;rcases hq with⟨e,h⟩ | ⟨_,h⟩
 ·obtain rfl:=Nat.eq_of_beq_eq_true e
  exact Ip (rs:=[.tmp 0 false]) FX FY h4 h
 have hq:=Ag h;clear h;rcases hq with⟨e,h⟩ | ⟨_,h⟩
 ·obtain rfl:=Nat.eq_of_beq_eq_true e
  exact Ip (rs:=[.tmp 0 false]) FX FY h5 h
 cases h
theorem fM (hm:Tryd.prog.follows .mixedOrders=true) (hw:BA Tryd.prog tabs 19 Uc∧BA Tryd.prog tabs 66 Ud∧BA Tryd.prog tabs 77 Ue) {pu:Af} (hall:(∀ g,isP g=true→BA Tryd.prog tabs g (pu g))∧BA Tryd.prog tabs 22 (pu 22)∧BA Tryd.prog tabs 77 (pu 77)∧BA Tryd.prog tabs 32 (pu 32)∧Cn Tryd.prog tabs 2 0 12 (pu 10120)∧Cn Tryd.prog tabs 2 0 16 (pu 10160)∧Cn Tryd.prog tabs 2 1 59 (pu 10590)∧Cn Tryd.prog tabs 5 1 70 (pu 10700)∧Cn Tryd.prog tabs 4 1 78 (pu 10780)∧Cn Tryd.prog tabs 2 1 60 (pu 10600)):(∀ g,isP g=true→BA Tryd.prog tabs g (Ph pu g))∧BA Tryd.prog tabs 22 (Ph pu 22)∧BA Tryd.prog tabs 77 (Ph pu 77)∧BA Tryd.prog tabs 32 (Ph pu 32)∧Cn Tryd.prog tabs 2 0 12 (Ph pu 10120)∧Cn Tryd.prog tabs 2 0 16 (Ph pu 10160)∧Cn Tryd.prog tabs 2 1 59 (Ph pu 10590)∧Cn Tryd.prog tabs 5 1 70 (Ph pu 10700)∧Cn Tryd.prog tabs 4 1 78 (Ph pu 10780)∧Cn Tryd.prog tabs 2 1 60 (Ph pu 10600):=by
 obtain⟨hpu,hg22,hg77,hg32,h0,h4,h5,h6,h7,h8⟩:=hall
 have hcall:=TG (P:=Tryd.prog) (tabs:=tabs) FX FY (yZ hm hg22 hg77 hg32 h0 h4 h5 h6 h7 h8) hpu
 refine⟨fun g hg=>?_,?_,?_,?_,?_,?_,?_,?_,?_,?_⟩
 ·have hg:g∈Uf:=CS.1 hg
  simp only[Uf,List.mem_cons,List.not_mem_nil,or_false] at hg
  rcases hg with rfl | rfl | rfl | rfl | rfl | rfl | rfl | rfl | rfl | rfl | rfl | rfl | rfl | rfl | rfl | rfl | rfl | rfl | rfl | rfl | rfl | rfl | rfl | rfl | rfl | rfl | rfl | rfl | rfl
  ·exact Aw (tabs:=tabs) (f:=m3 pu L) DT hm hcall fk3 fun args v h hc=>r3 pu L rfl h hc
  ·exact Aw (tabs:=tabs) (f:=m9 pu L) DT hm hcall fk9 fun args v h hc=>r9 pu L rfl h hc
  ·exact Aw (tabs:=tabs) (f:=m10 pu L) DT hm hcall AfP fun args v h hc=>r10 pu L rfl h hc
  ·exact Aw (tabs:=tabs) (f:=m11 pu L) DT hm hcall AfQ fun args v h hc=>r11 pu L rfl h hc
  ·exact Aw (tabs:=tabs) (f:=m13 pu L) DT hm hcall AfR fun args v h hc=>r13 pu L rfl h hc
  ·exact Aw (tabs:=tabs) (f:=m14 pu L) DT hm hcall AfS fun args v h hc=>r14 pu L rfl h hc
  ·exact Aw (tabs:=tabs) (f:=m15 pu L) DT hm hcall AfT fun args v h hc=>r15 pu L rfl h hc
  ·exact Aw (tabs:=tabs) (f:=m17 pu L) DT hm hcall AfU fun args v h hc=>r17 pu L rfl h hc
  ·exact Aw (tabs:=tabs) (f:=m18 pu L) DT hm hcall AfV fun args v h hc=>r18 pu L rfl h hc
  ·exact hw.1
  ·exact Aw (tabs:=tabs) (f:=m33 pu L) DT hm hcall AfY fun args v h hc=>r33 pu L rfl h hc
  ·exact Aw (tabs:=tabs) (f:=m34 pu L) DT hm hcall AfZ fun args v h hc=>r34 pu L rfl h hc
  ·exact Aw (tabs:=tabs) (f:=m35 pu L) DT hm hcall Af0 fun args v h hc=>r35 pu L rfl h hc
  ·exact Aw (tabs:=tabs) (f:=m36 pu L) DT hm hcall Af1 fun args v h hc=>r36 pu L rfl h hc
  ·exact Aw (tabs:=tabs) (f:=m37 pu L) DT hm hcall Af2 fun args v h hc=>r37 pu L rfl h hc
  ·exact Aw (tabs:=tabs) (f:=m45 pu L) DT hm hcall Af3 fun args v h hc=>r45 pu L rfl h hc
  ·exact Aw (tabs:=tabs) (f:=m48 pu L) DT hm hcall Af4 fun args v h hc=>r48 pu L rfl h hc
  ·exact Aw (tabs:=tabs) (f:=m49 pu L) DT hm hcall Af5 fun args v h hc=>r49 pu L rfl h hc
  ·exact Aw (tabs:=tabs) (f:=m51 pu L) DT hm hcall Af6 fun args v h hc=>r51 pu L rfl h hc
  ·exact Aw (tabs:=tabs) (f:=m52 pu L) DT hm hcall Af7 fun args v h hc=>r52 pu L rfl h hc
  ·exact Aw (tabs:=tabs) (f:=m53 pu L) DT hm hcall Af8 fun args v h hc=>r53 pu L rfl h hc
  ·exact Aw (tabs:=tabs) (f:=m58 pu L) DT hm hcall Af9 fun args v h hc=>r58 pu L rfl h hc
  ·exact Aw (tabs:=tabs) (f:=m65 pu L) DT hm hcall Aga fun args v h hc=>r65 pu L rfl h hc
  ·exact hw.2.1
  ·exact Aw (tabs:=tabs) (f:=m68 pu L) DT hm hcall Agb fun args v h hc=>r68 pu L rfl h hc
  ·exact Aw (tabs:=tabs) (f:=m69 pu L) DT hm hcall Agc fun args v h hc=>r69 pu L rfl h hc
  ·exact Aw (tabs:=tabs) (f:=m71 pu L) DT hm hcall Agd fun args v h hc=>r71 pu L rfl h hc
  ·exact Aw (tabs:=tabs) (f:=m74 pu L) DT hm hcall Agf fun args v h hc=>r74 pu L rfl h hc
  ·exact Aw (tabs:=tabs) (f:=m87 pu L) DT hm hcall Agg fun args v h hc=>r87 pu L rfl h hc
 ·exact Aw (tabs:=tabs) (f:=m22 pu L) DT hm hcall AfW fun args v h hc=>r22 pu L rfl h hc
 ·exact hw.2.2
 ·exact Aw (tabs:=tabs) (f:=m32 pu L) DT hm hcall AfX fun args v h hc=>r32 pu L rfl h hc
 ·exact Dx (tabs:=tabs) (f:=MF pu L) DT hm hcall Agh fun args os z h1 h2 h3 h=>yK pu L rfl h1 h2 h3 h
 ·exact Dx (tabs:=tabs) (f:=MG pu L) DT hm hcall Agi fun args os z h1 h2 h3 h=>yL pu L rfl h1 h2 h3 h
 ·exact Dx (tabs:=tabs) (f:=MH pu L) DT hm hcall Agj fun args os z h1 h2 h3 h=>yN pu L rfl h1 h2 h3 h
 ·exact Dx (tabs:=tabs) (f:=MI pu L) DT hm hcall Agk fun args os z h1 h2 h3 h=>yP pu L rfl h1 h2 h3 h
 ·exact Dx (tabs:=tabs) (f:=MJ pu L) DT hm hcall Agl fun args os z h1 h2 h3 h=>yR pu L rfl h1 h2 h3 h
 ·exact Dx (tabs:=tabs) (f:=MK pu L) DT hm hcall Agm fun args os z h1 h2 h3 h=>yT pu L rfl h1 h2 h3 h
theorem zA (hm:Tryd.prog.follows .mixedOrders=true) (hw:BA Tryd.prog tabs 19 Uc∧BA Tryd.prog tabs 66 Ud∧BA Tryd.prog tabs 77 Ue):∀ n,(∀ g,isP g=true→BA Tryd.prog tabs g (Bp n g))∧BA Tryd.prog tabs 22 (Bp n 22)∧BA Tryd.prog tabs 77 (Bp n 77)∧BA Tryd.prog tabs 32 (Bp n 32)∧Cn Tryd.prog tabs 2 0 12 (Bp n 10120)∧Cn Tryd.prog tabs 2 0 16 (Bp n 10160)∧Cn Tryd.prog tabs 2 1 59 (Bp n 10590)∧Cn Tryd.prog tabs 5 1 70 (Bp n 10700)∧Cn Tryd.prog tabs 4 1 78 (Bp n 10780)∧Cn Tryd.prog tabs 2 1 60 (Bp n 10600):=fun n=>by
 induction n with
 | zero =>
  refine⟨fun g hg=>?_,?_,?_,?_,?_,?_,?_,?_,?_,?_⟩
  ·have hg:g∈Uf:=CS.1 hg
   simp only[Uf,List.mem_cons,List.not_mem_nil,or_false] at hg
   rcases hg with rfl | rfl | rfl | rfl | rfl | rfl | rfl | rfl | rfl | rfl | rfl | rfl | rfl | rfl | rfl | rfl | rfl | rfl | rfl | rfl | rfl | rfl | rfl | rfl | rfl | rfl | rfl | rfl | rfl
   ·exact⟨A9 fk3,fun args v h=>by cases h⟩
   ·exact⟨A9 fk9,fun args v h=>by cases h⟩
   ·exact⟨A9 AfP,fun args v h=>by cases h⟩
   ·exact⟨A9 AfQ,fun args v h=>by cases h⟩
   ·exact⟨A9 AfR,fun args v h=>by cases h⟩
   ·exact⟨A9 AfS,fun args v h=>by cases h⟩
   ·exact⟨A9 AfT,fun args v h=>by cases h⟩
   ·exact⟨A9 AfU,fun args v h=>by cases h⟩
   ·exact⟨A9 AfV,fun args v h=>by cases h⟩
   ·exact⟨(hw.1).1,fun args v h=>by cases h⟩
   ·exact⟨A9 AfY,fun args v h=>by cases h⟩
   ·exact⟨A9 AfZ,fun args v h=>by cases h⟩
   ·exact⟨A9 Af0,fun args v h=>by cases h⟩
   ·exact⟨A9 Af1,fun args v h=>by cases h⟩
   ·exact⟨A9 Af2,fun args v h=>by cases h⟩
   ·exact⟨A9 Af3,fun args v h=>by cases h⟩
   ·exact⟨A9 Af4,fun args v h=>by cases h⟩
   ·exact⟨A9 Af5,fun args v h=>by cases h⟩
   ·exact⟨A9 Af6,fun args v h=>by cases h⟩
   ·exact⟨A9 Af7,fun args v h=>by cases h⟩
   ·exact⟨A9 Af8,fun args v h=>by cases h⟩
   ·exact⟨A9 Af9,fun args v h=>by cases h⟩
   ·exact⟨A9 Aga,fun args v h=>by cases h⟩
   ·exact⟨(hw.2.1).1,fun args v h=>by cases h⟩
   ·exact⟨A9 Agb,fun args v h=>by cases h⟩
   ·exact⟨A9 Agc,fun args v h=>by cases h⟩
   ·exact⟨A9 Agd,fun args v h=>by cases h⟩
   ·exact⟨A9 Agf,fun args v h=>by cases h⟩
   ·exact⟨A9 Agg,fun args v h=>by cases h⟩
  ·exact⟨A9 AfW,fun args v h=>by cases h⟩
  ·exact⟨(hw.2.2).1,fun args v h=>by cases h⟩
  ·exact⟨A9 AfX,fun args v h=>by cases h⟩
  ·exact⟨A9 Agh,fun args os z h1 h2 h3 h=>by cases h⟩
  ·exact⟨A9 Agi,fun args os z h1 h2 h3 h=>by cases h⟩
  ·exact⟨A9 Agj,fun args os z h1 h2 h3 h=>by cases h⟩
  ·exact⟨A9 Agk,fun args os z h1 h2 h3 h=>by cases h⟩
  ·exact⟨A9 Agl,fun args os z h1 h2 h3 h=>by cases h⟩
  ·exact⟨A9 Agm,fun args os z h1 h2 h3 h=>by cases h⟩
 | succ n ih=>exact fM hm hw ih
theorem Agn (hm:Tryd.prog.follows .mixedOrders=true) (hw:BA Tryd.prog tabs 19 Uc∧BA Tryd.prog tabs 66 Ud∧BA Tryd.prog tabs 77 Ue):∀ n g,isP g=true→BA Tryd.prog tabs g (Bp n g):=fun n=>(zA hm hw n).1
end
end Go.Proofs.YtokbaaeimejjlaaDoor.BkO
namespace Go.Proofs
open Go Go.RowKit Go.Shelf
attribute [local go_sem] Oper.semAt_some

def OD {r:Nat} (hr:0 < r) (k:Nat):List (Fin r):=(List.range k).map fun i=>⟨i % r,Nat.mod_lt _ hr⟩
theorem QM {r:Nat} (hr:0 < r) (k:Nat):OD hr (k+1)=OD hr k++[⟨k % r,Nat.mod_lt _ hr⟩]:=by simp[OD,List.range_succ]
theorem bQ {r:Nat} (hr:0 < r) (k:Nat):(OD hr k).length=k:=by simp[OD]

set_option maxRecDepth 100000 in
set_option maxHeartbeats 4000000 in
theorem bR (F:Fence) (n:Nat) (h7:F.fn 106) (hro:F.round=none) (hn:1≤n) (l Bs Bn b off r c N cap:Nat) (hr:0 < r) (hc:1≤c) (hc4:c≤4) (hN:N=r*c) (hrc:N≤16) (hcap:N≤cap) (J Jx:List (Fin r)→World→Prop) (hJd:∀ s W,J s W→J s W.drew)
 (hY : ∀ pre (x : Fin r) W, J pre W → pre.length < r → YieldAt F (n - 1) Tryd.prog l #[.slice (some ⟨b, off + x.1 * c, none⟩) c c] W fun e W' =>
   (e = .returned (.bool true)∧J (pre++[x]) W'∧(W'.cell? ⟨Bs,0,none⟩=W.cell? ⟨Bs,0,none⟩∧W'.cell? ⟨Bn,0,none⟩=W.cell? ⟨Bn,0,none⟩))∨(e = .returned (.bool false)∧Jx (pre++[x]) W'))
 (W:World) (hBs:W.cell? ⟨Bs,0,none⟩=some (.slice (some ⟨b,off,none⟩) N cap)) (hBn:W.cell? ⟨Bn,0,none⟩=some (.int .i64 c)) (h0:J [] W) :
 CallsIn F n Tryd.prog 106 #[.func (.yield l) #[] #[], .pointer (some ⟨Bs, 0, none⟩), .pointer (some ⟨Bn, 0, none⟩)] W fun e W' => (∃ v, e = .returned v) ∧
  ((∃ ys,ys=OD hr r∧J ys W')∨(∃ pre,True∧Jx pre W')):=by
 refine callsIn_of_wp Tryd.func106 rfl h7 ?_ hro
 simp only[Tryd.ntmps106,List.size_toArray,List.length_cons,List.length_nil,Nat.reduceAdd,Nat.reduceSub,Array.replicate_succ,Array.replicate_zero,List.push_toArray,List.append_toArray,List.nil_append,List.cons_append]
 gi_wp2
 gi_loopw [4] (fun i wr => ∃ k q : Nat, k ≤ r ∧ q = k * c ∧ i = .int .i64 q ∧ J (OD hr k) wr ∧ wr.cell? ⟨Bs, 0, none⟩ = some (.slice (some ⟨b, off, none⟩) N cap) ∧ wr.cell? ⟨Bn, 0, none⟩ = some (.int .i64 c))
  (fun i _=>N - (intOf i).toNat)
 case atStart=>exact⟨0,0,Nat.zero_le _,by simp,rfl,h0,hBs,hBn⟩
 case round=>
  obtain⟨k,q,hk,hq,rfl,hJs,hs,hnn⟩:=hrel
  by_cases hlt:k < r
  ·obtain⟨fn,tmps,assign,body,hy,hR⟩:=hY _ ⟨k,hlt⟩ wr.drew (hJd _ _ hJs) (by rw[bQ];exact hlt)
   have e1:q+c≤N:=by rw[hq,hN,←Nat.succ_mul];exact Nat.mul_le_mul_right c hlt
   have hq2:Hid ((k+1)*c=q+c):=by show (k+1)*c=q+c;rw[Nat.succ_mul,hq]
   dsimp only at hy
   rw[←hq] at hy
   have hmod:(⟨k % r,Nat.mod_lt _ hr⟩:Fin r)=⟨k,hlt⟩:=by simp[Nat.mod_eq_of_lt hlt]
   have hJn:Hid (∀ W',J (OD hr k++[⟨k,hlt⟩]) W'→J (OD hr (k+1)) W'):=fun W' h=>by rw[QM,hmod];exact h
   have hnc:c≤N - q:=by omega
   clear hq hN hmod hY hJd hBs hBn h0 hJs
   gi_wp2
   gi_region
   all_goals (try rw[if_neg (show ¬ N - q < c by omega)])
   all_goals gi_wp2
   all_goals
    refine hR.mono ?_
    rintro e W3 (⟨rfl,hJ3,hs3,hn3⟩ | ⟨rfl,hJx3⟩)
    ·have hs4:W3.cell? ⟨Bs,0,none⟩=some (.slice (some ⟨b,off,none⟩) N cap):=hs3.trans hs
     have hn4:W3.cell? ⟨Bn,0,none⟩=some (.int .i64 c):=hn3.trans hnn
     clear hs3 hn3 hs hnn
     gi_wp2
     go_roundw
     case rel=>exact⟨k+1,q+c,by omega,hq2.out.symm,by simp,hJn.out _ hJ3,hs4,hn4⟩
     case measure=>simp[intOf];omega
    ·gi_wp2
     refine bodyPost_ret (results_none rfl _ _ _) rfl ?_
     exact⟨⟨_,rfl⟩,.inr ⟨_,trivial,hJx3⟩⟩
  ·obtain rfl:k=r:=by omega
   obtain rfl:q=N:=by rw[hq,hN]
   gi_wp2
   go_end0
   exact⟨⟨_,rfl⟩,.inl ⟨_,rfl,hJs⟩⟩
end Go.Proofs
