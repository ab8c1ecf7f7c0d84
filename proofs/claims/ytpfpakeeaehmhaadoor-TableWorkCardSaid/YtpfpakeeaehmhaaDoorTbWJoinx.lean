/- Made from wip. -/
import Derived.Test.YtpfpakeeaehmhaaDoorProg
import Derived.Test.YtpfpakeeaehmhaaDoorSpObjx
import Derived.Test.YtpfpakeeaehmhaaDoorTbWCode
import Derived.Test.YtpfpakeeaehmhaaDoorTbWPux

set_option maxRecDepth 100000
namespace Go.Proofs.YtpfpakeeaehmhaaDoor.TbW
open Go Go.Sp Go.TbW
theorem xU:Ar Tryd.prog [0] 7 ⟨140,c7,[.tmp 2]⟩:=Ar.by Tryd.func7 (by kernel_rfl) (by kernel_rfl) Tryd.ntmps7 (by rw[Tryd.results7]) (by kernel_rfl)
theorem xV:Ar Tryd.prog [0] 10 ⟨235,c10,[.tmp 0]⟩:=Ar.by Tryd.func10 (by kernel_rfl) (by kernel_rfl) Tryd.ntmps10 (by rw[Tryd.results10]) (by kernel_rfl)
theorem Yp:Ar Tryd.prog [0] 11 ⟨39,c11,[.tmp 2,.tmp 3]⟩:=Ar.by Tryd.func11 (by kernel_rfl) (by kernel_rfl) Tryd.ntmps11 (by rw[Tryd.results11]) (by kernel_rfl)
theorem Yq:Ar Tryd.prog [0] 13 ⟨53,c13,[.tmp 2,.tmp 3]⟩:=Ar.by Tryd.func13 (by kernel_rfl) (by kernel_rfl) Tryd.ntmps13 (by rw[Tryd.results13]) (by kernel_rfl)
theorem xW:Ar Tryd.prog [0] 15 ⟨61,c15,[.tmp 2,.tmp 3]⟩:=Ar.by Tryd.func15 (by kernel_rfl) (by kernel_rfl) Tryd.ntmps15 (by rw[Tryd.results15]) (by kernel_rfl)
theorem Yr:Ar Tryd.prog [0] 17 ⟨26,c17,[.tmp 4]⟩:=Ar.by Tryd.func17 (by kernel_rfl) (by kernel_rfl) Tryd.ntmps17 (by rw[Tryd.results17]) (by kernel_rfl)
theorem xX:Ar Tryd.prog [0] 18 ⟨27,c18,[.tmp 4]⟩:=Ar.by Tryd.func18 (by kernel_rfl) (by kernel_rfl) Tryd.ntmps18 (by rw[Tryd.results18]) (by kernel_rfl)
theorem xY:Ar Tryd.prog [0] 19 ⟨61,c19,[.tmp 4,.tmp 5,.tmp 6]⟩:=Ar.by Tryd.func19 (by kernel_rfl) (by kernel_rfl) Tryd.ntmps19 (by rw[Tryd.results19]) (by kernel_rfl)
theorem xZ:Ar Tryd.prog [0] 21 ⟨63,c21,[.tmp 4,.tmp 5]⟩:=Ar.by Tryd.func21 (by kernel_rfl) (by kernel_rfl) Tryd.ntmps21 (by rw[Tryd.results21]) (by kernel_rfl)
theorem yA:Ar Tryd.prog [0] 23 ⟨83,c23,[.tmp 2,.tmp 3]⟩:=Ar.by Tryd.func23 (by kernel_rfl) (by kernel_rfl) Tryd.ntmps23 (by rw[Tryd.results23]) (by kernel_rfl)
theorem yB:Ar Tryd.prog [0] 25 ⟨26,c25,[.tmp 4]⟩:=Ar.by Tryd.func25 (by kernel_rfl) (by kernel_rfl) Tryd.ntmps25 (by rw[Tryd.results25]) (by kernel_rfl)
theorem Yt:Ar Tryd.prog [0] 26 ⟨84,c26,[.cell 4 24]⟩:=Ar.by Tryd.func26 (by kernel_rfl) (by kernel_rfl) Tryd.ntmps26 (by rw[Tryd.results26]) (by kernel_rfl)
theorem Yu:Ar Tryd.prog [0] 27 ⟨63,c27,[.tmp 4,.tmp 5]⟩:=Ar.by Tryd.func27 (by kernel_rfl) (by kernel_rfl) Tryd.ntmps27 (by rw[Tryd.results27]) (by kernel_rfl)
theorem Yv:Ar Tryd.prog [0] 32 ⟨66,c32,[.tmp 6,.tmp 7]⟩:=Ar.by Tryd.func32 (by kernel_rfl) (by kernel_rfl) Tryd.ntmps32 (by rw[Tryd.results32]) (by kernel_rfl)
theorem Yw:Ar Tryd.prog [0] 33 ⟨21,c33,[.tmp 2]⟩:=Ar.by Tryd.func33 (by kernel_rfl) (by kernel_rfl) Tryd.ntmps33 (by rw[Tryd.results33]) (by kernel_rfl)
theorem yC:Ar Tryd.prog [0] 35 ⟨9,c35,[.tmp 2]⟩:=Ar.by Tryd.func35 (by kernel_rfl) (by kernel_rfl) Tryd.ntmps35 (by rw[Tryd.results35]) (by kernel_rfl)
theorem Yx:Ar Tryd.prog [0] 36 ⟨8,c36,[]⟩:=Ar.by Tryd.func36 (by kernel_rfl) (by kernel_rfl) Tryd.ntmps36 (by rw[Tryd.results36]) (by kernel_rfl)
theorem Yy:Ar Tryd.prog [0] 37 ⟨60,c37,[]⟩:=Ar.by Tryd.func37 (by kernel_rfl) (by kernel_rfl) Tryd.ntmps37 (by rw[Tryd.results37]) (by kernel_rfl)
theorem Yz:Ar Tryd.prog [0] 38 ⟨9,c38,[.tmp 4]⟩:=Ar.by Tryd.func38 (by kernel_rfl) (by kernel_rfl) Tryd.ntmps38 (by rw[Tryd.results38]) (by kernel_rfl)
theorem YA:Ar Tryd.prog [0] 39 ⟨35,c39,[]⟩:=Ar.by Tryd.func39 (by kernel_rfl) (by kernel_rfl) Tryd.ntmps39 (by rw[Tryd.results39]) (by kernel_rfl)
theorem YB:Ar Tryd.prog [0] 46 ⟨19,Sk,[.tmp 2,.tmp 3]⟩:=Ar.by Tryd.func46 (by kernel_rfl) (by kernel_rfl) Tryd.ntmps46 (by rw[Tryd.results46]) (by kernel_rfl)
theorem yD:Ar Tryd.prog [0] 47 ⟨25,c47,[.tmp 2,.tmp 3]⟩:=Ar.by Tryd.func47 (by kernel_rfl) (by kernel_rfl) Tryd.ntmps47 (by rw[Tryd.results47]) (by kernel_rfl)
theorem yE:Ar Tryd.prog [0] 48 ⟨40,Sn,[.tmp 2,.tmp 3]⟩:=Ar.by Tryd.func48 (by kernel_rfl) (by kernel_rfl) Tryd.ntmps48 (by rw[Tryd.results48]) (by kernel_rfl)
theorem yF:Ar Tryd.prog [0] 49 ⟨20,c49,[.tmp 4]⟩:=Ar.by Tryd.func49 (by kernel_rfl) (by kernel_rfl) Tryd.ntmps49 (by rw[Tryd.results49]) (by kernel_rfl)
theorem yG:Ar Tryd.prog [0] 50 ⟨3,c50,[.cell 0 24]⟩:=Ar.by Tryd.func50 (by kernel_rfl) (by kernel_rfl) Tryd.ntmps50 (by rw[Tryd.results50]) (by kernel_rfl)
end Go.Proofs.YtpfpakeeaehmhaaDoor.TbW
set_option maxRecDepth 100000
namespace Go.Proofs.YtpfpakeeaehmhaaDoor.TbW
open Go Go.Sp Go.TbW
theorem yH:Ar Tryd.prog [0] 51 ⟨4,c51,[.tmp 2]⟩:=Ar.by Tryd.func51 (by kernel_rfl) (by kernel_rfl) Tryd.ntmps51 (by rw[Tryd.results51]) (by kernel_rfl)
theorem yI:Ar Tryd.prog [0] 52 ⟨3,c52,[.cell 0 24]⟩:=Ar.by Tryd.func52 (by kernel_rfl) (by kernel_rfl) Tryd.ntmps52 (by rw[Tryd.results52]) (by kernel_rfl)
theorem yJ:Ar Tryd.prog [0] 53 ⟨32,c53,[.cell 4 24]⟩:=Ar.by Tryd.func53 (by kernel_rfl) (by kernel_rfl) Tryd.ntmps53 (by rw[Tryd.results53]) (by kernel_rfl)
theorem yK:Ar Tryd.prog [0] 54 ⟨4,c54,[.tmp 2]⟩:=Ar.by Tryd.func54 (by kernel_rfl) (by kernel_rfl) Tryd.ntmps54 (by rw[Tryd.results54]) (by kernel_rfl)
theorem YC:Ar Tryd.prog [0] 55 ⟨46,c55,[.tmp 2]⟩:=Ar.by Tryd.func55 (by kernel_rfl) (by kernel_rfl) Tryd.ntmps55 (by rw[Tryd.results55]) (by kernel_rfl)
theorem Zt:Ar Tryd.prog [0] 56 ⟨38,c56,[.cell 2 86]⟩:=Ar.by Tryd.func56 (by kernel_rfl) (by kernel_rfl) Tryd.ntmps56 (by rw[Tryd.results56]) (by kernel_rfl)
theorem Zu:Ar Tryd.prog [0] 57 ⟨41,c57,[.cell 4 86]⟩:=Ar.by Tryd.func57 (by kernel_rfl) (by kernel_rfl) Tryd.ntmps57 (by rw[Tryd.results57]) (by kernel_rfl)
theorem Zv:Ar Tryd.prog [0] 60 ⟨21,QJ,[.cell 4 86]⟩:=Ar.by Tryd.func60 (by kernel_rfl) (by kernel_rfl) Tryd.ntmps60 (by rw[Tryd.results60]) (by kernel_rfl)
theorem Zw:Ar Tryd.prog [0] 61 ⟨38,c61,[.tmp 4]⟩:=Ar.by Tryd.func61 (by kernel_rfl) (by kernel_rfl) Tryd.ntmps61 (by rw[Tryd.results61]) (by kernel_rfl)
theorem Zx:Ar Tryd.prog [0] 64 ⟨17,c64,[.cell 2 86,.tmp 3]⟩:=Ar.by Tryd.func64 (by kernel_rfl) (by kernel_rfl) Tryd.ntmps64 (by rw[Tryd.results64]) (by kernel_rfl)
theorem Zy:Ar Tryd.prog [0] 65 ⟨15,c65,[.tmp 6]⟩:=Ar.by Tryd.func65 (by kernel_rfl) (by kernel_rfl) Tryd.ntmps65 (by rw[Tryd.results65]) (by kernel_rfl)
theorem yL:Ar Tryd.prog [0] 66 ⟨8,c66,[.tmp 2]⟩:=Ar.by Tryd.func66 (by kernel_rfl) (by kernel_rfl) Tryd.ntmps66 (by rw[Tryd.results66]) (by kernel_rfl)
theorem yM:Ar Tryd.prog [0] 69 ⟨26,c69,[.tmp 4]⟩:=Ar.by Tryd.func69 (by kernel_rfl) (by kernel_rfl) Tryd.ntmps69 (by rw[Tryd.results69]) (by kernel_rfl)
theorem yN:Ar Tryd.prog [0] 73 ⟨8,c73,[.tmp 2]⟩:=Ar.by Tryd.func73 (by kernel_rfl) (by kernel_rfl) Tryd.ntmps73 (by rw[Tryd.results73]) (by kernel_rfl)
theorem Zz:Ar Tryd.prog [0] 74 ⟨17,c74,[.tmp 4]⟩:=Ar.by Tryd.func74 (by kernel_rfl) (by kernel_rfl) Tryd.ntmps74 (by rw[Tryd.results74]) (by kernel_rfl)
theorem ZA:Ar Tryd.prog [0] 75 ⟨29,c75,[]⟩:=Ar.by Tryd.func75 (by kernel_rfl) (by kernel_rfl) Tryd.ntmps75 (by rw[Tryd.results75]) (by kernel_rfl)
theorem ZB:Ar Tryd.prog [0] 76 ⟨9,c76,[.tmp 2]⟩:=Ar.by Tryd.func76 (by kernel_rfl) (by kernel_rfl) Tryd.ntmps76 (by rw[Tryd.results76]) (by kernel_rfl)
theorem ZC:Ar Tryd.prog [0] 77 ⟨19,c77,[.tmp 4]⟩:=Ar.by Tryd.func77 (by kernel_rfl) (by kernel_rfl) Tryd.ntmps77 (by rw[Tryd.results77]) (by kernel_rfl)
theorem yO:Ar Tryd.prog [0] 79 ⟨8,c79,[.tmp 2]⟩:=Ar.by Tryd.func79 (by kernel_rfl) (by kernel_rfl) Tryd.ntmps79 (by rw[Tryd.results79]) (by kernel_rfl)
theorem yP:Ar Tryd.prog [0] 81 ⟨43,c81,[.tmp 4]⟩:=Ar.by Tryd.func81 (by kernel_rfl) (by kernel_rfl) Tryd.ntmps81 (by rw[Tryd.results81]) (by kernel_rfl)
theorem yQ:Ar Tryd.prog [0] 82 ⟨11,Jf,[]⟩:=Ar.by Tryd.func82 (by kernel_rfl) (by kernel_rfl) Tryd.ntmps82 (by rw[Tryd.results82]) (by kernel_rfl)
theorem yR:Ar Tryd.prog [0] 83 ⟨61,c83,[.tmp 2]⟩:=Ar.by Tryd.func83 (by kernel_rfl) (by kernel_rfl) Tryd.ntmps83 (by rw[Tryd.results83]) (by kernel_rfl)
theorem ZE:Ar Tryd.prog [0] 85 ⟨14,c85,[.tmp 2]⟩:=Ar.by Tryd.func85 (by kernel_rfl) (by kernel_rfl) Tryd.ntmps85 (by rw[Tryd.results85]) (by kernel_rfl)
theorem yS:Ar Tryd.prog [0] 86 ⟨21,c86,[.tmp 2]⟩:=Ar.by Tryd.func86 (by kernel_rfl) (by kernel_rfl) Tryd.ntmps86 (by rw[Tryd.results86]) (by kernel_rfl)
theorem yT:Ar Tryd.prog [0] 87 ⟨35,c87,[.tmp 2]⟩:=Ar.by Tryd.func87 (by kernel_rfl) (by kernel_rfl) Tryd.ntmps87 (by rw[Tryd.results87]) (by kernel_rfl)
end Go.Proofs.YtpfpakeeaehmhaaDoor.TbW
set_option maxRecDepth 100000
namespace Go.Proofs.YtpfpakeeaehmhaaDoor.TbW
open Go Go.Sp Go.TbW
theorem ZF:Ar Tryd.prog [0] 89 ⟨6,c89,[.tmp 2]⟩:=Ar.by Tryd.func89 (by kernel_rfl) (by kernel_rfl) Tryd.ntmps89 (by rw[Tryd.results89]) (by kernel_rfl)
theorem yU:Ar Tryd.prog [0] 98 ⟨19,c98,[.tmp 2]⟩:=Ar.by Tryd.func98 (by kernel_rfl) (by kernel_rfl) Tryd.ntmps98 (by rw[Tryd.results98]) (by kernel_rfl)
theorem yV:Ar Tryd.prog [0] 99 ⟨25,c99,[.tmp 2]⟩:=Ar.by Tryd.func99 (by kernel_rfl) (by kernel_rfl) Tryd.ntmps99 (by rw[Tryd.results99]) (by kernel_rfl)
theorem mD:Ar Tryd.prog [0] 100 ⟨134,vN,[]⟩:=Ar.by Tryd.func100 (by kernel_rfl) (by kernel_rfl) Tryd.ntmps100 (by rw[Tryd.results100]) (by kernel_rfl)
theorem mE:Ar Tryd.prog [0] 102 ⟨7,vO,[.tmp 2]⟩:=Ar.by Tryd.func102 (by kernel_rfl) (by kernel_rfl) Tryd.ntmps102 (by rw[Tryd.results102]) (by kernel_rfl)
theorem mF:Ar Tryd.prog [0] 103 ⟨33,vP,[.tmp 2]⟩:=Ar.by Tryd.func103 (by kernel_rfl) (by kernel_rfl) Tryd.ntmps103 (by rw[Tryd.results103]) (by kernel_rfl)
theorem mG:Ar Tryd.prog [0] 106 ⟨49,vQ,[]⟩:=Ar.by Tryd.func106 (by kernel_rfl) (by kernel_rfl) Tryd.ntmps106 (by rw[Tryd.results106]) (by kernel_rfl)
theorem mH:Ar Tryd.prog [0] 107 ⟨56,vR,[]⟩:=Ar.by Tryd.func107 (by kernel_rfl) (by kernel_rfl) Tryd.ntmps107 (by rw[Tryd.results107]) (by kernel_rfl)
theorem mI:Ar Tryd.prog [0] 108 ⟨65,vS,[]⟩:=Ar.by Tryd.func108 (by kernel_rfl) (by kernel_rfl) Tryd.ntmps108 (by rw[Tryd.results108]) (by kernel_rfl)
theorem mJ:Ar Tryd.prog [0] 109 ⟨57,vT,[.tmp 6,.tmp 7]⟩:=Ar.by Tryd.func109 (by kernel_rfl) (by kernel_rfl) Tryd.ntmps109 (by rw[Tryd.results109]) (by kernel_rfl)
theorem mK:Ar Tryd.prog [0] 110 ⟨32,vU,[]⟩:=Ar.by Tryd.func110 (by kernel_rfl) (by kernel_rfl) Tryd.ntmps110 (by rw[Tryd.results110]) (by kernel_rfl)
theorem mM:Ar Tryd.prog [0] 111 ⟨133,vV,[.tmp 6]⟩:=Ar.by Tryd.func111 (by kernel_rfl) (by kernel_rfl) Tryd.ntmps111 (by rw[Tryd.results111]) (by kernel_rfl)
theorem mO:Ar Tryd.prog [0] 112 ⟨84,vW,[.tmp 8]⟩:=Ar.by Tryd.func112 (by kernel_rfl) (by kernel_rfl) Tryd.ntmps112 (by rw[Tryd.results112]) (by kernel_rfl)
theorem mP:Ar Tryd.prog [0] 113 ⟨168,vX,[.tmp 8,.tmp 9]⟩:=Ar.by Tryd.func113 (by kernel_rfl) (by kernel_rfl) Tryd.ntmps113 (by rw[Tryd.results113]) (by kernel_rfl)
theorem mQ:Ar Tryd.prog [0] 115 ⟨76,vY,[]⟩:=Ar.by Tryd.func115 (by kernel_rfl) (by kernel_rfl) Tryd.ntmps115 (by rw[Tryd.results115]) (by kernel_rfl)
theorem nD:Ar Tryd.prog [0] 116 ⟨15,vZ,[.tmp 6]⟩:=Ar.by Tryd.func116 (by kernel_rfl) (by kernel_rfl) Tryd.ntmps116 (by rw[Tryd.results116]) (by kernel_rfl)
theorem nG:Ar Tryd.prog [0] 117 ⟨36,wB,[.tmp 10]⟩:=Ar.by Tryd.func117 (by kernel_rfl) (by kernel_rfl) Tryd.ntmps117 (by rw[Tryd.results117]) (by kernel_rfl)
theorem nH:Ar Tryd.prog [0] 118 ⟨28,wC,[.tmp 8,.tmp 9]⟩:=Ar.by Tryd.func118 (by kernel_rfl) (by kernel_rfl) Tryd.ntmps118 (by rw[Tryd.results118]) (by kernel_rfl)
end Go.Proofs.YtpfpakeeaehmhaaDoor.TbW
set_option maxRecDepth 100000
namespace Go.Proofs.YtpfpakeeaehmhaaDoor.TbW
open Go Go.Sp Go.TbW
theorem AbR:Cu Tryd.prog 3 ti3:=Cu.by Tryd.underlying3 (inf:=Tryd.t3) (by kernel_rfl) (by kernel_rfl) (by kernel_rfl) (by kernel_rfl) (by kernel_rfl) (fun h=>by cases h)
theorem AbS:Cu Tryd.prog 4 ti4:=Cu.by Tryd.underlying4 (inf:=Tryd.t4) (by kernel_rfl) (by kernel_rfl) (by kernel_rfl) (by kernel_rfl) (by kernel_rfl) (fun h=>by cases h)
theorem Ab0:Cu Tryd.prog 5 ti5:=Cu.by Tryd.underlying5 (inf:=Tryd.t5) (by kernel_rfl) (by kernel_rfl) (by kernel_rfl) (by kernel_rfl) (by kernel_rfl) (fun h=>by cases h)
theorem Ab4:Cu Tryd.prog 9 ti9:=Cu.by Tryd.underlying9 (inf:=Tryd.t9) (by kernel_rfl) (by kernel_rfl) (by kernel_rfl) (by kernel_rfl) (by kernel_rfl) (fun h=>by cases h)
theorem zC:Cu Tryd.prog 22 wI:=Cu.by Tryd.underlying22 (inf:=Tryd.t22) (by kernel_rfl) (by kernel_rfl) (by kernel_rfl) (by kernel_rfl) (by kernel_rfl) (fun h=>by cases h)
theorem zD:Cu Tryd.prog 24 wJ:=Cu.by Tryd.underlying24 (inf:=Tryd.t24) (by kernel_rfl) (by kernel_rfl) (by kernel_rfl) (by kernel_rfl) (by kernel_rfl) (fun h=>by cases h)
theorem zF:Cu Tryd.prog 28 wK:=Cu.by Tryd.underlying28 (inf:=Tryd.t28) (by kernel_rfl) (by kernel_rfl) (by kernel_rfl) (by kernel_rfl) (by kernel_rfl) (fun h=>by cases h)
theorem zG:Cu Tryd.prog 29 wL:=Cu.by Tryd.underlying29 (inf:=Tryd.t29) (by kernel_rfl) (by kernel_rfl) (by kernel_rfl) (by kernel_rfl) (by kernel_rfl) (fun h=>by cases h)
theorem zH:Cu Tryd.prog 33 wM:=Cu.by Tryd.underlying33 (inf:=Tryd.t33) (by kernel_rfl) (by kernel_rfl) (by kernel_rfl) (by kernel_rfl) (by kernel_rfl) (fun h=>by cases h)
theorem zJ:Cu Tryd.prog 51 wO:=Cu.by Tryd.underlying51 (inf:=Tryd.t51) (by kernel_rfl) (by kernel_rfl) (by kernel_rfl) (by kernel_rfl) (by kernel_rfl) (fun h=>by cases h)
theorem zK:Cu Tryd.prog 53 wP:=Cu.by Tryd.underlying53 (inf:=Tryd.t53) (by kernel_rfl) (by kernel_rfl) (by kernel_rfl) (by kernel_rfl) (by kernel_rfl) (fun h=>by cases h)
theorem zL:Cu Tryd.prog 58 kY:=Cu.by Tryd.underlying58 (inf:=Tryd.t58) (by kernel_rfl) (by kernel_rfl) (by kernel_rfl) (by kernel_rfl) (by kernel_rfl) (fun _=>⟨_,rfl,Fl.ok (d:=8) (⟨by kernel_rfl,.inr (.inr (.inr (.inl ⟨2,3,[(.int .i64 0)],Tryd.underlying58,⟨by kernel_rfl,.inl ⟨⟨_,Tryd.underlying3⟩,_,_,rfl⟩⟩,by kernel_rfl⟩)))⟩) (by decide) ⟨_,Tryd.underlying58,rfl⟩ (by kernel_rfl)⟩)
theorem zM:Cu Tryd.prog 64 wQ:=Cu.by Tryd.underlying64 (inf:=Tryd.t64) (by kernel_rfl) (by kernel_rfl) (by kernel_rfl) (by kernel_rfl) (by kernel_rfl) (fun h=>by cases h)
theorem zN:Cu Tryd.prog 68 wR:=Cu.by Tryd.underlying68 (inf:=Tryd.t68) (by kernel_rfl) (by kernel_rfl) (by kernel_rfl) (by kernel_rfl) (by kernel_rfl) (fun h=>by cases h)
theorem zO:Cu Tryd.prog 83 wS:=Cu.by Tryd.underlying83 (inf:=Tryd.t83) (by kernel_rfl) (by kernel_rfl) (by kernel_rfl) (by kernel_rfl) (by kernel_rfl) (fun h=>by cases h)
theorem zP:Cu Tryd.prog 84 wT:=Cu.by Tryd.underlying84 (inf:=Tryd.t84) (by kernel_rfl) (by kernel_rfl) (by kernel_rfl) (by kernel_rfl) (by kernel_rfl) (fun _=>⟨_,rfl,Fl.ok (d:=8) (⟨by kernel_rfl,.inr (.inr (.inr (.inl ⟨2,83,[(.int .u64 0)],Tryd.underlying84,⟨by kernel_rfl,.inl ⟨⟨_,Tryd.underlying83⟩,_,_,rfl⟩⟩,by kernel_rfl⟩)))⟩) (by decide) ⟨_,Tryd.underlying84,rfl⟩ (by kernel_rfl)⟩)
theorem zQ:Cu Tryd.prog 86 UD:=Cu.by Tryd.underlying86 (inf:=Tryd.t86) (by kernel_rfl) (by kernel_rfl) (by kernel_rfl) (by kernel_rfl) (by kernel_rfl) (fun _=>⟨_,rfl,Fl.ok (d:=8) (⟨by kernel_rfl,.inr (.inr (.inr (.inl ⟨7,84,[(.int .u64 0),(.int .u64 0)],Tryd.underlying86,⟨by kernel_rfl,.inr (.inr (.inr (.inl ⟨2,83,[(.int .u64 0)],Tryd.underlying84,⟨by kernel_rfl,.inl ⟨⟨_,Tryd.underlying83⟩,_,_,rfl⟩⟩,by kernel_rfl⟩)))⟩,by kernel_rfl⟩)))⟩) (by decide) ⟨_,Tryd.underlying86,rfl⟩ (by kernel_rfl)⟩)
theorem zR:Cu Tryd.prog 95 wU:=Cu.by Tryd.underlying95 (inf:=Tryd.t95) (by kernel_rfl) (by kernel_rfl) (by kernel_rfl) (by kernel_rfl) (by kernel_rfl) (fun _=>⟨_,rfl,Fl.ok (d:=8) (⟨by kernel_rfl,.inr (.inr (.inr (.inl ⟨7,3,[(.int .i64 0)],Tryd.underlying95,⟨by kernel_rfl,.inl ⟨⟨_,Tryd.underlying3⟩,_,_,rfl⟩⟩,by kernel_rfl⟩)))⟩) (by decide) ⟨_,Tryd.underlying95,rfl⟩ (by kernel_rfl)⟩)
theorem nI:Cu Tryd.prog 100 Yf:=Cu.by Tryd.underlying100 (inf:=Tryd.t100) (by kernel_rfl) (by kernel_rfl) (by kernel_rfl) (by kernel_rfl) (by kernel_rfl) (fun h=>by cases h)
theorem nJ:Cu Tryd.prog 103 Yg:=Cu.by Tryd.underlying103 (inf:=Tryd.t103) (by kernel_rfl) (by kernel_rfl) (by kernel_rfl) (by kernel_rfl) (by kernel_rfl) (fun h=>by cases h)
theorem nK:Cu Tryd.prog 105 Yh:=Cu.by Tryd.underlying105 (inf:=Tryd.t105) (by kernel_rfl) (by kernel_rfl) (by kernel_rfl) (by kernel_rfl) (by kernel_rfl) (fun h=>by cases h)
theorem nL:Cu Tryd.prog 106 Yi:=Cu.by Tryd.underlying106 (inf:=Tryd.t106) (by kernel_rfl) (by kernel_rfl) (by kernel_rfl) (by kernel_rfl) (by kernel_rfl) (fun h=>by cases h)
theorem nM:Cu Tryd.prog 109 Yj:=Cu.by Tryd.underlying109 (inf:=Tryd.t109) (by kernel_rfl) (by kernel_rfl) (by kernel_rfl) (by kernel_rfl) (by kernel_rfl) (fun _=>⟨_,rfl,Fl.ok (d:=8) (⟨by kernel_rfl,.inr (.inr (.inr (.inl ⟨2,5,[(.int .u8 0)],Tryd.underlying109,⟨by kernel_rfl,.inl ⟨⟨_,Tryd.underlying5⟩,_,_,rfl⟩⟩,by kernel_rfl⟩)))⟩) (by decide) ⟨_,Tryd.underlying109,rfl⟩ (by kernel_rfl)⟩)
theorem nN:Cu Tryd.prog 118 Yk:=Cu.by Tryd.underlying118 (inf:=Tryd.t118) (by kernel_rfl) (by kernel_rfl) (by kernel_rfl) (by kernel_rfl) (by kernel_rfl) (fun h=>by cases h)
theorem nO:Cu Tryd.prog 122 Yl:=Cu.by Tryd.underlying122 (inf:=Tryd.t122) (by kernel_rfl) (by kernel_rfl) (by kernel_rfl) (by kernel_rfl) (by kernel_rfl) (fun h=>by cases h)
theorem nP:Cu Tryd.prog 130 Ym:=Cu.by Tryd.underlying130 (inf:=Tryd.t130) (by kernel_rfl) (by kernel_rfl) (by kernel_rfl) (by kernel_rfl) (by kernel_rfl) (fun _=>⟨_,rfl,Fl.ok (d:=8) (⟨by kernel_rfl,.inr (.inr (.inr (.inl ⟨64,5,[(.int .u8 0)],Tryd.underlying130,⟨by kernel_rfl,.inl ⟨⟨_,Tryd.underlying5⟩,_,_,rfl⟩⟩,by kernel_rfl⟩)))⟩) (by decide) ⟨_,Tryd.underlying130,rfl⟩ (by kernel_rfl)⟩)
theorem nQ:Cu Tryd.prog 131 Yn:=Cu.by Tryd.underlying131 (inf:=Tryd.t131) (by kernel_rfl) (by kernel_rfl) (by kernel_rfl) (by kernel_rfl) (by kernel_rfl) (fun h=>by cases h)
theorem nR:Cu Tryd.prog 135 Yo:=Cu.by Tryd.underlying135 (inf:=Tryd.t135) (by kernel_rfl) (by kernel_rfl) (by kernel_rfl) (by kernel_rfl) (by kernel_rfl) (fun h=>by cases h)
theorem ttOk:Jm Tryd.prog tt:=Jm.of_all (t:=wV) ⟨trivial,⟨trivial,⟨AbR,⟨trivial,⟨trivial,⟨trivial,trivial,⟨zR,trivial,trivial⟩⟩,trivial⟩,⟨trivial,⟨trivial,⟨trivial,⟨nR,trivial,trivial⟩,trivial⟩,⟨nJ,trivial,trivial⟩⟩,trivial⟩⟩,⟨trivial,⟨trivial,⟨trivial,⟨trivial,⟨nQ,trivial,trivial⟩,trivial⟩,trivial⟩,⟨zJ,⟨zO,trivial,trivial⟩,trivial⟩⟩,trivial⟩⟩,⟨Ab0,⟨Ab4,⟨trivial,⟨zH,trivial,trivial⟩,trivial⟩,⟨trivial,⟨trivial,trivial,⟨nK,trivial,trivial⟩⟩,trivial⟩⟩,⟨trivial,⟨trivial,trivial,⟨zK,trivial,trivial⟩⟩,⟨zG,⟨trivial,trivial,⟨nM,trivial,trivial⟩⟩,trivial⟩⟩⟩⟩,⟨trivial,⟨AbS,⟨trivial,⟨trivial,⟨trivial,⟨zM,trivial,trivial⟩,trivial⟩,trivial⟩,⟨zD,trivial,trivial⟩⟩,⟨trivial,⟨trivial,⟨trivial,⟨zN,trivial,trivial⟩,⟨nI,trivial,trivial⟩⟩,⟨trivial,⟨zP,trivial,trivial⟩,trivial⟩⟩,⟨zF,trivial,trivial⟩⟩⟩,⟨trivial,⟨trivial,⟨trivial,⟨trivial,⟨trivial,⟨nP,trivial,trivial⟩,trivial⟩,trivial⟩,trivial⟩,⟨trivial,⟨trivial,trivial,⟨nL,trivial,trivial⟩⟩,⟨zL,trivial,⟨nO,trivial,trivial⟩⟩⟩⟩,⟨trivial,⟨zC,trivial,⟨trivial,⟨zQ,trivial,trivial⟩,⟨nN,trivial,trivial⟩⟩⟩,trivial⟩⟩⟩⟩
theorem zS:wW.All (Ar Tryd.prog [0]):=⟨trivial,⟨trivial,⟨trivial,⟨xU,⟨xW,trivial,⟨yD,⟨yO,trivial,trivial⟩,⟨mM,trivial,trivial⟩⟩⟩,⟨yA,⟨YA,trivial,⟨mF,trivial,trivial⟩⟩,⟨YC,⟨yT,trivial,trivial⟩,trivial⟩⟩⟩,⟨Yp,⟨xY,⟨yC,trivial,⟨yV,trivial,trivial⟩⟩,⟨yH,⟨yR,trivial,trivial⟩,⟨mQ,trivial,trivial⟩⟩⟩,⟨Yu,⟨trivial,⟨ZA,trivial,trivial⟩,⟨mH,trivial,trivial⟩⟩,trivial⟩⟩⟩,⟨trivial,⟨trivial,⟨Yr,⟨Yw,⟨Zy,trivial,trivial⟩,trivial⟩,⟨yF,⟨yP,trivial,trivial⟩,⟨mP,trivial,trivial⟩⟩⟩,⟨yB,⟨trivial,⟨yN,trivial,trivial⟩,trivial⟩,⟨Zu,⟨ZF,trivial,trivial⟩,trivial⟩⟩⟩,⟨Yq,⟨xZ,⟨Yy,⟨yM,trivial,trivial⟩,trivial⟩,⟨yJ,⟨ZE,trivial,trivial⟩,⟨nG,trivial,trivial⟩⟩⟩,⟨trivial,⟨trivial,⟨ZC,trivial,trivial⟩,⟨mJ,trivial,trivial⟩⟩,⟨Zw,trivial,trivial⟩⟩⟩⟩⟩,⟨trivial,⟨trivial,⟨trivial,⟨trivial,⟨Yv,⟨Zx,trivial,trivial⟩,trivial⟩,⟨yE,trivial,⟨mO,trivial,trivial⟩⟩⟩,⟨trivial,trivial,⟨Zt,trivial,trivial⟩⟩⟩,⟨trivial,⟨trivial,⟨Yx,trivial,⟨mD,trivial,trivial⟩⟩,⟨yI,trivial,⟨nD,trivial,trivial⟩⟩⟩,⟨trivial,⟨trivial,⟨ZB,trivial,trivial⟩,⟨mI,trivial,trivial⟩⟩,⟨Zv,trivial,trivial⟩⟩⟩⟩,⟨trivial,⟨xV,⟨xX,⟨trivial,⟨yL,trivial,trivial⟩,⟨yU,trivial,trivial⟩⟩,⟨yG,⟨yQ,trivial,trivial⟩,trivial⟩⟩,⟨Yt,⟨trivial,⟨Zz,trivial,trivial⟩,⟨mG,trivial,trivial⟩⟩,trivial⟩⟩,⟨trivial,⟨trivial,⟨Yz,trivial,⟨mE,trivial,trivial⟩⟩,⟨yK,⟨yS,trivial,trivial⟩,⟨nH,trivial,trivial⟩⟩⟩,⟨trivial,⟨YB,trivial,⟨mK,trivial,trivial⟩⟩,trivial⟩⟩⟩⟩⟩
theorem fnsOk (f:FuncId) (r:Xq) (h:LW f=some r):Ar Tryd.prog [0] f r:=zS.get h
end Go.Proofs.YtpfpakeeaehmhaaDoor.TbW
set_option maxRecDepth 100000
namespace Go.Proofs.YtpfpakeeaehmhaaDoor.TbW
open Go Go.Sp Go.TbWM Go.TbW
noncomputable section
theorem fk7:Ar Tryd.prog (List.range tabs.length) 7 ⟨140,SI,[.tmp 2]⟩:=by
 have h:c7=SI:=by kernel_rfl
 rw[←h];exact xU
theorem zT:Ar Tryd.prog (List.range tabs.length) 11 ⟨39,PK,[.tmp 2,.tmp 3]⟩:=by
 have h:c11=PK:=by kernel_rfl
 rw[←h];exact Yp
theorem zV:Ar Tryd.prog (List.range tabs.length) 13 ⟨53,PL,[.tmp 2,.tmp 3]⟩:=by
 have h:c13=PL:=by kernel_rfl
 rw[←h];exact Yq
theorem zW:Ar Tryd.prog (List.range tabs.length) 26 ⟨84,PM,[.cell 4 24]⟩:=by
 have h:c26=PM:=by kernel_rfl
 rw[←h];exact Yt
theorem zX:Ar Tryd.prog (List.range tabs.length) 27 ⟨63,PN,[.tmp 4,.tmp 5]⟩:=by
 have h:c27=PN:=by kernel_rfl
 rw[←h];exact Yu
theorem zZ:Ar Tryd.prog (List.range tabs.length) 32 ⟨66,PO,[.tmp 6,.tmp 7]⟩:=by
 have h:c32=PO:=by kernel_rfl
 rw[←h];exact Yv
theorem Aaa:Ar Tryd.prog (List.range tabs.length) 33 ⟨21,PP,[.tmp 2]⟩:=by
 have h:c33=PP:=by kernel_rfl
 rw[←h];exact Yw
theorem Aab:Ar Tryd.prog (List.range tabs.length) 38 ⟨9,SK,[.tmp 4]⟩:=by
 have h:c38=SK:=by kernel_rfl
 rw[←h];exact Yz
theorem Aac:Ar Tryd.prog (List.range tabs.length) 46 ⟨19,PQ,[.tmp 2,.tmp 3]⟩:=by
 have h:Sk=PQ:=by kernel_rfl
 rw[←h];exact YB
theorem Aad:Ar Tryd.prog (List.range tabs.length) 55 ⟨46,Qp,[.tmp 2]⟩:=by
 have h:c55=Qp:=by kernel_rfl
 rw[←h];exact YC
theorem Aae:Ar Tryd.prog (List.range tabs.length) 56 ⟨38,Qq,[.cell 2 86]⟩:=by
 have h:c56=Qq:=by kernel_rfl
 rw[←h];exact Zt
theorem Aaf:Ar Tryd.prog (List.range tabs.length) 57 ⟨41,Qr,[.cell 4 86]⟩:=by
 have h:c57=Qr:=by kernel_rfl
 rw[←h];exact Zu
theorem Aag:Ar Tryd.prog (List.range tabs.length) 60 ⟨21,Qs,[.cell 4 86]⟩:=by
 have h:QJ=Qs:=by kernel_rfl
 rw[←h];exact Zv
theorem Aah:Ar Tryd.prog (List.range tabs.length) 61 ⟨38,Qt,[.tmp 4]⟩:=by
 have h:c61=Qt:=by kernel_rfl
 rw[←h];exact Zw
theorem Aai:Ar Tryd.prog (List.range tabs.length) 64 ⟨17,Qu,[.cell 2 86,.tmp 3]⟩:=by
 have h:c64=Qu:=by kernel_rfl
 rw[←h];exact Zx
theorem Aaj:Ar Tryd.prog (List.range tabs.length) 65 ⟨15,SQ,[.tmp 6]⟩:=by
 have h:c65=SQ:=by kernel_rfl
 rw[←h];exact Zy
theorem Aak:Ar Tryd.prog (List.range tabs.length) 74 ⟨17,TV,[.tmp 4]⟩:=by
 have h:c74=TV:=by kernel_rfl
 rw[←h];exact Zz
theorem Aal:Ar Tryd.prog (List.range tabs.length) 76 ⟨9,TW,[.tmp 2]⟩:=by
 have h:c76=TW:=by kernel_rfl
 rw[←h];exact ZB
theorem Aam:Ar Tryd.prog (List.range tabs.length) 77 ⟨19,Qv,[.tmp 4]⟩:=by
 have h:c77=Qv:=by kernel_rfl
 rw[←h];exact ZC
theorem Aan:Ar Tryd.prog (List.range tabs.length) 85 ⟨14,TY,[.tmp 2]⟩:=by
 have h:c85=TY:=by kernel_rfl
 rw[←h];exact ZE
theorem Aao:Ar Tryd.prog (List.range tabs.length) 89 ⟨6,TZ,[.tmp 2]⟩:=by
 have h:c89=TZ:=by kernel_rfl
 rw[←h];exact ZF
theorem XT:Ar Tryd.prog (List.range tabs.length) 36 ⟨8,Nh,[]⟩:=by
 have h:c36=Nh:=by kernel_rfl
 rw[←h];exact Yx
theorem XU:Ar Tryd.prog (List.range tabs.length) 75 ⟨29,KX,[]⟩:=by
 have h:c75=KX:=by kernel_rfl
 rw[←h];exact ZA
theorem Aap:Ar Tryd.prog (List.range tabs.length) 37 ⟨60,Ni,[]⟩:=by
 have h:c37=Ni:=by kernel_rfl
 rw[←h];exact Yy
theorem Aaq:Ar Tryd.prog (List.range tabs.length) 17 ⟨26,Oi,[.tmp 4]⟩:=by
 have h:c17=Oi:=by kernel_rfl
 rw[←h];exact Yr
theorem Aar:Ar Tryd.prog (List.range tabs.length) 39 ⟨35,QK,[]⟩:=by
 have h:c39=QK:=by kernel_rfl
 rw[←h];exact YA
theorem IV:∀ t∈tabs,t≠[]:=by intro t ht;simp[tabs] at ht;subst ht;intro h;cases h
theorem I8:∀ t∈tabs,∀ x∈t,BR x=true:=by intro t ht x hx;simp[tabs] at ht;subst ht;simp[Pe] at hx;rcases hx with rfl | rfl | rfl | rfl | rfl | rfl | rfl | rfl | rfl | rfl | rfl | rfl | rfl | rfl | rfl | rfl | rfl | rfl | rfl | rfl | rfl | rfl | rfl | rfl | rfl | rfl | rfl | rfl | rfl | rfl | rfl | rfl | rfl | rfl | rfl | rfl | rfl | rfl | rfl | rfl | rfl | rfl | rfl | rfl | rfl | rfl | rfl | rfl | rfl | rfl | rfl | rfl | rfl | rfl | rfl | rfl | rfl | rfl | rfl | rfl | rfl | rfl | rfl | rfl <;> rfl
theorem nS (hm:Tryd.prog.follows .mixedOrders=true) {pu:Af} (h0:Cn Tryd.prog tabs 2 5 36 (pu 10360)) (h1:Cn Tryd.prog tabs 4 8 75 (pu 10750)) (h2:Cn Tryd.prog tabs 4 5 37 (pu 10370)) (h3:Cn Tryd.prog tabs 2 0 17 (pu 10170)) (h4:Cn Tryd.prog tabs 2 3 36 (pu 10361)) (h5:Cn Tryd.prog tabs 4 6 75 (pu 10751)) (h6:Cn Tryd.prog tabs 4 3 39 (pu 10390)):CO Tryd.prog (List.range tabs.length) (inl pu):=fun g args H v H' h=>by
 replace h:bb (Nat.beq g 73) (Sq 1 8 args H) (bb (Nat.beq g 36) (bb (an (oo (AL args 1) false (fun v=>isS (Om 37 0 v))) true) (EK tabs [[none],[none]] 2 [.cap 1 0 false,.cap 1 1 true,.cap 1 2 true,.cell 2 0 false,.cell 3 0 false] [false,true,true,false,false] (pu 10360) args H) (EK tabs [[none],[none]] 2 [.cap 1 0 false,.cap 1 1 false,.cap 1 2 false] [false,false,false] (pu 10361) args H)) (bb (Nat.beq g 75) (bb (an (oo (AL args 2) false (fun v=>oo (FO v) false fun p=>pp p fun id _=>oo (Bv (H.get id)) false fun o=>H7.rec (motive:=fun _=>Bool) (fun xs _ _ _=>oo (AL xs 0) false fun w=>isS (Om 37 0 w)) o)) true) (EK tabs [[some 1],[none],[none],[none]] 4 [.tmp 1 false,.tmp 2 true,.tmp 3 true,.ccap 2 0 0 false,.ccap 2 0 1 true,.ccap 2 0 2 true,.cell 5 0 false,.cell 6 0 false] [false,true,true,false,true,true,false,false] (pu 10750) args H) (EK tabs [[some 1],[none],[none],[none]] 4 [.tmp 1 false,.tmp 2 true,.tmp 3 true,.ccap 2 0 0 false,.ccap 2 0 1 false,.ccap 2 0 2 false] [false,true,true,false,false,false] (pu 10751) args H)) (bb (Nat.beq g 37) (EK tabs [[some 1],[none],[none],[none]] 4 [.tmp 1 false,.tmp 2 true,.tmp 3 true,.cell 2 0 false,.cell 3 0 false] [false,true,true,false,false] (pu 10370) args H) (bb (Nat.beq g 17) (EK tabs [[some 1],[some 1]] 2 [] [] (pu 10170) args H) (bb (Nat.beq g 39) (EK tabs [[some 1],[none],[none],[none]] 4 [.tmp 1 false,.tmp 2 false,.tmp 3 false] [false,false,false] (pu 10390) args H) (none))))))=some (v,H'):=h
 have hq:=Ag h;clear h;rcases hq with⟨e,h⟩ | ⟨_,h⟩
 ·obtain rfl:=Nat.eq_of_beq_eq_true e
  exact Sr ttOk fnsOk hm h
 have hq:=Ag h;clear h;rcases hq with⟨e,h⟩ | ⟨_,h⟩
 ·obtain rfl:=Nat.eq_of_beq_eq_true e
  have hq:=AaX h;clear h;rcases hq with h | h
  ·exact Ip (rs:=[.cap 1 0 false,.cap 1 1 true,.cap 1 2 true,.cell 2 0 false,.cell 3 0 false]) IV I8 h0 h
  exact Ip (rs:=[.cap 1 0 false,.cap 1 1 false,.cap 1 2 false]) IV I8 h4 h
 have hq:=Ag h;clear h;rcases hq with⟨e,h⟩ | ⟨_,h⟩
 ·obtain rfl:=Nat.eq_of_beq_eq_true e
  have hq:=AaX h;clear h;rcases hq with h | h
  ·exact Ip (rs:=[.tmp 1 false,.tmp 2 true,.tmp 3 true,.ccap 2 0 0 false,.ccap 2 0 1 true,.ccap 2 0 2 true,.cell 5 0 false,.cell 6 0 false]) IV I8 h1 h
  exact Ip (rs:=[.tmp 1 false,.tmp 2 true,.tmp 3 true,.ccap 2 0 0 false,.ccap 2 0 1 false,.ccap 2 0 2 false]) IV I8 h5 h
 have hq:=Ag h;clear h;rcases hq with⟨e,h⟩ | ⟨_,h⟩
 ·obtain rfl:=Nat.eq_of_beq_eq_true e
  exact Ip (rs:=[.tmp 1 false,.tmp 2 true,.tmp 3 true,.cell 2 0 false,.cell 3 0 false]) IV I8 h2 h
 have hq:=Ag h;clear h;rcases hq with⟨e,h⟩ | ⟨_,h⟩
 ·obtain rfl:=Nat.eq_of_beq_eq_true e
  exact Ip (rs:=[]) IV I8 h3 h
 have hq:=Ag h;clear h;rcases hq with⟨e,h⟩ | ⟨_,h⟩
 ·obtain rfl:=Nat.eq_of_beq_eq_true e
  exact Ip (rs:=[.tmp 1 false,.tmp 2 false,.tmp 3 false]) IV I8 h6 h
 cases h
theorem XZ (hm:Tryd.prog.follows .mixedOrders=true) (hw:BA Tryd.prog tabs 10 (fun args=>ll args (some (.bool true)) fun _ _=>none)) {pu:Af} (hall:(∀ g,FM g=true→BA Tryd.prog tabs g (pu g))∧Cn Tryd.prog tabs 2 5 36 (pu 10360)∧Cn Tryd.prog tabs 4 8 75 (pu 10750)∧Cn Tryd.prog tabs 4 5 37 (pu 10370)∧Cn Tryd.prog tabs 2 0 17 (pu 10170)∧Cn Tryd.prog tabs 2 3 36 (pu 10361)∧Cn Tryd.prog tabs 4 6 75 (pu 10751)∧Cn Tryd.prog tabs 4 3 39 (pu 10390)):(∀ g,FM g=true→BA Tryd.prog tabs g (Qw pu g))∧Cn Tryd.prog tabs 2 5 36 (Qw pu 10360)∧Cn Tryd.prog tabs 4 8 75 (Qw pu 10750)∧Cn Tryd.prog tabs 4 5 37 (Qw pu 10370)∧Cn Tryd.prog tabs 2 0 17 (Qw pu 10170)∧Cn Tryd.prog tabs 2 3 36 (Qw pu 10361)∧Cn Tryd.prog tabs 4 6 75 (Qw pu 10751)∧Cn Tryd.prog tabs 4 3 39 (Qw pu 10390):=by
 obtain⟨hpu,h0,h4,h5,h6,h7,h8,h9⟩:=hall
 have hcall:=TG (P:=Tryd.prog) (tabs:=tabs) IV I8 (nS hm h0 h4 h5 h6 h7 h8 h9) hpu
 refine⟨fun g hg=>?_,?_,?_,?_,?_,?_,?_,?_⟩
 ·have hg:g∈QL:=CS.1 hg
  simp only[QL,List.mem_cons,List.not_mem_nil,or_false] at hg
  rcases hg with rfl | rfl | rfl | rfl | rfl | rfl | rfl | rfl | rfl | rfl | rfl | rfl | rfl | rfl | rfl | rfl | rfl | rfl | rfl | rfl | rfl | rfl
  ·exact Aw (tabs:=tabs) (f:=m7 pu L) ttOk hm hcall fk7 fun args v h hc=>r7 pu L rfl h hc
  ·exact hw
  ·exact Aw (tabs:=tabs) (f:=m11 pu L) ttOk hm hcall zT fun args v h hc=>r11 pu L rfl h hc
  ·exact Aw (tabs:=tabs) (f:=m13 pu L) ttOk hm hcall zV fun args v h hc=>r13 pu L rfl h hc
  ·exact Aw (tabs:=tabs) (f:=m26 pu L) ttOk hm hcall zW fun args v h hc=>r26 pu L rfl h hc
  ·exact Aw (tabs:=tabs) (f:=m27 pu L) ttOk hm hcall zX fun args v h hc=>r27 pu L rfl h hc
  ·exact Aw (tabs:=tabs) (f:=m32 pu L) ttOk hm hcall zZ fun args v h hc=>r32 pu L rfl h hc
  ·exact Aw (tabs:=tabs) (f:=m33 pu L) ttOk hm hcall Aaa fun args v h hc=>r33 pu L rfl h hc
  ·exact Aw (tabs:=tabs) (f:=m38 pu L) ttOk hm hcall Aab fun args v h hc=>r38 pu L rfl h hc
  ·exact Aw (tabs:=tabs) (f:=m46 pu L) ttOk hm hcall Aac fun args v h hc=>r46 pu L rfl h hc
  ·exact Aw (tabs:=tabs) (f:=m55 pu L) ttOk hm hcall Aad fun args v h hc=>r55 pu L rfl h hc
  ·exact Aw (tabs:=tabs) (f:=m56 pu L) ttOk hm hcall Aae fun args v h hc=>r56 pu L rfl h hc
  ·exact Aw (tabs:=tabs) (f:=m57 pu L) ttOk hm hcall Aaf fun args v h hc=>r57 pu L rfl h hc
  ·exact Aw (tabs:=tabs) (f:=m60 pu L) ttOk hm hcall Aag fun args v h hc=>r60 pu L rfl h hc
  ·exact Aw (tabs:=tabs) (f:=m61 pu L) ttOk hm hcall Aah fun args v h hc=>r61 pu L rfl h hc
  ·exact Aw (tabs:=tabs) (f:=m64 pu L) ttOk hm hcall Aai fun args v h hc=>r64 pu L rfl h hc
  ·exact Aw (tabs:=tabs) (f:=m65 pu L) ttOk hm hcall Aaj fun args v h hc=>r65 pu L rfl h hc
  ·exact Aw (tabs:=tabs) (f:=m74 pu L) ttOk hm hcall Aak fun args v h hc=>r74 pu L rfl h hc
  ·exact Aw (tabs:=tabs) (f:=m76 pu L) ttOk hm hcall Aal fun args v h hc=>r76 pu L rfl h hc
  ·exact Aw (tabs:=tabs) (f:=m77 pu L) ttOk hm hcall Aam fun args v h hc=>r77 pu L rfl h hc
  ·exact Aw (tabs:=tabs) (f:=m85 pu L) ttOk hm hcall Aan fun args v h hc=>r85 pu L rfl h hc
  ·exact Aw (tabs:=tabs) (f:=m89 pu L) ttOk hm hcall Aao fun args v h hc=>r89 pu L rfl h hc
 ·exact Dx (tabs:=tabs) (f:=OL pu L) ttOk hm hcall XT fun args os z h1 h2 h3 h=>lK pu L rfl h1 h2 h3 h
 ·exact Dx (tabs:=tabs) (f:=OM pu L) ttOk hm hcall XU fun args os z h1 h2 h3 h=>lM pu L rfl h1 h2 h3 h
 ·exact Dx (tabs:=tabs) (f:=OO pu L) ttOk hm hcall Aap fun args os z h1 h2 h3 h=>lQ pu L rfl h1 h2 h3 h
 ·exact Dx (tabs:=tabs) (f:=OP pu L) ttOk hm hcall Aaq fun args os z h1 h2 h3 h=>lT pu L rfl h1 h2 h3 h
 ·exact Dx (tabs:=tabs) (f:=OQ pu L) ttOk hm hcall XT fun args os z h1 h2 h3 h=>lV pu L rfl h1 h2 h3 h
 ·exact Dx (tabs:=tabs) (f:=OT pu L) ttOk hm hcall XU fun args os z h1 h2 h3 h=>lX pu L rfl h1 h2 h3 h
 ·exact Dx (tabs:=tabs) (f:=OU pu L) ttOk hm hcall Aar fun args os z h1 h2 h3 h=>lZ pu L rfl h1 h2 h3 h
theorem nT (hm:Tryd.prog.follows .mixedOrders=true) (hw:BA Tryd.prog tabs 10 (fun args=>ll args (some (.bool true)) fun _ _=>none)):∀ n,(∀ g,FM g=true→BA Tryd.prog tabs g (BI n g))∧Cn Tryd.prog tabs 2 5 36 (BI n 10360)∧Cn Tryd.prog tabs 4 8 75 (BI n 10750)∧Cn Tryd.prog tabs 4 5 37 (BI n 10370)∧Cn Tryd.prog tabs 2 0 17 (BI n 10170)∧Cn Tryd.prog tabs 2 3 36 (BI n 10361)∧Cn Tryd.prog tabs 4 6 75 (BI n 10751)∧Cn Tryd.prog tabs 4 3 39 (BI n 10390):=fun n=>by
 induction n with
 | zero =>
  refine⟨fun g hg=>?_,?_,?_,?_,?_,?_,?_,?_⟩
  ·have hg:g∈QL:=CS.1 hg
   simp only[QL,List.mem_cons,List.not_mem_nil,or_false] at hg
   rcases hg with rfl | rfl | rfl | rfl | rfl | rfl | rfl | rfl | rfl | rfl | rfl | rfl | rfl | rfl | rfl | rfl | rfl | rfl | rfl | rfl | rfl | rfl
   ·exact⟨A9 fk7,fun args v h=>by cases h⟩
   ·exact⟨(hw).1,fun args v h=>by cases h⟩
   ·exact⟨A9 zT,fun args v h=>by cases h⟩
   ·exact⟨A9 zV,fun args v h=>by cases h⟩
   ·exact⟨A9 zW,fun args v h=>by cases h⟩
   ·exact⟨A9 zX,fun args v h=>by cases h⟩
   ·exact⟨A9 zZ,fun args v h=>by cases h⟩
   ·exact⟨A9 Aaa,fun args v h=>by cases h⟩
   ·exact⟨A9 Aab,fun args v h=>by cases h⟩
   ·exact⟨A9 Aac,fun args v h=>by cases h⟩
   ·exact⟨A9 Aad,fun args v h=>by cases h⟩
   ·exact⟨A9 Aae,fun args v h=>by cases h⟩
   ·exact⟨A9 Aaf,fun args v h=>by cases h⟩
   ·exact⟨A9 Aag,fun args v h=>by cases h⟩
   ·exact⟨A9 Aah,fun args v h=>by cases h⟩
   ·exact⟨A9 Aai,fun args v h=>by cases h⟩
   ·exact⟨A9 Aaj,fun args v h=>by cases h⟩
   ·exact⟨A9 Aak,fun args v h=>by cases h⟩
   ·exact⟨A9 Aal,fun args v h=>by cases h⟩
   ·exact⟨A9 Aam,fun args v h=>by cases h⟩
   ·exact⟨A9 Aan,fun args v h=>by cases h⟩
   ·exact⟨A9 Aao,fun args v h=>by cases h⟩
  ·exact⟨A9 XT,fun args os z h1 h2 h3 h=>by cases h⟩
  ·exact⟨A9 XU,fun args os z h1 h2 h3 h=>by cases h⟩
  ·exact⟨A9 Aap,fun args os z h1 h2 h3 h=>by cases h⟩
  ·exact⟨A9 Aaq,fun args os z h1 h2 h3 h=>by cases h⟩
  ·exact⟨A9 XT,fun args os z h1 h2 h3 h=>by cases h⟩
  ·exact⟨A9 XU,fun args os z h1 h2 h3 h=>by cases h⟩
  ·exact⟨A9 Aar,fun args os z h1 h2 h3 h=>by cases h⟩
 | succ n ih=>exact XZ hm hw ih
theorem pu_ok (hm:Tryd.prog.follows .mixedOrders=true) (hw:BA Tryd.prog tabs 10 (fun args=>ll args (some (.bool true)) fun _ _=>none)):∀ n g,FM g=true→BA Tryd.prog tabs g (BI n g):=fun n=>(nT hm hw n).1
end
end Go.Proofs.YtpfpakeeaehmhaaDoor.TbW
