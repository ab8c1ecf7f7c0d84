/- Made from wip. -/
import Derived.Test.YtglnihplphhhoaaDoorProg
import Derived.Test.YtglnihplphhhoaaDoorSpObjx
import Derived.Test.YtglnihplphhhoaaDoorTbGCode
import Derived.Test.YtglnihplphhhoaaDoorTbGPux

set_option maxRecDepth 100000
namespace Go.Proofs.YtglnihplphhhoaaDoor.TbG
open Go Go.Sp Go.TbG
theorem Zw:Ar Tryd.prog [0] 4 ⟨38,c4,[.tmp 4]⟩:=Ar.by Tryd.func4 (by kernel_rfl) (by kernel_rfl) Tryd.ntmps4 (by rw[Tryd.results4]) (by kernel_rfl)
theorem Zx:Ar Tryd.prog [0] 5 ⟨84,c5,[.cell 4 27]⟩:=Ar.by Tryd.func5 (by kernel_rfl) (by kernel_rfl) Tryd.ntmps5 (by rw[Tryd.results5]) (by kernel_rfl)
theorem Zy:Ar Tryd.prog [0] 6 ⟨8,c6,[]⟩:=Ar.by Tryd.func6 (by kernel_rfl) (by kernel_rfl) Tryd.ntmps6 (by rw[Tryd.results6]) (by kernel_rfl)
theorem Zz:Ar Tryd.prog [0] 8 ⟨66,c8,[.tmp 6,.tmp 7]⟩:=Ar.by Tryd.func8 (by kernel_rfl) (by kernel_rfl) Tryd.ntmps8 (by rw[Tryd.results8]) (by kernel_rfl)
theorem lX:Ar Tryd.prog [0] 9 ⟨61,c9,[.tmp 4,.tmp 5,.tmp 6]⟩:=Ar.by Tryd.func9 (by kernel_rfl) (by kernel_rfl) Tryd.ntmps9 (by rw[Tryd.results9]) (by kernel_rfl)
theorem ZA:Ar Tryd.prog [0] 10 ⟨19,mQ,[.tmp 2,.tmp 3]⟩:=Ar.by Tryd.func10 (by kernel_rfl) (by kernel_rfl) Tryd.ntmps10 (by rw[Tryd.results10]) (by kernel_rfl)
theorem ZB:Ar Tryd.prog [0] 11 ⟨235,nD,[.tmp 0]⟩:=Ar.by Tryd.func11 (by kernel_rfl) (by kernel_rfl) Tryd.ntmps11 (by rw[Tryd.results11]) (by kernel_rfl)
theorem RV:Ar Tryd.prog [0] 12 ⟨28,kW,[]⟩:=Ar.by Tryd.func12 (by kernel_rfl) (by kernel_rfl) Tryd.ntmps12 (by rw[Tryd.results12]) (by kernel_rfl)
theorem RX:Ar Tryd.prog [0] 13 ⟨21,kX,[.tmp 2]⟩:=Ar.by Tryd.func13 (by kernel_rfl) (by kernel_rfl) Tryd.ntmps13 (by rw[Tryd.results13]) (by kernel_rfl)
theorem RY:Ar Tryd.prog [0] 14 ⟨63,kY,[.tmp 4,.tmp 5]⟩:=Ar.by Tryd.func14 (by kernel_rfl) (by kernel_rfl) Tryd.ntmps14 (by rw[Tryd.results14]) (by kernel_rfl)
theorem RZ:Ar Tryd.prog [0] 15 ⟨29,kZ,[]⟩:=Ar.by Tryd.func15 (by kernel_rfl) (by kernel_rfl) Tryd.ntmps15 (by rw[Tryd.results15]) (by kernel_rfl)
theorem R3:Ar Tryd.prog [0] 16 ⟨9,lH,[.tmp 4]⟩:=Ar.by Tryd.func16 (by kernel_rfl) (by kernel_rfl) Tryd.ntmps16 (by rw[Tryd.results16]) (by kernel_rfl)
theorem R4:Ar Tryd.prog [0] 17 ⟨9,lI,[.tmp 2]⟩:=Ar.by Tryd.func17 (by kernel_rfl) (by kernel_rfl) Tryd.ntmps17 (by rw[Tryd.results17]) (by kernel_rfl)
theorem ZC:Ar Tryd.prog [0] 18 ⟨8,gZ,[.tmp 2]⟩:=Ar.by Tryd.func18 (by kernel_rfl) (by kernel_rfl) Tryd.ntmps18 (by rw[Tryd.results18]) (by kernel_rfl)
theorem ZE:Ar Tryd.prog [0] 19 ⟨17,nG,[.cell 2 52,.tmp 3]⟩:=Ar.by Tryd.func19 (by kernel_rfl) (by kernel_rfl) Tryd.ntmps19 (by rw[Tryd.results19]) (by kernel_rfl)
theorem R5:Ar Tryd.prog [0] 20 ⟨15,lJ,[.tmp 6]⟩:=Ar.by Tryd.func20 (by kernel_rfl) (by kernel_rfl) Tryd.ntmps20 (by rw[Tryd.results20]) (by kernel_rfl)
theorem ZF:Ar Tryd.prog [0] 21 ⟨8,nH,[.tmp 2]⟩:=Ar.by Tryd.func21 (by kernel_rfl) (by kernel_rfl) Tryd.ntmps21 (by rw[Tryd.results21]) (by kernel_rfl)
theorem ZG:Ar Tryd.prog [0] 22 ⟨38,nI,[.tmp 4]⟩:=Ar.by Tryd.func22 (by kernel_rfl) (by kernel_rfl) Tryd.ntmps22 (by rw[Tryd.results22]) (by kernel_rfl)
theorem R6:Ar Tryd.prog [0] 23 ⟨63,lK,[.tmp 4,.tmp 5]⟩:=Ar.by Tryd.func23 (by kernel_rfl) (by kernel_rfl) Tryd.ntmps23 (by rw[Tryd.results23]) (by kernel_rfl)
theorem ZH:Ar Tryd.prog [0] 24 ⟨3,nJ,[.cell 0 27]⟩:=Ar.by Tryd.func24 (by kernel_rfl) (by kernel_rfl) Tryd.ntmps24 (by rw[Tryd.results24]) (by kernel_rfl)
theorem ZI:Ar Tryd.prog [0] 25 ⟨4,nK,[.tmp 2]⟩:=Ar.by Tryd.func25 (by kernel_rfl) (by kernel_rfl) Tryd.ntmps25 (by rw[Tryd.results25]) (by kernel_rfl)
theorem ZJ:Ar Tryd.prog [0] 26 ⟨3,nL,[.cell 0 27]⟩:=Ar.by Tryd.func26 (by kernel_rfl) (by kernel_rfl) Tryd.ntmps26 (by rw[Tryd.results26]) (by kernel_rfl)
theorem ZK:Ar Tryd.prog [0] 27 ⟨25,nM,[.tmp 2,.tmp 3]⟩:=Ar.by Tryd.func27 (by kernel_rfl) (by kernel_rfl) Tryd.ntmps27 (by rw[Tryd.results27]) (by kernel_rfl)
theorem ZL:Ar Tryd.prog [0] 28 ⟨40,nN,[.tmp 2,.tmp 3]⟩:=Ar.by Tryd.func28 (by kernel_rfl) (by kernel_rfl) Tryd.ntmps28 (by rw[Tryd.results28]) (by kernel_rfl)
theorem ZM:Ar Tryd.prog [0] 29 ⟨39,nO,[.tmp 2,.tmp 3]⟩:=Ar.by Tryd.func29 (by kernel_rfl) (by kernel_rfl) Tryd.ntmps29 (by rw[Tryd.results29]) (by kernel_rfl)
end Go.Proofs.YtglnihplphhhoaaDoor.TbG
set_option maxRecDepth 100000
namespace Go.Proofs.YtglnihplphhhoaaDoor.TbG
open Go Go.Sp Go.TbG
theorem ZN:Ar Tryd.prog [0] 30 ⟨53,nP,[.tmp 2,.tmp 3]⟩:=Ar.by Tryd.func30 (by kernel_rfl) (by kernel_rfl) Tryd.ntmps30 (by rw[Tryd.results30]) (by kernel_rfl)
theorem ZO:Ar Tryd.prog [0] 31 ⟨61,nQ,[.tmp 2,.tmp 3]⟩:=Ar.by Tryd.func31 (by kernel_rfl) (by kernel_rfl) Tryd.ntmps31 (by rw[Tryd.results31]) (by kernel_rfl)
theorem ZP:Ar Tryd.prog [0] 32 ⟨83,nR,[.tmp 2,.tmp 3]⟩:=Ar.by Tryd.func32 (by kernel_rfl) (by kernel_rfl) Tryd.ntmps32 (by rw[Tryd.results32]) (by kernel_rfl)
theorem ZQ:Ar Tryd.prog [0] 33 ⟨32,nS,[.cell 4 27]⟩:=Ar.by Tryd.func33 (by kernel_rfl) (by kernel_rfl) Tryd.ntmps33 (by rw[Tryd.results33]) (by kernel_rfl)
theorem ZR:Ar Tryd.prog [0] 34 ⟨26,nT,[.tmp 4]⟩:=Ar.by Tryd.func34 (by kernel_rfl) (by kernel_rfl) Tryd.ntmps34 (by rw[Tryd.results34]) (by kernel_rfl)
theorem ZT:Ar Tryd.prog [0] 35 ⟨27,nU,[.tmp 4]⟩:=Ar.by Tryd.func35 (by kernel_rfl) (by kernel_rfl) Tryd.ntmps35 (by rw[Tryd.results35]) (by kernel_rfl)
theorem bI:Ar Tryd.prog [0] 36 ⟨4,nV,[.tmp 2]⟩:=Ar.by Tryd.func36 (by kernel_rfl) (by kernel_rfl) Tryd.ntmps36 (by rw[Tryd.results36]) (by kernel_rfl)
theorem bJ:Ar Tryd.prog [0] 37 ⟨26,nW,[.tmp 4]⟩:=Ar.by Tryd.func37 (by kernel_rfl) (by kernel_rfl) Tryd.ntmps37 (by rw[Tryd.results37]) (by kernel_rfl)
theorem bK:Ar Tryd.prog [0] 38 ⟨20,nX,[.tmp 4]⟩:=Ar.by Tryd.func38 (by kernel_rfl) (by kernel_rfl) Tryd.ntmps38 (by rw[Tryd.results38]) (by kernel_rfl)
theorem R7:Ar Tryd.prog [0] 39 ⟨17,lL,[.tmp 4]⟩:=Ar.by Tryd.func39 (by kernel_rfl) (by kernel_rfl) Tryd.ntmps39 (by rw[Tryd.results39]) (by kernel_rfl)
theorem R8:Ar Tryd.prog [0] 40 ⟨46,lM,[.tmp 2]⟩:=Ar.by Tryd.func40 (by kernel_rfl) (by kernel_rfl) Tryd.ntmps40 (by rw[Tryd.results40]) (by kernel_rfl)
theorem R9:Ar Tryd.prog [0] 41 ⟨26,lN,[.tmp 4]⟩:=Ar.by Tryd.func41 (by kernel_rfl) (by kernel_rfl) Tryd.ntmps41 (by rw[Tryd.results41]) (by kernel_rfl)
theorem Sa:Ar Tryd.prog [0] 42 ⟨19,lQ,[.tmp 4]⟩:=Ar.by Tryd.func42 (by kernel_rfl) (by kernel_rfl) Tryd.ntmps42 (by rw[Tryd.results42]) (by kernel_rfl)
theorem bL:Ar Tryd.prog [0] 43 ⟨38,nY,[.cell 2 52]⟩:=Ar.by Tryd.func43 (by kernel_rfl) (by kernel_rfl) Tryd.ntmps43 (by rw[Tryd.results43]) (by kernel_rfl)
theorem bM:Ar Tryd.prog [0] 44 ⟨21,nZ,[.cell 4 52]⟩:=Ar.by Tryd.func44 (by kernel_rfl) (by kernel_rfl) Tryd.ntmps44 (by rw[Tryd.results44]) (by kernel_rfl)
theorem bN:Ar Tryd.prog [0] 45 ⟨21,oD,[.tmp 2]⟩:=Ar.by Tryd.func45 (by kernel_rfl) (by kernel_rfl) Tryd.ntmps45 (by rw[Tryd.results45]) (by kernel_rfl)
theorem bO:Ar Tryd.prog [0] 46 ⟨35,oF,[.tmp 2]⟩:=Ar.by Tryd.func46 (by kernel_rfl) (by kernel_rfl) Tryd.ntmps46 (by rw[Tryd.results46]) (by kernel_rfl)
theorem bP:Ar Tryd.prog [0] 47 ⟨14,oG,[.tmp 2]⟩:=Ar.by Tryd.func47 (by kernel_rfl) (by kernel_rfl) Tryd.ntmps47 (by rw[Tryd.results47]) (by kernel_rfl)
theorem bQ:Ar Tryd.prog [0] 48 ⟨43,oH,[.tmp 4]⟩:=Ar.by Tryd.func48 (by kernel_rfl) (by kernel_rfl) Tryd.ntmps48 (by rw[Tryd.results48]) (by kernel_rfl)
theorem bR:Ar Tryd.prog [0] 49 ⟨11,oI,[]⟩:=Ar.by Tryd.func49 (by kernel_rfl) (by kernel_rfl) Tryd.ntmps49 (by rw[Tryd.results49]) (by kernel_rfl)
theorem bS:Ar Tryd.prog [0] 50 ⟨61,oJ,[.tmp 2]⟩:=Ar.by Tryd.func50 (by kernel_rfl) (by kernel_rfl) Tryd.ntmps50 (by rw[Tryd.results50]) (by kernel_rfl)
theorem bT:Ar Tryd.prog [0] 51 ⟨41,oK,[.cell 4 52]⟩:=Ar.by Tryd.func51 (by kernel_rfl) (by kernel_rfl) Tryd.ntmps51 (by rw[Tryd.results51]) (by kernel_rfl)
theorem bU:Ar Tryd.prog [0] 52 ⟨9,oL,[.tmp 2]⟩:=Ar.by Tryd.func52 (by kernel_rfl) (by kernel_rfl) Tryd.ntmps52 (by rw[Tryd.results52]) (by kernel_rfl)
theorem Sb:Ar Tryd.prog [0] 53 ⟨6,lS,[.tmp 2]⟩:=Ar.by Tryd.func53 (by kernel_rfl) (by kernel_rfl) Tryd.ntmps53 (by rw[Tryd.results53]) (by kernel_rfl)
theorem bV:Ar Tryd.prog [0] 54 ⟨134,oM,[]⟩:=Ar.by Tryd.func54 (by kernel_rfl) (by kernel_rfl) Tryd.ntmps54 (by rw[Tryd.results54]) (by kernel_rfl)
end Go.Proofs.YtglnihplphhhoaaDoor.TbG
set_option maxRecDepth 100000
namespace Go.Proofs.YtglnihplphhhoaaDoor.TbG
open Go Go.Sp Go.TbG
theorem bW:Ar Tryd.prog [0] 55 ⟨8,oN,[.tmp 2]⟩:=Ar.by Tryd.func55 (by kernel_rfl) (by kernel_rfl) Tryd.ntmps55 (by rw[Tryd.results55]) (by kernel_rfl)
theorem bX:Ar Tryd.prog [0] 56 ⟨49,oO,[]⟩:=Ar.by Tryd.func56 (by kernel_rfl) (by kernel_rfl) Tryd.ntmps56 (by rw[Tryd.results56]) (by kernel_rfl)
theorem bY:Ar Tryd.prog [0] 57 ⟨56,oP,[]⟩:=Ar.by Tryd.func57 (by kernel_rfl) (by kernel_rfl) Tryd.ntmps57 (by rw[Tryd.results57]) (by kernel_rfl)
theorem bZ:Ar Tryd.prog [0] 58 ⟨65,oQ,[]⟩:=Ar.by Tryd.func58 (by kernel_rfl) (by kernel_rfl) Tryd.ntmps58 (by rw[Tryd.results58]) (by kernel_rfl)
theorem cB:Ar Tryd.prog [0] 59 ⟨57,oU,[.tmp 6,.tmp 7]⟩:=Ar.by Tryd.func59 (by kernel_rfl) (by kernel_rfl) Tryd.ntmps59 (by rw[Tryd.results59]) (by kernel_rfl)
theorem cK:Ar Tryd.prog [0] 60 ⟨32,oV,[]⟩:=Ar.by Tryd.func60 (by kernel_rfl) (by kernel_rfl) Tryd.ntmps60 (by rw[Tryd.results60]) (by kernel_rfl)
theorem cO:Ar Tryd.prog [0] 61 ⟨133,oW,[.tmp 6]⟩:=Ar.by Tryd.func61 (by kernel_rfl) (by kernel_rfl) Tryd.ntmps61 (by rw[Tryd.results61]) (by kernel_rfl)
theorem cZ:Ar Tryd.prog [0] 62 ⟨84,oZ,[.tmp 8]⟩:=Ar.by Tryd.func62 (by kernel_rfl) (by kernel_rfl) Tryd.ntmps62 (by rw[Tryd.results62]) (by kernel_rfl)
theorem dA:Ar Tryd.prog [0] 63 ⟨168,pE,[.tmp 8,.tmp 9]⟩:=Ar.by Tryd.func63 (by kernel_rfl) (by kernel_rfl) Tryd.ntmps63 (by rw[Tryd.results63]) (by kernel_rfl)
theorem dB:Ar Tryd.prog [0] 64 ⟨19,pF,[.tmp 2]⟩:=Ar.by Tryd.func64 (by kernel_rfl) (by kernel_rfl) Tryd.ntmps64 (by rw[Tryd.results64]) (by kernel_rfl)
theorem dC:Ar Tryd.prog [0] 65 ⟨25,pG,[.tmp 2]⟩:=Ar.by Tryd.func65 (by kernel_rfl) (by kernel_rfl) Tryd.ntmps65 (by rw[Tryd.results65]) (by kernel_rfl)
theorem dP:Ar Tryd.prog [0] 66 ⟨76,pI,[]⟩:=Ar.by Tryd.func66 (by kernel_rfl) (by kernel_rfl) Tryd.ntmps66 (by rw[Tryd.results66]) (by kernel_rfl)
theorem dQ:Ar Tryd.prog [0] 67 ⟨7,pJ,[.tmp 2]⟩:=Ar.by Tryd.func67 (by kernel_rfl) (by kernel_rfl) Tryd.ntmps67 (by rw[Tryd.results67]) (by kernel_rfl)
theorem dR:Ar Tryd.prog [0] 68 ⟨33,pK,[.tmp 2]⟩:=Ar.by Tryd.func68 (by kernel_rfl) (by kernel_rfl) Tryd.ntmps68 (by rw[Tryd.results68]) (by kernel_rfl)
theorem dS:Ar Tryd.prog [0] 69 ⟨15,pM,[.tmp 6]⟩:=Ar.by Tryd.func69 (by kernel_rfl) (by kernel_rfl) Tryd.ntmps69 (by rw[Tryd.results69]) (by kernel_rfl)
theorem dU:Ar Tryd.prog [0] 70 ⟨36,pO,[.tmp 10]⟩:=Ar.by Tryd.func70 (by kernel_rfl) (by kernel_rfl) Tryd.ntmps70 (by rw[Tryd.results70]) (by kernel_rfl)
theorem dV:Ar Tryd.prog [0] 71 ⟨28,pQ,[.tmp 8,.tmp 9]⟩:=Ar.by Tryd.func71 (by kernel_rfl) (by kernel_rfl) Tryd.ntmps71 (by rw[Tryd.results71]) (by kernel_rfl)
end Go.Proofs.YtglnihplphhhoaaDoor.TbG
set_option maxRecDepth 100000
namespace Go.Proofs.YtglnihplphhhoaaDoor.TbG
open Go Go.Sp Go.TbG
theorem lY:Cu Tryd.prog 3 Wl:=Cu.by Tryd.underlying3 (inf:=Tryd.t3) (by kernel_rfl) (by kernel_rfl) (by kernel_rfl) (by kernel_rfl) (by kernel_rfl) (fun h=>by cases h)
theorem lZ:Cu Tryd.prog 4 pR:=Cu.by Tryd.underlying4 (inf:=Tryd.t4) (by kernel_rfl) (by kernel_rfl) (by kernel_rfl) (by kernel_rfl) (by kernel_rfl) (fun h=>by cases h)
theorem mD:Cu Tryd.prog 5 pV:=Cu.by Tryd.underlying5 (inf:=Tryd.t5) (by kernel_rfl) (by kernel_rfl) (by kernel_rfl) (by kernel_rfl) (by kernel_rfl) (fun h=>by cases h)
theorem mE:Cu Tryd.prog 9 pW:=Cu.by Tryd.underlying9 (inf:=Tryd.t9) (by kernel_rfl) (by kernel_rfl) (by kernel_rfl) (by kernel_rfl) (by kernel_rfl) (fun h=>by cases h)
theorem dX:Cu Tryd.prog 22 X4:=Cu.by Tryd.underlying22 (inf:=Tryd.t22) (by kernel_rfl) (by kernel_rfl) (by kernel_rfl) (by kernel_rfl) (by kernel_rfl) (fun h=>by cases h)
theorem dY:Cu Tryd.prog 24 X5:=Cu.by Tryd.underlying24 (inf:=Tryd.t24) (by kernel_rfl) (by kernel_rfl) (by kernel_rfl) (by kernel_rfl) (by kernel_rfl) (fun h=>by cases h)
theorem dZ:Cu Tryd.prog 25 X6:=Cu.by Tryd.underlying25 (inf:=Tryd.t25) (by kernel_rfl) (by kernel_rfl) (by kernel_rfl) (by kernel_rfl) (by kernel_rfl) (fun h=>by cases h)
theorem eB:Cu Tryd.prog 27 X7:=Cu.by Tryd.underlying27 (inf:=Tryd.t27) (by kernel_rfl) (by kernel_rfl) (by kernel_rfl) (by kernel_rfl) (by kernel_rfl) (fun h=>by cases h)
theorem eF:Cu Tryd.prog 29 X9:=Cu.by Tryd.underlying29 (inf:=Tryd.t29) (by kernel_rfl) (by kernel_rfl) (by kernel_rfl) (by kernel_rfl) (by kernel_rfl) (fun h=>by cases h)
theorem eG:Cu Tryd.prog 31 Ya:=Cu.by Tryd.underlying31 (inf:=Tryd.t31) (by kernel_rfl) (by kernel_rfl) (by kernel_rfl) (by kernel_rfl) (by kernel_rfl) (fun h=>by cases h)
theorem eH:Cu Tryd.prog 34 Yb:=Cu.by Tryd.underlying34 (inf:=Tryd.t34) (by kernel_rfl) (by kernel_rfl) (by kernel_rfl) (by kernel_rfl) (by kernel_rfl) (fun h=>by cases h)
theorem eO:Cu Tryd.prog 35 Yc:=Cu.by Tryd.underlying35 (inf:=Tryd.t35) (by kernel_rfl) (by kernel_rfl) (by kernel_rfl) (by kernel_rfl) (by kernel_rfl) (fun h=>by cases h)
theorem eP:Cu Tryd.prog 45 Yd:=Cu.by Tryd.underlying45 (inf:=Tryd.t45) (by kernel_rfl) (by kernel_rfl) (by kernel_rfl) (by kernel_rfl) (by kernel_rfl) (fun _=>⟨_,rfl,Fl.ok (d:=8) (⟨by kernel_rfl,.inr (.inr (.inr (.inl ⟨2,3,[(.int .i64 0)],Tryd.underlying45,⟨by kernel_rfl,.inl ⟨⟨_,Tryd.underlying3⟩,_,_,rfl⟩⟩,by kernel_rfl⟩)))⟩) (by decide) ⟨_,Tryd.underlying45,rfl⟩ (by kernel_rfl)⟩)
theorem eQ:Cu Tryd.prog 46 Ye:=Cu.by Tryd.underlying46 (inf:=Tryd.t46) (by kernel_rfl) (by kernel_rfl) (by kernel_rfl) (by kernel_rfl) (by kernel_rfl) (fun _=>⟨_,rfl,Fl.ok (d:=8) (⟨by kernel_rfl,.inr (.inr (.inr (.inl ⟨2,5,[(.int .u8 0)],Tryd.underlying46,⟨by kernel_rfl,.inl ⟨⟨_,Tryd.underlying5⟩,_,_,rfl⟩⟩,by kernel_rfl⟩)))⟩) (by decide) ⟨_,Tryd.underlying46,rfl⟩ (by kernel_rfl)⟩)
theorem eT:Cu Tryd.prog 49 Yf:=Cu.by Tryd.underlying49 (inf:=Tryd.t49) (by kernel_rfl) (by kernel_rfl) (by kernel_rfl) (by kernel_rfl) (by kernel_rfl) (fun h=>by cases h)
theorem eU:Cu Tryd.prog 50 Yg:=Cu.by Tryd.underlying50 (inf:=Tryd.t50) (by kernel_rfl) (by kernel_rfl) (by kernel_rfl) (by kernel_rfl) (by kernel_rfl) (fun _=>⟨_,rfl,Fl.ok (d:=8) (⟨by kernel_rfl,.inr (.inr (.inr (.inl ⟨2,49,[(.int .u64 0)],Tryd.underlying50,⟨by kernel_rfl,.inl ⟨⟨_,Tryd.underlying49⟩,_,_,rfl⟩⟩,by kernel_rfl⟩)))⟩) (by decide) ⟨_,Tryd.underlying50,rfl⟩ (by kernel_rfl)⟩)
theorem eX:Cu Tryd.prog 52 Yh:=Cu.by Tryd.underlying52 (inf:=Tryd.t52) (by kernel_rfl) (by kernel_rfl) (by kernel_rfl) (by kernel_rfl) (by kernel_rfl) (fun _=>⟨_,rfl,Fl.ok (d:=8) (⟨by kernel_rfl,.inr (.inr (.inr (.inl ⟨7,50,[(.int .u64 0),(.int .u64 0)],Tryd.underlying52,⟨by kernel_rfl,.inr (.inr (.inr (.inl ⟨2,49,[(.int .u64 0)],Tryd.underlying50,⟨by kernel_rfl,.inl ⟨⟨_,Tryd.underlying49⟩,_,_,rfl⟩⟩,by kernel_rfl⟩)))⟩,by kernel_rfl⟩)))⟩) (by decide) ⟨_,Tryd.underlying52,rfl⟩ (by kernel_rfl)⟩)
theorem eY:Cu Tryd.prog 57 Yi:=Cu.by Tryd.underlying57 (inf:=Tryd.t57) (by kernel_rfl) (by kernel_rfl) (by kernel_rfl) (by kernel_rfl) (by kernel_rfl) (fun h=>by cases h)
theorem fA:Cu Tryd.prog 64 Yj:=Cu.by Tryd.underlying64 (inf:=Tryd.t64) (by kernel_rfl) (by kernel_rfl) (by kernel_rfl) (by kernel_rfl) (by kernel_rfl) (fun h=>by cases h)
theorem fB:Cu Tryd.prog 82 Yk:=Cu.by Tryd.underlying82 (inf:=Tryd.t82) (by kernel_rfl) (by kernel_rfl) (by kernel_rfl) (by kernel_rfl) (by kernel_rfl) (fun h=>by cases h)
theorem fC:Cu Tryd.prog 86 Yl:=Cu.by Tryd.underlying86 (inf:=Tryd.t86) (by kernel_rfl) (by kernel_rfl) (by kernel_rfl) (by kernel_rfl) (by kernel_rfl) (fun _=>⟨_,rfl,Fl.ok (d:=8) (⟨by kernel_rfl,.inr (.inr (.inr (.inl ⟨7,3,[(.int .i64 0)],Tryd.underlying86,⟨by kernel_rfl,.inl ⟨⟨_,Tryd.underlying3⟩,_,_,rfl⟩⟩,by kernel_rfl⟩)))⟩) (by decide) ⟨_,Tryd.underlying86,rfl⟩ (by kernel_rfl)⟩)
theorem fD:Cu Tryd.prog 87 Ym:=Cu.by Tryd.underlying87 (inf:=Tryd.t87) (by kernel_rfl) (by kernel_rfl) (by kernel_rfl) (by kernel_rfl) (by kernel_rfl) (fun h=>by cases h)
theorem fE:Cu Tryd.prog 89 Yn:=Cu.by Tryd.underlying89 (inf:=Tryd.t89) (by kernel_rfl) (by kernel_rfl) (by kernel_rfl) (by kernel_rfl) (by kernel_rfl) (fun h=>by cases h)
theorem fF:Cu Tryd.prog 90 Yo:=Cu.by Tryd.underlying90 (inf:=Tryd.t90) (by kernel_rfl) (by kernel_rfl) (by kernel_rfl) (by kernel_rfl) (by kernel_rfl) (fun h=>by cases h)
theorem fG:Cu Tryd.prog 93 Yp:=Cu.by Tryd.underlying93 (inf:=Tryd.t93) (by kernel_rfl) (by kernel_rfl) (by kernel_rfl) (by kernel_rfl) (by kernel_rfl) (fun _=>⟨_,rfl,Fl.ok (d:=8) (⟨by kernel_rfl,.inr (.inr (.inr (.inl ⟨64,5,[(.int .u8 0)],Tryd.underlying93,⟨by kernel_rfl,.inl ⟨⟨_,Tryd.underlying5⟩,_,_,rfl⟩⟩,by kernel_rfl⟩)))⟩) (by decide) ⟨_,Tryd.underlying93,rfl⟩ (by kernel_rfl)⟩)
theorem fH:Cu Tryd.prog 96 Yq:=Cu.by Tryd.underlying96 (inf:=Tryd.t96) (by kernel_rfl) (by kernel_rfl) (by kernel_rfl) (by kernel_rfl) (by kernel_rfl) (fun h=>by cases h)
theorem UZ:Cu Tryd.prog 103 RS:=Cu.by Tryd.underlying103 (inf:=Tryd.t103) (by kernel_rfl) (by kernel_rfl) (by kernel_rfl) (by kernel_rfl) (by kernel_rfl) (fun h=>by cases h)
theorem U0:Cu Tryd.prog 107 RU:=Cu.by Tryd.underlying107 (inf:=Tryd.t107) (by kernel_rfl) (by kernel_rfl) (by kernel_rfl) (by kernel_rfl) (by kernel_rfl) (fun h=>by cases h)
theorem ttOk:Jm Tryd.prog tt:=Jm.of_all (t:=Yr) ⟨trivial,⟨trivial,⟨lY,⟨trivial,⟨trivial,⟨eG,trivial,trivial⟩,trivial⟩,⟨trivial,⟨trivial,trivial,⟨UZ,trivial,trivial⟩⟩,⟨trivial,⟨fD,trivial,trivial⟩,trivial⟩⟩⟩,⟨trivial,⟨trivial,⟨eO,trivial,trivial⟩,trivial⟩,⟨eB,⟨trivial,trivial,⟨U0,trivial,trivial⟩⟩,trivial⟩⟩⟩,⟨mD,⟨mE,⟨trivial,trivial,⟨eT,trivial,trivial⟩⟩,⟨dZ,trivial,⟨eY,⟨fE,trivial,trivial⟩,trivial⟩⟩⟩,⟨trivial,trivial,⟨eF,⟨eP,trivial,trivial⟩,⟨trivial,⟨fG,trivial,trivial⟩,trivial⟩⟩⟩⟩⟩,⟨trivial,⟨lZ,⟨trivial,⟨trivial,⟨trivial,⟨fA,trivial,trivial⟩,⟨fH,trivial,trivial⟩⟩,trivial⟩,⟨dY,trivial,trivial⟩⟩,⟨trivial,⟨trivial,trivial,⟨eX,trivial,trivial⟩⟩,trivial⟩⟩,⟨trivial,⟨trivial,⟨trivial,⟨eH,trivial,trivial⟩,⟨eU,⟨fB,trivial,trivial⟩,trivial⟩⟩,⟨trivial,trivial,⟨trivial,⟨fF,trivial,trivial⟩,trivial⟩⟩⟩,⟨trivial,⟨dX,trivial,⟨trivial,⟨fC,trivial,trivial⟩,trivial⟩⟩,⟨trivial,⟨eQ,trivial,trivial⟩,trivial⟩⟩⟩⟩⟩
theorem fI:Yt.All (Ar Tryd.prog [0]):=⟨trivial,⟨trivial,⟨trivial,⟨trivial,⟨RZ,⟨ZO,⟨dA,trivial,trivial⟩,trivial⟩,⟨bP,trivial,trivial⟩⟩,⟨R6,⟨R7,⟨dV,trivial,trivial⟩,trivial⟩,⟨bW,trivial,trivial⟩⟩⟩,⟨ZB,⟨ZE,⟨ZT,⟨dQ,trivial,trivial⟩,trivial⟩,⟨bT,trivial,trivial⟩⟩,⟨ZK,⟨bL,trivial,trivial⟩,⟨cB,trivial,trivial⟩⟩⟩⟩,⟨Zx,⟨lX,⟨R4,⟨ZQ,⟨dC,trivial,trivial⟩,trivial⟩,⟨bR,trivial,trivial⟩⟩,⟨ZI,⟨R9,trivial,trivial⟩,⟨bY,trivial,trivial⟩⟩⟩,⟨RX,⟨ZF,⟨bJ,⟨dS,trivial,trivial⟩,trivial⟩,⟨Sb,trivial,trivial⟩⟩,⟨ZM,⟨bN,trivial,trivial⟩,⟨cO,trivial,trivial⟩⟩⟩⟩⟩,⟨trivial,⟨Zw,⟨Zz,⟨R3,⟨ZP,⟨dB,trivial,trivial⟩,trivial⟩,⟨bQ,trivial,trivial⟩⟩,⟨ZH,⟨R8,trivial,trivial⟩,⟨bX,trivial,trivial⟩⟩⟩,⟨RV,⟨R5,⟨bI,⟨dR,trivial,trivial⟩,trivial⟩,⟨bU,trivial,trivial⟩⟩,⟨ZL,⟨bM,trivial,trivial⟩,⟨cK,trivial,trivial⟩⟩⟩⟩,⟨Zy,⟨ZA,⟨ZC,⟨ZR,⟨dP,trivial,trivial⟩,trivial⟩,⟨bS,trivial,trivial⟩⟩,⟨ZJ,⟨Sa,trivial,trivial⟩,⟨bZ,trivial,trivial⟩⟩⟩,⟨RY,⟨ZG,⟨bK,⟨dU,trivial,trivial⟩,trivial⟩,⟨bV,trivial,trivial⟩⟩,⟨ZN,⟨bO,trivial,trivial⟩,⟨cZ,trivial,trivial⟩⟩⟩⟩⟩⟩
theorem fnsOk (f:FuncId) (r:Xq) (h:Gv f=some r):Ar Tryd.prog [0] f r:=fI.get h
end Go.Proofs.YtglnihplphhhoaaDoor.TbG
set_option maxRecDepth 100000
namespace Go.Proofs.YtglnihplphhhoaaDoor.TbG
open Go Go.Sp Go.TbGM Go.TbG
noncomputable section
theorem pY:Ar Tryd.prog (List.range tabs.length) 4 ⟨38,Ng,[.tmp 4]⟩:=by
 have h:c4=Ng:=by kernel_rfl
 rw[←h];exact Zw
theorem qA:Ar Tryd.prog (List.range tabs.length) 5 ⟨84,Nh,[.cell 4 27]⟩:=by
 have h:c5=Nh:=by kernel_rfl
 rw[←h];exact Zx
theorem qB:Ar Tryd.prog (List.range tabs.length) 8 ⟨66,Ni,[.tmp 6,.tmp 7]⟩:=by
 have h:c8=Ni:=by kernel_rfl
 rw[←h];exact Zz
theorem fK:Ar Tryd.prog (List.range tabs.length) 13 ⟨21,JP,[.tmp 2]⟩:=by
 have h:kX=JP:=by kernel_rfl
 rw[←h];exact RX
theorem fM:Ar Tryd.prog (List.range tabs.length) 14 ⟨63,Kb,[.tmp 4,.tmp 5]⟩:=by
 have h:kY=Kb:=by kernel_rfl
 rw[←h];exact RY
theorem fO:Ar Tryd.prog (List.range tabs.length) 16 ⟨9,Oi,[.tmp 4]⟩:=by
 have h:lH=Oi:=by kernel_rfl
 rw[←h];exact R3
theorem fP:Ar Tryd.prog (List.range tabs.length) 17 ⟨9,Ou,[.tmp 2]⟩:=by
 have h:lI=Ou:=by kernel_rfl
 rw[←h];exact R4
theorem fQ:Ar Tryd.prog (List.range tabs.length) 20 ⟨15,Ov,[.tmp 6]⟩:=by
 have h:lJ=Ov:=by kernel_rfl
 rw[←h];exact R5
theorem fT:Ar Tryd.prog (List.range tabs.length) 23 ⟨63,Kc,[.tmp 4,.tmp 5]⟩:=by
 have h:lK=Kc:=by kernel_rfl
 rw[←h];exact R6
theorem fU:Ar Tryd.prog (List.range tabs.length) 39 ⟨17,Ow,[.tmp 4]⟩:=by
 have h:lL=Ow:=by kernel_rfl
 rw[←h];exact R7
theorem fV:Ar Tryd.prog (List.range tabs.length) 40 ⟨46,Ke,[.tmp 2]⟩:=by
 have h:lM=Ke:=by kernel_rfl
 rw[←h];exact R8
theorem fZ:Ar Tryd.prog (List.range tabs.length) 41 ⟨26,Kg,[.tmp 4]⟩:=by
 have h:lN=Kg:=by kernel_rfl
 rw[←h];exact R9
theorem gD:Ar Tryd.prog (List.range tabs.length) 42 ⟨19,Kh,[.tmp 4]⟩:=by
 have h:lQ=Kh:=by kernel_rfl
 rw[←h];exact Sa
theorem gF:Ar Tryd.prog (List.range tabs.length) 53 ⟨6,Ox,[.tmp 2]⟩:=by
 have h:lS=Ox:=by kernel_rfl
 rw[←h];exact Sb
theorem qC:Ar Tryd.prog (List.range tabs.length) 6 ⟨8,O0,[]⟩:=by
 have h:c6=O0:=by kernel_rfl
 rw[←h];exact Zy
theorem gG:Ar Tryd.prog (List.range tabs.length) 15 ⟨29,Hw,[]⟩:=by
 have h:kZ=Hw:=by kernel_rfl
 rw[←h];exact RZ
theorem gH:Ar Tryd.prog (List.range tabs.length) 12 ⟨28,KZ,[]⟩:=by
 have h:kW=KZ:=by kernel_rfl
 rw[←h];exact RV
theorem G9:∀ t∈tabs,t≠[]:=by intro t ht;simp[tabs] at ht;subst ht;intro h;cases h
theorem Ha:∀ t∈tabs,∀ x∈t,BR x=true:=by intro t ht x hx;simp[tabs] at ht;subst ht;simp[ML] at hx;rcases hx with rfl | rfl | rfl | rfl | rfl | rfl | rfl | rfl | rfl | rfl | rfl | rfl | rfl | rfl | rfl | rfl | rfl | rfl | rfl | rfl | rfl | rfl | rfl | rfl | rfl | rfl | rfl | rfl | rfl | rfl | rfl | rfl | rfl | rfl | rfl | rfl | rfl | rfl | rfl | rfl | rfl | rfl | rfl | rfl | rfl | rfl | rfl | rfl | rfl | rfl | rfl | rfl | rfl | rfl | rfl | rfl | rfl | rfl | rfl | rfl | rfl | rfl | rfl | rfl <;> rfl
theorem VL (hm:Tryd.prog.follows .mixedOrders=true) {pu:Af} (h0:Cn Tryd.prog tabs 2 3 6 (pu 10060)) (h1:Cn Tryd.prog tabs 4 6 15 (pu 10150)) (h2:Cn Tryd.prog tabs 4 3 12 (pu 10120)):CO Tryd.prog (List.range tabs.length) (inl pu):=fun g args H v H' h=>by
 replace h:bb (Nat.beq g 18) (MH 1 8 args H) (bb (Nat.beq g 6) (EK tabs [[none],[none]] 2 [.cap 1 0 false,.cap 1 1 false,.cap 1 2 false] [false,false,false] (pu 10060) args H) (bb (Nat.beq g 15) (EK tabs [[some 1],[none],[none],[none]] 4 [.tmp 1 false,.tmp 2 true,.tmp 3 true,.ccap 2 0 0 false,.ccap 2 0 1 false,.ccap 2 0 2 false] [false,true,true,false,false,false] (pu 10150) args H) (bb (Nat.beq g 12) (EK tabs [[some 1],[none],[none],[none]] 4 [.tmp 1 false,.tmp 2 false,.tmp 3 false] [false,false,false] (pu 10120) args H) (none))))=some (v,H'):=h
 have hq:=Ag h;clear h;rcases hq with⟨e,h⟩ | ⟨_,h⟩
 ·obtain rfl:=Nat.eq_of_beq_eq_true e
  exact MI ttOk fnsOk hm h
 have hq:=Ag h;clear h;rcases hq with⟨e,h⟩ | ⟨_,h⟩
 ·obtain rfl:=Nat.eq_of_beq_eq_true e
  exact Ip (rs:=[.cap 1 0 false,.cap 1 1 false,.cap 1 2 false]) G9 Ha h0 h
 have hq:=Ag h;clear h;rcases hq with⟨e,h⟩ | ⟨_,h⟩
 ·obtain rfl:=Nat.eq_of_beq_eq_true e
  exact Ip (rs:=[.tmp 1 false,.tmp 2 true,.tmp 3 true,.ccap 2 0 0 false,.ccap 2 0 1 false,.ccap 2 0 2 false]) G9 Ha h1 h
 have hq:=Ag h;clear h;rcases hq with⟨e,h⟩ | ⟨_,h⟩
 ·obtain rfl:=Nat.eq_of_beq_eq_true e
  exact Ip (rs:=[.tmp 1 false,.tmp 2 false,.tmp 3 false]) G9 Ha h2 h
 cases h
theorem QA (hm:Tryd.prog.follows .mixedOrders=true) (hw:BA Tryd.prog tabs 11 (fun args=>ll args (some (.bool true)) fun _ _=>none)) {pu:Af} (hall:(∀ g,Eo g=true→BA Tryd.prog tabs g (pu g))∧Cn Tryd.prog tabs 2 3 6 (pu 10060)∧Cn Tryd.prog tabs 4 6 15 (pu 10150)∧Cn Tryd.prog tabs 4 3 12 (pu 10120)):(∀ g,Eo g=true→BA Tryd.prog tabs g (Pb pu g))∧Cn Tryd.prog tabs 2 3 6 (Pb pu 10060)∧Cn Tryd.prog tabs 4 6 15 (Pb pu 10150)∧Cn Tryd.prog tabs 4 3 12 (Pb pu 10120):=by
 obtain⟨hpu,h0,h4,h5⟩:=hall
 have hcall:=TG (P:=Tryd.prog) (tabs:=tabs) G9 Ha (VL hm h0 h4 h5) hpu
 refine⟨fun g hg=>?_,?_,?_,?_⟩
 ·have hg:g∈K3:=CS.1 hg
  simp only[K3,List.mem_cons,List.not_mem_nil,or_false] at hg
  rcases hg with rfl | rfl | rfl | rfl | rfl | rfl | rfl | rfl | rfl | rfl | rfl | rfl | rfl | rfl | rfl
  ·exact Aw (tabs:=tabs) (f:=m4 pu L) ttOk hm hcall pY fun args v h hc=>r4 pu L rfl h hc
  ·exact Aw (tabs:=tabs) (f:=m5 pu L) ttOk hm hcall qA fun args v h hc=>r5 pu L rfl h hc
  ·exact Aw (tabs:=tabs) (f:=m8 pu L) ttOk hm hcall qB fun args v h hc=>r8 pu L rfl h hc
  ·exact hw
  ·exact Aw (tabs:=tabs) (f:=iE pu L) ttOk hm hcall fK fun args v h hc=>rA pu L rfl h hc
  ·exact Aw (tabs:=tabs) (f:=iF pu L) ttOk hm hcall fM fun args v h hc=>rC pu L rfl h hc
  ·exact Aw (tabs:=tabs) (f:=iG pu L) ttOk hm hcall fO fun args v h hc=>rD pu L rfl h hc
  ·exact Aw (tabs:=tabs) (f:=iH pu L) ttOk hm hcall fP fun args v h hc=>rE pu L rfl h hc
  ·exact Aw (tabs:=tabs) (f:=iI pu L) ttOk hm hcall fQ fun args v h hc=>rF pu L rfl h hc
  ·exact Aw (tabs:=tabs) (f:=iJ pu L) ttOk hm hcall fT fun args v h hc=>rG pu L rfl h hc
  ·exact Aw (tabs:=tabs) (f:=iK pu L) ttOk hm hcall fU fun args v h hc=>rH pu L rfl h hc
  ·exact Aw (tabs:=tabs) (f:=iL pu L) ttOk hm hcall fV fun args v h hc=>rJ pu L rfl h hc
  ·exact Aw (tabs:=tabs) (f:=iM pu L) ttOk hm hcall fZ fun args v h hc=>rM pu L rfl h hc
  ·exact Aw (tabs:=tabs) (f:=iN pu L) ttOk hm hcall gD fun args v h hc=>rO pu L rfl h hc
  ·exact Aw (tabs:=tabs) (f:=iO pu L) ttOk hm hcall gF fun args v h hc=>rP pu L rfl h hc
 ·exact Dx (tabs:=tabs) (f:=Iy pu L) ttOk hm hcall qC fun args os z h1 h2 h3 h=>UU pu L rfl h1 h2 h3 h
 ·exact Dx (tabs:=tabs) (f:=Iz pu L) ttOk hm hcall gG fun args os z h1 h2 h3 h=>UW pu L rfl h1 h2 h3 h
 ·exact Dx (tabs:=tabs) (f:=IB pu L) ttOk hm hcall gH fun args os z h1 h2 h3 h=>UY pu L rfl h1 h2 h3 h
theorem VM (hm:Tryd.prog.follows .mixedOrders=true) (hw:BA Tryd.prog tabs 11 (fun args=>ll args (some (.bool true)) fun _ _=>none)):∀ n,(∀ g,Eo g=true→BA Tryd.prog tabs g (Bn n g))∧Cn Tryd.prog tabs 2 3 6 (Bn n 10060)∧Cn Tryd.prog tabs 4 6 15 (Bn n 10150)∧Cn Tryd.prog tabs 4 3 12 (Bn n 10120):=fun n=>by
 induction n with
 | zero =>
  refine⟨fun g hg=>?_,?_,?_,?_⟩
  ·have hg:g∈K3:=CS.1 hg
   simp only[K3,List.mem_cons,List.not_mem_nil,or_false] at hg
   rcases hg with rfl | rfl | rfl | rfl | rfl | rfl | rfl | rfl | rfl | rfl | rfl | rfl | rfl | rfl | rfl
   ·exact⟨A9 pY,fun args v h=>by cases h⟩
   ·exact⟨A9 qA,fun args v h=>by cases h⟩
   ·exact⟨A9 qB,fun args v h=>by cases h⟩
   ·exact⟨(hw).1,fun args v h=>by cases h⟩
   ·exact⟨A9 fK,fun args v h=>by cases h⟩
   ·exact⟨A9 fM,fun args v h=>by cases h⟩
   ·exact⟨A9 fO,fun args v h=>by cases h⟩
   ·exact⟨A9 fP,fun args v h=>by cases h⟩
   ·exact⟨A9 fQ,fun args v h=>by cases h⟩
   ·exact⟨A9 fT,fun args v h=>by cases h⟩
   ·exact⟨A9 fU,fun args v h=>by cases h⟩
   ·exact⟨A9 fV,fun args v h=>by cases h⟩
   ·exact⟨A9 fZ,fun args v h=>by cases h⟩
   ·exact⟨A9 gD,fun args v h=>by cases h⟩
   ·exact⟨A9 gF,fun args v h=>by cases h⟩
  ·exact⟨A9 qC,fun args os z h1 h2 h3 h=>by cases h⟩
  ·exact⟨A9 gG,fun args os z h1 h2 h3 h=>by cases h⟩
  ·exact⟨A9 gH,fun args os z h1 h2 h3 h=>by cases h⟩
 | succ n ih=>exact QA hm hw ih
theorem pu_ok (hm:Tryd.prog.follows .mixedOrders=true) (hw:BA Tryd.prog tabs 11 (fun args=>ll args (some (.bool true)) fun _ _=>none)):∀ n g,Eo g=true→BA Tryd.prog tabs g (Bn n g):=fun n=>(VM hm hw n).1
end
end Go.Proofs.YtglnihplphhhoaaDoor.TbG
