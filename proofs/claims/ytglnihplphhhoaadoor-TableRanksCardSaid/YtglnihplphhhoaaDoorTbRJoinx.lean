/- Made from wip. -/
import Derived.Test.YtglnihplphhhoaaDoorProg
import Derived.Test.YtglnihplphhhoaaDoorSpObjx
import Derived.Test.YtglnihplphhhoaaDoorTbRCode
import Derived.Test.YtglnihplphhhoaaDoorTbRPux

set_option maxRecDepth 100000
namespace Go.Proofs.YtglnihplphhhoaaDoor.TbR
open Go Go.Sp Go.TbR
theorem mH:Ar Tryd.prog [0] 3 ⟨94,c3,[.tmp 2]⟩:=Ar.by Tryd.func3 (by kernel_rfl) (by kernel_rfl) Tryd.ntmps3 (by rw[Tryd.results3]) (by kernel_rfl)
theorem mI:Ar Tryd.prog [0] 5 ⟨84,c5,[.cell 4 27]⟩:=Ar.by Tryd.func5 (by kernel_rfl) (by kernel_rfl) Tryd.ntmps5 (by rw[Tryd.results5]) (by kernel_rfl)
theorem mJ:Ar Tryd.prog [0] 6 ⟨8,c6,[]⟩:=Ar.by Tryd.func6 (by kernel_rfl) (by kernel_rfl) Tryd.ntmps6 (by rw[Tryd.results6]) (by kernel_rfl)
theorem mK:Ar Tryd.prog [0] 7 ⟨41,c7,[]⟩:=Ar.by Tryd.func7 (by kernel_rfl) (by kernel_rfl) Tryd.ntmps7 (by rw[Tryd.results7]) (by kernel_rfl)
theorem mM:Ar Tryd.prog [0] 8 ⟨66,c8,[.tmp 6,.tmp 7]⟩:=Ar.by Tryd.func8 (by kernel_rfl) (by kernel_rfl) Tryd.ntmps8 (by rw[Tryd.results8]) (by kernel_rfl)
theorem mO:Ar Tryd.prog [0] 9 ⟨61,c9,[.tmp 4,.tmp 5,.tmp 6]⟩:=Ar.by Tryd.func9 (by kernel_rfl) (by kernel_rfl) Tryd.ntmps9 (by rw[Tryd.results9]) (by kernel_rfl)
theorem Ws:Ar Tryd.prog [0] 10 ⟨19,vY,[.tmp 2,.tmp 3]⟩:=Ar.by Tryd.func10 (by kernel_rfl) (by kernel_rfl) Tryd.ntmps10 (by rw[Tryd.results10]) (by kernel_rfl)
theorem mP:Ar Tryd.prog [0] 11 ⟨235,yI,[.tmp 0]⟩:=Ar.by Tryd.func11 (by kernel_rfl) (by kernel_rfl) Tryd.ntmps11 (by rw[Tryd.results11]) (by kernel_rfl)
theorem Wt:Ar Tryd.prog [0] 13 ⟨21,vZ,[.tmp 2]⟩:=Ar.by Tryd.func13 (by kernel_rfl) (by kernel_rfl) Tryd.ntmps13 (by rw[Tryd.results13]) (by kernel_rfl)
theorem mQ:Ar Tryd.prog [0] 14 ⟨63,yJ,[.tmp 4,.tmp 5]⟩:=Ar.by Tryd.func14 (by kernel_rfl) (by kernel_rfl) Tryd.ntmps14 (by rw[Tryd.results14]) (by kernel_rfl)
theorem Wu:Ar Tryd.prog [0] 15 ⟨29,wB,[]⟩:=Ar.by Tryd.func15 (by kernel_rfl) (by kernel_rfl) Tryd.ntmps15 (by rw[Tryd.results15]) (by kernel_rfl)
theorem Wv:Ar Tryd.prog [0] 16 ⟨9,wC,[.tmp 4]⟩:=Ar.by Tryd.func16 (by kernel_rfl) (by kernel_rfl) Tryd.ntmps16 (by rw[Tryd.results16]) (by kernel_rfl)
theorem Ww:Ar Tryd.prog [0] 17 ⟨9,wI,[.tmp 2]⟩:=Ar.by Tryd.func17 (by kernel_rfl) (by kernel_rfl) Tryd.ntmps17 (by rw[Tryd.results17]) (by kernel_rfl)
theorem nD:Ar Tryd.prog [0] 18 ⟨8,tO,[.tmp 2]⟩:=Ar.by Tryd.func18 (by kernel_rfl) (by kernel_rfl) Tryd.ntmps18 (by rw[Tryd.results18]) (by kernel_rfl)
theorem Wx:Ar Tryd.prog [0] 19 ⟨17,wJ,[.cell 2 52,.tmp 3]⟩:=Ar.by Tryd.func19 (by kernel_rfl) (by kernel_rfl) Tryd.ntmps19 (by rw[Tryd.results19]) (by kernel_rfl)
theorem Wy:Ar Tryd.prog [0] 20 ⟨15,wK,[.tmp 6]⟩:=Ar.by Tryd.func20 (by kernel_rfl) (by kernel_rfl) Tryd.ntmps20 (by rw[Tryd.results20]) (by kernel_rfl)
theorem Wz:Ar Tryd.prog [0] 21 ⟨8,wL,[.tmp 2]⟩:=Ar.by Tryd.func21 (by kernel_rfl) (by kernel_rfl) Tryd.ntmps21 (by rw[Tryd.results21]) (by kernel_rfl)
theorem WA:Ar Tryd.prog [0] 22 ⟨38,wM,[.tmp 4]⟩:=Ar.by Tryd.func22 (by kernel_rfl) (by kernel_rfl) Tryd.ntmps22 (by rw[Tryd.results22]) (by kernel_rfl)
theorem nG:Ar Tryd.prog [0] 23 ⟨63,yK,[.tmp 4,.tmp 5]⟩:=Ar.by Tryd.func23 (by kernel_rfl) (by kernel_rfl) Tryd.ntmps23 (by rw[Tryd.results23]) (by kernel_rfl)
theorem nH:Ar Tryd.prog [0] 24 ⟨3,yL,[.cell 0 27]⟩:=Ar.by Tryd.func24 (by kernel_rfl) (by kernel_rfl) Tryd.ntmps24 (by rw[Tryd.results24]) (by kernel_rfl)
theorem nI:Ar Tryd.prog [0] 25 ⟨4,yM,[.tmp 2]⟩:=Ar.by Tryd.func25 (by kernel_rfl) (by kernel_rfl) Tryd.ntmps25 (by rw[Tryd.results25]) (by kernel_rfl)
theorem nJ:Ar Tryd.prog [0] 26 ⟨3,yN,[.cell 0 27]⟩:=Ar.by Tryd.func26 (by kernel_rfl) (by kernel_rfl) Tryd.ntmps26 (by rw[Tryd.results26]) (by kernel_rfl)
theorem nK:Ar Tryd.prog [0] 27 ⟨25,yO,[.tmp 2,.tmp 3]⟩:=Ar.by Tryd.func27 (by kernel_rfl) (by kernel_rfl) Tryd.ntmps27 (by rw[Tryd.results27]) (by kernel_rfl)
theorem nL:Ar Tryd.prog [0] 28 ⟨40,yP,[.tmp 2,.tmp 3]⟩:=Ar.by Tryd.func28 (by kernel_rfl) (by kernel_rfl) Tryd.ntmps28 (by rw[Tryd.results28]) (by kernel_rfl)
theorem nM:Ar Tryd.prog [0] 29 ⟨39,yQ,[.tmp 2,.tmp 3]⟩:=Ar.by Tryd.func29 (by kernel_rfl) (by kernel_rfl) Tryd.ntmps29 (by rw[Tryd.results29]) (by kernel_rfl)
end Go.Proofs.YtglnihplphhhoaaDoor.TbR
set_option maxRecDepth 100000
namespace Go.Proofs.YtglnihplphhhoaaDoor.TbR
open Go Go.Sp Go.TbR
theorem nN:Ar Tryd.prog [0] 30 ⟨53,yR,[.tmp 2,.tmp 3]⟩:=Ar.by Tryd.func30 (by kernel_rfl) (by kernel_rfl) Tryd.ntmps30 (by rw[Tryd.results30]) (by kernel_rfl)
theorem nO:Ar Tryd.prog [0] 31 ⟨61,yS,[.tmp 2,.tmp 3]⟩:=Ar.by Tryd.func31 (by kernel_rfl) (by kernel_rfl) Tryd.ntmps31 (by rw[Tryd.results31]) (by kernel_rfl)
theorem nP:Ar Tryd.prog [0] 32 ⟨83,yT,[.tmp 2,.tmp 3]⟩:=Ar.by Tryd.func32 (by kernel_rfl) (by kernel_rfl) Tryd.ntmps32 (by rw[Tryd.results32]) (by kernel_rfl)
theorem nQ:Ar Tryd.prog [0] 33 ⟨32,yU,[.cell 4 27]⟩:=Ar.by Tryd.func33 (by kernel_rfl) (by kernel_rfl) Tryd.ntmps33 (by rw[Tryd.results33]) (by kernel_rfl)
theorem nR:Ar Tryd.prog [0] 34 ⟨26,yV,[.tmp 4]⟩:=Ar.by Tryd.func34 (by kernel_rfl) (by kernel_rfl) Tryd.ntmps34 (by rw[Tryd.results34]) (by kernel_rfl)
theorem nS:Ar Tryd.prog [0] 35 ⟨27,zC,[.tmp 4]⟩:=Ar.by Tryd.func35 (by kernel_rfl) (by kernel_rfl) Tryd.ntmps35 (by rw[Tryd.results35]) (by kernel_rfl)
theorem nT:Ar Tryd.prog [0] 36 ⟨4,zF,[.tmp 2]⟩:=Ar.by Tryd.func36 (by kernel_rfl) (by kernel_rfl) Tryd.ntmps36 (by rw[Tryd.results36]) (by kernel_rfl)
theorem nU:Ar Tryd.prog [0] 37 ⟨26,zG,[.tmp 4]⟩:=Ar.by Tryd.func37 (by kernel_rfl) (by kernel_rfl) Tryd.ntmps37 (by rw[Tryd.results37]) (by kernel_rfl)
theorem nV:Ar Tryd.prog [0] 38 ⟨20,zH,[.tmp 4]⟩:=Ar.by Tryd.func38 (by kernel_rfl) (by kernel_rfl) Tryd.ntmps38 (by rw[Tryd.results38]) (by kernel_rfl)
theorem WB:Ar Tryd.prog [0] 39 ⟨17,wO,[.tmp 4]⟩:=Ar.by Tryd.func39 (by kernel_rfl) (by kernel_rfl) Tryd.ntmps39 (by rw[Tryd.results39]) (by kernel_rfl)
theorem WC:Ar Tryd.prog [0] 40 ⟨46,wP,[.tmp 2]⟩:=Ar.by Tryd.func40 (by kernel_rfl) (by kernel_rfl) Tryd.ntmps40 (by rw[Tryd.results40]) (by kernel_rfl)
theorem nW:Ar Tryd.prog [0] 41 ⟨26,zJ,[.tmp 4]⟩:=Ar.by Tryd.func41 (by kernel_rfl) (by kernel_rfl) Tryd.ntmps41 (by rw[Tryd.results41]) (by kernel_rfl)
theorem WE:Ar Tryd.prog [0] 42 ⟨19,wQ,[.tmp 4]⟩:=Ar.by Tryd.func42 (by kernel_rfl) (by kernel_rfl) Tryd.ntmps42 (by rw[Tryd.results42]) (by kernel_rfl)
theorem WF:Ar Tryd.prog [0] 43 ⟨38,wR,[.cell 2 52]⟩:=Ar.by Tryd.func43 (by kernel_rfl) (by kernel_rfl) Tryd.ntmps43 (by rw[Tryd.results43]) (by kernel_rfl)
theorem WG:Ar Tryd.prog [0] 44 ⟨21,wS,[.cell 4 52]⟩:=Ar.by Tryd.func44 (by kernel_rfl) (by kernel_rfl) Tryd.ntmps44 (by rw[Tryd.results44]) (by kernel_rfl)
theorem WH:Ar Tryd.prog [0] 45 ⟨21,wT,[.tmp 2]⟩:=Ar.by Tryd.func45 (by kernel_rfl) (by kernel_rfl) Tryd.ntmps45 (by rw[Tryd.results45]) (by kernel_rfl)
theorem WI:Ar Tryd.prog [0] 46 ⟨35,wU,[.tmp 2]⟩:=Ar.by Tryd.func46 (by kernel_rfl) (by kernel_rfl) Tryd.ntmps46 (by rw[Tryd.results46]) (by kernel_rfl)
theorem WJ:Ar Tryd.prog [0] 47 ⟨14,wV,[.tmp 2]⟩:=Ar.by Tryd.func47 (by kernel_rfl) (by kernel_rfl) Tryd.ntmps47 (by rw[Tryd.results47]) (by kernel_rfl)
theorem nX:Ar Tryd.prog [0] 48 ⟨43,zK,[.tmp 4]⟩:=Ar.by Tryd.func48 (by kernel_rfl) (by kernel_rfl) Tryd.ntmps48 (by rw[Tryd.results48]) (by kernel_rfl)
theorem nY:Ar Tryd.prog [0] 49 ⟨11,zL,[]⟩:=Ar.by Tryd.func49 (by kernel_rfl) (by kernel_rfl) Tryd.ntmps49 (by rw[Tryd.results49]) (by kernel_rfl)
theorem nZ:Ar Tryd.prog [0] 50 ⟨61,zM,[.tmp 2]⟩:=Ar.by Tryd.func50 (by kernel_rfl) (by kernel_rfl) Tryd.ntmps50 (by rw[Tryd.results50]) (by kernel_rfl)
theorem WK:Ar Tryd.prog [0] 51 ⟨41,wW,[.cell 4 52]⟩:=Ar.by Tryd.func51 (by kernel_rfl) (by kernel_rfl) Tryd.ntmps51 (by rw[Tryd.results51]) (by kernel_rfl)
theorem oF:Ar Tryd.prog [0] 52 ⟨9,zN,[.tmp 2]⟩:=Ar.by Tryd.func52 (by kernel_rfl) (by kernel_rfl) Tryd.ntmps52 (by rw[Tryd.results52]) (by kernel_rfl)
theorem WL:Ar Tryd.prog [0] 53 ⟨6,wZ,[.tmp 2]⟩:=Ar.by Tryd.func53 (by kernel_rfl) (by kernel_rfl) Tryd.ntmps53 (by rw[Tryd.results53]) (by kernel_rfl)
theorem oG:Ar Tryd.prog [0] 54 ⟨134,zO,[]⟩:=Ar.by Tryd.func54 (by kernel_rfl) (by kernel_rfl) Tryd.ntmps54 (by rw[Tryd.results54]) (by kernel_rfl)
end Go.Proofs.YtglnihplphhhoaaDoor.TbR
set_option maxRecDepth 100000
namespace Go.Proofs.YtglnihplphhhoaaDoor.TbR
open Go Go.Sp Go.TbR
theorem oH:Ar Tryd.prog [0] 55 ⟨8,zP,[.tmp 2]⟩:=Ar.by Tryd.func55 (by kernel_rfl) (by kernel_rfl) Tryd.ntmps55 (by rw[Tryd.results55]) (by kernel_rfl)
theorem oI:Ar Tryd.prog [0] 56 ⟨49,zQ,[]⟩:=Ar.by Tryd.func56 (by kernel_rfl) (by kernel_rfl) Tryd.ntmps56 (by rw[Tryd.results56]) (by kernel_rfl)
theorem oJ:Ar Tryd.prog [0] 57 ⟨56,zR,[]⟩:=Ar.by Tryd.func57 (by kernel_rfl) (by kernel_rfl) Tryd.ntmps57 (by rw[Tryd.results57]) (by kernel_rfl)
theorem oK:Ar Tryd.prog [0] 58 ⟨65,zS,[]⟩:=Ar.by Tryd.func58 (by kernel_rfl) (by kernel_rfl) Tryd.ntmps58 (by rw[Tryd.results58]) (by kernel_rfl)
theorem oL:Ar Tryd.prog [0] 59 ⟨57,zT,[.tmp 6,.tmp 7]⟩:=Ar.by Tryd.func59 (by kernel_rfl) (by kernel_rfl) Tryd.ntmps59 (by rw[Tryd.results59]) (by kernel_rfl)
theorem oM:Ar Tryd.prog [0] 60 ⟨32,zV,[]⟩:=Ar.by Tryd.func60 (by kernel_rfl) (by kernel_rfl) Tryd.ntmps60 (by rw[Tryd.results60]) (by kernel_rfl)
theorem oN:Ar Tryd.prog [0] 61 ⟨133,zW,[.tmp 6]⟩:=Ar.by Tryd.func61 (by kernel_rfl) (by kernel_rfl) Tryd.ntmps61 (by rw[Tryd.results61]) (by kernel_rfl)
theorem oO:Ar Tryd.prog [0] 62 ⟨84,zX,[.tmp 8]⟩:=Ar.by Tryd.func62 (by kernel_rfl) (by kernel_rfl) Tryd.ntmps62 (by rw[Tryd.results62]) (by kernel_rfl)
theorem oP:Ar Tryd.prog [0] 63 ⟨168,zZ,[.tmp 8,.tmp 9]⟩:=Ar.by Tryd.func63 (by kernel_rfl) (by kernel_rfl) Tryd.ntmps63 (by rw[Tryd.results63]) (by kernel_rfl)
theorem oQ:Ar Tryd.prog [0] 64 ⟨19,c64,[.tmp 2]⟩:=Ar.by Tryd.func64 (by kernel_rfl) (by kernel_rfl) Tryd.ntmps64 (by rw[Tryd.results64]) (by kernel_rfl)
theorem oU:Ar Tryd.prog [0] 65 ⟨25,c65,[.tmp 2]⟩:=Ar.by Tryd.func65 (by kernel_rfl) (by kernel_rfl) Tryd.ntmps65 (by rw[Tryd.results65]) (by kernel_rfl)
theorem oV:Ar Tryd.prog [0] 66 ⟨76,c66,[]⟩:=Ar.by Tryd.func66 (by kernel_rfl) (by kernel_rfl) Tryd.ntmps66 (by rw[Tryd.results66]) (by kernel_rfl)
theorem oW:Ar Tryd.prog [0] 67 ⟨7,c67,[.tmp 2]⟩:=Ar.by Tryd.func67 (by kernel_rfl) (by kernel_rfl) Tryd.ntmps67 (by rw[Tryd.results67]) (by kernel_rfl)
theorem oZ:Ar Tryd.prog [0] 68 ⟨33,c68,[.tmp 2]⟩:=Ar.by Tryd.func68 (by kernel_rfl) (by kernel_rfl) Tryd.ntmps68 (by rw[Tryd.results68]) (by kernel_rfl)
theorem pE:Ar Tryd.prog [0] 69 ⟨15,c69,[.tmp 6]⟩:=Ar.by Tryd.func69 (by kernel_rfl) (by kernel_rfl) Tryd.ntmps69 (by rw[Tryd.results69]) (by kernel_rfl)
theorem pF:Ar Tryd.prog [0] 70 ⟨36,c70,[.tmp 10]⟩:=Ar.by Tryd.func70 (by kernel_rfl) (by kernel_rfl) Tryd.ntmps70 (by rw[Tryd.results70]) (by kernel_rfl)
theorem pG:Ar Tryd.prog [0] 71 ⟨28,c71,[.tmp 8,.tmp 9]⟩:=Ar.by Tryd.func71 (by kernel_rfl) (by kernel_rfl) Tryd.ntmps71 (by rw[Tryd.results71]) (by kernel_rfl)
end Go.Proofs.YtglnihplphhhoaaDoor.TbR
set_option maxRecDepth 100000
namespace Go.Proofs.YtglnihplphhhoaaDoor.TbR
open Go Go.Sp Go.TbR
theorem xJ:Cu Tryd.prog 3 xA:=Cu.by Tryd.underlying3 (inf:=Tryd.t3) (by kernel_rfl) (by kernel_rfl) (by kernel_rfl) (by kernel_rfl) (by kernel_rfl) (fun h=>by cases h)
theorem xK:Cu Tryd.prog 4 ti4:=Cu.by Tryd.underlying4 (inf:=Tryd.t4) (by kernel_rfl) (by kernel_rfl) (by kernel_rfl) (by kernel_rfl) (by kernel_rfl) (fun h=>by cases h)
theorem xL:Cu Tryd.prog 5 ti5:=Cu.by Tryd.underlying5 (inf:=Tryd.t5) (by kernel_rfl) (by kernel_rfl) (by kernel_rfl) (by kernel_rfl) (by kernel_rfl) (fun h=>by cases h)
theorem xM:Cu Tryd.prog 9 ti9:=Cu.by Tryd.underlying9 (inf:=Tryd.t9) (by kernel_rfl) (by kernel_rfl) (by kernel_rfl) (by kernel_rfl) (by kernel_rfl) (fun h=>by cases h)
theorem pI:Cu Tryd.prog 22 iX:=Cu.by Tryd.underlying22 (inf:=Tryd.t22) (by kernel_rfl) (by kernel_rfl) (by kernel_rfl) (by kernel_rfl) (by kernel_rfl) (fun h=>by cases h)
theorem pJ:Cu Tryd.prog 24 iY:=Cu.by Tryd.underlying24 (inf:=Tryd.t24) (by kernel_rfl) (by kernel_rfl) (by kernel_rfl) (by kernel_rfl) (by kernel_rfl) (fun h=>by cases h)
theorem pK:Cu Tryd.prog 25 iZ:=Cu.by Tryd.underlying25 (inf:=Tryd.t25) (by kernel_rfl) (by kernel_rfl) (by kernel_rfl) (by kernel_rfl) (by kernel_rfl) (fun h=>by cases h)
theorem pM:Cu Tryd.prog 27 jA:=Cu.by Tryd.underlying27 (inf:=Tryd.t27) (by kernel_rfl) (by kernel_rfl) (by kernel_rfl) (by kernel_rfl) (by kernel_rfl) (fun h=>by cases h)
theorem pO:Cu Tryd.prog 29 jC:=Cu.by Tryd.underlying29 (inf:=Tryd.t29) (by kernel_rfl) (by kernel_rfl) (by kernel_rfl) (by kernel_rfl) (by kernel_rfl) (fun h=>by cases h)
theorem pQ:Cu Tryd.prog 31 jD:=Cu.by Tryd.underlying31 (inf:=Tryd.t31) (by kernel_rfl) (by kernel_rfl) (by kernel_rfl) (by kernel_rfl) (by kernel_rfl) (fun h=>by cases h)
theorem pR:Cu Tryd.prog 34 jE:=Cu.by Tryd.underlying34 (inf:=Tryd.t34) (by kernel_rfl) (by kernel_rfl) (by kernel_rfl) (by kernel_rfl) (by kernel_rfl) (fun h=>by cases h)
theorem pV:Cu Tryd.prog 35 jJ:=Cu.by Tryd.underlying35 (inf:=Tryd.t35) (by kernel_rfl) (by kernel_rfl) (by kernel_rfl) (by kernel_rfl) (by kernel_rfl) (fun h=>by cases h)
theorem pW:Cu Tryd.prog 45 jK:=Cu.by Tryd.underlying45 (inf:=Tryd.t45) (by kernel_rfl) (by kernel_rfl) (by kernel_rfl) (by kernel_rfl) (by kernel_rfl) (fun _=>⟨_,rfl,Fl.ok (d:=8) (⟨by kernel_rfl,.inr (.inr (.inr (.inl ⟨2,3,[(.int .i64 0)],Tryd.underlying45,⟨by kernel_rfl,.inl ⟨⟨_,Tryd.underlying3⟩,_,_,rfl⟩⟩,by kernel_rfl⟩)))⟩) (by decide) ⟨_,Tryd.underlying45,rfl⟩ (by kernel_rfl)⟩)
theorem pX:Cu Tryd.prog 46 jL:=Cu.by Tryd.underlying46 (inf:=Tryd.t46) (by kernel_rfl) (by kernel_rfl) (by kernel_rfl) (by kernel_rfl) (by kernel_rfl) (fun _=>⟨_,rfl,Fl.ok (d:=8) (⟨by kernel_rfl,.inr (.inr (.inr (.inl ⟨2,5,[(.int .u8 0)],Tryd.underlying46,⟨by kernel_rfl,.inl ⟨⟨_,Tryd.underlying5⟩,_,_,rfl⟩⟩,by kernel_rfl⟩)))⟩) (by decide) ⟨_,Tryd.underlying46,rfl⟩ (by kernel_rfl)⟩)
theorem pY:Cu Tryd.prog 49 kQ:=Cu.by Tryd.underlying49 (inf:=Tryd.t49) (by kernel_rfl) (by kernel_rfl) (by kernel_rfl) (by kernel_rfl) (by kernel_rfl) (fun h=>by cases h)
theorem qA:Cu Tryd.prog 50 kR:=Cu.by Tryd.underlying50 (inf:=Tryd.t50) (by kernel_rfl) (by kernel_rfl) (by kernel_rfl) (by kernel_rfl) (by kernel_rfl) (fun _=>⟨_,rfl,Fl.ok (d:=8) (⟨by kernel_rfl,.inr (.inr (.inr (.inl ⟨2,49,[(.int .u64 0)],Tryd.underlying50,⟨by kernel_rfl,.inl ⟨⟨_,Tryd.underlying49⟩,_,_,rfl⟩⟩,by kernel_rfl⟩)))⟩) (by decide) ⟨_,Tryd.underlying50,rfl⟩ (by kernel_rfl)⟩)
theorem qB:Cu Tryd.prog 52 kS:=Cu.by Tryd.underlying52 (inf:=Tryd.t52) (by kernel_rfl) (by kernel_rfl) (by kernel_rfl) (by kernel_rfl) (by kernel_rfl) (fun _=>⟨_,rfl,Fl.ok (d:=8) (⟨by kernel_rfl,.inr (.inr (.inr (.inl ⟨7,50,[(.int .u64 0),(.int .u64 0)],Tryd.underlying52,⟨by kernel_rfl,.inr (.inr (.inr (.inl ⟨2,49,[(.int .u64 0)],Tryd.underlying50,⟨by kernel_rfl,.inl ⟨⟨_,Tryd.underlying49⟩,_,_,rfl⟩⟩,by kernel_rfl⟩)))⟩,by kernel_rfl⟩)))⟩) (by decide) ⟨_,Tryd.underlying52,rfl⟩ (by kernel_rfl)⟩)
theorem qC:Cu Tryd.prog 57 kT:=Cu.by Tryd.underlying57 (inf:=Tryd.t57) (by kernel_rfl) (by kernel_rfl) (by kernel_rfl) (by kernel_rfl) (by kernel_rfl) (fun h=>by cases h)
theorem qR:Cu Tryd.prog 64 kU:=Cu.by Tryd.underlying64 (inf:=Tryd.t64) (by kernel_rfl) (by kernel_rfl) (by kernel_rfl) (by kernel_rfl) (by kernel_rfl) (fun h=>by cases h)
theorem qU:Cu Tryd.prog 82 kV:=Cu.by Tryd.underlying82 (inf:=Tryd.t82) (by kernel_rfl) (by kernel_rfl) (by kernel_rfl) (by kernel_rfl) (by kernel_rfl) (fun h=>by cases h)
theorem qV:Cu Tryd.prog 86 kW:=Cu.by Tryd.underlying86 (inf:=Tryd.t86) (by kernel_rfl) (by kernel_rfl) (by kernel_rfl) (by kernel_rfl) (by kernel_rfl) (fun _=>⟨_,rfl,Fl.ok (d:=8) (⟨by kernel_rfl,.inr (.inr (.inr (.inl ⟨7,3,[(.int .i64 0)],Tryd.underlying86,⟨by kernel_rfl,.inl ⟨⟨_,Tryd.underlying3⟩,_,_,rfl⟩⟩,by kernel_rfl⟩)))⟩) (by decide) ⟨_,Tryd.underlying86,rfl⟩ (by kernel_rfl)⟩)
theorem qW:Cu Tryd.prog 87 kX:=Cu.by Tryd.underlying87 (inf:=Tryd.t87) (by kernel_rfl) (by kernel_rfl) (by kernel_rfl) (by kernel_rfl) (by kernel_rfl) (fun h=>by cases h)
theorem qX:Cu Tryd.prog 89 kY:=Cu.by Tryd.underlying89 (inf:=Tryd.t89) (by kernel_rfl) (by kernel_rfl) (by kernel_rfl) (by kernel_rfl) (by kernel_rfl) (fun h=>by cases h)
theorem rA:Cu Tryd.prog 90 kZ:=Cu.by Tryd.underlying90 (inf:=Tryd.t90) (by kernel_rfl) (by kernel_rfl) (by kernel_rfl) (by kernel_rfl) (by kernel_rfl) (fun h=>by cases h)
theorem rC:Cu Tryd.prog 93 lH:=Cu.by Tryd.underlying93 (inf:=Tryd.t93) (by kernel_rfl) (by kernel_rfl) (by kernel_rfl) (by kernel_rfl) (by kernel_rfl) (fun _=>⟨_,rfl,Fl.ok (d:=8) (⟨by kernel_rfl,.inr (.inr (.inr (.inl ⟨64,5,[(.int .u8 0)],Tryd.underlying93,⟨by kernel_rfl,.inl ⟨⟨_,Tryd.underlying5⟩,_,_,rfl⟩⟩,by kernel_rfl⟩)))⟩) (by decide) ⟨_,Tryd.underlying93,rfl⟩ (by kernel_rfl)⟩)
theorem rD:Cu Tryd.prog 96 lI:=Cu.by Tryd.underlying96 (inf:=Tryd.t96) (by kernel_rfl) (by kernel_rfl) (by kernel_rfl) (by kernel_rfl) (by kernel_rfl) (fun h=>by cases h)
theorem Zt:Cu Tryd.prog 103 Wp:=Cu.by Tryd.underlying103 (inf:=Tryd.t103) (by kernel_rfl) (by kernel_rfl) (by kernel_rfl) (by kernel_rfl) (by kernel_rfl) (fun h=>by cases h)
theorem Zu:Cu Tryd.prog 107 Wq:=Cu.by Tryd.underlying107 (inf:=Tryd.t107) (by kernel_rfl) (by kernel_rfl) (by kernel_rfl) (by kernel_rfl) (by kernel_rfl) (fun h=>by cases h)
theorem ttOk:Jm Tryd.prog tt:=Jm.of_all (t:=lJ) ⟨trivial,⟨trivial,⟨xJ,⟨trivial,⟨trivial,⟨pQ,trivial,trivial⟩,trivial⟩,⟨trivial,⟨trivial,trivial,⟨Zt,trivial,trivial⟩⟩,⟨trivial,⟨qW,trivial,trivial⟩,trivial⟩⟩⟩,⟨trivial,⟨trivial,⟨pV,trivial,trivial⟩,trivial⟩,⟨pM,⟨trivial,trivial,⟨Zu,trivial,trivial⟩⟩,trivial⟩⟩⟩,⟨xL,⟨xM,⟨trivial,trivial,⟨pY,trivial,trivial⟩⟩,⟨pK,trivial,⟨qC,⟨qX,trivial,trivial⟩,trivial⟩⟩⟩,⟨trivial,trivial,⟨pO,⟨pW,trivial,trivial⟩,⟨trivial,⟨rC,trivial,trivial⟩,trivial⟩⟩⟩⟩⟩,⟨trivial,⟨xK,⟨trivial,⟨trivial,⟨trivial,⟨qR,trivial,trivial⟩,⟨rD,trivial,trivial⟩⟩,trivial⟩,⟨pJ,trivial,trivial⟩⟩,⟨trivial,⟨trivial,trivial,⟨qB,trivial,trivial⟩⟩,trivial⟩⟩,⟨trivial,⟨trivial,⟨trivial,⟨pR,trivial,trivial⟩,⟨qA,⟨qU,trivial,trivial⟩,trivial⟩⟩,⟨trivial,trivial,⟨trivial,⟨rA,trivial,trivial⟩,trivial⟩⟩⟩,⟨trivial,⟨pI,trivial,⟨trivial,⟨qV,trivial,trivial⟩,trivial⟩⟩,⟨trivial,⟨pX,trivial,trivial⟩,trivial⟩⟩⟩⟩⟩
theorem rE:lK.All (Ar Tryd.prog [0]):=⟨trivial,⟨trivial,⟨mH,⟨mK,⟨Wu,⟨nO,⟨oP,trivial,trivial⟩,trivial⟩,⟨WJ,trivial,trivial⟩⟩,⟨nG,⟨WB,⟨pG,trivial,trivial⟩,trivial⟩,⟨oH,trivial,trivial⟩⟩⟩,⟨mP,⟨Wx,⟨nS,⟨oW,trivial,trivial⟩,trivial⟩,⟨WK,trivial,trivial⟩⟩,⟨nK,⟨WF,trivial,trivial⟩,⟨oL,trivial,trivial⟩⟩⟩⟩,⟨mI,⟨mO,⟨Ww,⟨nQ,⟨oU,trivial,trivial⟩,trivial⟩,⟨nY,trivial,trivial⟩⟩,⟨nI,⟨nW,trivial,trivial⟩,⟨oJ,trivial,trivial⟩⟩⟩,⟨Wt,⟨Wz,⟨nU,⟨pE,trivial,trivial⟩,trivial⟩,⟨WL,trivial,trivial⟩⟩,⟨nM,⟨WH,trivial,trivial⟩,⟨oN,trivial,trivial⟩⟩⟩⟩⟩,⟨trivial,⟨trivial,⟨mM,⟨Wv,⟨nP,⟨oQ,trivial,trivial⟩,trivial⟩,⟨nX,trivial,trivial⟩⟩,⟨nH,⟨WC,trivial,trivial⟩,⟨oI,trivial,trivial⟩⟩⟩,⟨trivial,⟨Wy,⟨nT,⟨oZ,trivial,trivial⟩,trivial⟩,⟨oF,trivial,trivial⟩⟩,⟨nL,⟨WG,trivial,trivial⟩,⟨oM,trivial,trivial⟩⟩⟩⟩,⟨mJ,⟨Ws,⟨nD,⟨nR,⟨oV,trivial,trivial⟩,trivial⟩,⟨nZ,trivial,trivial⟩⟩,⟨nJ,⟨WE,trivial,trivial⟩,⟨oK,trivial,trivial⟩⟩⟩,⟨mQ,⟨WA,⟨nV,⟨pF,trivial,trivial⟩,trivial⟩,⟨oG,trivial,trivial⟩⟩,⟨nN,⟨WI,trivial,trivial⟩,⟨oO,trivial,trivial⟩⟩⟩⟩⟩⟩
theorem fnsOk (f:FuncId) (r:Xq) (h:JO f=some r):Ar Tryd.prog [0] f r:=rE.get h
end Go.Proofs.YtglnihplphhhoaaDoor.TbR
set_option maxRecDepth 100000
namespace Go.Proofs.YtglnihplphhhoaaDoor.TbR
open Go Go.Sp Go.TbRM Go.TbR
noncomputable section
theorem fk3:Ar Tryd.prog (List.range tabs.length) 3 ⟨94,PM,[.tmp 2]⟩:=by
 have h:c3=PM:=by kernel_rfl
 rw[←h];exact mH
theorem fk5:Ar Tryd.prog (List.range tabs.length) 5 ⟨84,PN,[.cell 4 27]⟩:=by
 have h:c5=PN:=by kernel_rfl
 rw[←h];exact mI
theorem fk8:Ar Tryd.prog (List.range tabs.length) 8 ⟨66,PO,[.tmp 6,.tmp 7]⟩:=by
 have h:c8=PO:=by kernel_rfl
 rw[←h];exact mM
theorem fk9:Ar Tryd.prog (List.range tabs.length) 9 ⟨61,PP,[.tmp 4,.tmp 5,.tmp 6]⟩:=by
 have h:c9=PP:=by kernel_rfl
 rw[←h];exact mO
theorem rF:Ar Tryd.prog (List.range tabs.length) 10 ⟨19,MU,[.tmp 2,.tmp 3]⟩:=by
 have h:vY=MU:=by kernel_rfl
 rw[←h];exact Ws
theorem rG:Ar Tryd.prog (List.range tabs.length) 13 ⟨21,M8,[.tmp 2]⟩:=by
 have h:vZ=M8:=by kernel_rfl
 rw[←h];exact Wt
theorem rH:Ar Tryd.prog (List.range tabs.length) 16 ⟨9,PQ,[.tmp 4]⟩:=by
 have h:wC=PQ:=by kernel_rfl
 rw[←h];exact Wv
theorem rJ:Ar Tryd.prog (List.range tabs.length) 17 ⟨9,Qp,[.tmp 2]⟩:=by
 have h:wI=Qp:=by kernel_rfl
 rw[←h];exact Ww
theorem rM:Ar Tryd.prog (List.range tabs.length) 19 ⟨17,M9,[.cell 2 52,.tmp 3]⟩:=by
 have h:wJ=M9:=by kernel_rfl
 rw[←h];exact Wx
theorem rO:Ar Tryd.prog (List.range tabs.length) 20 ⟨15,Qq,[.tmp 6]⟩:=by
 have h:wK=Qq:=by kernel_rfl
 rw[←h];exact Wy
theorem rP:Ar Tryd.prog (List.range tabs.length) 21 ⟨8,Qr,[.tmp 2]⟩:=by
 have h:wL=Qr:=by kernel_rfl
 rw[←h];exact Wz
theorem rQ:Ar Tryd.prog (List.range tabs.length) 22 ⟨38,Nc,[.tmp 4]⟩:=by
 have h:wM=Nc:=by kernel_rfl
 rw[←h];exact WA
theorem rR:Ar Tryd.prog (List.range tabs.length) 39 ⟨17,Qs,[.tmp 4]⟩:=by
 have h:wO=Qs:=by kernel_rfl
 rw[←h];exact WB
theorem rT:Ar Tryd.prog (List.range tabs.length) 40 ⟨46,Nf,[.tmp 2]⟩:=by
 have h:wP=Nf:=by kernel_rfl
 rw[←h];exact WC
theorem rU:Ar Tryd.prog (List.range tabs.length) 42 ⟨19,Ng,[.tmp 4]⟩:=by
 have h:wQ=Ng:=by kernel_rfl
 rw[←h];exact WE
theorem rV:Ar Tryd.prog (List.range tabs.length) 43 ⟨38,Nh,[.cell 2 52]⟩:=by
 have h:wR=Nh:=by kernel_rfl
 rw[←h];exact WF
theorem rW:Ar Tryd.prog (List.range tabs.length) 44 ⟨21,Ni,[.cell 4 52]⟩:=by
 have h:wS=Ni:=by kernel_rfl
 rw[←h];exact WG
theorem rX:Ar Tryd.prog (List.range tabs.length) 45 ⟨21,Qt,[.tmp 2]⟩:=by
 have h:wT=Qt:=by kernel_rfl
 rw[←h];exact WH
theorem rY:Ar Tryd.prog (List.range tabs.length) 46 ⟨35,Oi,[.tmp 2]⟩:=by
 have h:wU=Oi:=by kernel_rfl
 rw[←h];exact WI
theorem rZ:Ar Tryd.prog (List.range tabs.length) 47 ⟨14,Qu,[.tmp 2]⟩:=by
 have h:wV=Qu:=by kernel_rfl
 rw[←h];exact WJ
theorem sD:Ar Tryd.prog (List.range tabs.length) 51 ⟨41,Ou,[.cell 4 52]⟩:=by
 have h:wW=Ou:=by kernel_rfl
 rw[←h];exact WK
theorem sG:Ar Tryd.prog (List.range tabs.length) 53 ⟨6,Qv,[.tmp 2]⟩:=by
 have h:wZ=Qv:=by kernel_rfl
 rw[←h];exact WL
theorem fk6:Ar Tryd.prog (List.range tabs.length) 6 ⟨8,R9,[]⟩:=by
 have h:c6=R9:=by kernel_rfl
 rw[←h];exact mJ
theorem sH:Ar Tryd.prog (List.range tabs.length) 15 ⟨29,KZ,[]⟩:=by
 have h:wB=KZ:=by kernel_rfl
 rw[←h];exact Wu
theorem fk7:Ar Tryd.prog (List.range tabs.length) 7 ⟨41,OJ,[]⟩:=by
 have h:c7=OJ:=by kernel_rfl
 rw[←h];exact mK
theorem KV:∀ t∈tabs,t≠[]:=by intro t ht;simp[tabs] at ht;subst ht;intro h;cases h
theorem KW:∀ t∈tabs,∀ x∈t,BR x=true:=by intro t ht x hx;simp[tabs] at ht;subst ht;simp[L6] at hx;rcases hx with rfl | rfl | rfl | rfl | rfl | rfl | rfl | rfl | rfl | rfl | rfl | rfl | rfl | rfl | rfl | rfl | rfl | rfl | rfl | rfl | rfl | rfl | rfl | rfl | rfl | rfl | rfl | rfl | rfl | rfl | rfl | rfl | rfl | rfl | rfl | rfl | rfl | rfl | rfl | rfl | rfl | rfl | rfl | rfl | rfl | rfl | rfl | rfl | rfl | rfl | rfl | rfl | rfl | rfl | rfl | rfl | rfl | rfl | rfl | rfl | rfl | rfl | rfl | rfl <;> rfl
theorem Zv (hm:Tryd.prog.follows .mixedOrders=true) {pu:Af} (h0:Cn Tryd.prog tabs 2 5 6 (pu 10060)) (h1:Cn Tryd.prog tabs 4 8 15 (pu 10150)) (h2:Cn Tryd.prog tabs 4 5 7 (pu 10070)):CO Tryd.prog (List.range tabs.length) (inl pu):=fun g args H v H' h=>by
 replace h:bb (Nat.beq g 18) (Ph 1 8 args H) (bb (Nat.beq g 6) (EK tabs [[none],[none]] 2 [.cap 1 0 false,.cap 1 1 true,.cap 1 2 true,.cell 2 0 false,.cell 3 0 false] [false,true,true,false,false] (pu 10060) args H) (bb (Nat.beq g 15) (EK tabs [[some 1],[none],[none],[none]] 4 [.tmp 1 false,.tmp 2 true,.tmp 3 true,.ccap 2 0 0 false,.ccap 2 0 1 true,.ccap 2 0 2 true,.cell 5 0 false,.cell 6 0 false] [false,true,true,false,true,true,false,false] (pu 10150) args H) (bb (Nat.beq g 7) (EK tabs [[some 1],[none],[none],[none]] 4 [.tmp 1 false,.tmp 2 true,.tmp 3 true,.cell 2 0 false,.cell 3 0 false] [false,true,true,false,false] (pu 10070) args H) (none))))=some (v,H'):=h
 have hq:=Ag h;clear h;rcases hq with⟨e,h⟩ | ⟨_,h⟩
 ·obtain rfl:=Nat.eq_of_beq_eq_true e
  exact Pi ttOk fnsOk hm h
 have hq:=Ag h;clear h;rcases hq with⟨e,h⟩ | ⟨_,h⟩
 ·obtain rfl:=Nat.eq_of_beq_eq_true e
  exact Ip (rs:=[.cap 1 0 false,.cap 1 1 true,.cap 1 2 true,.cell 2 0 false,.cell 3 0 false]) KV KW h0 h
 have hq:=Ag h;clear h;rcases hq with⟨e,h⟩ | ⟨_,h⟩
 ·obtain rfl:=Nat.eq_of_beq_eq_true e
  exact Ip (rs:=[.tmp 1 false,.tmp 2 true,.tmp 3 true,.ccap 2 0 0 false,.ccap 2 0 1 true,.ccap 2 0 2 true,.cell 5 0 false,.cell 6 0 false]) KV KW h1 h
 have hq:=Ag h;clear h;rcases hq with⟨e,h⟩ | ⟨_,h⟩
 ·obtain rfl:=Nat.eq_of_beq_eq_true e
  exact Ip (rs:=[.tmp 1 false,.tmp 2 true,.tmp 3 true,.cell 2 0 false,.cell 3 0 false]) KV KW h2 h
 cases h
theorem UV (hm:Tryd.prog.follows .mixedOrders=true) (hw:BA Tryd.prog tabs 11 (fun args=>ll args (some (.bool true)) fun _ _=>none)) {pu:Af} (hall:(∀ g,Fb g=true→BA Tryd.prog tabs g (pu g))∧Cn Tryd.prog tabs 2 5 6 (pu 10060)∧Cn Tryd.prog tabs 4 8 15 (pu 10150)∧Cn Tryd.prog tabs 4 5 7 (pu 10070)):(∀ g,Fb g=true→BA Tryd.prog tabs g (Sn pu g))∧Cn Tryd.prog tabs 2 5 6 (Sn pu 10060)∧Cn Tryd.prog tabs 4 8 15 (Sn pu 10150)∧Cn Tryd.prog tabs 4 5 7 (Sn pu 10070):=by
 obtain⟨hpu,h0,h4,h5⟩:=hall
 have hcall:=TG (P:=Tryd.prog) (tabs:=tabs) KV KW (Zv hm h0 h4 h5) hpu
 refine⟨fun g hg=>?_,?_,?_,?_⟩
 ·have hg:g∈OL:=CS.1 hg
  simp only[OL,List.mem_cons,List.not_mem_nil,or_false] at hg
  rcases hg with rfl | rfl | rfl | rfl | rfl | rfl | rfl | rfl | rfl | rfl | rfl | rfl | rfl | rfl | rfl | rfl | rfl | rfl | rfl | rfl | rfl | rfl | rfl
  ·exact Aw (tabs:=tabs) (f:=m3 pu L) ttOk hm hcall fk3 fun args v h hc=>r3 pu L rfl h hc
  ·exact Aw (tabs:=tabs) (f:=m5 pu L) ttOk hm hcall fk5 fun args v h hc=>r5 pu L rfl h hc
  ·exact Aw (tabs:=tabs) (f:=m8 pu L) ttOk hm hcall fk8 fun args v h hc=>r8 pu L rfl h hc
  ·exact Aw (tabs:=tabs) (f:=m9 pu L) ttOk hm hcall fk9 fun args v h hc=>r9 pu L rfl h hc
  ·exact Aw (tabs:=tabs) (f:=tZ pu L) ttOk hm hcall rF fun args v h hc=>r10 pu L rfl h hc
  ·exact hw
  ·exact Aw (tabs:=tabs) (f:=uA pu L) ttOk hm hcall rG fun args v h hc=>r13 pu L rfl h hc
  ·exact Aw (tabs:=tabs) (f:=uB pu L) ttOk hm hcall rH fun args v h hc=>r16 pu L rfl h hc
  ·exact Aw (tabs:=tabs) (f:=uC pu L) ttOk hm hcall rJ fun args v h hc=>r17 pu L rfl h hc
  ·exact Aw (tabs:=tabs) (f:=uD pu L) ttOk hm hcall rM fun args v h hc=>r19 pu L rfl h hc
  ·exact Aw (tabs:=tabs) (f:=uE pu L) ttOk hm hcall rO fun args v h hc=>r20 pu L rfl h hc
  ·exact Aw (tabs:=tabs) (f:=uF pu L) ttOk hm hcall rP fun args v h hc=>r21 pu L rfl h hc
  ·exact Aw (tabs:=tabs) (f:=uG pu L) ttOk hm hcall rQ fun args v h hc=>r22 pu L rfl h hc
  ·exact Aw (tabs:=tabs) (f:=uH pu L) ttOk hm hcall rR fun args v h hc=>r39 pu L rfl h hc
  ·exact Aw (tabs:=tabs) (f:=uI pu L) ttOk hm hcall rT fun args v h hc=>r40 pu L rfl h hc
  ·exact Aw (tabs:=tabs) (f:=uJ pu L) ttOk hm hcall rU fun args v h hc=>r42 pu L rfl h hc
  ·exact Aw (tabs:=tabs) (f:=uK pu L) ttOk hm hcall rV fun args v h hc=>r43 pu L rfl h hc
  ·exact Aw (tabs:=tabs) (f:=uL pu L) ttOk hm hcall rW fun args v h hc=>r44 pu L rfl h hc
  ·exact Aw (tabs:=tabs) (f:=uM pu L) ttOk hm hcall rX fun args v h hc=>r45 pu L rfl h hc
  ·exact Aw (tabs:=tabs) (f:=uN pu L) ttOk hm hcall rY fun args v h hc=>r46 pu L rfl h hc
  ·exact Aw (tabs:=tabs) (f:=uO pu L) ttOk hm hcall rZ fun args v h hc=>r47 pu L rfl h hc
  ·exact Aw (tabs:=tabs) (f:=uP pu L) ttOk hm hcall sD fun args v h hc=>r51 pu L rfl h hc
  ·exact Aw (tabs:=tabs) (f:=uQ pu L) ttOk hm hcall sG fun args v h hc=>r53 pu L rfl h hc
 ·exact Dx (tabs:=tabs) (f:=LJ pu L) ttOk hm hcall fk6 fun args os z h1 h2 h3 h=>Yy pu L rfl h1 h2 h3 h
 ·exact Dx (tabs:=tabs) (f:=LK pu L) ttOk hm hcall sH fun args os z h1 h2 h3 h=>YA pu L rfl h1 h2 h3 h
 ·exact Dx (tabs:=tabs) (f:=LM pu L) ttOk hm hcall fk7 fun args os z h1 h2 h3 h=>YC pu L rfl h1 h2 h3 h
theorem Zw (hm:Tryd.prog.follows .mixedOrders=true) (hw:BA Tryd.prog tabs 11 (fun args=>ll args (some (.bool true)) fun _ _=>none)):∀ n,(∀ g,Fb g=true→BA Tryd.prog tabs g (BI n g))∧Cn Tryd.prog tabs 2 5 6 (BI n 10060)∧Cn Tryd.prog tabs 4 8 15 (BI n 10150)∧Cn Tryd.prog tabs 4 5 7 (BI n 10070):=fun n=>by
 induction n with
 | zero =>
  refine⟨fun g hg=>?_,?_,?_,?_⟩
  ·have hg:g∈OL:=CS.1 hg
   simp only[OL,List.mem_cons,List.not_mem_nil,or_false] at hg
   rcases hg with rfl | rfl | rfl | rfl | rfl | rfl | rfl | rfl | rfl | rfl | rfl | rfl | rfl | rfl | rfl | rfl | rfl | rfl | rfl | rfl | rfl | rfl | rfl
   ·exact⟨A9 fk3,fun args v h=>by cases h⟩
   ·exact⟨A9 fk5,fun args v h=>by cases h⟩
   ·exact⟨A9 fk8,fun args v h=>by cases h⟩
   ·exact⟨A9 fk9,fun args v h=>by cases h⟩
   ·exact⟨A9 rF,fun args v h=>by cases h⟩
   ·exact⟨(hw).1,fun args v h=>by cases h⟩
   ·exact⟨A9 rG,fun args v h=>by cases h⟩
   ·exact⟨A9 rH,fun args v h=>by cases h⟩
   ·exact⟨A9 rJ,fun args v h=>by cases h⟩
   ·exact⟨A9 rM,fun args v h=>by cases h⟩
   ·exact⟨A9 rO,fun args v h=>by cases h⟩
   ·exact⟨A9 rP,fun args v h=>by cases h⟩
   ·exact⟨A9 rQ,fun args v h=>by cases h⟩
   ·exact⟨A9 rR,fun args v h=>by cases h⟩
   ·exact⟨A9 rT,fun args v h=>by cases h⟩
   ·exact⟨A9 rU,fun args v h=>by cases h⟩
   ·exact⟨A9 rV,fun args v h=>by cases h⟩
   ·exact⟨A9 rW,fun args v h=>by cases h⟩
   ·exact⟨A9 rX,fun args v h=>by cases h⟩
   ·exact⟨A9 rY,fun args v h=>by cases h⟩
   ·exact⟨A9 rZ,fun args v h=>by cases h⟩
   ·exact⟨A9 sD,fun args v h=>by cases h⟩
   ·exact⟨A9 sG,fun args v h=>by cases h⟩
  ·exact⟨A9 fk6,fun args os z h1 h2 h3 h=>by cases h⟩
  ·exact⟨A9 sH,fun args os z h1 h2 h3 h=>by cases h⟩
  ·exact⟨A9 fk7,fun args os z h1 h2 h3 h=>by cases h⟩
 | succ n ih=>exact UV hm hw ih
theorem pu_ok (hm:Tryd.prog.follows .mixedOrders=true) (hw:BA Tryd.prog tabs 11 (fun args=>ll args (some (.bool true)) fun _ _=>none)):∀ n g,Fb g=true→BA Tryd.prog tabs g (BI n g):=fun n=>(Zw hm hw n).1
end
end Go.Proofs.YtglnihplphhhoaaDoor.TbR
