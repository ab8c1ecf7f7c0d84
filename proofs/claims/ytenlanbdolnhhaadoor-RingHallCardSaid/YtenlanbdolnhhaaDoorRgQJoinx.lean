/- Made from wip. -/
import Derived.Test.YtenlanbdolnhhaaDoorProg
import Derived.Test.YtenlanbdolnhhaaDoorSpObjx
import Derived.Test.YtenlanbdolnhhaaDoorRgQMod0x
import Derived.Test.YtenlanbdolnhhaaDoorRgQPux

set_option maxRecDepth 100000
namespace Go.Proofs.YtenlanbdolnhhaaDoor.RgQ
open Go Go.Sp Go.RgQ
theorem Ads:Ar Tryd.prog [0] 3 ⟨199,c3,[.tmp 6]⟩:=Ar.by Tryd.func3 (by kernel_rfl) (by kernel_rfl) Tryd.ntmps3 (by rw[Tryd.results3]) (by kernel_rfl)
theorem Adt:Ar Tryd.prog [0] 4 ⟨62,c4,[.tmp 4,.tmp 5]⟩:=Ar.by Tryd.func4 (by kernel_rfl) (by kernel_rfl) Tryd.ntmps4 (by rw[Tryd.results4]) (by kernel_rfl)
theorem Adu:Ar Tryd.prog [0] 5 ⟨43,c5,[.tmp 2,.tmp 3]⟩:=Ar.by Tryd.func5 (by kernel_rfl) (by kernel_rfl) Tryd.ntmps5 (by rw[Tryd.results5]) (by kernel_rfl)
theorem Adv:Ar Tryd.prog [0] 6 ⟨26,c6,[.tmp 4]⟩:=Ar.by Tryd.func6 (by kernel_rfl) (by kernel_rfl) Tryd.ntmps6 (by rw[Tryd.results6]) (by kernel_rfl)
theorem Adw:Ar Tryd.prog [0] 7 ⟨23,c7,[.tmp 4]⟩:=Ar.by Tryd.func7 (by kernel_rfl) (by kernel_rfl) Tryd.ntmps7 (by rw[Tryd.results7]) (by kernel_rfl)
theorem Adx:Ar Tryd.prog [0] 8 ⟨9,c8,[.tmp 4]⟩:=Ar.by Tryd.func8 (by kernel_rfl) (by kernel_rfl) Tryd.ntmps8 (by rw[Tryd.results8]) (by kernel_rfl)
theorem Ady:Ar Tryd.prog [0] 9 ⟨39,c9,[.cell 4 28,.tmp 5]⟩:=Ar.by Tryd.func9 (by kernel_rfl) (by kernel_rfl) Tryd.ntmps9 (by rw[Tryd.results9]) (by kernel_rfl)
theorem kX:Ar Tryd.prog [0] 10 ⟨16,c10,[.tmp 2,.tmp 3]⟩:=Ar.by Tryd.func10 (by kernel_rfl) (by kernel_rfl) Tryd.ntmps10 (by rw[Tryd.results10]) (by kernel_rfl)
theorem kY:Ar Tryd.prog [0] 11 ⟨54,c11,[.tmp 2,.tmp 3]⟩:=Ar.by Tryd.func11 (by kernel_rfl) (by kernel_rfl) Tryd.ntmps11 (by rw[Tryd.results11]) (by kernel_rfl)
theorem kZ:Ar Tryd.prog [0] 12 ⟨9,c12,[.cell 4 28]⟩:=Ar.by Tryd.func12 (by kernel_rfl) (by kernel_rfl) Tryd.ntmps12 (by rw[Tryd.results12]) (by kernel_rfl)
theorem lH:Ar Tryd.prog [0] 13 ⟨35,c13,[.tmp 8]⟩:=Ar.by Tryd.func13 (by kernel_rfl) (by kernel_rfl) Tryd.ntmps13 (by rw[Tryd.results13]) (by kernel_rfl)
theorem lI:Ar Tryd.prog [0] 14 ⟨14,c14,[.tmp 2]⟩:=Ar.by Tryd.func14 (by kernel_rfl) (by kernel_rfl) Tryd.ntmps14 (by rw[Tryd.results14]) (by kernel_rfl)
theorem ZK:Ar Tryd.prog [0] 15 ⟨262,c15,[.tmp 0]⟩:=Ar.by Tryd.func15 (by kernel_rfl) (by kernel_rfl) Tryd.ntmps15 (by rw[Tryd.results15]) (by kernel_rfl)
theorem lJ:Ar Tryd.prog [0] 16 ⟨25,c16,[.tmp 3]⟩:=Ar.by Tryd.func16 (by kernel_rfl) (by kernel_rfl) Tryd.ntmps16 (by rw[Tryd.results16]) (by kernel_rfl)
theorem lK:Ar Tryd.prog [0] 17 ⟨38,c17,[.tmp 2]⟩:=Ar.by Tryd.func17 (by kernel_rfl) (by kernel_rfl) Tryd.ntmps17 (by rw[Tryd.results17]) (by kernel_rfl)
theorem lL:Ar Tryd.prog [0] 18 ⟨48,c18,[.tmp 10]⟩:=Ar.by Tryd.func18 (by kernel_rfl) (by kernel_rfl) Tryd.ntmps18 (by rw[Tryd.results18]) (by kernel_rfl)
theorem lM:Ar Tryd.prog [0] 19 ⟨20,c19,[.tmp 4]⟩:=Ar.by Tryd.func19 (by kernel_rfl) (by kernel_rfl) Tryd.ntmps19 (by rw[Tryd.results19]) (by kernel_rfl)
theorem lN:Ar Tryd.prog [0] 20 ⟨36,c20,[.cell 2 45]⟩:=Ar.by Tryd.func20 (by kernel_rfl) (by kernel_rfl) Tryd.ntmps20 (by rw[Tryd.results20]) (by kernel_rfl)
theorem lQ:Ar Tryd.prog [0] 21 ⟨26,c21,[.tmp 4]⟩:=Ar.by Tryd.func21 (by kernel_rfl) (by kernel_rfl) Tryd.ntmps21 (by rw[Tryd.results21]) (by kernel_rfl)
theorem lS:Ar Tryd.prog [0] 22 ⟨24,c22,[.tmp 2]⟩:=Ar.by Tryd.func22 (by kernel_rfl) (by kernel_rfl) Tryd.ntmps22 (by rw[Tryd.results22]) (by kernel_rfl)
theorem lT:Ar Tryd.prog [0] 23 ⟨8,c23,[.cell 2 28]⟩:=Ar.by Tryd.func23 (by kernel_rfl) (by kernel_rfl) Tryd.ntmps23 (by rw[Tryd.results23]) (by kernel_rfl)
theorem lU:Ar Tryd.prog [0] 24 ⟨16,c24,[.cell 2 45,.tmp 3]⟩:=Ar.by Tryd.func24 (by kernel_rfl) (by kernel_rfl) Tryd.ntmps24 (by rw[Tryd.results24]) (by kernel_rfl)
theorem lV:Ar Tryd.prog [0] 25 ⟨23,c25,[.tmp 4]⟩:=Ar.by Tryd.func25 (by kernel_rfl) (by kernel_rfl) Tryd.ntmps25 (by rw[Tryd.results25]) (by kernel_rfl)
theorem lW:Ar Tryd.prog [0] 26 ⟨30,c26,[.cell 4 45]⟩:=Ar.by Tryd.func26 (by kernel_rfl) (by kernel_rfl) Tryd.ntmps26 (by rw[Tryd.results26]) (by kernel_rfl)
theorem lX:Ar Tryd.prog [0] 27 ⟨19,c27,[.tmp 4,.tmp 5]⟩:=Ar.by Tryd.func27 (by kernel_rfl) (by kernel_rfl) Tryd.ntmps27 (by rw[Tryd.results27]) (by kernel_rfl)
end Go.Proofs.YtenlanbdolnhhaaDoor.RgQ
set_option maxRecDepth 100000
namespace Go.Proofs.YtenlanbdolnhhaaDoor.RgQ
open Go Go.Sp Go.RgQ
theorem lY:Ar Tryd.prog [0] 28 ⟨21,c28,[.tmp 2]⟩:=Ar.by Tryd.func28 (by kernel_rfl) (by kernel_rfl) Tryd.ntmps28 (by rw[Tryd.results28]) (by kernel_rfl)
theorem lZ:Ar Tryd.prog [0] 29 ⟨19,c29,[.tmp 4]⟩:=Ar.by Tryd.func29 (by kernel_rfl) (by kernel_rfl) Tryd.ntmps29 (by rw[Tryd.results29]) (by kernel_rfl)
theorem mD:Ar Tryd.prog [0] 30 ⟨15,c30,[.tmp 2]⟩:=Ar.by Tryd.func30 (by kernel_rfl) (by kernel_rfl) Tryd.ntmps30 (by rw[Tryd.results30]) (by kernel_rfl)
theorem mE:Ar Tryd.prog [0] 31 ⟨27,c31,[.tmp 2]⟩:=Ar.by Tryd.func31 (by kernel_rfl) (by kernel_rfl) Tryd.ntmps31 (by rw[Tryd.results31]) (by kernel_rfl)
theorem mK:Ar Tryd.prog [0] 32 ⟨11,c32,[.tmp 4]⟩:=Ar.by Tryd.func32 (by kernel_rfl) (by kernel_rfl) Tryd.ntmps32 (by rw[Tryd.results32]) (by kernel_rfl)
theorem mM:Ar Tryd.prog [0] 33 ⟨19,c33,[.tmp 2]⟩:=Ar.by Tryd.func33 (by kernel_rfl) (by kernel_rfl) Tryd.ntmps33 (by rw[Tryd.results33]) (by kernel_rfl)
theorem Adz:Ar Tryd.prog [0] 34 ⟨53,c34,[.tmp 2,.tmp 3]⟩:=Ar.by Tryd.func34 (by kernel_rfl) (by kernel_rfl) Tryd.ntmps34 (by rw[Tryd.results34]) (by kernel_rfl)
theorem AdA:Ar Tryd.prog [0] 35 ⟨8,c35,[.cell 4 28]⟩:=Ar.by Tryd.func35 (by kernel_rfl) (by kernel_rfl) Tryd.ntmps35 (by rw[Tryd.results35]) (by kernel_rfl)
theorem AdB:Ar Tryd.prog [0] 36 ⟨16,c36,[.tmp 2,.tmp 3]⟩:=Ar.by Tryd.func36 (by kernel_rfl) (by kernel_rfl) Tryd.ntmps36 (by rw[Tryd.results36]) (by kernel_rfl)
theorem AdC:Ar Tryd.prog [0] 37 ⟨23,c37,[.cell 4 28,.tmp 5]⟩:=Ar.by Tryd.func37 (by kernel_rfl) (by kernel_rfl) Tryd.ntmps37 (by rw[Tryd.results37]) (by kernel_rfl)
theorem AdD:Ar Tryd.prog [0] 38 ⟨18,c38,[.cell 2 28,.tmp 3]⟩:=Ar.by Tryd.func38 (by kernel_rfl) (by kernel_rfl) Tryd.ntmps38 (by rw[Tryd.results38]) (by kernel_rfl)
theorem AdE:Ar Tryd.prog [0] 39 ⟨62,c39,[.tmp 4,.tmp 5,.tmp 6]⟩:=Ar.by Tryd.func39 (by kernel_rfl) (by kernel_rfl) Tryd.ntmps39 (by rw[Tryd.results39]) (by kernel_rfl)
theorem AdF:Ar Tryd.prog [0] 40 ⟨39,c40,[.tmp 4,.tmp 5]⟩:=Ar.by Tryd.func40 (by kernel_rfl) (by kernel_rfl) Tryd.ntmps40 (by rw[Tryd.results40]) (by kernel_rfl)
theorem AdG:Ar Tryd.prog [0] 41 ⟨19,c41,[.tmp 2,.tmp 3]⟩:=Ar.by Tryd.func41 (by kernel_rfl) (by kernel_rfl) Tryd.ntmps41 (by rw[Tryd.results41]) (by kernel_rfl)
theorem AdH:Ar Tryd.prog [0] 42 ⟨40,c42,[.cell 4 28,.tmp 5]⟩:=Ar.by Tryd.func42 (by kernel_rfl) (by kernel_rfl) Tryd.ntmps42 (by rw[Tryd.results42]) (by kernel_rfl)
theorem mO:Ar Tryd.prog [0] 43 ⟨4,c43,[.tmp 2]⟩:=Ar.by Tryd.func43 (by kernel_rfl) (by kernel_rfl) Tryd.ntmps43 (by rw[Tryd.results43]) (by kernel_rfl)
theorem AdI:Ar Tryd.prog [0] 44 ⟨17,c44,[.tmp 6]⟩:=Ar.by Tryd.func44 (by kernel_rfl) (by kernel_rfl) Tryd.ntmps44 (by rw[Tryd.results44]) (by kernel_rfl)
theorem AdJ:Ar Tryd.prog [0] 45 ⟨27,c45,[.tmp 4]⟩:=Ar.by Tryd.func45 (by kernel_rfl) (by kernel_rfl) Tryd.ntmps45 (by rw[Tryd.results45]) (by kernel_rfl)
theorem mP:Ar Tryd.prog [0] 46 ⟨19,c46,[.tmp 2]⟩:=Ar.by Tryd.func46 (by kernel_rfl) (by kernel_rfl) Tryd.ntmps46 (by rw[Tryd.results46]) (by kernel_rfl)
theorem mQ:Ar Tryd.prog [0] 47 ⟨15,c47,[.tmp 4]⟩:=Ar.by Tryd.func47 (by kernel_rfl) (by kernel_rfl) Tryd.ntmps47 (by rw[Tryd.results47]) (by kernel_rfl)
theorem nD:Ar Tryd.prog [0] 48 ⟨26,c48,[.cell 4 45]⟩:=Ar.by Tryd.func48 (by kernel_rfl) (by kernel_rfl) Tryd.ntmps48 (by rw[Tryd.results48]) (by kernel_rfl)
theorem nG:Ar Tryd.prog [0] 49 ⟨36,c49,[.tmp 4]⟩:=Ar.by Tryd.func49 (by kernel_rfl) (by kernel_rfl) Tryd.ntmps49 (by rw[Tryd.results49]) (by kernel_rfl)
theorem nH:Ar Tryd.prog [0] 50 ⟨42,c50,[.tmp 2]⟩:=Ar.by Tryd.func50 (by kernel_rfl) (by kernel_rfl) Tryd.ntmps50 (by rw[Tryd.results50]) (by kernel_rfl)
theorem nI:Ar Tryd.prog [0] 51 ⟨24,c51,[.cell 4 45]⟩:=Ar.by Tryd.func51 (by kernel_rfl) (by kernel_rfl) Tryd.ntmps51 (by rw[Tryd.results51]) (by kernel_rfl)
theorem AdK:Ar Tryd.prog [0] 52 ⟨6,c52,[.tmp 2]⟩:=Ar.by Tryd.func52 (by kernel_rfl) (by kernel_rfl) Tryd.ntmps52 (by rw[Tryd.results52]) (by kernel_rfl)
end Go.Proofs.YtenlanbdolnhhaaDoor.RgQ
set_option maxRecDepth 100000
namespace Go.Proofs.YtenlanbdolnhhaaDoor.RgQ
open Go Go.Sp Go.RgQ
theorem AdL:Ar Tryd.prog [0] 53 ⟨11,c53,[.tmp 4]⟩:=Ar.by Tryd.func53 (by kernel_rfl) (by kernel_rfl) Tryd.ntmps53 (by rw[Tryd.results53]) (by kernel_rfl)
theorem AdM:Ar Tryd.prog [0] 54 ⟨17,c54,[.tmp 4]⟩:=Ar.by Tryd.func54 (by kernel_rfl) (by kernel_rfl) Tryd.ntmps54 (by rw[Tryd.results54]) (by kernel_rfl)
theorem nJ:Ar Tryd.prog [0] 55 ⟨20,c55,[.tmp 4]⟩:=Ar.by Tryd.func55 (by kernel_rfl) (by kernel_rfl) Tryd.ntmps55 (by rw[Tryd.results55]) (by kernel_rfl)
theorem nK:Ar Tryd.prog [0] 56 ⟨6,c56,[.tmp 2]⟩:=Ar.by Tryd.func56 (by kernel_rfl) (by kernel_rfl) Tryd.ntmps56 (by rw[Tryd.results56]) (by kernel_rfl)
end Go.Proofs.YtenlanbdolnhhaaDoor.RgQ
set_option maxRecDepth 100000
namespace Go.Proofs.YtenlanbdolnhhaaDoor.RgQ
open Go Go.Sp Go.RgQ
theorem Af9:Cu Tryd.prog 3 ti3:=Cu.by Tryd.underlying3 (inf:=Tryd.t3) (by kernel_rfl) (by kernel_rfl) (by kernel_rfl) (by kernel_rfl) (by kernel_rfl) (fun h=>by cases h)
theorem Aga:Cu Tryd.prog 5 ti5:=Cu.by Tryd.underlying5 (inf:=Tryd.t5) (by kernel_rfl) (by kernel_rfl) (by kernel_rfl) (by kernel_rfl) (by kernel_rfl) (fun h=>by cases h)
theorem Agb:Cu Tryd.prog 9 ti9:=Cu.by Tryd.underlying9 (inf:=Tryd.t9) (by kernel_rfl) (by kernel_rfl) (by kernel_rfl) (by kernel_rfl) (by kernel_rfl) (fun h=>by cases h)
theorem AdN:Cu Tryd.prog 22 Acn:=Cu.by Tryd.underlying22 (inf:=Tryd.t22) (by kernel_rfl) (by kernel_rfl) (by kernel_rfl) (by kernel_rfl) (by kernel_rfl) (fun h=>by cases h)
theorem AdO:Cu Tryd.prog 23 Aco:=Cu.by Tryd.underlying23 (inf:=Tryd.t23) (by kernel_rfl) (by kernel_rfl) (by kernel_rfl) (by kernel_rfl) (by kernel_rfl) (fun h=>by cases h)
theorem AdP:Cu Tryd.prog 24 Acp:=Cu.by Tryd.underlying24 (inf:=Tryd.t24) (by kernel_rfl) (by kernel_rfl) (by kernel_rfl) (by kernel_rfl) (by kernel_rfl) (fun h=>by cases h)
theorem AdQ:Cu Tryd.prog 28 Acr:=Cu.by Tryd.underlying28 (inf:=Tryd.t28) (by kernel_rfl) (by kernel_rfl) (by kernel_rfl) (by kernel_rfl) (by kernel_rfl) (fun h=>by cases h)
theorem AdR:Cu Tryd.prog 29 Acs:=Cu.by Tryd.underlying29 (inf:=Tryd.t29) (by kernel_rfl) (by kernel_rfl) (by kernel_rfl) (by kernel_rfl) (by kernel_rfl) (fun h=>by cases h)
theorem AdS:Cu Tryd.prog 45 Acu:=Cu.by Tryd.underlying45 (inf:=Tryd.t45) (by kernel_rfl) (by kernel_rfl) (by kernel_rfl) (by kernel_rfl) (by kernel_rfl) (fun _=>⟨_,rfl,Fl.ok (d:=8) (⟨by kernel_rfl,.inr (.inr (.inr (.inr ⟨_,Tryd.underlying45,by kernel_rfl,⟨by decide,rfl,[(.int .i64 0)],[(.int .u32 0)],rfl,⟨by kernel_rfl,.inl ⟨⟨_,Tryd.underlying3⟩,_,_,rfl⟩⟩,⟨by decide,rfl,[(.int .u32 0)],[],rfl,⟨by kernel_rfl,.inl ⟨⟨_,Tryd.underlying29⟩,_,_,rfl⟩⟩,rfl⟩⟩⟩)))⟩) (by decide) ⟨_,Tryd.underlying45,rfl⟩ (by kernel_rfl)⟩)
theorem AdT:Cu Tryd.prog 46 Acv:=Cu.by Tryd.underlying46 (inf:=Tryd.t46) (by kernel_rfl) (by kernel_rfl) (by kernel_rfl) (by kernel_rfl) (by kernel_rfl) (fun h=>by cases h)
theorem AdU:Cu Tryd.prog 48 Acw:=Cu.by Tryd.underlying48 (inf:=Tryd.t48) (by kernel_rfl) (by kernel_rfl) (by kernel_rfl) (by kernel_rfl) (by kernel_rfl) (fun h=>by cases h)
theorem AdV:Cu Tryd.prog 63 Acx:=Cu.by Tryd.underlying63 (inf:=Tryd.t63) (by kernel_rfl) (by kernel_rfl) (by kernel_rfl) (by kernel_rfl) (by kernel_rfl) (fun _=>⟨_,rfl,Fl.ok (d:=8) (⟨by kernel_rfl,.inr (.inr (.inr (.inl ⟨32,5,[(.int .u8 0)],Tryd.underlying63,⟨by kernel_rfl,.inl ⟨⟨_,Tryd.underlying5⟩,_,_,rfl⟩⟩,by kernel_rfl⟩)))⟩) (by decide) ⟨_,Tryd.underlying63,rfl⟩ (by kernel_rfl)⟩)
theorem AdW:Cu Tryd.prog 64 Acy:=Cu.by Tryd.underlying64 (inf:=Tryd.t64) (by kernel_rfl) (by kernel_rfl) (by kernel_rfl) (by kernel_rfl) (by kernel_rfl) (fun h=>by cases h)
theorem AdX:Cu Tryd.prog 76 Acz:=Cu.by Tryd.underlying76 (inf:=Tryd.t76) (by kernel_rfl) (by kernel_rfl) (by kernel_rfl) (by kernel_rfl) (by kernel_rfl) (fun h=>by cases h)
theorem AdY:Cu Tryd.prog 77 AcA:=Cu.by Tryd.underlying77 (inf:=Tryd.t77) (by kernel_rfl) (by kernel_rfl) (by kernel_rfl) (by kernel_rfl) (by kernel_rfl) (fun h=>by cases h)
theorem Fh:Jm Tryd.prog tt:=Jm.of_all (t:=AcB) ⟨trivial,⟨trivial,⟨Af9,⟨trivial,⟨trivial,⟨trivial,⟨AdV,trivial,trivial⟩,trivial⟩,trivial⟩,⟨AdO,trivial,trivial⟩⟩,trivial⟩,⟨Aga,⟨Agb,trivial,trivial⟩,⟨trivial,trivial,⟨AdR,⟨AdS,⟨AdY,trivial,trivial⟩,trivial⟩,trivial⟩⟩⟩⟩,⟨trivial,⟨trivial,⟨trivial,⟨trivial,⟨trivial,⟨AdW,trivial,trivial⟩,trivial⟩,⟨AdU,trivial,trivial⟩⟩,⟨AdP,trivial,trivial⟩⟩,⟨trivial,trivial,⟨AdQ,⟨trivial,⟨AdX,trivial,trivial⟩,trivial⟩,trivial⟩⟩⟩,⟨trivial,trivial,⟨trivial,⟨AdN,trivial,trivial⟩,⟨trivial,⟨AdT,trivial,trivial⟩,trivial⟩⟩⟩⟩⟩
theorem AdZ:AcC.All (Ar Tryd.prog [0]):=⟨trivial,⟨trivial,⟨Ads,⟨Adw,⟨ZK,⟨mE,trivial,trivial⟩,⟨mQ,trivial,trivial⟩⟩,⟨lT,⟨AdE,trivial,trivial⟩,⟨nJ,trivial,trivial⟩⟩⟩,⟨kY,⟨lM,⟨AdA,trivial,trivial⟩,⟨nI,trivial,trivial⟩⟩,⟨lX,⟨mO,trivial,trivial⟩,trivial⟩⟩⟩,⟨Adu,⟨Ady,⟨lK,⟨mM,trivial,trivial⟩,⟨nG,trivial,trivial⟩⟩,⟨lV,⟨AdG,trivial,trivial⟩,trivial⟩⟩,⟨lH,⟨lQ,⟨AdC,trivial,trivial⟩,⟨AdL,trivial,trivial⟩⟩,⟨lZ,⟨AdJ,trivial,trivial⟩,trivial⟩⟩⟩⟩,⟨trivial,⟨Adt,⟨Adx,⟨lJ,⟨mK,trivial,trivial⟩,⟨nD,trivial,trivial⟩⟩,⟨lU,⟨AdF,trivial,trivial⟩,⟨nK,trivial,trivial⟩⟩⟩,⟨kZ,⟨lN,⟨AdB,trivial,trivial⟩,⟨AdK,trivial,trivial⟩⟩,⟨lY,⟨AdI,trivial,trivial⟩,trivial⟩⟩⟩,⟨Adv,⟨kX,⟨lL,⟨Adz,trivial,trivial⟩,⟨nH,trivial,trivial⟩⟩,⟨lW,⟨AdH,trivial,trivial⟩,trivial⟩⟩,⟨lI,⟨lS,⟨AdD,trivial,trivial⟩,⟨AdM,trivial,trivial⟩⟩,⟨mD,⟨mP,trivial,trivial⟩,trivial⟩⟩⟩⟩⟩
theorem Ad0 (f:FuncId) (r:Xq) (h:Qq f=some r):Ar Tryd.prog [0] f r:=AdZ.get h
end Go.Proofs.YtenlanbdolnhhaaDoor.RgQ
set_option maxRecDepth 100000
namespace Go.Proofs.YtenlanbdolnhhaaDoor.RgQ
open Go Go.Sp Go.RgQM Go.RgQ
noncomputable section
theorem Ad1:Ar Tryd.prog (List.range tabs.length) 47 ⟨15,V3,[.tmp 4]⟩:=by
 have h:c47=V3:=by kernel_rfl
 rw[←h];exact mQ
theorem Ad2:Ar Tryd.prog (List.range tabs.length) 32 ⟨11,V4,[.tmp 4]⟩:=by
 have h:c32=V4:=by kernel_rfl
 rw[←h];exact mK
theorem Ad3:Ar Tryd.prog (List.range tabs.length) 46 ⟨19,RQ,[.tmp 2]⟩:=by
 have h:c46=RQ:=by kernel_rfl
 rw[←h];exact mP
theorem Ad4:Ar Tryd.prog (List.range tabs.length) 22 ⟨24,RS,[.tmp 2]⟩:=by
 have h:c22=RS:=by kernel_rfl
 rw[←h];exact lS
theorem Ad5:Ar Tryd.prog (List.range tabs.length) 31 ⟨27,RU,[.tmp 2]⟩:=by
 have h:c31=RU:=by kernel_rfl
 rw[←h];exact mE
theorem Ad6:Ar Tryd.prog (List.range tabs.length) 30 ⟨15,V5,[.tmp 2]⟩:=by
 have h:c30=V5:=by kernel_rfl
 rw[←h];exact mD
theorem Ad7:Ar Tryd.prog (List.range tabs.length) 43 ⟨4,V6,[.tmp 2]⟩:=by
 have h:c43=V6:=by kernel_rfl
 rw[←h];exact mO
theorem fk3:Ar Tryd.prog (List.range tabs.length) 3 ⟨199,RX,[.tmp 6]⟩:=by
 have h:c3=RX:=by kernel_rfl
 rw[←h];exact Ads
theorem fk4:Ar Tryd.prog (List.range tabs.length) 4 ⟨62,V8,[.tmp 4,.tmp 5]⟩:=by
 have h:c4=V8:=by kernel_rfl
 rw[←h];exact Adt
theorem fk5:Ar Tryd.prog (List.range tabs.length) 5 ⟨43,V9,[.tmp 2,.tmp 3]⟩:=by
 have h:c5=V9:=by kernel_rfl
 rw[←h];exact Adu
theorem fk6:Ar Tryd.prog (List.range tabs.length) 6 ⟨26,Wl,[.tmp 4]⟩:=by
 have h:c6=Wl:=by kernel_rfl
 rw[←h];exact Adv
theorem fk7:Ar Tryd.prog (List.range tabs.length) 7 ⟨23,Wm,[.tmp 4]⟩:=by
 have h:c7=Wm:=by kernel_rfl
 rw[←h];exact Adw
theorem fk8:Ar Tryd.prog (List.range tabs.length) 8 ⟨9,eF,[.tmp 4]⟩:=by
 have h:c8=eF:=by kernel_rfl
 rw[←h];exact Adx
theorem fk9:Ar Tryd.prog (List.range tabs.length) 9 ⟨39,Wn,[.cell 4 28,.tmp 5]⟩:=by
 have h:c9=Wn:=by kernel_rfl
 rw[←h];exact Ady
theorem uV:Ar Tryd.prog (List.range tabs.length) 10 ⟨16,RY,[.tmp 2,.tmp 3]⟩:=by
 have h:c10=RY:=by kernel_rfl
 rw[←h];exact kX
theorem uW:Ar Tryd.prog (List.range tabs.length) 11 ⟨54,RZ,[.tmp 2,.tmp 3]⟩:=by
 have h:c11=RZ:=by kernel_rfl
 rw[←h];exact kY
theorem Ad8:Ar Tryd.prog (List.range tabs.length) 12 ⟨9,Wo,[.cell 4 28]⟩:=by
 have h:c12=Wo:=by kernel_rfl
 rw[←h];exact kZ
theorem Ad9:Ar Tryd.prog (List.range tabs.length) 13 ⟨35,R3,[.tmp 8]⟩:=by
 have h:c13=R3:=by kernel_rfl
 rw[←h];exact lH
theorem Aea:Ar Tryd.prog (List.range tabs.length) 14 ⟨14,Wp,[.tmp 2]⟩:=by
 have h:c14=Wp:=by kernel_rfl
 rw[←h];exact lI
theorem Aeb:Ar Tryd.prog (List.range tabs.length) 20 ⟨36,R4,[.cell 2 45]⟩:=by
 have h:c20=R4:=by kernel_rfl
 rw[←h];exact lN
theorem Aec:Ar Tryd.prog (List.range tabs.length) 21 ⟨26,R5,[.tmp 4]⟩:=by
 have h:c21=R5:=by kernel_rfl
 rw[←h];exact lQ
theorem Aed:Ar Tryd.prog (List.range tabs.length) 23 ⟨8,Wq,[.cell 2 28]⟩:=by
 have h:c23=Wq:=by kernel_rfl
 rw[←h];exact lT
theorem Aee:Ar Tryd.prog (List.range tabs.length) 24 ⟨16,R6,[.cell 2 45,.tmp 3]⟩:=by
 have h:c24=R6:=by kernel_rfl
 rw[←h];exact lU
theorem Aef:Ar Tryd.prog (List.range tabs.length) 25 ⟨23,R7,[.tmp 4]⟩:=by
 have h:c25=R7:=by kernel_rfl
 rw[←h];exact lV
theorem Aeg:Ar Tryd.prog (List.range tabs.length) 26 ⟨30,R8,[.cell 4 45]⟩:=by
 have h:c26=R8:=by kernel_rfl
 rw[←h];exact lW
theorem Aeh:Ar Tryd.prog (List.range tabs.length) 27 ⟨19,R9,[.tmp 4,.tmp 5]⟩:=by
 have h:c27=R9:=by kernel_rfl
 rw[←h];exact lX
theorem Aei:Ar Tryd.prog (List.range tabs.length) 28 ⟨21,Ws,[.tmp 2]⟩:=by
 have h:c28=Ws:=by kernel_rfl
 rw[←h];exact lY
theorem Aej:Ar Tryd.prog (List.range tabs.length) 29 ⟨19,Sa,[.tmp 4]⟩:=by
 have h:c29=Sa:=by kernel_rfl
 rw[←h];exact lZ
theorem Aek:Ar Tryd.prog (List.range tabs.length) 33 ⟨19,Sb,[.tmp 2]⟩:=by
 have h:c33=Sb:=by kernel_rfl
 rw[←h];exact mM
theorem Ael:Ar Tryd.prog (List.range tabs.length) 48 ⟨26,Wt,[.cell 4 45]⟩:=by
 have h:c48=Wt:=by kernel_rfl
 rw[←h];exact nD
theorem Aem:Ar Tryd.prog (List.range tabs.length) 49 ⟨36,Sc,[.tmp 4]⟩:=by
 have h:c49=Sc:=by kernel_rfl
 rw[←h];exact nG
theorem Aen:Ar Tryd.prog (List.range tabs.length) 50 ⟨42,Sd,[.tmp 2]⟩:=by
 have h:c50=Sd:=by kernel_rfl
 rw[←h];exact nH
theorem Aeo:Ar Tryd.prog (List.range tabs.length) 51 ⟨24,Sg,[.cell 4 45]⟩:=by
 have h:c51=Sg:=by kernel_rfl
 rw[←h];exact nI
theorem Aep:Ar Tryd.prog (List.range tabs.length) 55 ⟨20,Si,[.tmp 4]⟩:=by
 have h:c55=Si:=by kernel_rfl
 rw[←h];exact nJ
theorem Aeq:Ar Tryd.prog (List.range tabs.length) 56 ⟨6,Wu,[.tmp 2]⟩:=by
 have h:c56=Wu:=by kernel_rfl
 rw[←h];exact nK
theorem Aer:Ar Tryd.prog (List.range tabs.length) 17 ⟨38,OU,[.tmp 2]⟩:=by
 have h:c17=OU:=by kernel_rfl
 rw[←h];exact lK
theorem Aes:Ar Tryd.prog (List.range tabs.length) 18 ⟨48,OW,[.tmp 10]⟩:=by
 have h:c18=OW:=by kernel_rfl
 rw[←h];exact lL
theorem Aet:Ar Tryd.prog (List.range tabs.length) 19 ⟨20,SG,[.tmp 4]⟩:=by
 have h:c19=SG:=by kernel_rfl
 rw[←h];exact lM
theorem Aeu:Ar Tryd.prog (List.range tabs.length) 16 ⟨25,OX,[.tmp 3]⟩:=by
 have h:c16=OX:=by kernel_rfl
 rw[←h];exact lJ
theorem Hz:∀ t∈tabs,t≠[]:=by intro t ht;simp[tabs] at ht;subst ht;intro h;cases h
theorem HV:∀ t∈tabs,∀ x∈t,BR x=true:=by intro t ht x hx;simp[tabs] at ht;subst ht;simp[SK] at hx;rcases hx with rfl | rfl | rfl | rfl | rfl | rfl | rfl | rfl | rfl | rfl | rfl | rfl | rfl | rfl | rfl | rfl | rfl | rfl | rfl | rfl | rfl | rfl | rfl | rfl | rfl | rfl | rfl | rfl | rfl | rfl | rfl | rfl <;> rfl
theorem Sj (hm:Tryd.prog.follows .mixedOrders=true) {pu:Af} (hg43:BA Tryd.prog tabs 43 (pu 43)) (h0:Cn Tryd.prog tabs 1 0 17 (pu 10170)) (h1:Cn Tryd.prog tabs 5 3 18 (pu 10180)) (h2:Cn Tryd.prog tabs 3 3 19 (pu 10190)) (h3:Cn Tryd.prog tabs 2 1 16 (pu 10160)):CO Tryd.prog (List.range tabs.length) (inl pu):=fun g args H v H' h=>by
 replace h:bb (Nat.beq g 43) (Hr tabs 1 (pu 43) args H) (bb (Nat.beq g 17) (EK tabs [[none,none]] 1 [] [false] (pu 10170) args H) (bb (Nat.beq g 18) (EK tabs [[none,none],[none],[none],[none],[none]] 5 [.cap 3 0 false,.cap 4 1 true,.cell 2 0 false] [false,true,false,false] (pu 10180) args H) (bb (Nat.beq g 19) (EK tabs [[none,none],[none],[none]] 3 [.tmp 1 false,.tmp 2 true,.cell 2 0 false] [false,true,false,false] (pu 10190) args H) (bb (Nat.beq g 16) (EK tabs [[none,none],[none]] 2 [.tmp 1 false] [false] (pu 10160) args H) (none)))))=some (v,H'):=h
 have hq:=Ag h;clear h;rcases hq with⟨e,h⟩ | ⟨_,h⟩
 ·obtain rfl:=Nat.eq_of_beq_eq_true e
  exact Og Hz HV hg43 h
 have hq:=Ag h;clear h;rcases hq with⟨e,h⟩ | ⟨_,h⟩
 ·obtain rfl:=Nat.eq_of_beq_eq_true e
  exact Ip (rs:=[]) Hz HV h0 h
 have hq:=Ag h;clear h;rcases hq with⟨e,h⟩ | ⟨_,h⟩
 ·obtain rfl:=Nat.eq_of_beq_eq_true e
  exact Ip (rs:=[.cap 3 0 false,.cap 4 1 true,.cell 2 0 false]) Hz HV h1 h
 have hq:=Ag h;clear h;rcases hq with⟨e,h⟩ | ⟨_,h⟩
 ·obtain rfl:=Nat.eq_of_beq_eq_true e
  exact Ip (rs:=[.tmp 1 false,.tmp 2 true,.cell 2 0 false]) Hz HV h2 h
 have hq:=Ag h;clear h;rcases hq with⟨e,h⟩ | ⟨_,h⟩
 ·obtain rfl:=Nat.eq_of_beq_eq_true e
  exact Ip (rs:=[.tmp 1 false]) Hz HV h3 h
 cases h
theorem fH (hm:Tryd.prog.follows .mixedOrders=true) (hw:BA Tryd.prog tabs 15 Wv) {pu:Af} (hall:(∀ g,isP g=true→BA Tryd.prog tabs g (pu g))∧BA Tryd.prog tabs 43 (pu 43)∧Cn Tryd.prog tabs 1 0 17 (pu 10170)∧Cn Tryd.prog tabs 5 3 18 (pu 10180)∧Cn Tryd.prog tabs 3 3 19 (pu 10190)∧Cn Tryd.prog tabs 2 1 16 (pu 10160)):(∀ g,isP g=true→BA Tryd.prog tabs g (UJ pu g))∧BA Tryd.prog tabs 43 (UJ pu 43)∧Cn Tryd.prog tabs 1 0 17 (UJ pu 10170)∧Cn Tryd.prog tabs 5 3 18 (UJ pu 10180)∧Cn Tryd.prog tabs 3 3 19 (UJ pu 10190)∧Cn Tryd.prog tabs 2 1 16 (UJ pu 10160):=by
 obtain⟨hpu,hg43,h0,h4,h5,h6⟩:=hall
 have hcall:=TG (P:=Tryd.prog) (tabs:=tabs) Hz HV (Sj hm hg43 h0 h4 h5 h6) hpu
 refine⟨fun g hg=>?_,?_,?_,?_,?_,?_⟩
 ·have hg:g∈SQ:=CS.1 hg
  simp only[SQ,List.mem_cons,List.not_mem_nil,or_false] at hg
  rcases hg with rfl | rfl | rfl | rfl | rfl | rfl | rfl | rfl | rfl | rfl | rfl | rfl | rfl | rfl | rfl | rfl | rfl | rfl | rfl | rfl | rfl | rfl | rfl | rfl | rfl | rfl | rfl | rfl | rfl | rfl | rfl | rfl | rfl | rfl | rfl
  ·exact Aw (tabs:=tabs) (f:=m3 pu L) Fh hm hcall fk3 fun args v h hc=>r3 pu L rfl h hc
  ·exact Aw (tabs:=tabs) (f:=m4 pu L) Fh hm hcall fk4 fun args v h hc=>r4 pu L rfl h hc
  ·exact Aw (tabs:=tabs) (f:=m5 pu L) Fh hm hcall fk5 fun args v h hc=>r5 pu L rfl h hc
  ·exact Aw (tabs:=tabs) (f:=m6 pu L) Fh hm hcall fk6 fun args v h hc=>r6 pu L rfl h hc
  ·exact Aw (tabs:=tabs) (f:=m7 pu L) Fh hm hcall fk7 fun args v h hc=>r7 pu L rfl h hc
  ·exact Aw (tabs:=tabs) (f:=m8 pu L) Fh hm hcall fk8 fun args v h hc=>r8 pu L rfl h hc
  ·exact Aw (tabs:=tabs) (f:=m9 pu L) Fh hm hcall fk9 fun args v h hc=>r9 pu L rfl h hc
  ·exact Aw (tabs:=tabs) (f:=kW pu L) Fh hm hcall uV fun args v h hc=>r10 pu L rfl h hc
  ·exact Aw (tabs:=tabs) (f:=fE pu L) Fh hm hcall uW fun args v h hc=>r11 pu L rfl h hc
  ·exact Aw (tabs:=tabs) (f:=m12 pu L) Fh hm hcall Ad8 fun args v h hc=>r12 pu L rfl h hc
  ·exact Aw (tabs:=tabs) (f:=m13 pu L) Fh hm hcall Ad9 fun args v h hc=>r13 pu L rfl h hc
  ·exact Aw (tabs:=tabs) (f:=m14 pu L) Fh hm hcall Aea fun args v h hc=>r14 pu L rfl h hc
  ·exact hw
  ·exact Aw (tabs:=tabs) (f:=m20 pu L) Fh hm hcall Aeb fun args v h hc=>r20 pu L rfl h hc
  ·exact Aw (tabs:=tabs) (f:=m21 pu L) Fh hm hcall Aec fun args v h hc=>r21 pu L rfl h hc
  ·exact Aw (tabs:=tabs) (f:=wU pu L) Fh hm hcall Ad4 fun args v h hc=>r22 pu L rfl h hc
  ·exact Aw (tabs:=tabs) (f:=m23 pu L) Fh hm hcall Aed fun args v h hc=>r23 pu L rfl h hc
  ·exact Aw (tabs:=tabs) (f:=m24 pu L) Fh hm hcall Aee fun args v h hc=>r24 pu L rfl h hc
  ·exact Aw (tabs:=tabs) (f:=m25 pu L) Fh hm hcall Aef fun args v h hc=>r25 pu L rfl h hc
  ·exact Aw (tabs:=tabs) (f:=m26 pu L) Fh hm hcall Aeg fun args v h hc=>r26 pu L rfl h hc
  ·exact Aw (tabs:=tabs) (f:=m27 pu L) Fh hm hcall Aeh fun args v h hc=>r27 pu L rfl h hc
  ·exact Aw (tabs:=tabs) (f:=m28 pu L) Fh hm hcall Aei fun args v h hc=>r28 pu L rfl h hc
  ·exact Aw (tabs:=tabs) (f:=m29 pu L) Fh hm hcall Aej fun args v h hc=>r29 pu L rfl h hc
  ·exact Aw (tabs:=tabs) (f:=wW pu L) Fh hm hcall Ad6 fun args v h hc=>r30 pu L rfl h hc
  ·exact Aw (tabs:=tabs) (f:=wV pu L) Fh hm hcall Ad5 fun args v h hc=>r31 pu L rfl h hc
  ·exact Aw (tabs:=tabs) (f:=m32 pu L) Fh hm hcall Ad2 fun args v h hc=>r32 pu L rfl h hc
  ·exact Aw (tabs:=tabs) (f:=m33 pu L) Fh hm hcall Aek fun args v h hc=>r33 pu L rfl h hc
  ·exact Aw (tabs:=tabs) (f:=wT pu L) Fh hm hcall Ad3 fun args v h hc=>r46 pu L rfl h hc
  ·exact Aw (tabs:=tabs) (f:=uF pu L) Fh hm hcall Ad1 fun args v h hc=>r47 pu L rfl h hc
  ·exact Aw (tabs:=tabs) (f:=m48 pu L) Fh hm hcall Ael fun args v h hc=>r48 pu L rfl h hc
  ·exact Aw (tabs:=tabs) (f:=m49 pu L) Fh hm hcall Aem fun args v h hc=>r49 pu L rfl h hc
  ·exact Aw (tabs:=tabs) (f:=m50 pu L) Fh hm hcall Aen fun args v h hc=>r50 pu L rfl h hc
  ·exact Aw (tabs:=tabs) (f:=m51 pu L) Fh hm hcall Aeo fun args v h hc=>r51 pu L rfl h hc
  ·exact Aw (tabs:=tabs) (f:=m55 pu L) Fh hm hcall Aep fun args v h hc=>r55 pu L rfl h hc
  ·exact Aw (tabs:=tabs) (f:=m56 pu L) Fh hm hcall Aeq fun args v h hc=>r56 pu L rfl h hc
 ·exact Aw (tabs:=tabs) (f:=m43 pu L) Fh hm hcall Ad7 fun args v h hc=>r43 pu L rfl h hc
 ·exact Dx (tabs:=tabs) (f:=LX pu L) Fh hm hcall Aer fun args os z h1 h2 h3 h=>uO pu L rfl h1 h2 h3 h
 ·exact Dx (tabs:=tabs) (f:=Ng pu L) Fh hm hcall Aes fun args os z h1 h2 h3 h=>uQ pu L rfl h1 h2 h3 h
 ·exact Dx (tabs:=tabs) (f:=Nh pu L) Fh hm hcall Aet fun args os z h1 h2 h3 h=>uS pu L rfl h1 h2 h3 h
 ·exact Dx (tabs:=tabs) (f:=Ni pu L) Fh hm hcall Aeu fun args os z h1 h2 h3 h=>uU pu L rfl h1 h2 h3 h
theorem Sk (hm:Tryd.prog.follows .mixedOrders=true) (hw:BA Tryd.prog tabs 15 Wv):∀ n,(∀ g,isP g=true→BA Tryd.prog tabs g (BI n g))∧BA Tryd.prog tabs 43 (BI n 43)∧Cn Tryd.prog tabs 1 0 17 (BI n 10170)∧Cn Tryd.prog tabs 5 3 18 (BI n 10180)∧Cn Tryd.prog tabs 3 3 19 (BI n 10190)∧Cn Tryd.prog tabs 2 1 16 (BI n 10160):=fun n=>by
 induction n with
 | zero =>
  refine⟨fun g hg=>?_,?_,?_,?_,?_,?_⟩
  ·have hg:g∈SQ:=CS.1 hg
   simp only[SQ,List.mem_cons,List.not_mem_nil,or_false] at hg
   rcases hg with rfl | rfl | rfl | rfl | rfl | rfl | rfl | rfl | rfl | rfl | rfl | rfl | rfl | rfl | rfl | rfl | rfl | rfl | rfl | rfl | rfl | rfl | rfl | rfl | rfl | rfl | rfl | rfl | rfl | rfl | rfl | rfl | rfl | rfl | rfl
   ·exact⟨A9 fk3,fun args v h=>by cases h⟩
   ·exact⟨A9 fk4,fun args v h=>by cases h⟩
   ·exact⟨A9 fk5,fun args v h=>by cases h⟩
   ·exact⟨A9 fk6,fun args v h=>by cases h⟩
   ·exact⟨A9 fk7,fun args v h=>by cases h⟩
   ·exact⟨A9 fk8,fun args v h=>by cases h⟩
   ·exact⟨A9 fk9,fun args v h=>by cases h⟩
   ·exact⟨A9 uV,fun args v h=>by cases h⟩
   ·exact⟨A9 uW,fun args v h=>by cases h⟩
   ·exact⟨A9 Ad8,fun args v h=>by cases h⟩
   ·exact⟨A9 Ad9,fun args v h=>by cases h⟩
   ·exact⟨A9 Aea,fun args v h=>by cases h⟩
   ·exact⟨(hw).1,fun args v h=>by cases h⟩
   ·exact⟨A9 Aeb,fun args v h=>by cases h⟩
   ·exact⟨A9 Aec,fun args v h=>by cases h⟩
   ·exact⟨A9 Ad4,fun args v h=>by cases h⟩
   ·exact⟨A9 Aed,fun args v h=>by cases h⟩
   ·exact⟨A9 Aee,fun args v h=>by cases h⟩
   ·exact⟨A9 Aef,fun args v h=>by cases h⟩
   ·exact⟨A9 Aeg,fun args v h=>by cases h⟩
   ·exact⟨A9 Aeh,fun args v h=>by cases h⟩
   ·exact⟨A9 Aei,fun args v h=>by cases h⟩
   ·exact⟨A9 Aej,fun args v h=>by cases h⟩
   ·exact⟨A9 Ad6,fun args v h=>by cases h⟩
   ·exact⟨A9 Ad5,fun args v h=>by cases h⟩
   ·exact⟨A9 Ad2,fun args v h=>by cases h⟩
   ·exact⟨A9 Aek,fun args v h=>by cases h⟩
   ·exact⟨A9 Ad3,fun args v h=>by cases h⟩
   ·exact⟨A9 Ad1,fun args v h=>by cases h⟩
   ·exact⟨A9 Ael,fun args v h=>by cases h⟩
   ·exact⟨A9 Aem,fun args v h=>by cases h⟩
   ·exact⟨A9 Aen,fun args v h=>by cases h⟩
   ·exact⟨A9 Aeo,fun args v h=>by cases h⟩
   ·exact⟨A9 Aep,fun args v h=>by cases h⟩
   ·exact⟨A9 Aeq,fun args v h=>by cases h⟩
  ·exact⟨A9 Ad7,fun args v h=>by cases h⟩
  ·exact⟨A9 Aer,fun args os z h1 h2 h3 h=>by cases h⟩
  ·exact⟨A9 Aes,fun args os z h1 h2 h3 h=>by cases h⟩
  ·exact⟨A9 Aet,fun args os z h1 h2 h3 h=>by cases h⟩
  ·exact⟨A9 Aeu,fun args os z h1 h2 h3 h=>by cases h⟩
 | succ n ih=>exact fH hm hw ih
end
end Go.Proofs.YtenlanbdolnhhaaDoor.RgQ
