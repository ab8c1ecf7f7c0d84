/- Made from wip. -/
import Derived.Test.YtlgmapibifphaaaDoorProg
import Derived.Test.YtlgmapibifphaaaDoorSpLawx
import Derived.Test.YtlgmapibifphaaaDoorMdFMod0x
import Derived.Test.YtlgmapibifphaaaDoorMdFPux
import Derived.Test.YtlgmapibifphaaaDoorSpObj2x

set_option maxRecDepth 100000
namespace Go.Proofs.YtlgmapibifphaaaDoor.MdF
open Go Go.Sp Go.MdF
theorem fok9:FnOk Tryd.prog [0] 9 ⟨75,c9,[.tmp 4]⟩:=FnOk.by Tryd.func9 (by kernel_rfl) (by kernel_rfl) Tryd.ntmps9 (by rw [Tryd.results9]) (by kernel_rfl)
theorem fok11:FnOk Tryd.prog [0] 11 ⟨13,c11,[.tmp 2]⟩:=FnOk.by Tryd.func11 (by kernel_rfl) (by kernel_rfl) Tryd.ntmps11 (by rw [Tryd.results11]) (by kernel_rfl)
theorem fok12:FnOk Tryd.prog [0] 12 ⟨218,c12,[.tmp 0]⟩:=FnOk.by Tryd.func12 (by kernel_rfl) (by kernel_rfl) Tryd.ntmps12 (by rw [Tryd.results12]) (by kernel_rfl)
theorem fok13:FnOk Tryd.prog [0] 13 ⟨47,c13,[.tmp 2,.tmp 3]⟩:=FnOk.by Tryd.func13 (by kernel_rfl) (by kernel_rfl) Tryd.ntmps13 (by rw [Tryd.results13]) (by kernel_rfl)
theorem fok15:FnOk Tryd.prog [0] 15 ⟨26,c15,[.tmp 4]⟩:=FnOk.by Tryd.func15 (by kernel_rfl) (by kernel_rfl) Tryd.ntmps15 (by rw [Tryd.results15]) (by kernel_rfl)
theorem fok16:FnOk Tryd.prog [0] 16 ⟨12,c16,[.tmp 2,.tmp 3]⟩:=FnOk.by Tryd.func16 (by kernel_rfl) (by kernel_rfl) Tryd.ntmps16 (by rw [Tryd.results16]) (by kernel_rfl)
theorem fok18:FnOk Tryd.prog [0] 18 ⟨91,c18,[.tmp 4,.tmp 5]⟩:=FnOk.by Tryd.func18 (by kernel_rfl) (by kernel_rfl) Tryd.ntmps18 (by rw [Tryd.results18]) (by kernel_rfl)
theorem fok20:FnOk Tryd.prog [0] 20 ⟨27,c20,[.tmp 4]⟩:=FnOk.by Tryd.func20 (by kernel_rfl) (by kernel_rfl) Tryd.ntmps20 (by rw [Tryd.results20]) (by kernel_rfl)
theorem fok25:FnOk Tryd.prog [0] 25 ⟨25,c25,[.cell 6 24,.tmp 7]⟩:=FnOk.by Tryd.func25 (by kernel_rfl) (by kernel_rfl) Tryd.ntmps25 (by rw [Tryd.results25]) (by kernel_rfl)
theorem fok26:FnOk Tryd.prog [0] 26 ⟨26,c26,[.tmp 4]⟩:=FnOk.by Tryd.func26 (by kernel_rfl) (by kernel_rfl) Tryd.ntmps26 (by rw [Tryd.results26]) (by kernel_rfl)
theorem fok27:FnOk Tryd.prog [0] 27 ⟨22,c27,[.tmp 4,.tmp 5]⟩:=FnOk.by Tryd.func27 (by kernel_rfl) (by kernel_rfl) Tryd.ntmps27 (by rw [Tryd.results27]) (by kernel_rfl)
theorem fok29:FnOk Tryd.prog [0] 29 ⟨12,c29,[.tmp 2,.tmp 3]⟩:=FnOk.by Tryd.func29 (by kernel_rfl) (by kernel_rfl) Tryd.ntmps29 (by rw [Tryd.results29]) (by kernel_rfl)
theorem fok30:FnOk Tryd.prog [0] 30 ⟨44,c30,[.tmp 2,.tmp 3]⟩:=FnOk.by Tryd.func30 (by kernel_rfl) (by kernel_rfl) Tryd.ntmps30 (by rw [Tryd.results30]) (by kernel_rfl)
theorem fok31:FnOk Tryd.prog [0] 31 ⟨12,c31,[.tmp 2,.tmp 3]⟩:=FnOk.by Tryd.func31 (by kernel_rfl) (by kernel_rfl) Tryd.ntmps31 (by rw [Tryd.results31]) (by kernel_rfl)
theorem fok32:FnOk Tryd.prog [0] 32 ⟨12,c32,[.tmp 2,.tmp 3]⟩:=FnOk.by Tryd.func32 (by kernel_rfl) (by kernel_rfl) Tryd.ntmps32 (by rw [Tryd.results32]) (by kernel_rfl)
theorem fok33:FnOk Tryd.prog [0] 33 ⟨53,c33,[.tmp 2,.tmp 3]⟩:=FnOk.by Tryd.func33 (by kernel_rfl) (by kernel_rfl) Tryd.ntmps33 (by rw [Tryd.results33]) (by kernel_rfl)
theorem fok34:FnOk Tryd.prog [0] 34 ⟨39,c34,[.tmp 4]⟩:=FnOk.by Tryd.func34 (by kernel_rfl) (by kernel_rfl) Tryd.ntmps34 (by rw [Tryd.results34]) (by kernel_rfl)
theorem fok35:FnOk Tryd.prog [0] 35 ⟨54,c35,[.tmp 4]⟩:=FnOk.by Tryd.func35 (by kernel_rfl) (by kernel_rfl) Tryd.ntmps35 (by rw [Tryd.results35]) (by kernel_rfl)
theorem fok38:FnOk Tryd.prog [0] 38 ⟨13,c38,[.tmp 2,.tmp 3]⟩:=FnOk.by Tryd.func38 (by kernel_rfl) (by kernel_rfl) Tryd.ntmps38 (by rw [Tryd.results38]) (by kernel_rfl)
theorem fok39:FnOk Tryd.prog [0] 39 ⟨6,c39,[.cell 0 24]⟩:=FnOk.by Tryd.func39 (by kernel_rfl) (by kernel_rfl) Tryd.ntmps39 (by rw [Tryd.results39]) (by kernel_rfl)
theorem fok40:FnOk Tryd.prog [0] 40 ⟨6,c40,[.cell 0 24]⟩:=FnOk.by Tryd.func40 (by kernel_rfl) (by kernel_rfl) Tryd.ntmps40 (by rw [Tryd.results40]) (by kernel_rfl)
theorem fok41:FnOk Tryd.prog [0] 41 ⟨4,c41,[.tmp 2]⟩:=FnOk.by Tryd.func41 (by kernel_rfl) (by kernel_rfl) Tryd.ntmps41 (by rw [Tryd.results41]) (by kernel_rfl)
theorem fok42:FnOk Tryd.prog [0] 42 ⟨4,c42,[.tmp 2]⟩:=FnOk.by Tryd.func42 (by kernel_rfl) (by kernel_rfl) Tryd.ntmps42 (by rw [Tryd.results42]) (by kernel_rfl)
theorem fok43:FnOk Tryd.prog [0] 43 ⟨36,c43,[.cell 6 24]⟩:=FnOk.by Tryd.func43 (by kernel_rfl) (by kernel_rfl) Tryd.ntmps43 (by rw [Tryd.results43]) (by kernel_rfl)
theorem fok44:FnOk Tryd.prog [0] 44 ⟨13,c44,[.tmp 2]⟩:=FnOk.by Tryd.func44 (by kernel_rfl) (by kernel_rfl) Tryd.ntmps44 (by rw [Tryd.results44]) (by kernel_rfl)
end Go.Proofs.YtlgmapibifphaaaDoor.MdF
set_option maxRecDepth 100000
namespace Go.Proofs.YtlgmapibifphaaaDoor.MdF
open Go Go.Sp Go.MdF
theorem fok45:FnOk Tryd.prog [0] 45 ⟨10,c45,[.tmp 2]⟩:=FnOk.by Tryd.func45 (by kernel_rfl) (by kernel_rfl) Tryd.ntmps45 (by rw [Tryd.results45]) (by kernel_rfl)
theorem fok46:FnOk Tryd.prog [0] 46 ⟨38,c46,[.cell 6 32]⟩:=FnOk.by Tryd.func46 (by kernel_rfl) (by kernel_rfl) Tryd.ntmps46 (by rw [Tryd.results46]) (by kernel_rfl)
theorem fok47:FnOk Tryd.prog [0] 47 ⟨73,c47,[.tmp 2]⟩:=FnOk.by Tryd.func47 (by kernel_rfl) (by kernel_rfl) Tryd.ntmps47 (by rw [Tryd.results47]) (by kernel_rfl)
theorem fok48:FnOk Tryd.prog [0] 48 ⟨46,c48,[.tmp 2]⟩:=FnOk.by Tryd.func48 (by kernel_rfl) (by kernel_rfl) Tryd.ntmps48 (by rw [Tryd.results48]) (by kernel_rfl)
theorem fok49:FnOk Tryd.prog [0] 49 ⟨68,c49,[.tmp 2]⟩:=FnOk.by Tryd.func49 (by kernel_rfl) (by kernel_rfl) Tryd.ntmps49 (by rw [Tryd.results49]) (by kernel_rfl)
theorem fok50:FnOk Tryd.prog [0] 50 ⟨7,c50,[.tmp 2]⟩:=FnOk.by Tryd.func50 (by kernel_rfl) (by kernel_rfl) Tryd.ntmps50 (by rw [Tryd.results50]) (by kernel_rfl)
theorem fok51:FnOk Tryd.prog [0] 51 ⟨27,c51,[.tmp 2]⟩:=FnOk.by Tryd.func51 (by kernel_rfl) (by kernel_rfl) Tryd.ntmps51 (by rw [Tryd.results51]) (by kernel_rfl)
theorem fok52:FnOk Tryd.prog [0] 52 ⟨15,c52,[.tmp 6]⟩:=FnOk.by Tryd.func52 (by kernel_rfl) (by kernel_rfl) Tryd.ntmps52 (by rw [Tryd.results52]) (by kernel_rfl)
theorem fok53:FnOk Tryd.prog [0] 53 ⟨10,c53,[.tmp 4]⟩:=FnOk.by Tryd.func53 (by kernel_rfl) (by kernel_rfl) Tryd.ntmps53 (by rw [Tryd.results53]) (by kernel_rfl)
theorem fok54:FnOk Tryd.prog [0] 54 ⟨15,c54,[.tmp 6]⟩:=FnOk.by Tryd.func54 (by kernel_rfl) (by kernel_rfl) Tryd.ntmps54 (by rw [Tryd.results54]) (by kernel_rfl)
theorem fok55:FnOk Tryd.prog [0] 55 ⟨9,c55,[.tmp 4]⟩:=FnOk.by Tryd.func55 (by kernel_rfl) (by kernel_rfl) Tryd.ntmps55 (by rw [Tryd.results55]) (by kernel_rfl)
theorem fok56:FnOk Tryd.prog [0] 56 ⟨28,c56,[.tmp 2]⟩:=FnOk.by Tryd.func56 (by kernel_rfl) (by kernel_rfl) Tryd.ntmps56 (by rw [Tryd.results56]) (by kernel_rfl)
theorem fok57:FnOk Tryd.prog [0] 57 ⟨25,c57,[.tmp 6]⟩:=FnOk.by Tryd.func57 (by kernel_rfl) (by kernel_rfl) Tryd.ntmps57 (by rw [Tryd.results57]) (by kernel_rfl)
theorem fok58:FnOk Tryd.prog [0] 58 ⟨49,c58,[.tmp 2]⟩:=FnOk.by Tryd.func58 (by kernel_rfl) (by kernel_rfl) Tryd.ntmps58 (by rw [Tryd.results58]) (by kernel_rfl)
theorem fok59:FnOk Tryd.prog [0] 59 ⟨26,c59,[.tmp 6]⟩:=FnOk.by Tryd.func59 (by kernel_rfl) (by kernel_rfl) Tryd.ntmps59 (by rw [Tryd.results59]) (by kernel_rfl)
theorem fok62:FnOk Tryd.prog [0] 62 ⟨16,c62,[.tmp 2]⟩:=FnOk.by Tryd.func62 (by kernel_rfl) (by kernel_rfl) Tryd.ntmps62 (by rw [Tryd.results62]) (by kernel_rfl)
theorem fok63:FnOk Tryd.prog [0] 63 ⟨8,c63,[.tmp 2]⟩:=FnOk.by Tryd.func63 (by kernel_rfl) (by kernel_rfl) Tryd.ntmps63 (by rw [Tryd.results63]) (by kernel_rfl)
theorem fok64:FnOk Tryd.prog [0] 64 ⟨11,c64,[.tmp 2]⟩:=FnOk.by Tryd.func64 (by kernel_rfl) (by kernel_rfl) Tryd.ntmps64 (by rw [Tryd.results64]) (by kernel_rfl)
theorem fok65:FnOk Tryd.prog [0] 65 ⟨8,c65,[.tmp 2]⟩:=FnOk.by Tryd.func65 (by kernel_rfl) (by kernel_rfl) Tryd.ntmps65 (by rw [Tryd.results65]) (by kernel_rfl)
theorem fok66:FnOk Tryd.prog [0] 66 ⟨52,c66,[.tmp 4]⟩:=FnOk.by Tryd.func66 (by kernel_rfl) (by kernel_rfl) Tryd.ntmps66 (by rw [Tryd.results66]) (by kernel_rfl)
theorem fok67:FnOk Tryd.prog [0] 67 ⟨15,c67,[.tmp 2]⟩:=FnOk.by Tryd.func67 (by kernel_rfl) (by kernel_rfl) Tryd.ntmps67 (by rw [Tryd.results67]) (by kernel_rfl)
theorem fok68:FnOk Tryd.prog [0] 68 ⟨94,c68,[.tmp 8]⟩:=FnOk.by Tryd.func68 (by kernel_rfl) (by kernel_rfl) Tryd.ntmps68 (by rw [Tryd.results68]) (by kernel_rfl)
theorem fok69:FnOk Tryd.prog [0] 69 ⟨22,c69,[.tmp 4]⟩:=FnOk.by Tryd.func69 (by kernel_rfl) (by kernel_rfl) Tryd.ntmps69 (by rw [Tryd.results69]) (by kernel_rfl)
theorem fok70:FnOk Tryd.prog [0] 70 ⟨85,c70,[.tmp 8]⟩:=FnOk.by Tryd.func70 (by kernel_rfl) (by kernel_rfl) Tryd.ntmps70 (by rw [Tryd.results70]) (by kernel_rfl)
theorem fok71:FnOk Tryd.prog [0] 71 ⟨38,c71,[.tmp 4]⟩:=FnOk.by Tryd.func71 (by kernel_rfl) (by kernel_rfl) Tryd.ntmps71 (by rw [Tryd.results71]) (by kernel_rfl)
end Go.Proofs.YtlgmapibifphaaaDoor.MdF
set_option maxRecDepth 100000
namespace Go.Proofs.YtlgmapibifphaaaDoor.MdF
open Go Go.Sp Go.MdF
theorem fok72:FnOk Tryd.prog [0] 72 ⟨9,c72,[.tmp 2]⟩:=FnOk.by Tryd.func72 (by kernel_rfl) (by kernel_rfl) Tryd.ntmps72 (by rw [Tryd.results72]) (by kernel_rfl)
theorem fok73:FnOk Tryd.prog [0] 73 ⟨55,c73,[.tmp 4]⟩:=FnOk.by Tryd.func73 (by kernel_rfl) (by kernel_rfl) Tryd.ntmps73 (by rw [Tryd.results73]) (by kernel_rfl)
theorem fok74:FnOk Tryd.prog [0] 74 ⟨83,c74,[.tmp 4]⟩:=FnOk.by Tryd.func74 (by kernel_rfl) (by kernel_rfl) Tryd.ntmps74 (by rw [Tryd.results74]) (by kernel_rfl)
end Go.Proofs.YtlgmapibifphaaaDoor.MdF
set_option maxRecDepth 100000
namespace Go.Proofs.YtlgmapibifphaaaDoor.MdF
open Go Go.Sp Go.MdF
theorem tok3:TyOk Tryd.prog 3 ti3:=TyOk.by Tryd.underlying3 (inf:=Tryd.t3) (by kernel_rfl) (by kernel_rfl) (by kernel_rfl) (by kernel_rfl) (by kernel_rfl) (fun h=>by cases h)
theorem tok5:TyOk Tryd.prog 5 ti5:=TyOk.by Tryd.underlying5 (inf:=Tryd.t5) (by kernel_rfl) (by kernel_rfl) (by kernel_rfl) (by kernel_rfl) (by kernel_rfl) (fun h=>by cases h)
theorem tok9:TyOk Tryd.prog 9 ti9:=TyOk.by Tryd.underlying9 (inf:=Tryd.t9) (by kernel_rfl) (by kernel_rfl) (by kernel_rfl) (by kernel_rfl) (by kernel_rfl) (fun h=>by cases h)
theorem tok22:TyOk Tryd.prog 22 ti22:=TyOk.by Tryd.underlying22 (inf:=Tryd.t22) (by kernel_rfl) (by kernel_rfl) (by kernel_rfl) (by kernel_rfl) (by kernel_rfl) (fun h=>by cases h)
theorem tok24:TyOk Tryd.prog 24 ti24:=TyOk.by Tryd.underlying24 (inf:=Tryd.t24) (by kernel_rfl) (by kernel_rfl) (by kernel_rfl) (by kernel_rfl) (by kernel_rfl) (fun h=>by cases h)
theorem tok27:TyOk Tryd.prog 27 ti27:=TyOk.by Tryd.underlying27 (inf:=Tryd.t27) (by kernel_rfl) (by kernel_rfl) (by kernel_rfl) (by kernel_rfl) (by kernel_rfl) (fun h=>by cases h)
theorem tok28:TyOk Tryd.prog 28 ti28:=TyOk.by Tryd.underlying28 (inf:=Tryd.t28) (by kernel_rfl) (by kernel_rfl) (by kernel_rfl) (by kernel_rfl) (by kernel_rfl) (fun h=>by cases h)
theorem tok32:TyOk Tryd.prog 32 ti32:=TyOk.by Tryd.underlying32 (inf:=Tryd.t32) (by kernel_rfl) (by kernel_rfl) (by kernel_rfl) (by kernel_rfl) (by kernel_rfl) (fun h=>by cases h)
theorem tok34:TyOk Tryd.prog 34 ti34:=TyOk.by Tryd.underlying34 (inf:=Tryd.t34) (by kernel_rfl) (by kernel_rfl) (by kernel_rfl) (by kernel_rfl) (by kernel_rfl) (fun h=>by cases h)
theorem tok51:TyOk Tryd.prog 51 ti51:=TyOk.by Tryd.underlying51 (inf:=Tryd.t51) (by kernel_rfl) (by kernel_rfl) (by kernel_rfl) (by kernel_rfl) (by kernel_rfl) (fun _=>⟨_,rfl,Fl.ok (d:=8) (⟨by kernel_rfl,.inr (.inr (.inr (.inl ⟨2,3,[(.int .i64 0)],Tryd.underlying51,⟨by kernel_rfl,.inl ⟨⟨_,Tryd.underlying3⟩,_,_,rfl⟩⟩,by kernel_rfl⟩)))⟩) (by decide) ⟨_,Tryd.underlying51,rfl⟩ (by kernel_rfl)⟩)
theorem tok79:TyOk Tryd.prog 79 ti79:=TyOk.by Tryd.underlying79 (inf:=Tryd.t79) (by kernel_rfl) (by kernel_rfl) (by kernel_rfl) (by kernel_rfl) (by kernel_rfl) (fun h=>by cases h)
theorem tok80:TyOk Tryd.prog 80 ti80:=TyOk.by Tryd.underlying80 (inf:=Tryd.t80) (by kernel_rfl) (by kernel_rfl) (by kernel_rfl) (by kernel_rfl) (by kernel_rfl) (fun h=>by cases h)
theorem tok94:TyOk Tryd.prog 94 ti94:=TyOk.by Tryd.underlying94 (inf:=Tryd.t94) (by kernel_rfl) (by kernel_rfl) (by kernel_rfl) (by kernel_rfl) (by kernel_rfl) (fun h=>by cases h)
theorem tok97:TyOk Tryd.prog 97 ti97:=TyOk.by Tryd.underlying97 (inf:=Tryd.t97) (by kernel_rfl) (by kernel_rfl) (by kernel_rfl) (by kernel_rfl) (by kernel_rfl) (fun _=>⟨_,rfl,Fl.ok (d:=8) (⟨by kernel_rfl,.inr (.inr (.inr (.inl ⟨5,3,[(.int .i64 0)],Tryd.underlying97,⟨by kernel_rfl,.inl ⟨⟨_,Tryd.underlying3⟩,_,_,rfl⟩⟩,by kernel_rfl⟩)))⟩) (by decide) ⟨_,Tryd.underlying97,rfl⟩ (by kernel_rfl)⟩)
theorem tok101:TyOk Tryd.prog 101 ti101:=TyOk.by Tryd.underlying101 (inf:=Tryd.t101) (by kernel_rfl) (by kernel_rfl) (by kernel_rfl) (by kernel_rfl) (by kernel_rfl) (fun h=>by cases h)
theorem tok102:TyOk Tryd.prog 102 ti102:=TyOk.by Tryd.underlying102 (inf:=Tryd.t102) (by kernel_rfl) (by kernel_rfl) (by kernel_rfl) (by kernel_rfl) (by kernel_rfl) (fun h=>by cases h)
theorem tok103:TyOk Tryd.prog 103 ti103:=TyOk.by Tryd.underlying103 (inf:=Tryd.t103) (by kernel_rfl) (by kernel_rfl) (by kernel_rfl) (by kernel_rfl) (by kernel_rfl) (fun h=>by cases h)
theorem tok105:TyOk Tryd.prog 105 ti105:=TyOk.by Tryd.underlying105 (inf:=Tryd.t105) (by kernel_rfl) (by kernel_rfl) (by kernel_rfl) (by kernel_rfl) (by kernel_rfl) (fun h=>by cases h)
theorem tok107:TyOk Tryd.prog 107 ti107:=TyOk.by Tryd.underlying107 (inf:=Tryd.t107) (by kernel_rfl) (by kernel_rfl) (by kernel_rfl) (by kernel_rfl) (by kernel_rfl) (fun _=>⟨_,rfl,Fl.ok (d:=8) (⟨by kernel_rfl,.inr (.inr (.inr (.inl ⟨32,5,[(.int .u8 0)],Tryd.underlying107,⟨by kernel_rfl,.inl ⟨⟨_,Tryd.underlying5⟩,_,_,rfl⟩⟩,by kernel_rfl⟩)))⟩) (by decide) ⟨_,Tryd.underlying107,rfl⟩ (by kernel_rfl)⟩)
theorem tok108:TyOk Tryd.prog 108 ti108:=TyOk.by Tryd.underlying108 (inf:=Tryd.t108) (by kernel_rfl) (by kernel_rfl) (by kernel_rfl) (by kernel_rfl) (by kernel_rfl) (fun h=>by cases h)
theorem ttOk:TOk Tryd.prog tt:=TOk.of_all (t:=ttTr) ⟨trivial,⟨trivial,⟨tok3,⟨trivial,⟨trivial,trivial,⟨trivial,⟨tok79,trivial,trivial⟩,trivial⟩⟩,⟨trivial,⟨trivial,trivial,⟨tok103,trivial,trivial⟩⟩,trivial⟩⟩,⟨trivial,⟨trivial,trivial,⟨tok51,trivial,trivial⟩⟩,⟨tok27,⟨trivial,trivial,⟨tok107,trivial,trivial⟩⟩,trivial⟩⟩⟩,⟨tok5,⟨tok9,⟨trivial,⟨trivial,trivial,⟨tok97,trivial,trivial⟩⟩,trivial⟩,⟨trivial,⟨trivial,trivial,⟨tok105,trivial,trivial⟩⟩,trivial⟩⟩,⟨trivial,⟨trivial,⟨trivial,trivial,⟨tok101,trivial,trivial⟩⟩,trivial⟩,trivial⟩⟩⟩,⟨trivial,⟨trivial,⟨trivial,⟨trivial,⟨tok32,trivial,trivial⟩,⟨trivial,⟨tok80,trivial,trivial⟩,trivial⟩⟩,⟨tok24,trivial,trivial⟩⟩,⟨trivial,trivial,⟨tok28,⟨trivial,trivial,⟨tok108,trivial,trivial⟩⟩,trivial⟩⟩⟩,⟨trivial,⟨trivial,⟨trivial,⟨tok34,trivial,trivial⟩,trivial⟩,trivial⟩,⟨trivial,⟨tok22,⟨trivial,trivial,⟨tok102,trivial,trivial⟩⟩,trivial⟩,⟨trivial,trivial,⟨trivial,⟨tok94,trivial,trivial⟩,trivial⟩⟩⟩⟩⟩⟩
theorem fnAll:fnTr.All (FnOk Tryd.prog [0]):=⟨trivial,⟨trivial,⟨trivial,⟨trivial,⟨fok15,⟨fok31,⟨fok63,trivial,trivial⟩,trivial⟩,⟨fok47,trivial,trivial⟩⟩,⟨trivial,⟨fok39,⟨fok71,trivial,trivial⟩,trivial⟩,⟨fok55,trivial,trivial⟩⟩⟩,⟨fok11,⟨trivial,⟨fok35,⟨fok67,trivial,trivial⟩,trivial⟩,⟨fok51,trivial,trivial⟩⟩,⟨fok27,⟨fok43,trivial,trivial⟩,⟨fok59,trivial,trivial⟩⟩⟩⟩,⟨trivial,⟨fok9,⟨trivial,⟨fok33,⟨fok65,trivial,trivial⟩,trivial⟩,⟨fok49,trivial,trivial⟩⟩,⟨fok25,⟨fok41,⟨fok73,trivial,trivial⟩,trivial⟩,⟨fok57,trivial,trivial⟩⟩⟩,⟨fok13,⟨trivial,⟨trivial,⟨fok69,trivial,trivial⟩,trivial⟩,⟨fok53,trivial,trivial⟩⟩,⟨fok29,⟨fok45,trivial,trivial⟩,trivial⟩⟩⟩⟩,⟨trivial,⟨trivial,⟨trivial,⟨fok16,⟨fok32,⟨fok64,trivial,trivial⟩,trivial⟩,⟨fok48,trivial,trivial⟩⟩,⟨trivial,⟨fok40,⟨fok72,trivial,trivial⟩,trivial⟩,⟨fok56,trivial,trivial⟩⟩⟩,⟨fok12,⟨fok20,⟨trivial,⟨fok68,trivial,trivial⟩,trivial⟩,⟨fok52,trivial,trivial⟩⟩,⟨trivial,⟨fok44,trivial,trivial⟩,trivial⟩⟩⟩,⟨trivial,⟨trivial,⟨fok18,⟨fok34,⟨fok66,trivial,trivial⟩,trivial⟩,⟨fok50,trivial,trivial⟩⟩,⟨fok26,⟨fok42,⟨fok74,trivial,trivial⟩,trivial⟩,⟨fok58,trivial,trivial⟩⟩⟩,⟨trivial,⟨trivial,⟨fok38,⟨fok70,trivial,trivial⟩,trivial⟩,⟨fok54,trivial,trivial⟩⟩,⟨fok30,⟨fok46,trivial,trivial⟩,⟨fok62,trivial,trivial⟩⟩⟩⟩⟩⟩
theorem fnsOk (f:FuncId) (r:RFn) (h:fns f = some r):FnOk Tryd.prog [0] f r:=fnAll.get h
end Go.Proofs.YtlgmapibifphaaaDoor.MdF
set_option maxRecDepth 100000
namespace Go.Proofs.YtlgmapibifphaaaDoor.MdF
open Go Go.Sp Go.MdFM Go.MdF
noncomputable section
theorem fk9:FnOk Tryd.prog (List.range tabs.length) 9 ⟨75,c9_23,[.tmp 4]⟩:=by
 have h:c9 = c9_23:=by kernel_rfl
 rw [←h];exact fok9
theorem fk11:FnOk Tryd.prog (List.range tabs.length) 11 ⟨13,c11_3,[.tmp 2]⟩:=by
 have h:c11 = c11_3:=by kernel_rfl
 rw [←h];exact fok11
theorem fk29:FnOk Tryd.prog (List.range tabs.length) 29 ⟨12,c29_11,[.tmp 2,.tmp 3]⟩:=by
 have h:c29 = c29_11:=by kernel_rfl
 rw [←h];exact fok29
theorem fk32:FnOk Tryd.prog (List.range tabs.length) 32 ⟨12,c32_11,[.tmp 2,.tmp 3]⟩:=by
 have h:c32 = c32_11:=by kernel_rfl
 rw [←h];exact fok32
theorem fk33:FnOk Tryd.prog (List.range tabs.length) 33 ⟨53,c33_39,[.tmp 2,.tmp 3]⟩:=by
 have h:c33 = c33_39:=by kernel_rfl
 rw [←h];exact fok33
theorem fk34:FnOk Tryd.prog (List.range tabs.length) 34 ⟨39,c34_40,[.tmp 4]⟩:=by
 have h:c34 = c34_40:=by kernel_rfl
 rw [←h];exact fok34
theorem fk35:FnOk Tryd.prog (List.range tabs.length) 35 ⟨54,c35_28,[.tmp 4]⟩:=by
 have h:c35 = c35_28:=by kernel_rfl
 rw [←h];exact fok35
theorem fk43:FnOk Tryd.prog (List.range tabs.length) 43 ⟨36,c43_7,[.cell 6 24]⟩:=by
 have h:c43 = c43_7:=by kernel_rfl
 rw [←h];exact fok43
theorem fk44:FnOk Tryd.prog (List.range tabs.length) 44 ⟨13,c44_5,[.tmp 2]⟩:=by
 have h:c44 = c44_5:=by kernel_rfl
 rw [←h];exact fok44
theorem fk45:FnOk Tryd.prog (List.range tabs.length) 45 ⟨10,c45_3,[.tmp 2]⟩:=by
 have h:c45 = c45_3:=by kernel_rfl
 rw [←h];exact fok45
theorem fk46:FnOk Tryd.prog (List.range tabs.length) 46 ⟨38,c46_7,[.cell 6 32]⟩:=by
 have h:c46 = c46_7:=by kernel_rfl
 rw [←h];exact fok46
theorem fk47:FnOk Tryd.prog (List.range tabs.length) 47 ⟨73,c47_58,[.tmp 2]⟩:=by
 have h:c47 = c47_58:=by kernel_rfl
 rw [←h];exact fok47
theorem fk48:FnOk Tryd.prog (List.range tabs.length) 48 ⟨46,c48_37,[.tmp 2]⟩:=by
 have h:c48 = c48_37:=by kernel_rfl
 rw [←h];exact fok48
theorem fk49:FnOk Tryd.prog (List.range tabs.length) 49 ⟨68,c49_61,[.tmp 2]⟩:=by
 have h:c49 = c49_61:=by kernel_rfl
 rw [←h];exact fok49
theorem fk50:FnOk Tryd.prog (List.range tabs.length) 50 ⟨7,c50_3,[.tmp 2]⟩:=by
 have h:c50 = c50_3:=by kernel_rfl
 rw [←h];exact fok50
theorem fk51:FnOk Tryd.prog (List.range tabs.length) 51 ⟨27,c51_23,[.tmp 2]⟩:=by
 have h:c51 = c51_23:=by kernel_rfl
 rw [←h];exact fok51
theorem fk52:FnOk Tryd.prog (List.range tabs.length) 52 ⟨15,c52_3,[.tmp 6]⟩:=by
 have h:c52 = c52_3:=by kernel_rfl
 rw [←h];exact fok52
theorem fk53:FnOk Tryd.prog (List.range tabs.length) 53 ⟨10,c53_3,[.tmp 4]⟩:=by
 have h:c53 = c53_3:=by kernel_rfl
 rw [←h];exact fok53
theorem fk54:FnOk Tryd.prog (List.range tabs.length) 54 ⟨15,c54_3,[.tmp 6]⟩:=by
 have h:c54 = c54_3:=by kernel_rfl
 rw [←h];exact fok54
theorem fk56:FnOk Tryd.prog (List.range tabs.length) 56 ⟨28,c56_21,[.tmp 2]⟩:=by
 have h:c56 = c56_21:=by kernel_rfl
 rw [←h];exact fok56
theorem fk57:FnOk Tryd.prog (List.range tabs.length) 57 ⟨25,c57_15,[.tmp 6]⟩:=by
 have h:c57 = c57_15:=by kernel_rfl
 rw [←h];exact fok57
theorem fk59:FnOk Tryd.prog (List.range tabs.length) 59 ⟨26,c59_15,[.tmp 6]⟩:=by
 have h:c59 = c59_15:=by kernel_rfl
 rw [←h];exact fok59
theorem fk62:FnOk Tryd.prog (List.range tabs.length) 62 ⟨16,c62_16,[.tmp 2]⟩:=by
 have h:c62 = c62_16:=by kernel_rfl
 rw [←h];exact fok62
theorem fk64:FnOk Tryd.prog (List.range tabs.length) 64 ⟨11,c64_3,[.tmp 2]⟩:=by
 have h:c64 = c64_3:=by kernel_rfl
 rw [←h];exact fok64
theorem fk67:FnOk Tryd.prog (List.range tabs.length) 67 ⟨15,c67_9,[.tmp 2]⟩:=by
 have h:c67 = c67_9:=by kernel_rfl
 rw [←h];exact fok67
theorem fk71:FnOk Tryd.prog (List.range tabs.length) 71 ⟨38,c71_25,[.tmp 4]⟩:=by
 have h:c71 = c71_25:=by kernel_rfl
 rw [←h];exact fok71
theorem fk72:FnOk Tryd.prog (List.range tabs.length) 72 ⟨9,c72_3,[.tmp 2]⟩:=by
 have h:c72 = c72_3:=by kernel_rfl
 rw [←h];exact fok72
theorem fk73:FnOk Tryd.prog (List.range tabs.length) 73 ⟨55,c73_52,[.tmp 4]⟩:=by
 have h:c73 = c73_52:=by kernel_rfl
 rw [←h];exact fok73
theorem fk74:FnOk Tryd.prog (List.range tabs.length) 74 ⟨83,c74_37,[.tmp 4]⟩:=by
 have h:c74 = c74_37:=by kernel_rfl
 rw [←h];exact fok74
theorem fk65:FnOk Tryd.prog (List.range tabs.length) 65 ⟨8,c65_3,[.tmp 2]⟩:=by
 have h:c65 = c65_3:=by kernel_rfl
 rw [←h];exact fok65
theorem fk66:FnOk Tryd.prog (List.range tabs.length) 66 ⟨52,c66_35,[.tmp 4]⟩:=by
 have h:c66 = c66_35:=by kernel_rfl
 rw [←h];exact fok66
theorem fk68:FnOk Tryd.prog (List.range tabs.length) 68 ⟨94,c68_35,[.tmp 8]⟩:=by
 have h:c68 = c68_35:=by kernel_rfl
 rw [←h];exact fok68
theorem fk69:FnOk Tryd.prog (List.range tabs.length) 69 ⟨22,c69_21,[.tmp 4]⟩:=by
 have h:c69 = c69_21:=by kernel_rfl
 rw [←h];exact fok69
theorem fk70:FnOk Tryd.prog (List.range tabs.length) 70 ⟨85,c70_35,[.tmp 8]⟩:=by
 have h:c70 = c70_35:=by kernel_rfl
 rw [←h];exact fok70
theorem fk55:FnOk Tryd.prog (List.range tabs.length) 55 ⟨9,c55_3,[.tmp 4]⟩:=by
 have h:c55 = c55_3:=by kernel_rfl
 rw [←h];exact fok55
theorem tabs_ne:∀ t ∈ tabs,t ≠ []:=by intro t ht;simp [tabs] at ht;subst ht;intro h;cases h
theorem tabs_pl:∀ t ∈ tabs,∀ x ∈ t,plain1 x = true:=by intro t ht x hx;simp [tabs] at ht;subst ht;simp [tab0] at hx;rcases hx with rfl | rfl | rfl | rfl | rfl | rfl | rfl | rfl | rfl | rfl | rfl | rfl | rfl | rfl | rfl | rfl | rfl | rfl | rfl | rfl | rfl | rfl | rfl | rfl | rfl | rfl | rfl | rfl | rfl | rfl | rfl | rfl <;> rfl
theorem inl_ok (hm:Tryd.prog.follows .mixedOrders = true) {pu:PureF} (h0:ObjOk Tryd.prog tabs 1 0 65 (pu 10650)) (h1:ObjOk Tryd.prog tabs 2 2 66 (pu 10660)) (h2:ObjOk Tryd.prog tabs 4 2 68 (pu 10680)) (h3:ObjOk Tryd.prog tabs 2 0 69 (pu 10690)) (h4:ObjOk Tryd.prog tabs 4 0 70 (pu 10700)) (h5:ObjOk Tryd.prog tabs 2 0 55 (pu 10550)) (h6:ObjOk Tryd.prog tabs 2 1 55 (pu 10551)) (h7:ObjOk Tryd.prog tabs 2 1 69 (pu 10691)):CallOk Tryd.prog (List.range tabs.length) (inl pu):=fun g args H v H' h=>by
 replace h:bb (Nat.beq g 63) (cloneF 1 8 args H) (bb (Nat.beq g 65) (objG tabs [[none,some 1,some 1]] 1 [] [true,false] (pu 10650) args H) (bb (Nat.beq g 66) (objG tabs [[none],[none]] 2 [.tmp 0 true,.cell 1 3 false] [true,false] (pu 10660) args H) (bb (Nat.beq g 68) (objG tabs [[none],[some 1],[none],[none]] 4 [.tmp 0 true,.cell 1 3 false] [true,false] (pu 10680) args H) (bb (Nat.beq g 69) (bb (an (oo (nthL args 0) false (fun v=>nt (isS (vSl v)))) true) (objG tabs [[some 1],[none]] 2 [] [] (pu 10690) args H) (objG tabs [[none],[none]] 2 [.tmp 0 false] [false] (pu 10691) args H)) (bb (Nat.beq g 70) (objG tabs [[none,some 1,some 1],[some 1],[some 1],[some 1]] 4 [] [] (pu 10700) args H) (bb (Nat.beq g 55) (bb (an (oo (nthL args 0) false (fun v=>nt (isS (vSl v)))) true) (objG tabs [[some 1],[none]] 2 [] [] (pu 10550) args H) (objG tabs [[none],[none]] 2 [.tmp 0 false] [false] (pu 10551) args H)) (none))))))) = some (v,H'):=h
 have hq:=bb_cases h;clear h;rcases hq with ⟨e,h⟩ | ⟨_,h⟩
 ·obtain rfl := Nat.eq_of_beq_eq_true e
  exact clone63_ok ttOk fnsOk hm h
 have hq:=bb_cases h;clear h;rcases hq with ⟨e,h⟩ | ⟨_,h⟩
 ·obtain rfl := Nat.eq_of_beq_eq_true e
  exact objG_ok (rs:=[]) tabs_ne tabs_pl h0 h
 have hq:=bb_cases h;clear h;rcases hq with ⟨e,h⟩ | ⟨_,h⟩
 ·obtain rfl := Nat.eq_of_beq_eq_true e
  exact objG_ok (rs:=[.tmp 0 true,.cell 1 3 false]) tabs_ne tabs_pl h1 h
 have hq:=bb_cases h;clear h;rcases hq with ⟨e,h⟩ | ⟨_,h⟩
 ·obtain rfl := Nat.eq_of_beq_eq_true e
  exact objG_ok (rs:=[.tmp 0 true,.cell 1 3 false]) tabs_ne tabs_pl h2 h
 have hq:=bb_cases h;clear h;rcases hq with ⟨e,h⟩ | ⟨_,h⟩
 ·obtain rfl := Nat.eq_of_beq_eq_true e
  have hq:=bb_any h;clear h;rcases hq with h | h
  ·exact objG_ok (rs:=[]) tabs_ne tabs_pl h3 h
  exact objG_ok (rs:=[.tmp 0 false]) tabs_ne tabs_pl h7 h
 have hq:=bb_cases h;clear h;rcases hq with ⟨e,h⟩ | ⟨_,h⟩
 ·obtain rfl := Nat.eq_of_beq_eq_true e
  exact objG_ok (rs:=[]) tabs_ne tabs_pl h4 h
 have hq:=bb_cases h;clear h;rcases hq with ⟨e,h⟩ | ⟨_,h⟩
 ·obtain rfl := Nat.eq_of_beq_eq_true e
  have hq:=bb_any h;clear h;rcases hq with h | h
  ·exact objG_ok (rs:=[]) tabs_ne tabs_pl h5 h
  exact objG_ok (rs:=[.tmp 0 false]) tabs_ne tabs_pl h6 h
 cases h
theorem disp_ok (hm:Tryd.prog.follows .mixedOrders = true) (hw:PureOk Tryd.prog tabs 12 (fun args=>ll args (some (.bool true)) fun _ _=>none)) {pu:PureF} (hall:(∀ g,isP g = true→PureOk Tryd.prog tabs g (pu g))∧ObjOk Tryd.prog tabs 1 0 65 (pu 10650)∧ObjOk Tryd.prog tabs 2 2 66 (pu 10660)∧ObjOk Tryd.prog tabs 4 2 68 (pu 10680)∧ObjOk Tryd.prog tabs 2 0 69 (pu 10690)∧ObjOk Tryd.prog tabs 4 0 70 (pu 10700)∧ObjOk Tryd.prog tabs 2 0 55 (pu 10550)∧ObjOk Tryd.prog tabs 2 1 55 (pu 10551)∧ObjOk Tryd.prog tabs 2 1 69 (pu 10691)):(∀ g,isP g = true→PureOk Tryd.prog tabs g (disp pu g))∧ObjOk Tryd.prog tabs 1 0 65 (disp pu 10650)∧ObjOk Tryd.prog tabs 2 2 66 (disp pu 10660)∧ObjOk Tryd.prog tabs 4 2 68 (disp pu 10680)∧ObjOk Tryd.prog tabs 2 0 69 (disp pu 10690)∧ObjOk Tryd.prog tabs 4 0 70 (disp pu 10700)∧ObjOk Tryd.prog tabs 2 0 55 (disp pu 10550)∧ObjOk Tryd.prog tabs 2 1 55 (disp pu 10551)∧ObjOk Tryd.prog tabs 2 1 69 (disp pu 10691):=by
 obtain ⟨hpu,h0,h4,h5,h6,h7,h8,h9,h10⟩:=hall
 have hcall:=callP_ok (P:=Tryd.prog) (tabs:=tabs) tabs_ne tabs_pl (inl_ok hm h0 h4 h5 h6 h7 h8 h9 h10) hpu
 refine ⟨fun g hg=>?_,?_,?_,?_,?_,?_,?_,?_,?_⟩
 ·have hg : g ∈ plist := memN_iff.1 hg
  simp only [plist,List.mem_cons,List.not_mem_nil,or_false] at hg
  rcases hg with rfl | rfl | rfl | rfl | rfl | rfl | rfl | rfl | rfl | rfl | rfl | rfl | rfl | rfl | rfl | rfl | rfl | rfl | rfl | rfl | rfl | rfl | rfl | rfl | rfl | rfl | rfl | rfl | rfl | rfl
  ·exact pureOk_of_run (tabs:=tabs) (f:=m9 pu L) ttOk hm hcall fk9 fun args v h hc=>r9 pu L rfl h hc
  ·exact pureOk_of_run (tabs:=tabs) (f:=m11 pu L) ttOk hm hcall fk11 fun args v h hc=>r11 pu L rfl h hc
  ·exact hw
  ·exact pureOk_of_run (tabs:=tabs) (f:=m29 pu L) ttOk hm hcall fk29 fun args v h hc=>r29 pu L rfl h hc
  ·exact pureOk_of_run (tabs:=tabs) (f:=m32 pu L) ttOk hm hcall fk32 fun args v h hc=>r32 pu L rfl h hc
  ·exact pureOk_of_run (tabs:=tabs) (f:=m33 pu L) ttOk hm hcall fk33 fun args v h hc=>r33 pu L rfl h hc
  ·exact pureOk_of_run (tabs:=tabs) (f:=m34 pu L) ttOk hm hcall fk34 fun args v h hc=>r34 pu L rfl h hc
  ·exact pureOk_of_run (tabs:=tabs) (f:=m35 pu L) ttOk hm hcall fk35 fun args v h hc=>r35 pu L rfl h hc
  ·exact pureOk_of_run (tabs:=tabs) (f:=m43 pu L) ttOk hm hcall fk43 fun args v h hc=>r43 pu L rfl h hc
  ·exact pureOk_of_run (tabs:=tabs) (f:=m44 pu L) ttOk hm hcall fk44 fun args v h hc=>r44 pu L rfl h hc
  ·exact pureOk_of_run (tabs:=tabs) (f:=m45 pu L) ttOk hm hcall fk45 fun args v h hc=>r45 pu L rfl h hc
  ·exact pureOk_of_run (tabs:=tabs) (f:=m46 pu L) ttOk hm hcall fk46 fun args v h hc=>r46 pu L rfl h hc
  ·exact pureOk_of_run (tabs:=tabs) (f:=m47 pu L) ttOk hm hcall fk47 fun args v h hc=>r47 pu L rfl h hc
  ·exact pureOk_of_run (tabs:=tabs) (f:=m48 pu L) ttOk hm hcall fk48 fun args v h hc=>r48 pu L rfl h hc
  ·exact pureOk_of_run (tabs:=tabs) (f:=m49 pu L) ttOk hm hcall fk49 fun args v h hc=>r49 pu L rfl h hc
  ·exact pureOk_of_run (tabs:=tabs) (f:=m50 pu L) ttOk hm hcall fk50 fun args v h hc=>r50 pu L rfl h hc
  ·exact pureOk_of_run (tabs:=tabs) (f:=m51 pu L) ttOk hm hcall fk51 fun args v h hc=>r51 pu L rfl h hc
  ·exact pureOk_of_run (tabs:=tabs) (f:=m52 pu L) ttOk hm hcall fk52 fun args v h hc=>r52 pu L rfl h hc
  ·exact pureOk_of_run (tabs:=tabs) (f:=m53 pu L) ttOk hm hcall fk53 fun args v h hc=>r53 pu L rfl h hc
  ·exact pureOk_of_run (tabs:=tabs) (f:=m54 pu L) ttOk hm hcall fk54 fun args v h hc=>r54 pu L rfl h hc
  ·exact pureOk_of_run (tabs:=tabs) (f:=m56 pu L) ttOk hm hcall fk56 fun args v h hc=>r56 pu L rfl h hc
  ·exact pureOk_of_run (tabs:=tabs) (f:=m57 pu L) ttOk hm hcall fk57 fun args v h hc=>r57 pu L rfl h hc
  ·exact pureOk_of_run (tabs:=tabs) (f:=m59 pu L) ttOk hm hcall fk59 fun args v h hc=>r59 pu L rfl h hc
  ·exact pureOk_of_run (tabs:=tabs) (f:=m62 pu L) ttOk hm hcall fk62 fun args v h hc=>r62 pu L rfl h hc
  ·exact pureOk_of_run (tabs:=tabs) (f:=m64 pu L) ttOk hm hcall fk64 fun args v h hc=>r64 pu L rfl h hc
  ·exact pureOk_of_run (tabs:=tabs) (f:=m67 pu L) ttOk hm hcall fk67 fun args v h hc=>r67 pu L rfl h hc
  ·exact pureOk_of_run (tabs:=tabs) (f:=m71 pu L) ttOk hm hcall fk71 fun args v h hc=>r71 pu L rfl h hc
  ·exact pureOk_of_run (tabs:=tabs) (f:=m72 pu L) ttOk hm hcall fk72 fun args v h hc=>r72 pu L rfl h hc
  ·exact pureOk_of_run (tabs:=tabs) (f:=m73 pu L) ttOk hm hcall fk73 fun args v h hc=>r73 pu L rfl h hc
  ·exact pureOk_of_run (tabs:=tabs) (f:=m74 pu L) ttOk hm hcall fk74 fun args v h hc=>r74 pu L rfl h hc
 ·exact objOk_of_run (tabs:=tabs) (f:=m10650 pu L) ttOk hm hcall fk65 fun args os z h1 h2 h3 h=>r10650 pu L rfl h1 h2 h3 h
 ·exact objOk_of_run (tabs:=tabs) (f:=m10660 pu L) ttOk hm hcall fk66 fun args os z h1 h2 h3 h=>r10660 pu L rfl h1 h2 h3 h
 ·exact objOk_of_run (tabs:=tabs) (f:=m10680 pu L) ttOk hm hcall fk68 fun args os z h1 h2 h3 h=>r10680 pu L rfl h1 h2 h3 h
 ·exact objOk_of_run (tabs:=tabs) (f:=m10690 pu L) ttOk hm hcall fk69 fun args os z h1 h2 h3 h=>r10690 pu L rfl h1 h2 h3 h
 ·exact objOk_of_run (tabs:=tabs) (f:=m10700 pu L) ttOk hm hcall fk70 fun args os z h1 h2 h3 h=>r10700 pu L rfl h1 h2 h3 h
 ·exact objOk_of_run (tabs:=tabs) (f:=m10550 pu L) ttOk hm hcall fk55 fun args os z h1 h2 h3 h=>r10550 pu L rfl h1 h2 h3 h
 ·exact objOk_of_run (tabs:=tabs) (f:=m10551 pu L) ttOk hm hcall fk55 fun args os z h1 h2 h3 h=>r10551 pu L rfl h1 h2 h3 h
 ·exact objOk_of_run (tabs:=tabs) (f:=m10691 pu L) ttOk hm hcall fk69 fun args os z h1 h2 h3 h=>r10691 pu L rfl h1 h2 h3 h
theorem all_ok (hm:Tryd.prog.follows .mixedOrders = true) (hw:PureOk Tryd.prog tabs 12 (fun args=>ll args (some (.bool true)) fun _ _=>none)):∀ n,(∀ g,isP g = true→PureOk Tryd.prog tabs g (puN n g))∧ObjOk Tryd.prog tabs 1 0 65 (puN n 10650)∧ObjOk Tryd.prog tabs 2 2 66 (puN n 10660)∧ObjOk Tryd.prog tabs 4 2 68 (puN n 10680)∧ObjOk Tryd.prog tabs 2 0 69 (puN n 10690)∧ObjOk Tryd.prog tabs 4 0 70 (puN n 10700)∧ObjOk Tryd.prog tabs 2 0 55 (puN n 10550)∧ObjOk Tryd.prog tabs 2 1 55 (puN n 10551)∧ObjOk Tryd.prog tabs 2 1 69 (puN n 10691):=fun n=>by
 induction n with
 | zero =>
  refine ⟨fun g hg=>?_,?_,?_,?_,?_,?_,?_,?_,?_⟩
  ·have hg : g ∈ plist := memN_iff.1 hg
   simp only [plist,List.mem_cons,List.not_mem_nil,or_false] at hg
   rcases hg with rfl | rfl | rfl | rfl | rfl | rfl | rfl | rfl | rfl | rfl | rfl | rfl | rfl | rfl | rfl | rfl | rfl | rfl | rfl | rfl | rfl | rfl | rfl | rfl | rfl | rfl | rfl | rfl | rfl | rfl
   ·exact ⟨enter_ok fk9,fun args v h=>by cases h⟩
   ·exact ⟨enter_ok fk11,fun args v h=>by cases h⟩
   ·exact ⟨(hw).1,fun args v h=>by cases h⟩
   ·exact ⟨enter_ok fk29,fun args v h=>by cases h⟩
   ·exact ⟨enter_ok fk32,fun args v h=>by cases h⟩
   ·exact ⟨enter_ok fk33,fun args v h=>by cases h⟩
   ·exact ⟨enter_ok fk34,fun args v h=>by cases h⟩
   ·exact ⟨enter_ok fk35,fun args v h=>by cases h⟩
   ·exact ⟨enter_ok fk43,fun args v h=>by cases h⟩
   ·exact ⟨enter_ok fk44,fun args v h=>by cases h⟩
   ·exact ⟨enter_ok fk45,fun args v h=>by cases h⟩
   ·exact ⟨enter_ok fk46,fun args v h=>by cases h⟩
   ·exact ⟨enter_ok fk47,fun args v h=>by cases h⟩
   ·exact ⟨enter_ok fk48,fun args v h=>by cases h⟩
   ·exact ⟨enter_ok fk49,fun args v h=>by cases h⟩
   ·exact ⟨enter_ok fk50,fun args v h=>by cases h⟩
   ·exact ⟨enter_ok fk51,fun args v h=>by cases h⟩
   ·exact ⟨enter_ok fk52,fun args v h=>by cases h⟩
   ·exact ⟨enter_ok fk53,fun args v h=>by cases h⟩
   ·exact ⟨enter_ok fk54,fun args v h=>by cases h⟩
   ·exact ⟨enter_ok fk56,fun args v h=>by cases h⟩
   ·exact ⟨enter_ok fk57,fun args v h=>by cases h⟩
   ·exact ⟨enter_ok fk59,fun args v h=>by cases h⟩
   ·exact ⟨enter_ok fk62,fun args v h=>by cases h⟩
   ·exact ⟨enter_ok fk64,fun args v h=>by cases h⟩
   ·exact ⟨enter_ok fk67,fun args v h=>by cases h⟩
   ·exact ⟨enter_ok fk71,fun args v h=>by cases h⟩
   ·exact ⟨enter_ok fk72,fun args v h=>by cases h⟩
   ·exact ⟨enter_ok fk73,fun args v h=>by cases h⟩
   ·exact ⟨enter_ok fk74,fun args v h=>by cases h⟩
  ·exact ⟨enter_ok fk65,fun args os z h1 h2 h3 h=>by cases h⟩
  ·exact ⟨enter_ok fk66,fun args os z h1 h2 h3 h=>by cases h⟩
  ·exact ⟨enter_ok fk68,fun args os z h1 h2 h3 h=>by cases h⟩
  ·exact ⟨enter_ok fk69,fun args os z h1 h2 h3 h=>by cases h⟩
  ·exact ⟨enter_ok fk70,fun args os z h1 h2 h3 h=>by cases h⟩
  ·exact ⟨enter_ok fk55,fun args os z h1 h2 h3 h=>by cases h⟩
  ·exact ⟨enter_ok fk55,fun args os z h1 h2 h3 h=>by cases h⟩
  ·exact ⟨enter_ok fk69,fun args os z h1 h2 h3 h=>by cases h⟩
 | succ n ih=>exact disp_ok hm hw ih
theorem pu_ok (hm:Tryd.prog.follows .mixedOrders = true) (hw:PureOk Tryd.prog tabs 12 (fun args=>ll args (some (.bool true)) fun _ _=>none)):∀ n g,isP g = true→PureOk Tryd.prog tabs g (puN n g):=fun n=>(all_ok hm hw n).1
end
end Go.Proofs.YtlgmapibifphaaaDoor.MdF
