/- Made from wip. -/
import Derived.Test.YtokbaaeimejjlaaGreatDoorProg
import Derived.Test.YtokbaaeimejjlaaGreatDoorSpClox
import Derived.Test.YtokbaaeimejjlaaGreatDoorBkUInlx
import Derived.Test.YtokbaaeimejjlaaGreatDoorBkUPux
import Derived.RangeFuncNested
import Derived.RangeFuncBound
import Derived.RangeFuncCalls
import Derived.RangeFuncLeaves
import Derived.Shelf.Abstract
import Derived.Shelf.RegionOpen
import Derived.WalkKit
import Derived.OwnWalkIn
import Derived.TacticsInMore
import Derived.LoopNIn
import Derived.LoopIn

set_option maxRecDepth 100000
namespace Go.Proofs.YtokbaaeimejjlaaGreatDoor.BkU
open Go Go.Sp Go.BkU
theorem b5:(match Tryz.f5.body with | some c=>BF c c5 | none=>none)=some c5:=by kernel_rfl
theorem p5:(match Tryz.f5.body with | some c=>AU [0] c | none=>false)=true:=by kernel_rfl
theorem AgG:Ar Tryz.prog [0] 5 ⟨90,c5,[.tmp 6]⟩:=Ar.by Tryz.func5 b5 p5 Tryz.ntmps5 (by rw[Tryz.results5]) (by kernel_rfl)
theorem b9:(match Tryz.f9.body with | some c=>BF c c9 | none=>none)=some c9:=by kernel_rfl
theorem p9:(match Tryz.f9.body with | some c=>AU [0] c | none=>false)=true:=by kernel_rfl
theorem AgH:Ar Tryz.prog [0] 9 ⟨21,c9,[.tmp 6]⟩:=Ar.by Tryz.func9 b9 p9 Tryz.ntmps9 (by rw[Tryz.results9]) (by kernel_rfl)
theorem b10:(match Tryz.f10.body with | some c=>BF c c10 | none=>none)=some c10:=by kernel_rfl
theorem p10:(match Tryz.f10.body with | some c=>AU [0] c | none=>false)=true:=by kernel_rfl
theorem nZ:Ar Tryz.prog [0] 10 ⟨209,c10,[.tmp 0]⟩:=Ar.by Tryz.func10 b10 p10 Tryz.ntmps10 (by rw[Tryz.results10]) (by kernel_rfl)
theorem b11:(match Tryz.f11.body with | some c=>BF c c11 | none=>none)=some c11:=by kernel_rfl
theorem p11:(match Tryz.f11.body with | some c=>AU [0] c | none=>false)=true:=by kernel_rfl
theorem AgI:Ar Tryz.prog [0] 11 ⟨34,c11,[.tmp 6,.tmp 7]⟩:=Ar.by Tryz.func11 b11 p11 Tryz.ntmps11 (by rw[Tryz.results11]) (by kernel_rfl)
theorem b13:(match Tryz.f13.body with | some c=>BF c c13 | none=>none)=some c13:=by kernel_rfl
theorem p13:(match Tryz.f13.body with | some c=>AU [0] c | none=>false)=true:=by kernel_rfl
theorem AgJ:Ar Tryz.prog [0] 13 ⟨42,c13,[.tmp 6,.tmp 7]⟩:=Ar.by Tryz.func13 b13 p13 Tryz.ntmps13 (by rw[Tryz.results13]) (by kernel_rfl)
theorem b15:(match Tryz.f15.body with | some c=>BF c c15 | none=>none)=some c15:=by kernel_rfl
theorem p15:(match Tryz.f15.body with | some c=>AU [0] c | none=>false)=true:=by kernel_rfl
theorem AgK:Ar Tryz.prog [0] 15 ⟨43,c15,[.tmp 4,.tmp 5]⟩:=Ar.by Tryz.func15 b15 p15 Tryz.ntmps15 (by rw[Tryz.results15]) (by kernel_rfl)
theorem b17:(match Tryz.f17.body with | some c=>BF c c17 | none=>none)=some c17:=by kernel_rfl
theorem p17:(match Tryz.f17.body with | some c=>AU [0] c | none=>false)=true:=by kernel_rfl
theorem AgL:Ar Tryz.prog [0] 17 ⟨26,c17,[.tmp 4]⟩:=Ar.by Tryz.func17 b17 p17 Tryz.ntmps17 (by rw[Tryz.results17]) (by kernel_rfl)
theorem b18:(match Tryz.f18.body with | some c=>BF c c18 | none=>none)=some c18:=by kernel_rfl
theorem p18:(match Tryz.f18.body with | some c=>AU [0] c | none=>false)=true:=by kernel_rfl
theorem AgM:Ar Tryz.prog [0] 18 ⟨23,c18,[.tmp 4,.tmp 5]⟩:=Ar.by Tryz.func18 b18 p18 Tryz.ntmps18 (by rw[Tryz.results18]) (by kernel_rfl)
theorem b20:(match Tryz.f20.body with | some c=>BF c c20 | none=>none)=some c20:=by kernel_rfl
theorem p20:(match Tryz.f20.body with | some c=>AU [0] c | none=>false)=true:=by kernel_rfl
theorem AgN:Ar Tryz.prog [0] 20 ⟨21,c20,[.tmp 4,.tmp 5]⟩:=Ar.by Tryz.func20 b20 p20 Tryz.ntmps20 (by rw[Tryz.results20]) (by kernel_rfl)
theorem b22:(match Tryz.f22.body with | some c=>BF c c22 | none=>none)=some c22:=by kernel_rfl
theorem p22:(match Tryz.f22.body with | some c=>AU [0] c | none=>false)=true:=by kernel_rfl
theorem AgO:Ar Tryz.prog [0] 22 ⟨27,c22,[.tmp 4]⟩:=Ar.by Tryz.func22 b22 p22 Tryz.ntmps22 (by rw[Tryz.results22]) (by kernel_rfl)
theorem b23:(match Tryz.f23.body with | some c=>BF c c23 | none=>none)=some c23:=by kernel_rfl
theorem p23:(match Tryz.f23.body with | some c=>AU [0] c | none=>false)=true:=by kernel_rfl
theorem oD:Ar Tryz.prog [0] 23 ⟨29,c23,[.tmp 4,.tmp 5]⟩:=Ar.by Tryz.func23 b23 p23 Tryz.ntmps23 (by rw[Tryz.results23]) (by kernel_rfl)
theorem b24:(match Tryz.f24.body with | some c=>BF c c24 | none=>none)=some c24:=by kernel_rfl
theorem p24:(match Tryz.f24.body with | some c=>AU [0] c | none=>false)=true:=by kernel_rfl
theorem oF:Ar Tryz.prog [0] 24 ⟨28,c24,[.tmp 4,.tmp 5]⟩:=Ar.by Tryz.func24 b24 p24 Tryz.ntmps24 (by rw[Tryz.results24]) (by kernel_rfl)
theorem b25:(match Tryz.f25.body with | some c=>BF c c25 | none=>none)=some c25:=by kernel_rfl
theorem p25:(match Tryz.f25.body with | some c=>AU [0] c | none=>false)=true:=by kernel_rfl
theorem oG:Ar Tryz.prog [0] 25 ⟨39,c25,[.tmp 2,.tmp 3]⟩:=Ar.by Tryz.func25 b25 p25 Tryz.ntmps25 (by rw[Tryz.results25]) (by kernel_rfl)
theorem b26:(match Tryz.f26.body with | some c=>BF c c26 | none=>none)=some c26:=by kernel_rfl
theorem p26:(match Tryz.f26.body with | some c=>AU [0] c | none=>false)=true:=by kernel_rfl
theorem oH:Ar Tryz.prog [0] 26 ⟨37,c26,[.tmp 2,.tmp 3]⟩:=Ar.by Tryz.func26 b26 p26 Tryz.ntmps26 (by rw[Tryz.results26]) (by kernel_rfl)
theorem b27:(match Tryz.f27.body with | some c=>BF c c27 | none=>none)=some c27:=by kernel_rfl
theorem p27:(match Tryz.f27.body with | some c=>AU [0] c | none=>false)=true:=by kernel_rfl
theorem oJ:Ar Tryz.prog [0] 27 ⟨93,c27,[.tmp 4,.tmp 5]⟩:=Ar.by Tryz.func27 b27 p27 Tryz.ntmps27 (by rw[Tryz.results27]) (by kernel_rfl)
theorem b28:(match Tryz.f28.body with | some c=>BF c c28 | none=>none)=some c28:=by kernel_rfl
theorem p28:(match Tryz.f28.body with | some c=>AU [0] c | none=>false)=true:=by kernel_rfl
theorem oK:Ar Tryz.prog [0] 28 ⟨115,c28,[.tmp 4,.tmp 5]⟩:=Ar.by Tryz.func28 b28 p28 Tryz.ntmps28 (by rw[Tryz.results28]) (by kernel_rfl)
theorem b29:(match Tryz.f29.body with | some c=>BF c c29 | none=>none)=some c29:=by kernel_rfl
theorem p29:(match Tryz.f29.body with | some c=>AU [0] c | none=>false)=true:=by kernel_rfl
theorem AgP:Ar Tryz.prog [0] 29 ⟨25,c29,[.tmp 4,.tmp 5]⟩:=Ar.by Tryz.func29 b29 p29 Tryz.ntmps29 (by rw[Tryz.results29]) (by kernel_rfl)
theorem b31:(match Tryz.f31.body with | some c=>BF c c31 | none=>none)=some c31:=by kernel_rfl
theorem p31:(match Tryz.f31.body with | some c=>AU [0] c | none=>false)=true:=by kernel_rfl
theorem AgQ:Ar Tryz.prog [0] 31 ⟨70,c31,[.tmp 6]⟩:=Ar.by Tryz.func31 b31 p31 Tryz.ntmps31 (by rw[Tryz.results31]) (by kernel_rfl)
theorem lT:(match Tryz.f33.body with | some c=>BF c c33 | none=>none)=some c33:=by kernel_rfl
theorem p33:(match Tryz.f33.body with | some c=>AU [0] c | none=>false)=true:=by kernel_rfl
theorem AgR:Ar Tryz.prog [0] 33 ⟨20,c33,[.tmp 4,.tmp 5]⟩:=Ar.by Tryz.func33 lT p33 Tryz.ntmps33 (by rw[Tryz.results33]) (by kernel_rfl)
theorem b34:(match Tryz.f34.body with | some c=>BF c c34 | none=>none)=some c34:=by kernel_rfl
theorem p34:(match Tryz.f34.body with | some c=>AU [0] c | none=>false)=true:=by kernel_rfl
theorem oL:Ar Tryz.prog [0] 34 ⟨37,c34,[.tmp 4,.tmp 5]⟩:=Ar.by Tryz.func34 b34 p34 Tryz.ntmps34 (by rw[Tryz.results34]) (by kernel_rfl)
theorem b36:(match Tryz.f36.body with | some c=>BF c c36 | none=>none)=some c36:=by kernel_rfl
theorem p36:(match Tryz.f36.body with | some c=>AU [0] c | none=>false)=true:=by kernel_rfl
theorem oM:Ar Tryz.prog [0] 36 ⟨106,c36,[.tmp 2]⟩:=Ar.by Tryz.func36 b36 p36 Tryz.ntmps36 (by rw[Tryz.results36]) (by kernel_rfl)
theorem b39:(match Tryz.f39.body with | some c=>BF c c39 | none=>none)=some c39:=by kernel_rfl
theorem p39:(match Tryz.f39.body with | some c=>AU [0] c | none=>false)=true:=by kernel_rfl
theorem AgS:Ar Tryz.prog [0] 39 ⟨4,c39,[.cell 0 24]⟩:=Ar.by Tryz.func39 b39 p39 Tryz.ntmps39 (by rw[Tryz.results39]) (by kernel_rfl)
theorem b40:(match Tryz.f40.body with | some c=>BF c c40 | none=>none)=some c40:=by kernel_rfl
theorem p40:(match Tryz.f40.body with | some c=>AU [0] c | none=>false)=true:=by kernel_rfl
theorem AgT:Ar Tryz.prog [0] 40 ⟨4,c40,[.tmp 2]⟩:=Ar.by Tryz.func40 b40 p40 Tryz.ntmps40 (by rw[Tryz.results40]) (by kernel_rfl)
theorem b41:(match Tryz.f41.body with | some c=>BF c c41 | none=>none)=some c41:=by kernel_rfl
theorem p41:(match Tryz.f41.body with | some c=>AU [0] c | none=>false)=true:=by kernel_rfl
theorem AgU:Ar Tryz.prog [0] 41 ⟨4,c41,[.cell 0 24]⟩:=Ar.by Tryz.func41 b41 p41 Tryz.ntmps41 (by rw[Tryz.results41]) (by kernel_rfl)
theorem b42:(match Tryz.f42.body with | some c=>BF c c42 | none=>none)=some c42:=by kernel_rfl
theorem p42:(match Tryz.f42.body with | some c=>AU [0] c | none=>false)=true:=by kernel_rfl
theorem AgV:Ar Tryz.prog [0] 42 ⟨4,c42,[.tmp 2]⟩:=Ar.by Tryz.func42 b42 p42 Tryz.ntmps42 (by rw[Tryz.results42]) (by kernel_rfl)
end Go.Proofs.YtokbaaeimejjlaaGreatDoor.BkU
set_option maxRecDepth 100000
namespace Go.Proofs.YtokbaaeimejjlaaGreatDoor.BkU
open Go Go.Sp Go.BkU
theorem b43:(match Tryz.f43.body with | some c=>BF c c43 | none=>none)=some c43:=by kernel_rfl
theorem p43:(match Tryz.f43.body with | some c=>AU [0] c | none=>false)=true:=by kernel_rfl
theorem oN:Ar Tryz.prog [0] 43 ⟨33,c43,[.tmp 4,.tmp 5]⟩:=Ar.by Tryz.func43 b43 p43 Tryz.ntmps43 (by rw[Tryz.results43]) (by kernel_rfl)
theorem b44:(match Tryz.f44.body with | some c=>BF c c44 | none=>none)=some c44:=by kernel_rfl
theorem p44:(match Tryz.f44.body with | some c=>AU [0] c | none=>false)=true:=by kernel_rfl
theorem oO:Ar Tryz.prog [0] 44 ⟨19,c44,[.tmp 4]⟩:=Ar.by Tryz.func44 b44 p44 Tryz.ntmps44 (by rw[Tryz.results44]) (by kernel_rfl)
theorem b45:(match Tryz.f45.body with | some c=>BF c c45 | none=>none)=some c45:=by kernel_rfl
theorem p45:(match Tryz.f45.body with | some c=>AU [0] c | none=>false)=true:=by kernel_rfl
theorem oP:Ar Tryz.prog [0] 45 ⟨35,c45,[.tmp 6]⟩:=Ar.by Tryz.func45 b45 p45 Tryz.ntmps45 (by rw[Tryz.results45]) (by kernel_rfl)
theorem b47:(match Tryz.f47.body with | some c=>BF c c47 | none=>none)=some c47:=by kernel_rfl
theorem p47:(match Tryz.f47.body with | some c=>AU [0] c | none=>false)=true:=by kernel_rfl
theorem oQ:Ar Tryz.prog [0] 47 ⟨18,c47,[.tmp 4]⟩:=Ar.by Tryz.func47 b47 p47 Tryz.ntmps47 (by rw[Tryz.results47]) (by kernel_rfl)
theorem b48:(match Tryz.f48.body with | some c=>BF c c48 | none=>none)=some c48:=by kernel_rfl
theorem p48:(match Tryz.f48.body with | some c=>AU [0] c | none=>false)=true:=by kernel_rfl
theorem oU:Ar Tryz.prog [0] 48 ⟨26,c48,[.tmp 6]⟩:=Ar.by Tryz.func48 b48 p48 Tryz.ntmps48 (by rw[Tryz.results48]) (by kernel_rfl)
theorem b49:(match Tryz.f49.body with | some c=>BF c c49 | none=>none)=some c49:=by kernel_rfl
theorem p49:(match Tryz.f49.body with | some c=>AU [0] c | none=>false)=true:=by kernel_rfl
theorem oV:Ar Tryz.prog [0] 49 ⟨26,c49,[.tmp 4]⟩:=Ar.by Tryz.func49 b49 p49 Tryz.ntmps49 (by rw[Tryz.results49]) (by kernel_rfl)
theorem b50:(match Tryz.f50.body with | some c=>BF c c50 | none=>none)=some c50:=by kernel_rfl
theorem p50:(match Tryz.f50.body with | some c=>AU [0] c | none=>false)=true:=by kernel_rfl
theorem oW:Ar Tryz.prog [0] 50 ⟨21,c50,[.tmp 4]⟩:=Ar.by Tryz.func50 b50 p50 Tryz.ntmps50 (by rw[Tryz.results50]) (by kernel_rfl)
theorem b51:(match Tryz.f51.body with | some c=>BF c c51 | none=>none)=some c51:=by kernel_rfl
theorem p51:(match Tryz.f51.body with | some c=>AU [0] c | none=>false)=true:=by kernel_rfl
theorem AgW:Ar Tryz.prog [0] 51 ⟨38,c51,[.tmp 6]⟩:=Ar.by Tryz.func51 b51 p51 Tryz.ntmps51 (by rw[Tryz.results51]) (by kernel_rfl)
theorem b52:(match Tryz.f52.body with | some c=>BF c c52 | none=>none)=some c52:=by kernel_rfl
theorem p52:(match Tryz.f52.body with | some c=>AU [0] c | none=>false)=true:=by kernel_rfl
theorem AgX:Ar Tryz.prog [0] 52 ⟨28,c52,[.tmp 4]⟩:=Ar.by Tryz.func52 b52 p52 Tryz.ntmps52 (by rw[Tryz.results52]) (by kernel_rfl)
theorem b55:(match Tryz.f55.body with | some c=>BF c c55 | none=>none)=some c55:=by kernel_rfl
theorem p55:(match Tryz.f55.body with | some c=>AU [0] c | none=>false)=true:=by kernel_rfl
theorem oZ:Ar Tryz.prog [0] 55 ⟨110,c55,[.tmp 2,.tmp 3]⟩:=Ar.by Tryz.func55 b55 p55 Tryz.ntmps55 (by rw[Tryz.results55]) (by kernel_rfl)
theorem b56:(match Tryz.f56.body with | some c=>BF c c56 | none=>none)=some c56:=by kernel_rfl
theorem p56:(match Tryz.f56.body with | some c=>AU [0] c | none=>false)=true:=by kernel_rfl
theorem pE:Ar Tryz.prog [0] 56 ⟨27,c56,[.tmp 4]⟩:=Ar.by Tryz.func56 b56 p56 Tryz.ntmps56 (by rw[Tryz.results56]) (by kernel_rfl)
theorem b57:(match Tryz.f57.body with | some c=>BF c c57 | none=>none)=some c57:=by kernel_rfl
theorem p57:(match Tryz.f57.body with | some c=>AU [0] c | none=>false)=true:=by kernel_rfl
theorem pF:Ar Tryz.prog [0] 57 ⟨16,c57,[.tmp 4]⟩:=Ar.by Tryz.func57 b57 p57 Tryz.ntmps57 (by rw[Tryz.results57]) (by kernel_rfl)
theorem b58:(match Tryz.f58.body with | some c=>BF c c58 | none=>none)=some c58:=by kernel_rfl
theorem p58:(match Tryz.f58.body with | some c=>AU [0] c | none=>false)=true:=by kernel_rfl
theorem pG:Ar Tryz.prog [0] 58 ⟨44,c58,[.tmp 4]⟩:=Ar.by Tryz.func58 b58 p58 Tryz.ntmps58 (by rw[Tryz.results58]) (by kernel_rfl)
theorem b59:(match Tryz.f59.body with | some c=>BF c c59 | none=>none)=some c59:=by kernel_rfl
theorem p59:(match Tryz.f59.body with | some c=>AU [0] c | none=>false)=true:=by kernel_rfl
theorem pI:Ar Tryz.prog [0] 59 ⟨15,c59,[.tmp 6]⟩:=Ar.by Tryz.func59 b59 p59 Tryz.ntmps59 (by rw[Tryz.results59]) (by kernel_rfl)
theorem b60:(match Tryz.f60.body with | some c=>BF c c60 | none=>none)=some c60:=by kernel_rfl
theorem p60:(match Tryz.f60.body with | some c=>AU [0] c | none=>false)=true:=by kernel_rfl
theorem pJ:Ar Tryz.prog [0] 60 ⟨15,c60,[.tmp 4]⟩:=Ar.by Tryz.func60 b60 p60 Tryz.ntmps60 (by rw[Tryz.results60]) (by kernel_rfl)
theorem b61:(match Tryz.f61.body with | some c=>BF c c61 | none=>none)=some c61:=by kernel_rfl
theorem p61:(match Tryz.f61.body with | some c=>AU [0] c | none=>false)=true:=by kernel_rfl
theorem pK:Ar Tryz.prog [0] 61 ⟨50,c61,[.cell 4 84]⟩:=Ar.by Tryz.func61 b61 p61 Tryz.ntmps61 (by rw[Tryz.results61]) (by kernel_rfl)
theorem b62:(match Tryz.f62.body with | some c=>BF c c62 | none=>none)=some c62:=by kernel_rfl
theorem p62:(match Tryz.f62.body with | some c=>AU [0] c | none=>false)=true:=by kernel_rfl
theorem pM:Ar Tryz.prog [0] 62 ⟨15,c62,[.tmp 6]⟩:=Ar.by Tryz.func62 b62 p62 Tryz.ntmps62 (by rw[Tryz.results62]) (by kernel_rfl)
theorem b63:(match Tryz.f63.body with | some c=>BF c c63 | none=>none)=some c63:=by kernel_rfl
theorem p63:(match Tryz.f63.body with | some c=>AU [0] c | none=>false)=true:=by kernel_rfl
theorem pO:Ar Tryz.prog [0] 63 ⟨22,c63,[.tmp 4]⟩:=Ar.by Tryz.func63 b63 p63 Tryz.ntmps63 (by rw[Tryz.results63]) (by kernel_rfl)
theorem b64:(match Tryz.f64.body with | some c=>BF c c64 | none=>none)=some c64:=by kernel_rfl
theorem p64:(match Tryz.f64.body with | some c=>AU [0] c | none=>false)=true:=by kernel_rfl
theorem pQ:Ar Tryz.prog [0] 64 ⟨49,c64,[.tmp 4]⟩:=Ar.by Tryz.func64 b64 p64 Tryz.ntmps64 (by rw[Tryz.results64]) (by kernel_rfl)
theorem b65:(match Tryz.f65.body with | some c=>BF c c65 | none=>none)=some c65:=by kernel_rfl
theorem p65:(match Tryz.f65.body with | some c=>AU [0] c | none=>false)=true:=by kernel_rfl
theorem AgY:Ar Tryz.prog [0] 65 ⟨88,c65,[]⟩:=Ar.by Tryz.func65 b65 p65 Tryz.ntmps65 (by rw[Tryz.results65]) (by kernel_rfl)
theorem b66:(match Tryz.f66.body with | some c=>BF c c66 | none=>none)=some c66:=by kernel_rfl
theorem p66:(match Tryz.f66.body with | some c=>AU [0] c | none=>false)=true:=by kernel_rfl
theorem AgZ:Ar Tryz.prog [0] 66 ⟨9,c66,[.tmp 4]⟩:=Ar.by Tryz.func66 b66 p66 Tryz.ntmps66 (by rw[Tryz.results66]) (by kernel_rfl)
theorem b67:(match Tryz.f67.body with | some c=>BF c c67 | none=>none)=some c67:=by kernel_rfl
theorem p67:(match Tryz.f67.body with | some c=>AU [0] c | none=>false)=true:=by kernel_rfl
theorem Ag0:Ar Tryz.prog [0] 67 ⟨9,c67,[.tmp 3]⟩:=Ar.by Tryz.func67 b67 p67 Tryz.ntmps67 (by rw[Tryz.results67]) (by kernel_rfl)
theorem b68:(match Tryz.f68.body with | some c=>BF c c68 | none=>none)=some c68:=by kernel_rfl
theorem p68:(match Tryz.f68.body with | some c=>AU [0] c | none=>false)=true:=by kernel_rfl
theorem Ag1:Ar Tryz.prog [0] 68 ⟨9,c68,[.tmp 2]⟩:=Ar.by Tryz.func68 b68 p68 Tryz.ntmps68 (by rw[Tryz.results68]) (by kernel_rfl)
theorem b69:(match Tryz.f69.body with | some c=>BF c c69 | none=>none)=some c69:=by kernel_rfl
theorem p69:(match Tryz.f69.body with | some c=>AU [0] c | none=>false)=true:=by kernel_rfl
theorem Ag2:Ar Tryz.prog [0] 69 ⟨4,c69,[.tmp 2]⟩:=Ar.by Tryz.func69 b69 p69 Tryz.ntmps69 (by rw[Tryz.results69]) (by kernel_rfl)
theorem b70:(match Tryz.f70.body with | some c=>BF c c70 | none=>none)=some c70:=by kernel_rfl
theorem p70:(match Tryz.f70.body with | some c=>AU [0] c | none=>false)=true:=by kernel_rfl
theorem Ag3:Ar Tryz.prog [0] 70 ⟨36,c70,[.tmp 4]⟩:=Ar.by Tryz.func70 b70 p70 Tryz.ntmps70 (by rw[Tryz.results70]) (by kernel_rfl)
end Go.Proofs.YtokbaaeimejjlaaGreatDoor.BkU
set_option maxRecDepth 100000
namespace Go.Proofs.YtokbaaeimejjlaaGreatDoor.BkU
open Go Go.Sp Go.BkU
theorem b71:(match Tryz.f71.body with | some c=>BF c c71 | none=>none)=some c71:=by kernel_rfl
theorem p71:(match Tryz.f71.body with | some c=>AU [0] c | none=>false)=true:=by kernel_rfl
theorem Ag4:Ar Tryz.prog [0] 71 ⟨9,c71,[.tmp 2]⟩:=Ar.by Tryz.func71 b71 p71 Tryz.ntmps71 (by rw[Tryz.results71]) (by kernel_rfl)
theorem b72:(match Tryz.f72.body with | some c=>BF c c72 | none=>none)=some c72:=by kernel_rfl
theorem p72:(match Tryz.f72.body with | some c=>AU [0] c | none=>false)=true:=by kernel_rfl
theorem Ag5:Ar Tryz.prog [0] 72 ⟨15,c72,[.tmp 2]⟩:=Ar.by Tryz.func72 b72 p72 Tryz.ntmps72 (by rw[Tryz.results72]) (by kernel_rfl)
theorem mH:(match Tryz.f75.body with | some c=>BF c c75 | none=>none)=some c75:=by kernel_rfl
theorem p75:(match Tryz.f75.body with | some c=>AU [0] c | none=>false)=true:=by kernel_rfl
theorem pR:Ar Tryz.prog [0] 75 ⟨18,c75,[.cell 2 99]⟩:=Ar.by Tryz.func75 mH p75 Tryz.ntmps75 (by rw[Tryz.results75]) (by kernel_rfl)
theorem b76:(match Tryz.f76.body with | some c=>BF c c76 | none=>none)=some c76:=by kernel_rfl
theorem p76:(match Tryz.f76.body with | some c=>AU [0] c | none=>false)=true:=by kernel_rfl
theorem pU:Ar Tryz.prog [0] 76 ⟨22,c76,[.cell 4 99]⟩:=Ar.by Tryz.func76 b76 p76 Tryz.ntmps76 (by rw[Tryz.results76]) (by kernel_rfl)
theorem b77:(match Tryz.f77.body with | some c=>BF c c77 | none=>none)=some c77:=by kernel_rfl
theorem p77:(match Tryz.f77.body with | some c=>AU [0] c | none=>false)=true:=by kernel_rfl
theorem pV:Ar Tryz.prog [0] 77 ⟨22,c77,[.tmp 2]⟩:=Ar.by Tryz.func77 b77 p77 Tryz.ntmps77 (by rw[Tryz.results77]) (by kernel_rfl)
theorem b79:(match Tryz.f79.body with | some c=>BF c c79 | none=>none)=some c79:=by kernel_rfl
theorem p79:(match Tryz.f79.body with | some c=>AU [0] c | none=>false)=true:=by kernel_rfl
theorem Ag6:Ar Tryz.prog [0] 79 ⟨8,c79,[.tmp 2]⟩:=Ar.by Tryz.func79 b79 p79 Tryz.ntmps79 (by rw[Tryz.results79]) (by kernel_rfl)
theorem b80:(match Tryz.f80.body with | some c=>BF c c80 | none=>none)=some c80:=by kernel_rfl
theorem p80:(match Tryz.f80.body with | some c=>AU [0] c | none=>false)=true:=by kernel_rfl
theorem pW:Ar Tryz.prog [0] 80 ⟨34,c80,[.tmp 4]⟩:=Ar.by Tryz.func80 b80 p80 Tryz.ntmps80 (by rw[Tryz.results80]) (by kernel_rfl)
theorem b81:(match Tryz.f81.body with | some c=>BF c c81 | none=>none)=some c81:=by kernel_rfl
theorem p81:(match Tryz.f81.body with | some c=>AU [0] c | none=>false)=true:=by kernel_rfl
theorem pX:Ar Tryz.prog [0] 81 ⟨32,c81,[.tmp 6]⟩:=Ar.by Tryz.func81 b81 p81 Tryz.ntmps81 (by rw[Tryz.results81]) (by kernel_rfl)
theorem b82:(match Tryz.f82.body with | some c=>BF c c82 | none=>none)=some c82:=by kernel_rfl
theorem p82:(match Tryz.f82.body with | some c=>AU [0] c | none=>false)=true:=by kernel_rfl
theorem Ag7:Ar Tryz.prog [0] 82 ⟨14,c82,[]⟩:=Ar.by Tryz.func82 b82 p82 Tryz.ntmps82 (by rw[Tryz.results82]) (by kernel_rfl)
theorem b83:(match Tryz.f83.body with | some c=>BF c c83 | none=>none)=some c83:=by kernel_rfl
theorem p83:(match Tryz.f83.body with | some c=>AU [0] c | none=>false)=true:=by kernel_rfl
theorem Ag8:Ar Tryz.prog [0] 83 ⟨66,c83,[.tmp 4]⟩:=Ar.by Tryz.func83 b83 p83 Tryz.ntmps83 (by rw[Tryz.results83]) (by kernel_rfl)
theorem b84:(match Tryz.f84.body with | some c=>BF c c84 | none=>none)=some c84:=by kernel_rfl
theorem p84:(match Tryz.f84.body with | some c=>AU [0] c | none=>false)=true:=by kernel_rfl
theorem pY:Ar Tryz.prog [0] 84 ⟨47,c84,[.tmp 4]⟩:=Ar.by Tryz.func84 b84 p84 Tryz.ntmps84 (by rw[Tryz.results84]) (by kernel_rfl)
theorem b85:(match Tryz.f85.body with | some c=>BF c c85 | none=>none)=some c85:=by kernel_rfl
theorem p85:(match Tryz.f85.body with | some c=>AU [0] c | none=>false)=true:=by kernel_rfl
theorem qB:Ar Tryz.prog [0] 85 ⟨70,c85,[.tmp 9]⟩:=Ar.by Tryz.func85 b85 p85 Tryz.ntmps85 (by rw[Tryz.results85]) (by kernel_rfl)
theorem b86:(match Tryz.f86.body with | some c=>BF c c86 | none=>none)=some c86:=by kernel_rfl
theorem p86:(match Tryz.f86.body with | some c=>AU [0] c | none=>false)=true:=by kernel_rfl
theorem Ag9:Ar Tryz.prog [0] 86 ⟨19,c86,[.tmp 4]⟩:=Ar.by Tryz.func86 b86 p86 Tryz.ntmps86 (by rw[Tryz.results86]) (by kernel_rfl)
theorem b87:(match Tryz.f87.body with | some c=>BF c c87 | none=>none)=some c87:=by kernel_rfl
theorem p87:(match Tryz.f87.body with | some c=>AU [0] c | none=>false)=true:=by kernel_rfl
theorem Aha:Ar Tryz.prog [0] 87 ⟨5,c87,[.tmp 2]⟩:=Ar.by Tryz.func87 b87 p87 Tryz.ntmps87 (by rw[Tryz.results87]) (by kernel_rfl)
theorem b88:(match Tryz.f88.body with | some c=>BF c c88 | none=>none)=some c88:=by kernel_rfl
theorem p88:(match Tryz.f88.body with | some c=>AU [0] c | none=>false)=true:=by kernel_rfl
theorem Ahb:Ar Tryz.prog [0] 88 ⟨11,c88,[]⟩:=Ar.by Tryz.func88 b88 p88 Tryz.ntmps88 (by rw[Tryz.results88]) (by kernel_rfl)
theorem b89:(match Tryz.f89.body with | some c=>BF c c89 | none=>none)=some c89:=by kernel_rfl
theorem p89:(match Tryz.f89.body with | some c=>AU [0] c | none=>false)=true:=by kernel_rfl
theorem Ahc:Ar Tryz.prog [0] 89 ⟨16,c89,[]⟩:=Ar.by Tryz.func89 b89 p89 Tryz.ntmps89 (by rw[Tryz.results89]) (by kernel_rfl)
theorem b90:(match Tryz.f90.body with | some c=>BF c c90 | none=>none)=some c90:=by kernel_rfl
theorem p90:(match Tryz.f90.body with | some c=>AU [0] c | none=>false)=true:=by kernel_rfl
theorem Ahd:Ar Tryz.prog [0] 90 ⟨20,c90,[.tmp 4]⟩:=Ar.by Tryz.func90 b90 p90 Tryz.ntmps90 (by rw[Tryz.results90]) (by kernel_rfl)
theorem b91:(match Tryz.f91.body with | some c=>BF c c91 | none=>none)=some c91:=by kernel_rfl
theorem p91:(match Tryz.f91.body with | some c=>AU [0] c | none=>false)=true:=by kernel_rfl
theorem qC:Ar Tryz.prog [0] 91 ⟨25,c91,[.tmp 2]⟩:=Ar.by Tryz.func91 b91 p91 Tryz.ntmps91 (by rw[Tryz.results91]) (by kernel_rfl)
theorem b92:(match Tryz.f92.body with | some c=>BF c c92 | none=>none)=some c92:=by kernel_rfl
theorem p92:(match Tryz.f92.body with | some c=>AU [0] c | none=>false)=true:=by kernel_rfl
theorem qR:Ar Tryz.prog [0] 92 ⟨25,c92,[.tmp 2]⟩:=Ar.by Tryz.func92 b92 p92 Tryz.ntmps92 (by rw[Tryz.results92]) (by kernel_rfl)
theorem b93:(match Tryz.f93.body with | some c=>BF c c93 | none=>none)=some c93:=by kernel_rfl
theorem p93:(match Tryz.f93.body with | some c=>AU [0] c | none=>false)=true:=by kernel_rfl
theorem qU:Ar Tryz.prog [0] 93 ⟨67,c93,[.tmp 10,.tmp 11]⟩:=Ar.by Tryz.func93 b93 p93 Tryz.ntmps93 (by rw[Tryz.results93]) (by kernel_rfl)
theorem b94:(match Tryz.f94.body with | some c=>BF c c94 | none=>none)=some c94:=by kernel_rfl
theorem p94:(match Tryz.f94.body with | some c=>AU [0] c | none=>false)=true:=by kernel_rfl
theorem Ahe:Ar Tryz.prog [0] 94 ⟨148,c94,[]⟩:=Ar.by Tryz.func94 b94 p94 Tryz.ntmps94 (by rw[Tryz.results94]) (by kernel_rfl)
theorem b95:(match Tryz.f95.body with | some c=>BF c c95 | none=>none)=some c95:=by kernel_rfl
theorem p95:(match Tryz.f95.body with | some c=>AU [0] c | none=>false)=true:=by kernel_rfl
theorem Ahf:Ar Tryz.prog [0] 95 ⟨8,c95,[.tmp 2]⟩:=Ar.by Tryz.func95 b95 p95 Tryz.ntmps95 (by rw[Tryz.results95]) (by kernel_rfl)
theorem b96:(match Tryz.f96.body with | some c=>BF c c96 | none=>none)=some c96:=by kernel_rfl
theorem p96:(match Tryz.f96.body with | some c=>AU [0] c | none=>false)=true:=by kernel_rfl
theorem Ahg:Ar Tryz.prog [0] 96 ⟨28,c96,[]⟩:=Ar.by Tryz.func96 b96 p96 Tryz.ntmps96 (by rw[Tryz.results96]) (by kernel_rfl)
theorem b97:(match Tryz.f97.body with | some c=>BF c c97 | none=>none)=some c97:=by kernel_rfl
theorem p97:(match Tryz.f97.body with | some c=>AU [0] c | none=>false)=true:=by kernel_rfl
theorem Ahh:Ar Tryz.prog [0] 97 ⟨34,c97,[.tmp 4]⟩:=Ar.by Tryz.func97 b97 p97 Tryz.ntmps97 (by rw[Tryz.results97]) (by kernel_rfl)
theorem AjG:(match Tryz.f100.body with | some c=>BF c lW | none=>none)=some lW:=by kernel_rfl
theorem AjH:(match Tryz.f100.body with | some c=>AU [0] c | none=>false)=true:=by kernel_rfl
theorem Aba:Ar Tryz.prog [0] 100 ⟨134,lW,[]⟩:=Ar.by Tryz.func100 AjG AjH Tryz.ntmps100 (by rw[Tryz.results100]) (by kernel_rfl)
end Go.Proofs.YtokbaaeimejjlaaGreatDoor.BkU
set_option maxRecDepth 100000
namespace Go.Proofs.YtokbaaeimejjlaaGreatDoor.BkU
open Go Go.Sp Go.BkU
theorem AjI:(match Tryz.f101.body with | some c=>BF c lX | none=>none)=some lX:=by kernel_rfl
theorem AjJ:(match Tryz.f101.body with | some c=>AU [0] c | none=>false)=true:=by kernel_rfl
theorem Abb:Ar Tryz.prog [0] 101 ⟨6,lX,[.tmp 2]⟩:=Ar.by Tryz.func101 AjI AjJ Tryz.ntmps101 (by rw[Tryz.results101]) (by kernel_rfl)
theorem AjK:(match Tryz.f102.body with | some c=>BF c lY | none=>none)=some lY:=by kernel_rfl
theorem AjL:(match Tryz.f102.body with | some c=>AU [0] c | none=>false)=true:=by kernel_rfl
theorem Abc:Ar Tryz.prog [0] 102 ⟨53,lY,[]⟩:=Ar.by Tryz.func102 AjK AjL Tryz.ntmps102 (by rw[Tryz.results102]) (by kernel_rfl)
theorem AjM:(match Tryz.f110.body with | some c=>BF c lZ | none=>none)=some lZ:=by kernel_rfl
theorem AjN:(match Tryz.f110.body with | some c=>AU [0] c | none=>false)=true:=by kernel_rfl
theorem Abd:Ar Tryz.prog [0] 110 ⟨19,lZ,[.tmp 2]⟩:=Ar.by Tryz.func110 AjM AjN Tryz.ntmps110 (by rw[Tryz.results110]) (by kernel_rfl)
theorem AjO:(match Tryz.f111.body with | some c=>BF c mD | none=>none)=some mD:=by kernel_rfl
theorem AjP:(match Tryz.f111.body with | some c=>AU [0] c | none=>false)=true:=by kernel_rfl
theorem Abe:Ar Tryz.prog [0] 111 ⟨25,mD,[.tmp 2]⟩:=Ar.by Tryz.func111 AjO AjP Tryz.ntmps111 (by rw[Tryz.results111]) (by kernel_rfl)
theorem AjQ:(match Tryz.f113.body with | some c=>BF c mE | none=>none)=some mE:=by kernel_rfl
theorem AjR:(match Tryz.f113.body with | some c=>AU [0] c | none=>false)=true:=by kernel_rfl
theorem Abf:Ar Tryz.prog [0] 113 ⟨49,mE,[]⟩:=Ar.by Tryz.func113 AjQ AjR Tryz.ntmps113 (by rw[Tryz.results113]) (by kernel_rfl)
theorem AjS:(match Tryz.f119.body with | some c=>BF c mF | none=>none)=some mF:=by kernel_rfl
theorem AjT:(match Tryz.f119.body with | some c=>AU [0] c | none=>false)=true:=by kernel_rfl
theorem Abg:Ar Tryz.prog [0] 119 ⟨17,mF,[.tmp 4]⟩:=Ar.by Tryz.func119 AjS AjT Tryz.ntmps119 (by rw[Tryz.results119]) (by kernel_rfl)
end Go.Proofs.YtokbaaeimejjlaaGreatDoor.BkU
set_option maxRecDepth 100000
namespace Go.Proofs.YtokbaaeimejjlaaGreatDoor.BkU
open Go Go.Sp Go.BkU
theorem AjU:Cu Tryz.prog 3 ti3:=Cu.by Tryz.underlying3 (inf:=Tryz.t3) (by kernel_rfl) (by kernel_rfl) (by kernel_rfl) (by kernel_rfl) (by kernel_rfl) (fun h=>by cases h)
theorem AjV:Cu Tryz.prog 4 ti4:=Cu.by Tryz.underlying4 (inf:=Tryz.t4) (by kernel_rfl) (by kernel_rfl) (by kernel_rfl) (by kernel_rfl) (by kernel_rfl) (fun h=>by cases h)
theorem AjW:Cu Tryz.prog 5 ti5:=Cu.by Tryz.underlying5 (inf:=Tryz.t5) (by kernel_rfl) (by kernel_rfl) (by kernel_rfl) (by kernel_rfl) (by kernel_rfl) (fun h=>by cases h)
theorem AjX:Cu Tryz.prog 9 ti9:=Cu.by Tryz.underlying9 (inf:=Tryz.t9) (by kernel_rfl) (by kernel_rfl) (by kernel_rfl) (by kernel_rfl) (by kernel_rfl) (fun h=>by cases h)
theorem Ahi:Cu Tryz.prog 22 Ae8:=Cu.by Tryz.underlying22 (inf:=Tryz.t22) (by kernel_rfl) (by kernel_rfl) (by kernel_rfl) (by kernel_rfl) (by kernel_rfl) (fun h=>by cases h)
theorem Ahj:Cu Tryz.prog 24 Ae9:=Cu.by Tryz.underlying24 (inf:=Tryz.t24) (by kernel_rfl) (by kernel_rfl) (by kernel_rfl) (by kernel_rfl) (by kernel_rfl) (fun h=>by cases h)
theorem Ahk:Cu Tryz.prog 27 Afa:=Cu.by Tryz.underlying27 (inf:=Tryz.t27) (by kernel_rfl) (by kernel_rfl) (by kernel_rfl) (by kernel_rfl) (by kernel_rfl) (fun h=>by cases h)
theorem Ahl:Cu Tryz.prog 28 Afb:=Cu.by Tryz.underlying28 (inf:=Tryz.t28) (by kernel_rfl) (by kernel_rfl) (by kernel_rfl) (by kernel_rfl) (by kernel_rfl) (fun h=>by cases h)
theorem Ahm:Cu Tryz.prog 37 Afc:=Cu.by Tryz.underlying37 (inf:=Tryz.t37) (by kernel_rfl) (by kernel_rfl) (by kernel_rfl) (by kernel_rfl) (by kernel_rfl) (fun h=>by cases h)
theorem Ahn:Cu Tryz.prog 39 Afd:=Cu.by Tryz.underlying39 (inf:=Tryz.t39) (by kernel_rfl) (by kernel_rfl) (by kernel_rfl) (by kernel_rfl) (by kernel_rfl) (fun h=>by cases h)
theorem Aho:Cu Tryz.prog 64 Afe:=Cu.by Tryz.underlying64 (inf:=Tryz.t64) (by kernel_rfl) (by kernel_rfl) (by kernel_rfl) (by kernel_rfl) (by kernel_rfl) (fun h=>by cases h)
theorem Ahp:Cu Tryz.prog 69 Aff:=Cu.by Tryz.underlying69 (inf:=Tryz.t69) (by kernel_rfl) (by kernel_rfl) (by kernel_rfl) (by kernel_rfl) (by kernel_rfl) (fun h=>by cases h)
theorem Ahq:Cu Tryz.prog 74 Afg:=Cu.by Tryz.underlying74 (inf:=Tryz.t74) (by kernel_rfl) (by kernel_rfl) (by kernel_rfl) (by kernel_rfl) (by kernel_rfl) (fun h=>by cases h)
theorem Ahr:Cu Tryz.prog 84 Afh:=Cu.by Tryz.underlying84 (inf:=Tryz.t84) (by kernel_rfl) (by kernel_rfl) (by kernel_rfl) (by kernel_rfl) (by kernel_rfl) (fun _=>⟨_,rfl,Fl.ok (d:=8) (⟨by kernel_rfl,.inr (.inr (.inr (.inl ⟨17,3,[(.int .i64 0)],Tryz.underlying84,⟨by kernel_rfl,.inl ⟨⟨_,Tryz.underlying3⟩,_,_,rfl⟩⟩,by kernel_rfl⟩)))⟩) (by decide) ⟨_,Tryz.underlying84,rfl⟩ (by kernel_rfl)⟩)
theorem Ahs:Cu Tryz.prog 86 Afi:=Cu.by Tryz.underlying86 (inf:=Tryz.t86) (by kernel_rfl) (by kernel_rfl) (by kernel_rfl) (by kernel_rfl) (by kernel_rfl) (fun h=>by cases h)
theorem Aht:Cu Tryz.prog 87 Afj:=Cu.by Tryz.underlying87 (inf:=Tryz.t87) (by kernel_rfl) (by kernel_rfl) (by kernel_rfl) (by kernel_rfl) (by kernel_rfl) (fun h=>by cases h)
theorem Ahu:Cu Tryz.prog 89 Afk:=Cu.by Tryz.underlying89 (inf:=Tryz.t89) (by kernel_rfl) (by kernel_rfl) (by kernel_rfl) (by kernel_rfl) (by kernel_rfl) (fun h=>by cases h)
theorem Ahv:Cu Tryz.prog 92 Afl:=Cu.by Tryz.underlying92 (inf:=Tryz.t92) (by kernel_rfl) (by kernel_rfl) (by kernel_rfl) (by kernel_rfl) (by kernel_rfl) (fun h=>by cases h)
theorem Ahw:Cu Tryz.prog 99 Afm:=Cu.by Tryz.underlying99 (inf:=Tryz.t99) (by kernel_rfl) (by kernel_rfl) (by kernel_rfl) (by kernel_rfl) (by kernel_rfl) (fun _=>⟨_,rfl,Fl.ok (d:=8) (⟨by kernel_rfl,.inr (.inr (.inr (.inr ⟨_,Tryz.underlying99,by kernel_rfl,⟨by decide,rfl,[(.int .i64 0)],[(.bool false)],rfl,⟨by kernel_rfl,.inl ⟨⟨_,Tryz.underlying3⟩,_,_,rfl⟩⟩,⟨by decide,rfl,[(.bool false)],[],rfl,⟨by kernel_rfl,.inr (.inl ⟨Tryz.underlying4,_,rfl⟩)⟩,rfl⟩⟩⟩)))⟩) (by decide) ⟨_,Tryz.underlying99,rfl⟩ (by kernel_rfl)⟩)
theorem Abh:Cu Tryz.prog 109 nS:=Cu.by Tryz.underlying109 (inf:=Tryz.t109) (by kernel_rfl) (by kernel_rfl) (by kernel_rfl) (by kernel_rfl) (by kernel_rfl) (fun h=>by cases h)
theorem Abi:Cu Tryz.prog 110 nT:=Cu.by Tryz.underlying110 (inf:=Tryz.t110) (by kernel_rfl) (by kernel_rfl) (by kernel_rfl) (by kernel_rfl) (by kernel_rfl) (fun h=>by cases h)
theorem Abj:Cu Tryz.prog 112 nU:=Cu.by Tryz.underlying112 (inf:=Tryz.t112) (by kernel_rfl) (by kernel_rfl) (by kernel_rfl) (by kernel_rfl) (by kernel_rfl) (fun _=>⟨_,rfl,Fl.ok (d:=8) (⟨by kernel_rfl,.inr (.inr (.inr (.inl ⟨32,5,[(.int .u8 0)],Tryz.underlying112,⟨by kernel_rfl,.inl ⟨⟨_,Tryz.underlying5⟩,_,_,rfl⟩⟩,by kernel_rfl⟩)))⟩) (by decide) ⟨_,Tryz.underlying112,rfl⟩ (by kernel_rfl)⟩)
theorem Abk:Cu Tryz.prog 113 nV:=Cu.by Tryz.underlying113 (inf:=Tryz.t113) (by kernel_rfl) (by kernel_rfl) (by kernel_rfl) (by kernel_rfl) (by kernel_rfl) (fun h=>by cases h)
theorem Abl:Cu Tryz.prog 114 nW:=Cu.by Tryz.underlying114 (inf:=Tryz.t114) (by kernel_rfl) (by kernel_rfl) (by kernel_rfl) (by kernel_rfl) (by kernel_rfl) (fun h=>by cases h)
theorem Abm:Cu Tryz.prog 123 nX:=Cu.by Tryz.underlying123 (inf:=Tryz.t123) (by kernel_rfl) (by kernel_rfl) (by kernel_rfl) (by kernel_rfl) (by kernel_rfl) (fun h=>by cases h)
theorem Abn:Cu Tryz.prog 132 nY:=Cu.by Tryz.underlying132 (inf:=Tryz.t132) (by kernel_rfl) (by kernel_rfl) (by kernel_rfl) (by kernel_rfl) (by kernel_rfl) (fun h=>by cases h)
theorem DL:Jm Tryz.prog tt:=Jm.of_all (t:=Afn) ⟨trivial,⟨trivial,⟨AjU,⟨trivial,trivial,⟨trivial,⟨Ahn,trivial,trivial⟩,⟨trivial,⟨Aht,trivial,trivial⟩,trivial⟩⟩⟩,⟨trivial,⟨trivial,⟨trivial,trivial,⟨Ahw,trivial,trivial⟩⟩,trivial⟩,⟨Ahk,trivial,⟨trivial,trivial,⟨Abm,trivial,trivial⟩⟩⟩⟩⟩,⟨AjW,⟨AjX,⟨trivial,trivial,⟨trivial,trivial,⟨Abk,trivial,trivial⟩⟩⟩,⟨trivial,trivial,⟨trivial,⟨Ahu,trivial,trivial⟩,trivial⟩⟩⟩,⟨trivial,⟨trivial,⟨Ahm,⟨Ahp,trivial,trivial⟩,trivial⟩,trivial⟩,⟨trivial,⟨trivial,trivial,⟨Abh,trivial,trivial⟩⟩,trivial⟩⟩⟩⟩,⟨trivial,⟨AjV,⟨trivial,⟨trivial,⟨trivial,⟨Aho,trivial,trivial⟩,trivial⟩,⟨trivial,trivial,⟨Abj,trivial,trivial⟩⟩⟩,⟨Ahj,trivial,trivial⟩⟩,⟨trivial,⟨trivial,⟨trivial,⟨trivial,⟨Abn,trivial,trivial⟩,trivial⟩,trivial⟩,⟨trivial,⟨Ahr,trivial,trivial⟩,trivial⟩⟩,⟨Ahl,trivial,⟨trivial,⟨Ahv,trivial,trivial⟩,trivial⟩⟩⟩⟩,⟨trivial,⟨trivial,⟨trivial,trivial,⟨trivial,trivial,⟨Abl,trivial,trivial⟩⟩⟩,⟨trivial,⟨trivial,⟨Ahq,trivial,trivial⟩,trivial⟩,trivial⟩⟩,⟨trivial,⟨Ahi,trivial,⟨trivial,⟨Ahs,trivial,trivial⟩,trivial⟩⟩,⟨trivial,⟨trivial,trivial,⟨Abi,trivial,trivial⟩⟩,trivial⟩⟩⟩⟩⟩
theorem Ahx:Afo.All (Ar Tryz.prog [0]):=⟨trivial,⟨trivial,⟨trivial,⟨trivial,⟨AgK,⟨AgQ,⟨pO,trivial,trivial⟩,⟨Ahf,trivial,trivial⟩⟩,⟨oQ,⟨Ag6,trivial,trivial⟩,⟨Abe,trivial,trivial⟩⟩⟩,⟨oD,⟨AgS,⟨Ag4,trivial,trivial⟩,trivial⟩,⟨oZ,⟨Aha,trivial,trivial⟩,⟨Abg,trivial,trivial⟩⟩⟩⟩,⟨AgI,⟨trivial,⟨trivial,⟨Ag0,trivial,trivial⟩,trivial⟩,⟨AgW,⟨Ag8,trivial,trivial⟩,trivial⟩⟩,⟨oJ,⟨oN,⟨pR,trivial,trivial⟩,trivial⟩,⟨pI,⟨qC,trivial,trivial⟩,trivial⟩⟩⟩⟩,⟨AgG,⟨AgH,⟨AgL,⟨AgR,⟨AgY,trivial,trivial⟩,⟨Ahh,trivial,trivial⟩⟩,⟨oV,⟨pX,trivial,trivial⟩,⟨Abf,trivial,trivial⟩⟩⟩,⟨oG,⟨AgU,trivial,trivial⟩,⟨pF,⟨Ahc,trivial,trivial⟩,trivial⟩⟩⟩,⟨AgJ,⟨trivial,⟨trivial,⟨Ag2,trivial,trivial⟩,⟨Abb,trivial,trivial⟩⟩,⟨trivial,⟨qB,trivial,trivial⟩,trivial⟩⟩,⟨AgP,⟨oP,⟨pV,trivial,trivial⟩,trivial⟩,⟨pK,⟨qU,trivial,trivial⟩,trivial⟩⟩⟩⟩⟩,⟨trivial,⟨trivial,⟨trivial,⟨trivial,⟨trivial,⟨pQ,trivial,trivial⟩,⟨Ahg,trivial,trivial⟩⟩,⟨oU,⟨pW,trivial,trivial⟩,trivial⟩⟩,⟨oF,⟨AgT,⟨Ag5,trivial,trivial⟩,trivial⟩,⟨pE,⟨Ahb,trivial,trivial⟩,trivial⟩⟩⟩,⟨trivial,⟨AgN,⟨oM,⟨Ag1,trivial,trivial⟩,⟨Aba,trivial,trivial⟩⟩,⟨AgX,⟨pY,trivial,trivial⟩,trivial⟩⟩,⟨oK,⟨oO,⟨pU,trivial,trivial⟩,trivial⟩,⟨pJ,⟨qR,trivial,trivial⟩,trivial⟩⟩⟩⟩,⟨trivial,⟨nZ,⟨AgM,⟨oL,⟨AgZ,trivial,trivial⟩,trivial⟩,⟨oW,⟨Ag7,trivial,trivial⟩,trivial⟩⟩,⟨oH,⟨AgV,trivial,trivial⟩,⟨pG,⟨Ahd,trivial,trivial⟩,trivial⟩⟩⟩,⟨trivial,⟨AgO,⟨trivial,⟨Ag3,trivial,trivial⟩,⟨Abc,trivial,trivial⟩⟩,⟨trivial,⟨Ag9,trivial,trivial⟩,trivial⟩⟩,⟨trivial,⟨trivial,trivial,⟨Abd,trivial,trivial⟩⟩,⟨pM,⟨Ahe,trivial,trivial⟩,trivial⟩⟩⟩⟩⟩⟩
theorem Un (f:FuncId) (r:Xq) (h:DT f=some r):Ar Tryz.prog [0] f r:=Ahx.get h
end Go.Proofs.YtokbaaeimejjlaaGreatDoor.BkU
set_option maxRecDepth 100000
namespace Go.Proofs.YtokbaaeimejjlaaGreatDoor.BkU
open Go Go.Sp Go.BkUM Go.BkU
noncomputable section
theorem fk5:Ar Tryz.prog (List.range tabs.length) 5 ⟨90,Xa,[.tmp 6]⟩:=by
 have h:c5=Xa:=by kernel_rfl
 rw[←h];exact AgG
theorem Ahy:Ar Tryz.prog (List.range tabs.length) 23 ⟨29,QK,[.tmp 4,.tmp 5]⟩:=by
 have h:c23=QK:=by kernel_rfl
 rw[←h];exact oD
theorem Ahz:Ar Tryz.prog (List.range tabs.length) 24 ⟨28,QL,[.tmp 4,.tmp 5]⟩:=by
 have h:c24=QL:=by kernel_rfl
 rw[←h];exact oF
theorem AhA:Ar Tryz.prog (List.range tabs.length) 25 ⟨39,QM,[.tmp 2,.tmp 3]⟩:=by
 have h:c25=QM:=by kernel_rfl
 rw[←h];exact oG
theorem AhB:Ar Tryz.prog (List.range tabs.length) 26 ⟨37,QN,[.tmp 2,.tmp 3]⟩:=by
 have h:c26=QN:=by kernel_rfl
 rw[←h];exact oH
theorem AhC:Ar Tryz.prog (List.range tabs.length) 27 ⟨93,QO,[.tmp 4,.tmp 5]⟩:=by
 have h:c27=QO:=by kernel_rfl
 rw[←h];exact oJ
theorem AhD:Ar Tryz.prog (List.range tabs.length) 28 ⟨115,QP,[.tmp 4,.tmp 5]⟩:=by
 have h:c28=QP:=by kernel_rfl
 rw[←h];exact oK
theorem AhE:Ar Tryz.prog (List.range tabs.length) 34 ⟨37,QQ,[.tmp 4,.tmp 5]⟩:=by
 have h:c34=QQ:=by kernel_rfl
 rw[←h];exact oL
theorem AhF:Ar Tryz.prog (List.range tabs.length) 36 ⟨106,QR,[.tmp 2]⟩:=by
 have h:c36=QR:=by kernel_rfl
 rw[←h];exact oM
theorem AhG:Ar Tryz.prog (List.range tabs.length) 43 ⟨33,QS,[.tmp 4,.tmp 5]⟩:=by
 have h:c43=QS:=by kernel_rfl
 rw[←h];exact oN
theorem AhH:Ar Tryz.prog (List.range tabs.length) 44 ⟨19,RO,[.tmp 4]⟩:=by
 have h:c44=RO:=by kernel_rfl
 rw[←h];exact oO
theorem AhI:Ar Tryz.prog (List.range tabs.length) 45 ⟨35,RP,[.tmp 6]⟩:=by
 have h:c45=RP:=by kernel_rfl
 rw[←h];exact oP
theorem AhJ:Ar Tryz.prog (List.range tabs.length) 47 ⟨18,RQ,[.tmp 4]⟩:=by
 have h:c47=RQ:=by kernel_rfl
 rw[←h];exact oQ
theorem AhK:Ar Tryz.prog (List.range tabs.length) 49 ⟨26,RS,[.tmp 4]⟩:=by
 have h:c49=RS:=by kernel_rfl
 rw[←h];exact oV
theorem AhL:Ar Tryz.prog (List.range tabs.length) 50 ⟨21,RU,[.tmp 4]⟩:=by
 have h:c50=RU:=by kernel_rfl
 rw[←h];exact oW
theorem AhM:Ar Tryz.prog (List.range tabs.length) 55 ⟨110,RV,[.tmp 2,.tmp 3]⟩:=by
 have h:c55=RV:=by kernel_rfl
 rw[←h];exact oZ
theorem AhN:Ar Tryz.prog (List.range tabs.length) 56 ⟨27,RX,[.tmp 4]⟩:=by
 have h:c56=RX:=by kernel_rfl
 rw[←h];exact pE
theorem AhO:Ar Tryz.prog (List.range tabs.length) 57 ⟨16,RY,[.tmp 4]⟩:=by
 have h:c57=RY:=by kernel_rfl
 rw[←h];exact pF
theorem AhP:Ar Tryz.prog (List.range tabs.length) 58 ⟨44,RZ,[.tmp 4]⟩:=by
 have h:c58=RZ:=by kernel_rfl
 rw[←h];exact pG
theorem AhQ:Ar Tryz.prog (List.range tabs.length) 59 ⟨15,Xb,[.tmp 6]⟩:=by
 have h:c59=Xb:=by kernel_rfl
 rw[←h];exact pI
theorem AhR:Ar Tryz.prog (List.range tabs.length) 60 ⟨15,R4,[.tmp 4]⟩:=by
 have h:c60=R4:=by kernel_rfl
 rw[←h];exact pJ
theorem AhS:Ar Tryz.prog (List.range tabs.length) 61 ⟨50,R5,[.cell 4 84]⟩:=by
 have h:c61=R5:=by kernel_rfl
 rw[←h];exact pK
theorem AhT:Ar Tryz.prog (List.range tabs.length) 62 ⟨15,Xc,[.tmp 6]⟩:=by
 have h:c62=Xc:=by kernel_rfl
 rw[←h];exact pM
theorem AhU:Ar Tryz.prog (List.range tabs.length) 63 ⟨22,R6,[.tmp 4]⟩:=by
 have h:c63=R6:=by kernel_rfl
 rw[←h];exact pO
theorem AhV:Ar Tryz.prog (List.range tabs.length) 75 ⟨18,R7,[.cell 2 99]⟩:=by
 have h:c75=R7:=by kernel_rfl
 rw[←h];exact pR
theorem AhW:Ar Tryz.prog (List.range tabs.length) 76 ⟨22,Xd,[.cell 4 99]⟩:=by
 have h:c76=Xd:=by kernel_rfl
 rw[←h];exact pU
theorem AhX:Ar Tryz.prog (List.range tabs.length) 77 ⟨22,R8,[.tmp 2]⟩:=by
 have h:c77=R8:=by kernel_rfl
 rw[←h];exact pV
theorem AhY:Ar Tryz.prog (List.range tabs.length) 80 ⟨34,R9,[.tmp 4]⟩:=by
 have h:c80=R9:=by kernel_rfl
 rw[←h];exact pW
theorem AhZ:Ar Tryz.prog (List.range tabs.length) 81 ⟨32,Xe,[.tmp 6]⟩:=by
 have h:c81=Xe:=by kernel_rfl
 rw[←h];exact pX
theorem Ah0:Ar Tryz.prog (List.range tabs.length) 91 ⟨25,Sa,[.tmp 2]⟩:=by
 have h:c91=Sa:=by kernel_rfl
 rw[←h];exact qC
theorem Ah1:Ar Tryz.prog (List.range tabs.length) 92 ⟨25,Sb,[.tmp 2]⟩:=by
 have h:c92=Sb:=by kernel_rfl
 rw[←h];exact qR
theorem Ah2:Ar Tryz.prog (List.range tabs.length) 93 ⟨67,Sc,[.tmp 10,.tmp 11]⟩:=by
 have h:c93=Sc:=by kernel_rfl
 rw[←h];exact qU
theorem fk9:Ar Tryz.prog (List.range tabs.length) 9 ⟨21,dS,[.tmp 6]⟩:=by
 have h:c9=dS:=by kernel_rfl
 rw[←h];exact AgH
theorem Ah3:Ar Tryz.prog (List.range tabs.length) 64 ⟨49,Nh,[.tmp 4]⟩:=by
 have h:c64=Nh:=by kernel_rfl
 rw[←h];exact pQ
theorem mI:Ar Tryz.prog (List.range tabs.length) 48 ⟨26,Kh,[.tmp 6]⟩:=by
 have h:c48=Kh:=by kernel_rfl
 rw[←h];exact oU
theorem Ah4:Ar Tryz.prog (List.range tabs.length) 85 ⟨70,Ni,[.tmp 9]⟩:=by
 have h:c85=Ni:=by kernel_rfl
 rw[←h];exact qB
theorem Gv:∀ t∈tabs,t≠[]:=by intro t ht;simp[tabs] at ht;subst ht;intro h;cases h
theorem Gw:∀ t∈tabs,∀ x∈t,BR x=true:=by intro t ht x hx;simp[tabs] at ht;subst ht;simp[VV] at hx;rcases hx with rfl | rfl | rfl | rfl | rfl | rfl | rfl | rfl | rfl | rfl | rfl | rfl | rfl | rfl | rfl | rfl | rfl | rfl | rfl | rfl | rfl | rfl | rfl | rfl | rfl | rfl | rfl | rfl | rfl | rfl | rfl | rfl <;> rfl
theorem Abo (hm:Tryz.prog.follows .mixedOrders=true) {pu:Af} (hg98:BA Tryz.prog tabs 98 (pu 98)) (hg43:BA Tryz.prog tabs 43 (pu 43)) (h0:Cn Tryz.prog tabs 3 0 9 (pu 10090)) (h1:Cn Tryz.prog tabs 2 1 64 (pu 10640)) (h2:Cn Tryz.prog tabs 3 1 48 (pu 10480)) (h3:Cn Tryz.prog tabs 3 0 48 (pu 10481)) (h4:Cn Tryz.prog tabs 6 3 85 (pu 10850)):CO Tryz.prog (List.range tabs.length) (inl pu):=fun g args H v H' h=>by
 replace h:bb (Nat.beq g 98) (Hr tabs 1 (pu 98) args H) (bb (Nat.beq g 43) (Hr tabs 1 (pu 43) args H) (bb (Nat.beq g 9) (Gn tabs [[none,none,none,some 1],[some 1],[some 1]] 3 [] [] (pu 10090) args H) (bb (Nat.beq g 64) (Gn tabs [[some 1],[none]] 2 [.tmp 1 false] [false] (pu 10640) args H) (bb (Nat.beq g 48) (bb (an (oo (AL args 1) false (fun v=>isS (IA v))) true) (Gn tabs [[none,none,none,some 1],[none],[none]] 3 [.tmp 1 false] [false] (pu 10480) args H) (Gn tabs [[none,none,none,some 1],[some 1],[none]] 3 [] [] (pu 10481) args H)) (bb (Nat.beq g 85) (Gn tabs [[none],[none],[none],[none],[none],[none]] 6 [.tmp 3 false,.tmp 4 false,.tmp 5 true] [false,false,true] (pu 10850) args H) (none))))))=some (v,H'):=h
 have hq:=Ag h;clear h;rcases hq with⟨e,h⟩ | ⟨_,h⟩
 ·obtain rfl := Nat.eq_of_beq_eq_true e
  exact Og Gv Gw hg98 h
 have hq:=Ag h;clear h;rcases hq with⟨e,h⟩ | ⟨_,h⟩
 ·obtain rfl := Nat.eq_of_beq_eq_true e
  exact Og Gv Gw hg43 h
 have hq:=Ag h;clear h;rcases hq with⟨e,h⟩ | ⟨_,h⟩
 ·obtain rfl := Nat.eq_of_beq_eq_true e
  exact KU (rs:=[]) Gv Gw h0 h
 have hq:=Ag h;clear h;rcases hq with⟨e,h⟩ | ⟨_,h⟩
 ·obtain rfl := Nat.eq_of_beq_eq_true e
  exact KU (rs:=[.tmp 1 false]) Gv Gw h1 h
 have hq:=Ag h;clear h;rcases hq with⟨e,h⟩ | ⟨_,h⟩
 ·obtain rfl := Nat.eq_of_beq_eq_true e
  have hq:=Aa0 h;clear h;rcases hq with h | h
  ·exact KU (rs:=[.tmp 1 false]) Gv Gw h2 h
  exact KU (rs:=[]) Gv Gw h3 h
 have hq:=Ag h;clear h;rcases hq with⟨e,h⟩ | ⟨_,h⟩
 ·obtain rfl := Nat.eq_of_beq_eq_true e
  exact KU (rs:=[.tmp 3 false,.tmp 4 false,.tmp 5 true]) Gv Gw h4 h
 cases h
theorem Yb (hm:Tryz.prog.follows .mixedOrders=true) (hw:BA Tryz.prog tabs 10 TN∧BA Tryz.prog tabs 84 TV∧BA Tryz.prog tabs 98 TW) {pu:Af} (hall:(∀ g,isP g=true→BA Tryz.prog tabs g (pu g))∧BA Tryz.prog tabs 98 (pu 98)∧BA Tryz.prog tabs 43 (pu 43)∧Cn Tryz.prog tabs 3 0 9 (pu 10090)∧Cn Tryz.prog tabs 2 1 64 (pu 10640)∧Cn Tryz.prog tabs 3 1 48 (pu 10480)∧Cn Tryz.prog tabs 3 0 48 (pu 10481)∧Cn Tryz.prog tabs 6 3 85 (pu 10850)):(∀ g,isP g=true→BA Tryz.prog tabs g (LK pu g))∧BA Tryz.prog tabs 98 (LK pu 98)∧BA Tryz.prog tabs 43 (LK pu 43)∧Cn Tryz.prog tabs 3 0 9 (LK pu 10090)∧Cn Tryz.prog tabs 2 1 64 (LK pu 10640)∧Cn Tryz.prog tabs 3 1 48 (LK pu 10480)∧Cn Tryz.prog tabs 3 0 48 (LK pu 10481)∧Cn Tryz.prog tabs 6 3 85 (LK pu 10850):=by
 obtain⟨hpu,hg98,hg43,h0,h4,h5,h6,h7⟩:=hall
 have hcall:=TG (P:=Tryz.prog) (tabs:=tabs) Gv Gw (Abo hm hg98 hg43 h0 h4 h5 h6 h7) hpu
 refine⟨fun g hg=>?_,?_,?_,?_,?_,?_,?_,?_⟩
 ·have hg : g ∈ TY := CS.1 hg
  simp only[TY,List.mem_cons,List.not_mem_nil,or_false] at hg
  rcases hg with rfl | rfl | rfl | rfl | rfl | rfl | rfl | rfl | rfl | rfl | rfl | rfl | rfl | rfl | rfl | rfl | rfl | rfl | rfl | rfl | rfl | rfl | rfl | rfl | rfl | rfl | rfl | rfl | rfl | rfl | rfl | rfl | rfl
  ·exact Aw (tabs:=tabs) (f:=m5 pu L) DL hm hcall fk5 fun args v h hc=>r5 pu L rfl h hc
  ·exact hw.1
  ·exact Aw (tabs:=tabs) (f:=m23 pu L) DL hm hcall Ahy fun args v h hc=>r23 pu L rfl h hc
  ·exact Aw (tabs:=tabs) (f:=m24 pu L) DL hm hcall Ahz fun args v h hc=>r24 pu L rfl h hc
  ·exact Aw (tabs:=tabs) (f:=m25 pu L) DL hm hcall AhA fun args v h hc=>r25 pu L rfl h hc
  ·exact Aw (tabs:=tabs) (f:=m26 pu L) DL hm hcall AhB fun args v h hc=>r26 pu L rfl h hc
  ·exact Aw (tabs:=tabs) (f:=m27 pu L) DL hm hcall AhC fun args v h hc=>r27 pu L rfl h hc
  ·exact Aw (tabs:=tabs) (f:=m28 pu L) DL hm hcall AhD fun args v h hc=>r28 pu L rfl h hc
  ·exact Aw (tabs:=tabs) (f:=m34 pu L) DL hm hcall AhE fun args v h hc=>r34 pu L rfl h hc
  ·exact Aw (tabs:=tabs) (f:=m36 pu L) DL hm hcall AhF fun args v h hc=>r36 pu L rfl h hc
  ·exact Aw (tabs:=tabs) (f:=m44 pu L) DL hm hcall AhH fun args v h hc=>r44 pu L rfl h hc
  ·exact Aw (tabs:=tabs) (f:=m45 pu L) DL hm hcall AhI fun args v h hc=>r45 pu L rfl h hc
  ·exact Aw (tabs:=tabs) (f:=m47 pu L) DL hm hcall AhJ fun args v h hc=>r47 pu L rfl h hc
  ·exact Aw (tabs:=tabs) (f:=m49 pu L) DL hm hcall AhK fun args v h hc=>r49 pu L rfl h hc
  ·exact Aw (tabs:=tabs) (f:=m50 pu L) DL hm hcall AhL fun args v h hc=>r50 pu L rfl h hc
  ·exact Aw (tabs:=tabs) (f:=m55 pu L) DL hm hcall AhM fun args v h hc=>r55 pu L rfl h hc
  ·exact Aw (tabs:=tabs) (f:=m56 pu L) DL hm hcall AhN fun args v h hc=>r56 pu L rfl h hc
  ·exact Aw (tabs:=tabs) (f:=m57 pu L) DL hm hcall AhO fun args v h hc=>r57 pu L rfl h hc
  ·exact Aw (tabs:=tabs) (f:=m58 pu L) DL hm hcall AhP fun args v h hc=>r58 pu L rfl h hc
  ·exact Aw (tabs:=tabs) (f:=m59 pu L) DL hm hcall AhQ fun args v h hc=>r59 pu L rfl h hc
  ·exact Aw (tabs:=tabs) (f:=m60 pu L) DL hm hcall AhR fun args v h hc=>r60 pu L rfl h hc
  ·exact Aw (tabs:=tabs) (f:=m61 pu L) DL hm hcall AhS fun args v h hc=>r61 pu L rfl h hc
  ·exact Aw (tabs:=tabs) (f:=m62 pu L) DL hm hcall AhT fun args v h hc=>r62 pu L rfl h hc
  ·exact Aw (tabs:=tabs) (f:=m63 pu L) DL hm hcall AhU fun args v h hc=>r63 pu L rfl h hc
  ·exact Aw (tabs:=tabs) (f:=m75 pu L) DL hm hcall AhV fun args v h hc=>r75 pu L rfl h hc
  ·exact Aw (tabs:=tabs) (f:=m76 pu L) DL hm hcall AhW fun args v h hc=>r76 pu L rfl h hc
  ·exact Aw (tabs:=tabs) (f:=m77 pu L) DL hm hcall AhX fun args v h hc=>r77 pu L rfl h hc
  ·exact Aw (tabs:=tabs) (f:=m80 pu L) DL hm hcall AhY fun args v h hc=>r80 pu L rfl h hc
  ·exact Aw (tabs:=tabs) (f:=m81 pu L) DL hm hcall AhZ fun args v h hc=>r81 pu L rfl h hc
  ·exact hw.2.1
  ·exact Aw (tabs:=tabs) (f:=m91 pu L) DL hm hcall Ah0 fun args v h hc=>r91 pu L rfl h hc
  ·exact Aw (tabs:=tabs) (f:=m92 pu L) DL hm hcall Ah1 fun args v h hc=>r92 pu L rfl h hc
  ·exact Aw (tabs:=tabs) (f:=m93 pu L) DL hm hcall Ah2 fun args v h hc=>r93 pu L rfl h hc
 ·exact hw.2.2
 ·exact Aw (tabs:=tabs) (f:=m43 pu L) DL hm hcall AhG fun args v h hc=>r43 pu L rfl h hc
 ·exact Dx (tabs:=tabs) (f:=K8 pu L) DL hm hcall fk9 fun args os z h1 h2 h3 h=>Aa3 pu L rfl h1 h2 h3 h
 ·exact Dx (tabs:=tabs) (f:=K9 pu L) DL hm hcall Ah3 fun args os z h1 h2 h3 h=>Aa4 pu L rfl h1 h2 h3 h
 ·exact Dx (tabs:=tabs) (f:=OW pu L) DL hm hcall mI fun args os z h1 h2 h3 h=>Aa6 pu L rfl h1 h2 h3 h
 ·exact Dx (tabs:=tabs) (f:=OZ pu L) DL hm hcall mI fun args os z h1 h2 h3 h=>Aa8 pu L rfl h1 h2 h3 h
 ·exact Dx (tabs:=tabs) (f:=LJ pu L) DL hm hcall Ah4 fun args os z h1 h2 h3 h=>Aa9 pu L rfl h1 h2 h3 h
theorem gX (hm:Tryz.prog.follows .mixedOrders=true) (hw:BA Tryz.prog tabs 10 TN∧BA Tryz.prog tabs 84 TV∧BA Tryz.prog tabs 98 TW):∀ n,(∀ g,isP g=true→BA Tryz.prog tabs g (Ps n g))∧BA Tryz.prog tabs 98 (Ps n 98)∧BA Tryz.prog tabs 43 (Ps n 43)∧Cn Tryz.prog tabs 3 0 9 (Ps n 10090)∧Cn Tryz.prog tabs 2 1 64 (Ps n 10640)∧Cn Tryz.prog tabs 3 1 48 (Ps n 10480)∧Cn Tryz.prog tabs 3 0 48 (Ps n 10481)∧Cn Tryz.prog tabs 6 3 85 (Ps n 10850):=fun n=>by
 induction n with
 | zero =>
  refine⟨fun g hg=>?_,?_,?_,?_,?_,?_,?_,?_⟩
  ·have hg : g ∈ TY := CS.1 hg
   simp only[TY,List.mem_cons,List.not_mem_nil,or_false] at hg
   rcases hg with rfl | rfl | rfl | rfl | rfl | rfl | rfl | rfl | rfl | rfl | rfl | rfl | rfl | rfl | rfl | rfl | rfl | rfl | rfl | rfl | rfl | rfl | rfl | rfl | rfl | rfl | rfl | rfl | rfl | rfl | rfl | rfl | rfl
   ·exact⟨A9 fk5,fun args v h=>by cases h⟩
   ·exact⟨(hw.1).1,fun args v h=>by cases h⟩
   ·exact⟨A9 Ahy,fun args v h=>by cases h⟩
   ·exact⟨A9 Ahz,fun args v h=>by cases h⟩
   ·exact⟨A9 AhA,fun args v h=>by cases h⟩
   ·exact⟨A9 AhB,fun args v h=>by cases h⟩
   ·exact⟨A9 AhC,fun args v h=>by cases h⟩
   ·exact⟨A9 AhD,fun args v h=>by cases h⟩
   ·exact⟨A9 AhE,fun args v h=>by cases h⟩
   ·exact⟨A9 AhF,fun args v h=>by cases h⟩
   ·exact⟨A9 AhH,fun args v h=>by cases h⟩
   ·exact⟨A9 AhI,fun args v h=>by cases h⟩
   ·exact⟨A9 AhJ,fun args v h=>by cases h⟩
   ·exact⟨A9 AhK,fun args v h=>by cases h⟩
   ·exact⟨A9 AhL,fun args v h=>by cases h⟩
   ·exact⟨A9 AhM,fun args v h=>by cases h⟩
   ·exact⟨A9 AhN,fun args v h=>by cases h⟩
   ·exact⟨A9 AhO,fun args v h=>by cases h⟩
   ·exact⟨A9 AhP,fun args v h=>by cases h⟩
   ·exact⟨A9 AhQ,fun args v h=>by cases h⟩
   ·exact⟨A9 AhR,fun args v h=>by cases h⟩
   ·exact⟨A9 AhS,fun args v h=>by cases h⟩
   ·exact⟨A9 AhT,fun args v h=>by cases h⟩
   ·exact⟨A9 AhU,fun args v h=>by cases h⟩
   ·exact⟨A9 AhV,fun args v h=>by cases h⟩
   ·exact⟨A9 AhW,fun args v h=>by cases h⟩
   ·exact⟨A9 AhX,fun args v h=>by cases h⟩
   ·exact⟨A9 AhY,fun args v h=>by cases h⟩
   ·exact⟨A9 AhZ,fun args v h=>by cases h⟩
   ·exact⟨(hw.2.1).1,fun args v h=>by cases h⟩
   ·exact⟨A9 Ah0,fun args v h=>by cases h⟩
   ·exact⟨A9 Ah1,fun args v h=>by cases h⟩
   ·exact⟨A9 Ah2,fun args v h=>by cases h⟩
  ·exact⟨(hw.2.2).1,fun args v h=>by cases h⟩
  ·exact⟨A9 AhG,fun args v h=>by cases h⟩
  ·exact⟨A9 fk9,fun args os z h1 h2 h3 h=>by cases h⟩
  ·exact⟨A9 Ah3,fun args os z h1 h2 h3 h=>by cases h⟩
  ·exact⟨A9 mI,fun args os z h1 h2 h3 h=>by cases h⟩
  ·exact⟨A9 mI,fun args os z h1 h2 h3 h=>by cases h⟩
  ·exact⟨A9 Ah4,fun args os z h1 h2 h3 h=>by cases h⟩
 | succ n ih=>exact Yb hm hw ih
theorem Ah5 (hm:Tryz.prog.follows .mixedOrders=true) (hw:BA Tryz.prog tabs 10 TN∧BA Tryz.prog tabs 84 TV∧BA Tryz.prog tabs 98 TW):∀ n g,isP g=true→BA Tryz.prog tabs g (Ps n g):=fun n=>(gX hm hw n).1
end
end Go.Proofs.YtokbaaeimejjlaaGreatDoor.BkU
namespace Go.Proofs
open Go Go.RowKit Go.Shelf
attribute [local go_sem] Oper.semAt_some

def MR {r:Nat} (hr:0 < r) (k:Nat):List (Fin r):=(List.range k).map fun i=>⟨i % r,Nat.mod_lt _ hr⟩
theorem Qt {r:Nat} (hr:0 < r) (k:Nat):MR hr (k+1)=MR hr k++[⟨k % r,Nat.mod_lt _ hr⟩]:=by simp[MR,List.range_succ]
theorem gY {r:Nat} (hr:0 < r) (k:Nat):(MR hr k).length=k:=by simp[MR]

set_option maxRecDepth 100000 in
set_option maxHeartbeats 4000000 in
theorem gZ (F : Fence) (n : Nat) (h7 : F.fn 127) (hro : F.round = none) (hn : 1 ≤ n) (l Bs Bn b off r c N cap : Nat) (hr : 0 < r) (hc : 1 ≤ c) (hc4 : c ≤ 4) (hN : N = r * c) (hrc : N ≤ 16) (hcap : N ≤ cap) (J Jx : List (Fin r) → World → Prop) (hJd : ∀ s W, J s W → J s W.drew)
 (hY : ∀ pre (x : Fin r) W, J pre W → pre.length < r → YieldAt F (n - 1) Tryz.prog l #[.slice (some ⟨b, off + x.1 * c, none⟩) c c] W fun e W' =>
   (e = .returned (.bool true)∧J (pre++[x]) W'∧(W'.cell? ⟨Bs,0,none⟩=W.cell? ⟨Bs,0,none⟩∧W'.cell? ⟨Bn,0,none⟩=W.cell? ⟨Bn,0,none⟩))∨(e = .returned (.bool false)∧Jx (pre++[x]) W'))
 (W:World) (hBs:W.cell? ⟨Bs,0,none⟩=some (.slice (some ⟨b,off,none⟩) N cap)) (hBn:W.cell? ⟨Bn,0,none⟩=some (.int .i64 c)) (h0:J [] W) :
 CallsIn F n Tryz.prog 127 #[.func (.yield l) #[] #[], .pointer (some ⟨Bs, 0, none⟩), .pointer (some ⟨Bn, 0, none⟩)] W fun e W' => (∃ v, e = .returned v) ∧
  ((∃ ys,ys=MR hr r∧J ys W')∨(∃ pre,True∧Jx pre W')):=by
 refine callsIn_of_wp Tryz.func127 rfl h7 ?_ hro
 simp only[Tryz.ntmps127,List.size_toArray,List.length_cons,List.length_nil,Nat.reduceAdd,Nat.reduceSub,Array.replicate_succ,Array.replicate_zero,List.push_toArray,List.append_toArray,List.nil_append,List.cons_append]
 gi_wp2
 gi_loopw [4] (fun i wr => ∃ k q : Nat, k ≤ r ∧ q = k * c ∧ i = .int .i64 q ∧ J (MR hr k) wr ∧ wr.cell? ⟨Bs, 0, none⟩ = some (.slice (some ⟨b, off, none⟩) N cap) ∧ wr.cell? ⟨Bn, 0, none⟩ = some (.int .i64 c))
  (fun i _=>N - (intOf i).toNat)
 case atStart=>exact⟨0,0,Nat.zero_le _,by simp,rfl,h0,hBs,hBn⟩
 case round=>
  obtain⟨k,q,hk,hq,rfl,hJs,hs,hnn⟩:=hrel
  by_cases hlt:k < r
  ·obtain ⟨fn, tmps, assign, body, hy, hR⟩ := hY _ ⟨k, hlt⟩ wr.drew (hJd _ _ hJs) (by rw [gY]; exact hlt)
   have e1:q+c≤N:=by rw[hq,hN,←Nat.succ_mul];exact Nat.mul_le_mul_right c hlt
   have hq2:Hid ((k+1)*c=q+c):=by show (k+1)*c=q+c;rw[Nat.succ_mul,hq]
   dsimp only at hy
   rw[←hq] at hy
   have hmod:(⟨k % r,Nat.mod_lt _ hr⟩:Fin r)=⟨k,hlt⟩:=by simp[Nat.mod_eq_of_lt hlt]
   have hJn:Hid (∀ W',J (MR hr k++[⟨k,hlt⟩]) W'→J (MR hr (k+1)) W'):=fun W' h=>by rw[Qt,hmod];exact h
   have hnc:c≤N - q:=by omega
   clear hq hN hmod hY hJd hBs hBn h0 hJs
   gi_wp2
   gi_region
   all_goals (try rw[if_neg (show ¬ N - q < c by omega)])
   all_goals gi_wp2
   all_goals
    refine hR.mono ?_
    rintro e W3 (⟨rfl,hJ3,hs3,hn3⟩ | ⟨rfl,hJx3⟩)
    ·have hs4 : W3.cell? ⟨Bs, 0, none⟩ = some (.slice (some ⟨b, off, none⟩) N cap) := hs3.trans hs
     have hn4:W3.cell? ⟨Bn,0,none⟩=some (.int .i64 c):=hn3.trans hnn
     clear hs3 hn3 hs hnn
     gi_wp2
     go_roundw
     case rel=>exact⟨k+1,q+c,by omega,hq2.out.symm,by simp,hJn.out _ hJ3,hs4,hn4⟩
     case measure=>simp[intOf];omega
    ·gi_wp2
     refine bodyPost_ret (results_none rfl _ _ _) rfl ?_
     exact⟨⟨_,rfl⟩,.inr ⟨_,trivial,hJx3⟩⟩
  ·obtain rfl : k = r := by omega
   obtain rfl:q=N:=by rw[hq,hN]
   gi_wp2
   go_end0
   exact⟨⟨_,rfl⟩,.inl ⟨_,rfl,hJs⟩⟩
end Go.Proofs
