/- Made from wip. -/
import Derived.Test.YtokbaaeimejjlaaGreatDoorProg
import Derived.Test.YtokbaaeimejjlaaGreatDoorSpMorex
import Derived.Test.YtokbaaeimejjlaaGreatDoorBkXCode
import Derived.Test.YtokbaaeimejjlaaGreatDoorBkXPux
import Derived.RangeFuncNested
import Derived.RangeFuncBound
import Derived.RangeFuncCalls
import Derived.RangeFuncLeaves
import Derived.Shelf.Abstract
import Derived.Shelf.RegionOpen
import Derived.WalkKit
import Derived.OwnWalkIn
import Derived.TacticsInMore
import Derived.LoopNIn
import Derived.LoopIn

set_option maxRecDepth 100000
namespace Go.Proofs.YtokbaaeimejjlaaGreatDoor.BkX
open Go Go.Sp Go.BkX
theorem b3:(match Tryz.f3.body with | some c=>rcOf c c3 | none=>none) = some c3:=by kernel_rfl
theorem p3:(match Tryz.f3.body with | some c=>codeB [0] c | none=>false) = true:=by kernel_rfl
theorem fok3:FnOk Tryz.prog [0] 3 ⟨99,c3,[.tmp 8]⟩:=FnOk.by Tryz.func3 b3 p3 Tryz.ntmps3 (by rw [Tryz.results3]) (by kernel_rfl)
theorem b9:(match Tryz.f9.body with | some c=>rcOf c c9 | none=>none) = some c9:=by kernel_rfl
theorem p9:(match Tryz.f9.body with | some c=>codeB [0] c | none=>false) = true:=by kernel_rfl
theorem fok9:FnOk Tryz.prog [0] 9 ⟨21,c9,[.tmp 6]⟩:=FnOk.by Tryz.func9 b9 p9 Tryz.ntmps9 (by rw [Tryz.results9]) (by kernel_rfl)
theorem b10:(match Tryz.f10.body with | some c=>rcOf c c10 | none=>none) = some c10:=by kernel_rfl
theorem p10:(match Tryz.f10.body with | some c=>codeB [0] c | none=>false) = true:=by kernel_rfl
theorem fok10:FnOk Tryz.prog [0] 10 ⟨209,c10,[.tmp 0]⟩:=FnOk.by Tryz.func10 b10 p10 Tryz.ntmps10 (by rw [Tryz.results10]) (by kernel_rfl)
theorem b11:(match Tryz.f11.body with | some c=>rcOf c c11 | none=>none) = some c11:=by kernel_rfl
theorem p11:(match Tryz.f11.body with | some c=>codeB [0] c | none=>false) = true:=by kernel_rfl
theorem fok11:FnOk Tryz.prog [0] 11 ⟨34,c11,[.tmp 6,.tmp 7]⟩:=FnOk.by Tryz.func11 b11 p11 Tryz.ntmps11 (by rw [Tryz.results11]) (by kernel_rfl)
theorem b12:(match Tryz.f12.body with | some c=>rcOf c c12 | none=>none) = some c12:=by kernel_rfl
theorem p12:(match Tryz.f12.body with | some c=>codeB [0] c | none=>false) = true:=by kernel_rfl
theorem fok12:FnOk Tryz.prog [0] 12 ⟨28,c12,[.tmp 6,.tmp 7]⟩:=FnOk.by Tryz.func12 b12 p12 Tryz.ntmps12 (by rw [Tryz.results12]) (by kernel_rfl)
theorem b13:(match Tryz.f13.body with | some c=>rcOf c c13 | none=>none) = some c13:=by kernel_rfl
theorem p13:(match Tryz.f13.body with | some c=>codeB [0] c | none=>false) = true:=by kernel_rfl
theorem fok13:FnOk Tryz.prog [0] 13 ⟨42,c13,[.tmp 6,.tmp 7]⟩:=FnOk.by Tryz.func13 b13 p13 Tryz.ntmps13 (by rw [Tryz.results13]) (by kernel_rfl)
theorem b14:(match Tryz.f14.body with | some c=>rcOf c c14 | none=>none) = some c14:=by kernel_rfl
theorem p14:(match Tryz.f14.body with | some c=>codeB [0] c | none=>false) = true:=by kernel_rfl
theorem fok14:FnOk Tryz.prog [0] 14 ⟨43,c14,[.tmp 6,.tmp 7]⟩:=FnOk.by Tryz.func14 b14 p14 Tryz.ntmps14 (by rw [Tryz.results14]) (by kernel_rfl)
theorem b15:(match Tryz.f15.body with | some c=>rcOf c c15 | none=>none) = some c15:=by kernel_rfl
theorem p15:(match Tryz.f15.body with | some c=>codeB [0] c | none=>false) = true:=by kernel_rfl
theorem fok15:FnOk Tryz.prog [0] 15 ⟨43,c15,[.tmp 4,.tmp 5]⟩:=FnOk.by Tryz.func15 b15 p15 Tryz.ntmps15 (by rw [Tryz.results15]) (by kernel_rfl)
theorem b16:(match Tryz.f16.body with | some c=>rcOf c c16 | none=>none) = some c16:=by kernel_rfl
theorem p16:(match Tryz.f16.body with | some c=>codeB [0] c | none=>false) = true:=by kernel_rfl
theorem fok16:FnOk Tryz.prog [0] 16 ⟨41,c16,[.tmp 4,.tmp 5]⟩:=FnOk.by Tryz.func16 b16 p16 Tryz.ntmps16 (by rw [Tryz.results16]) (by kernel_rfl)
theorem b17:(match Tryz.f17.body with | some c=>rcOf c c17 | none=>none) = some c17:=by kernel_rfl
theorem p17:(match Tryz.f17.body with | some c=>codeB [0] c | none=>false) = true:=by kernel_rfl
theorem fok17:FnOk Tryz.prog [0] 17 ⟨26,c17,[.tmp 4]⟩:=FnOk.by Tryz.func17 b17 p17 Tryz.ntmps17 (by rw [Tryz.results17]) (by kernel_rfl)
theorem b18:(match Tryz.f18.body with | some c=>rcOf c c18 | none=>none) = some c18:=by kernel_rfl
theorem p18:(match Tryz.f18.body with | some c=>codeB [0] c | none=>false) = true:=by kernel_rfl
theorem fok18:FnOk Tryz.prog [0] 18 ⟨23,c18,[.tmp 4,.tmp 5]⟩:=FnOk.by Tryz.func18 b18 p18 Tryz.ntmps18 (by rw [Tryz.results18]) (by kernel_rfl)
theorem b20:(match Tryz.f20.body with | some c=>rcOf c c20 | none=>none) = some c20:=by kernel_rfl
theorem p20:(match Tryz.f20.body with | some c=>codeB [0] c | none=>false) = true:=by kernel_rfl
theorem fok20:FnOk Tryz.prog [0] 20 ⟨21,c20,[.tmp 4,.tmp 5]⟩:=FnOk.by Tryz.func20 b20 p20 Tryz.ntmps20 (by rw [Tryz.results20]) (by kernel_rfl)
theorem b22:(match Tryz.f22.body with | some c=>rcOf c c22 | none=>none) = some c22:=by kernel_rfl
theorem p22:(match Tryz.f22.body with | some c=>codeB [0] c | none=>false) = true:=by kernel_rfl
theorem fok22:FnOk Tryz.prog [0] 22 ⟨27,c22,[.tmp 4]⟩:=FnOk.by Tryz.func22 b22 p22 Tryz.ntmps22 (by rw [Tryz.results22]) (by kernel_rfl)
theorem b23:(match Tryz.f23.body with | some c=>rcOf c c23 | none=>none) = some c23:=by kernel_rfl
theorem p23:(match Tryz.f23.body with | some c=>codeB [0] c | none=>false) = true:=by kernel_rfl
theorem fok23:FnOk Tryz.prog [0] 23 ⟨29,c23,[.tmp 4,.tmp 5]⟩:=FnOk.by Tryz.func23 b23 p23 Tryz.ntmps23 (by rw [Tryz.results23]) (by kernel_rfl)
theorem b25:(match Tryz.f25.body with | some c=>rcOf c c25 | none=>none) = some c25:=by kernel_rfl
theorem p25:(match Tryz.f25.body with | some c=>codeB [0] c | none=>false) = true:=by kernel_rfl
theorem fok25:FnOk Tryz.prog [0] 25 ⟨39,c25,[.tmp 2,.tmp 3]⟩:=FnOk.by Tryz.func25 b25 p25 Tryz.ntmps25 (by rw [Tryz.results25]) (by kernel_rfl)
theorem b27:(match Tryz.f27.body with | some c=>rcOf c c27 | none=>none) = some c27:=by kernel_rfl
theorem p27:(match Tryz.f27.body with | some c=>codeB [0] c | none=>false) = true:=by kernel_rfl
theorem fok27:FnOk Tryz.prog [0] 27 ⟨93,c27,[.tmp 4,.tmp 5]⟩:=FnOk.by Tryz.func27 b27 p27 Tryz.ntmps27 (by rw [Tryz.results27]) (by kernel_rfl)
theorem b29:(match Tryz.f29.body with | some c=>rcOf c c29 | none=>none) = some c29:=by kernel_rfl
theorem p29:(match Tryz.f29.body with | some c=>codeB [0] c | none=>false) = true:=by kernel_rfl
theorem fok29:FnOk Tryz.prog [0] 29 ⟨25,c29,[.tmp 4,.tmp 5]⟩:=FnOk.by Tryz.func29 b29 p29 Tryz.ntmps29 (by rw [Tryz.results29]) (by kernel_rfl)
theorem b31:(match Tryz.f31.body with | some c=>rcOf c c31 | none=>none) = some c31:=by kernel_rfl
theorem p31:(match Tryz.f31.body with | some c=>codeB [0] c | none=>false) = true:=by kernel_rfl
theorem fok31:FnOk Tryz.prog [0] 31 ⟨70,c31,[.tmp 6]⟩:=FnOk.by Tryz.func31 b31 p31 Tryz.ntmps31 (by rw [Tryz.results31]) (by kernel_rfl)
theorem b33:(match Tryz.f33.body with | some c=>rcOf c c33 | none=>none) = some c33:=by kernel_rfl
theorem p33:(match Tryz.f33.body with | some c=>codeB [0] c | none=>false) = true:=by kernel_rfl
theorem fok33:FnOk Tryz.prog [0] 33 ⟨20,c33,[.tmp 4,.tmp 5]⟩:=FnOk.by Tryz.func33 b33 p33 Tryz.ntmps33 (by rw [Tryz.results33]) (by kernel_rfl)
theorem b34:(match Tryz.f34.body with | some c=>rcOf c c34 | none=>none) = some c34:=by kernel_rfl
theorem p34:(match Tryz.f34.body with | some c=>codeB [0] c | none=>false) = true:=by kernel_rfl
theorem fok34:FnOk Tryz.prog [0] 34 ⟨37,c34,[.tmp 4,.tmp 5]⟩:=FnOk.by Tryz.func34 b34 p34 Tryz.ntmps34 (by rw [Tryz.results34]) (by kernel_rfl)
theorem b36:(match Tryz.f36.body with | some c=>rcOf c c36 | none=>none) = some c36:=by kernel_rfl
theorem p36:(match Tryz.f36.body with | some c=>codeB [0] c | none=>false) = true:=by kernel_rfl
theorem fok36:FnOk Tryz.prog [0] 36 ⟨106,c36,[.tmp 2]⟩:=FnOk.by Tryz.func36 b36 p36 Tryz.ntmps36 (by rw [Tryz.results36]) (by kernel_rfl)
theorem b39:(match Tryz.f39.body with | some c=>rcOf c c39 | none=>none) = some c39:=by kernel_rfl
theorem p39:(match Tryz.f39.body with | some c=>codeB [0] c | none=>false) = true:=by kernel_rfl
theorem fok39:FnOk Tryz.prog [0] 39 ⟨4,c39,[.cell 0 24]⟩:=FnOk.by Tryz.func39 b39 p39 Tryz.ntmps39 (by rw [Tryz.results39]) (by kernel_rfl)
theorem b40:(match Tryz.f40.body with | some c=>rcOf c c40 | none=>none) = some c40:=by kernel_rfl
theorem p40:(match Tryz.f40.body with | some c=>codeB [0] c | none=>false) = true:=by kernel_rfl
theorem fok40:FnOk Tryz.prog [0] 40 ⟨4,c40,[.tmp 2]⟩:=FnOk.by Tryz.func40 b40 p40 Tryz.ntmps40 (by rw [Tryz.results40]) (by kernel_rfl)
theorem b41:(match Tryz.f41.body with | some c=>rcOf c c41 | none=>none) = some c41:=by kernel_rfl
theorem p41:(match Tryz.f41.body with | some c=>codeB [0] c | none=>false) = true:=by kernel_rfl
theorem fok41:FnOk Tryz.prog [0] 41 ⟨4,c41,[.cell 0 24]⟩:=FnOk.by Tryz.func41 b41 p41 Tryz.ntmps41 (by rw [Tryz.results41]) (by kernel_rfl)
theorem b42:(match Tryz.f42.body with | some c=>rcOf c c42 | none=>none) = some c42:=by kernel_rfl
theorem p42:(match Tryz.f42.body with | some c=>codeB [0] c | none=>false) = true:=by kernel_rfl
theorem fok42:FnOk Tryz.prog [0] 42 ⟨4,c42,[.tmp 2]⟩:=FnOk.by Tryz.func42 b42 p42 Tryz.ntmps42 (by rw [Tryz.results42]) (by kernel_rfl)
end Go.Proofs.YtokbaaeimejjlaaGreatDoor.BkX
set_option maxRecDepth 100000
namespace Go.Proofs.YtokbaaeimejjlaaGreatDoor.BkX
open Go Go.Sp Go.BkX
theorem b43:(match Tryz.f43.body with | some c=>rcOf c c43 | none=>none) = some c43:=by kernel_rfl
theorem p43:(match Tryz.f43.body with | some c=>codeB [0] c | none=>false) = true:=by kernel_rfl
theorem fok43:FnOk Tryz.prog [0] 43 ⟨33,c43,[.tmp 4,.tmp 5]⟩:=FnOk.by Tryz.func43 b43 p43 Tryz.ntmps43 (by rw [Tryz.results43]) (by kernel_rfl)
theorem b44:(match Tryz.f44.body with | some c=>rcOf c c44 | none=>none) = some c44:=by kernel_rfl
theorem p44:(match Tryz.f44.body with | some c=>codeB [0] c | none=>false) = true:=by kernel_rfl
theorem fok44:FnOk Tryz.prog [0] 44 ⟨19,c44,[.tmp 4]⟩:=FnOk.by Tryz.func44 b44 p44 Tryz.ntmps44 (by rw [Tryz.results44]) (by kernel_rfl)
theorem b45:(match Tryz.f45.body with | some c=>rcOf c c45 | none=>none) = some c45:=by kernel_rfl
theorem p45:(match Tryz.f45.body with | some c=>codeB [0] c | none=>false) = true:=by kernel_rfl
theorem fok45:FnOk Tryz.prog [0] 45 ⟨35,c45,[.tmp 6]⟩:=FnOk.by Tryz.func45 b45 p45 Tryz.ntmps45 (by rw [Tryz.results45]) (by kernel_rfl)
theorem b46:(match Tryz.f46.body with | some c=>rcOf c c46 | none=>none) = some c46:=by kernel_rfl
theorem p46:(match Tryz.f46.body with | some c=>codeB [0] c | none=>false) = true:=by kernel_rfl
theorem fok46:FnOk Tryz.prog [0] 46 ⟨41,c46,[.tmp 4]⟩:=FnOk.by Tryz.func46 b46 p46 Tryz.ntmps46 (by rw [Tryz.results46]) (by kernel_rfl)
theorem b47:(match Tryz.f47.body with | some c=>rcOf c c47 | none=>none) = some c47:=by kernel_rfl
theorem p47:(match Tryz.f47.body with | some c=>codeB [0] c | none=>false) = true:=by kernel_rfl
theorem fok47:FnOk Tryz.prog [0] 47 ⟨18,c47,[.tmp 4]⟩:=FnOk.by Tryz.func47 b47 p47 Tryz.ntmps47 (by rw [Tryz.results47]) (by kernel_rfl)
theorem b48:(match Tryz.f48.body with | some c=>rcOf c c48 | none=>none) = some c48:=by kernel_rfl
theorem p48:(match Tryz.f48.body with | some c=>codeB [0] c | none=>false) = true:=by kernel_rfl
theorem fok48:FnOk Tryz.prog [0] 48 ⟨26,c48,[.tmp 6]⟩:=FnOk.by Tryz.func48 b48 p48 Tryz.ntmps48 (by rw [Tryz.results48]) (by kernel_rfl)
theorem b49:(match Tryz.f49.body with | some c=>rcOf c c49 | none=>none) = some c49:=by kernel_rfl
theorem p49:(match Tryz.f49.body with | some c=>codeB [0] c | none=>false) = true:=by kernel_rfl
theorem fok49:FnOk Tryz.prog [0] 49 ⟨26,c49,[.tmp 4]⟩:=FnOk.by Tryz.func49 b49 p49 Tryz.ntmps49 (by rw [Tryz.results49]) (by kernel_rfl)
theorem b50:(match Tryz.f50.body with | some c=>rcOf c c50 | none=>none) = some c50:=by kernel_rfl
theorem p50:(match Tryz.f50.body with | some c=>codeB [0] c | none=>false) = true:=by kernel_rfl
theorem fok50:FnOk Tryz.prog [0] 50 ⟨21,c50,[.tmp 4]⟩:=FnOk.by Tryz.func50 b50 p50 Tryz.ntmps50 (by rw [Tryz.results50]) (by kernel_rfl)
theorem b51:(match Tryz.f51.body with | some c=>rcOf c c51 | none=>none) = some c51:=by kernel_rfl
theorem p51:(match Tryz.f51.body with | some c=>codeB [0] c | none=>false) = true:=by kernel_rfl
theorem fok51:FnOk Tryz.prog [0] 51 ⟨38,c51,[.tmp 6]⟩:=FnOk.by Tryz.func51 b51 p51 Tryz.ntmps51 (by rw [Tryz.results51]) (by kernel_rfl)
theorem b52:(match Tryz.f52.body with | some c=>rcOf c c52 | none=>none) = some c52:=by kernel_rfl
theorem p52:(match Tryz.f52.body with | some c=>codeB [0] c | none=>false) = true:=by kernel_rfl
theorem fok52:FnOk Tryz.prog [0] 52 ⟨28,c52,[.tmp 4]⟩:=FnOk.by Tryz.func52 b52 p52 Tryz.ntmps52 (by rw [Tryz.results52]) (by kernel_rfl)
theorem b55:(match Tryz.f55.body with | some c=>rcOf c c55 | none=>none) = some c55:=by kernel_rfl
theorem p55:(match Tryz.f55.body with | some c=>codeB [0] c | none=>false) = true:=by kernel_rfl
theorem fok55:FnOk Tryz.prog [0] 55 ⟨110,c55,[.tmp 2,.tmp 3]⟩:=FnOk.by Tryz.func55 b55 p55 Tryz.ntmps55 (by rw [Tryz.results55]) (by kernel_rfl)
theorem b56:(match Tryz.f56.body with | some c=>rcOf c c56 | none=>none) = some c56:=by kernel_rfl
theorem p56:(match Tryz.f56.body with | some c=>codeB [0] c | none=>false) = true:=by kernel_rfl
theorem fok56:FnOk Tryz.prog [0] 56 ⟨27,c56,[.tmp 4]⟩:=FnOk.by Tryz.func56 b56 p56 Tryz.ntmps56 (by rw [Tryz.results56]) (by kernel_rfl)
theorem b59:(match Tryz.f59.body with | some c=>rcOf c c59 | none=>none) = some c59:=by kernel_rfl
theorem p59:(match Tryz.f59.body with | some c=>codeB [0] c | none=>false) = true:=by kernel_rfl
theorem fok59:FnOk Tryz.prog [0] 59 ⟨15,c59,[.tmp 6]⟩:=FnOk.by Tryz.func59 b59 p59 Tryz.ntmps59 (by rw [Tryz.results59]) (by kernel_rfl)
theorem b60:(match Tryz.f60.body with | some c=>rcOf c c60 | none=>none) = some c60:=by kernel_rfl
theorem p60:(match Tryz.f60.body with | some c=>codeB [0] c | none=>false) = true:=by kernel_rfl
theorem fok60:FnOk Tryz.prog [0] 60 ⟨15,c60,[.tmp 4]⟩:=FnOk.by Tryz.func60 b60 p60 Tryz.ntmps60 (by rw [Tryz.results60]) (by kernel_rfl)
theorem b61:(match Tryz.f61.body with | some c=>rcOf c c61 | none=>none) = some c61:=by kernel_rfl
theorem p61:(match Tryz.f61.body with | some c=>codeB [0] c | none=>false) = true:=by kernel_rfl
theorem fok61:FnOk Tryz.prog [0] 61 ⟨50,c61,[.cell 4 84]⟩:=FnOk.by Tryz.func61 b61 p61 Tryz.ntmps61 (by rw [Tryz.results61]) (by kernel_rfl)
theorem b62:(match Tryz.f62.body with | some c=>rcOf c c62 | none=>none) = some c62:=by kernel_rfl
theorem p62:(match Tryz.f62.body with | some c=>codeB [0] c | none=>false) = true:=by kernel_rfl
theorem fok62:FnOk Tryz.prog [0] 62 ⟨15,c62,[.tmp 6]⟩:=FnOk.by Tryz.func62 b62 p62 Tryz.ntmps62 (by rw [Tryz.results62]) (by kernel_rfl)
theorem b65:(match Tryz.f65.body with | some c=>rcOf c c65 | none=>none) = some c65:=by kernel_rfl
theorem p65:(match Tryz.f65.body with | some c=>codeB [0] c | none=>false) = true:=by kernel_rfl
theorem fok65:FnOk Tryz.prog [0] 65 ⟨88,c65,[]⟩:=FnOk.by Tryz.func65 b65 p65 Tryz.ntmps65 (by rw [Tryz.results65]) (by kernel_rfl)
theorem b66:(match Tryz.f66.body with | some c=>rcOf c c66 | none=>none) = some c66:=by kernel_rfl
theorem p66:(match Tryz.f66.body with | some c=>codeB [0] c | none=>false) = true:=by kernel_rfl
theorem fok66:FnOk Tryz.prog [0] 66 ⟨9,c66,[.tmp 4]⟩:=FnOk.by Tryz.func66 b66 p66 Tryz.ntmps66 (by rw [Tryz.results66]) (by kernel_rfl)
theorem b67:(match Tryz.f67.body with | some c=>rcOf c c67 | none=>none) = some c67:=by kernel_rfl
theorem p67:(match Tryz.f67.body with | some c=>codeB [0] c | none=>false) = true:=by kernel_rfl
theorem fok67:FnOk Tryz.prog [0] 67 ⟨9,c67,[.tmp 3]⟩:=FnOk.by Tryz.func67 b67 p67 Tryz.ntmps67 (by rw [Tryz.results67]) (by kernel_rfl)
theorem b68:(match Tryz.f68.body with | some c=>rcOf c c68 | none=>none) = some c68:=by kernel_rfl
theorem p68:(match Tryz.f68.body with | some c=>codeB [0] c | none=>false) = true:=by kernel_rfl
theorem fok68:FnOk Tryz.prog [0] 68 ⟨9,c68,[.tmp 2]⟩:=FnOk.by Tryz.func68 b68 p68 Tryz.ntmps68 (by rw [Tryz.results68]) (by kernel_rfl)
theorem b69:(match Tryz.f69.body with | some c=>rcOf c c69 | none=>none) = some c69:=by kernel_rfl
theorem p69:(match Tryz.f69.body with | some c=>codeB [0] c | none=>false) = true:=by kernel_rfl
theorem fok69:FnOk Tryz.prog [0] 69 ⟨4,c69,[.tmp 2]⟩:=FnOk.by Tryz.func69 b69 p69 Tryz.ntmps69 (by rw [Tryz.results69]) (by kernel_rfl)
theorem b70:(match Tryz.f70.body with | some c=>rcOf c c70 | none=>none) = some c70:=by kernel_rfl
theorem p70:(match Tryz.f70.body with | some c=>codeB [0] c | none=>false) = true:=by kernel_rfl
theorem fok70:FnOk Tryz.prog [0] 70 ⟨36,c70,[.tmp 4]⟩:=FnOk.by Tryz.func70 b70 p70 Tryz.ntmps70 (by rw [Tryz.results70]) (by kernel_rfl)
theorem b71:(match Tryz.f71.body with | some c=>rcOf c c71 | none=>none) = some c71:=by kernel_rfl
theorem p71:(match Tryz.f71.body with | some c=>codeB [0] c | none=>false) = true:=by kernel_rfl
theorem fok71:FnOk Tryz.prog [0] 71 ⟨9,c71,[.tmp 2]⟩:=FnOk.by Tryz.func71 b71 p71 Tryz.ntmps71 (by rw [Tryz.results71]) (by kernel_rfl)
theorem b72:(match Tryz.f72.body with | some c=>rcOf c c72 | none=>none) = some c72:=by kernel_rfl
theorem p72:(match Tryz.f72.body with | some c=>codeB [0] c | none=>false) = true:=by kernel_rfl
theorem fok72:FnOk Tryz.prog [0] 72 ⟨15,c72,[.tmp 2]⟩:=FnOk.by Tryz.func72 b72 p72 Tryz.ntmps72 (by rw [Tryz.results72]) (by kernel_rfl)
theorem b75:(match Tryz.f75.body with | some c=>rcOf c c75 | none=>none) = some c75:=by kernel_rfl
theorem p75:(match Tryz.f75.body with | some c=>codeB [0] c | none=>false) = true:=by kernel_rfl
theorem fok75:FnOk Tryz.prog [0] 75 ⟨18,c75,[.cell 2 99]⟩:=FnOk.by Tryz.func75 b75 p75 Tryz.ntmps75 (by rw [Tryz.results75]) (by kernel_rfl)
end Go.Proofs.YtokbaaeimejjlaaGreatDoor.BkX
set_option maxRecDepth 100000
namespace Go.Proofs.YtokbaaeimejjlaaGreatDoor.BkX
open Go Go.Sp Go.BkX
theorem b76:(match Tryz.f76.body with | some c=>rcOf c c76 | none=>none) = some c76:=by kernel_rfl
theorem p76:(match Tryz.f76.body with | some c=>codeB [0] c | none=>false) = true:=by kernel_rfl
theorem fok76:FnOk Tryz.prog [0] 76 ⟨22,c76,[.cell 4 99]⟩:=FnOk.by Tryz.func76 b76 p76 Tryz.ntmps76 (by rw [Tryz.results76]) (by kernel_rfl)
theorem b77:(match Tryz.f77.body with | some c=>rcOf c c77 | none=>none) = some c77:=by kernel_rfl
theorem p77:(match Tryz.f77.body with | some c=>codeB [0] c | none=>false) = true:=by kernel_rfl
theorem fok77:FnOk Tryz.prog [0] 77 ⟨22,c77,[.tmp 2]⟩:=FnOk.by Tryz.func77 b77 p77 Tryz.ntmps77 (by rw [Tryz.results77]) (by kernel_rfl)
theorem b79:(match Tryz.f79.body with | some c=>rcOf c c79 | none=>none) = some c79:=by kernel_rfl
theorem p79:(match Tryz.f79.body with | some c=>codeB [0] c | none=>false) = true:=by kernel_rfl
theorem fok79:FnOk Tryz.prog [0] 79 ⟨8,c79,[.tmp 2]⟩:=FnOk.by Tryz.func79 b79 p79 Tryz.ntmps79 (by rw [Tryz.results79]) (by kernel_rfl)
theorem b80:(match Tryz.f80.body with | some c=>rcOf c c80 | none=>none) = some c80:=by kernel_rfl
theorem p80:(match Tryz.f80.body with | some c=>codeB [0] c | none=>false) = true:=by kernel_rfl
theorem fok80:FnOk Tryz.prog [0] 80 ⟨34,c80,[.tmp 4]⟩:=FnOk.by Tryz.func80 b80 p80 Tryz.ntmps80 (by rw [Tryz.results80]) (by kernel_rfl)
theorem b81:(match Tryz.f81.body with | some c=>rcOf c c81 | none=>none) = some c81:=by kernel_rfl
theorem p81:(match Tryz.f81.body with | some c=>codeB [0] c | none=>false) = true:=by kernel_rfl
theorem fok81:FnOk Tryz.prog [0] 81 ⟨32,c81,[.tmp 6]⟩:=FnOk.by Tryz.func81 b81 p81 Tryz.ntmps81 (by rw [Tryz.results81]) (by kernel_rfl)
theorem b82:(match Tryz.f82.body with | some c=>rcOf c c82 | none=>none) = some c82:=by kernel_rfl
theorem p82:(match Tryz.f82.body with | some c=>codeB [0] c | none=>false) = true:=by kernel_rfl
theorem fok82:FnOk Tryz.prog [0] 82 ⟨14,c82,[]⟩:=FnOk.by Tryz.func82 b82 p82 Tryz.ntmps82 (by rw [Tryz.results82]) (by kernel_rfl)
theorem b83:(match Tryz.f83.body with | some c=>rcOf c c83 | none=>none) = some c83:=by kernel_rfl
theorem p83:(match Tryz.f83.body with | some c=>codeB [0] c | none=>false) = true:=by kernel_rfl
theorem fok83:FnOk Tryz.prog [0] 83 ⟨66,c83,[.tmp 4]⟩:=FnOk.by Tryz.func83 b83 p83 Tryz.ntmps83 (by rw [Tryz.results83]) (by kernel_rfl)
theorem b84:(match Tryz.f84.body with | some c=>rcOf c c84 | none=>none) = some c84:=by kernel_rfl
theorem p84:(match Tryz.f84.body with | some c=>codeB [0] c | none=>false) = true:=by kernel_rfl
theorem fok84:FnOk Tryz.prog [0] 84 ⟨47,c84,[.tmp 4]⟩:=FnOk.by Tryz.func84 b84 p84 Tryz.ntmps84 (by rw [Tryz.results84]) (by kernel_rfl)
theorem b85:(match Tryz.f85.body with | some c=>rcOf c c85 | none=>none) = some c85:=by kernel_rfl
theorem p85:(match Tryz.f85.body with | some c=>codeB [0] c | none=>false) = true:=by kernel_rfl
theorem fok85:FnOk Tryz.prog [0] 85 ⟨70,c85,[.tmp 9]⟩:=FnOk.by Tryz.func85 b85 p85 Tryz.ntmps85 (by rw [Tryz.results85]) (by kernel_rfl)
theorem b86:(match Tryz.f86.body with | some c=>rcOf c c86 | none=>none) = some c86:=by kernel_rfl
theorem p86:(match Tryz.f86.body with | some c=>codeB [0] c | none=>false) = true:=by kernel_rfl
theorem fok86:FnOk Tryz.prog [0] 86 ⟨19,c86,[.tmp 4]⟩:=FnOk.by Tryz.func86 b86 p86 Tryz.ntmps86 (by rw [Tryz.results86]) (by kernel_rfl)
theorem b87:(match Tryz.f87.body with | some c=>rcOf c c87 | none=>none) = some c87:=by kernel_rfl
theorem p87:(match Tryz.f87.body with | some c=>codeB [0] c | none=>false) = true:=by kernel_rfl
theorem fok87:FnOk Tryz.prog [0] 87 ⟨5,c87,[.tmp 2]⟩:=FnOk.by Tryz.func87 b87 p87 Tryz.ntmps87 (by rw [Tryz.results87]) (by kernel_rfl)
theorem b88:(match Tryz.f88.body with | some c=>rcOf c c88 | none=>none) = some c88:=by kernel_rfl
theorem p88:(match Tryz.f88.body with | some c=>codeB [0] c | none=>false) = true:=by kernel_rfl
theorem fok88:FnOk Tryz.prog [0] 88 ⟨11,c88,[]⟩:=FnOk.by Tryz.func88 b88 p88 Tryz.ntmps88 (by rw [Tryz.results88]) (by kernel_rfl)
theorem b89:(match Tryz.f89.body with | some c=>rcOf c c89 | none=>none) = some c89:=by kernel_rfl
theorem p89:(match Tryz.f89.body with | some c=>codeB [0] c | none=>false) = true:=by kernel_rfl
theorem fok89:FnOk Tryz.prog [0] 89 ⟨16,c89,[]⟩:=FnOk.by Tryz.func89 b89 p89 Tryz.ntmps89 (by rw [Tryz.results89]) (by kernel_rfl)
theorem b90:(match Tryz.f90.body with | some c=>rcOf c c90 | none=>none) = some c90:=by kernel_rfl
theorem p90:(match Tryz.f90.body with | some c=>codeB [0] c | none=>false) = true:=by kernel_rfl
theorem fok90:FnOk Tryz.prog [0] 90 ⟨20,c90,[.tmp 4]⟩:=FnOk.by Tryz.func90 b90 p90 Tryz.ntmps90 (by rw [Tryz.results90]) (by kernel_rfl)
theorem b91:(match Tryz.f91.body with | some c=>rcOf c c91 | none=>none) = some c91:=by kernel_rfl
theorem p91:(match Tryz.f91.body with | some c=>codeB [0] c | none=>false) = true:=by kernel_rfl
theorem fok91:FnOk Tryz.prog [0] 91 ⟨25,c91,[.tmp 2]⟩:=FnOk.by Tryz.func91 b91 p91 Tryz.ntmps91 (by rw [Tryz.results91]) (by kernel_rfl)
theorem b92:(match Tryz.f92.body with | some c=>rcOf c c92 | none=>none) = some c92:=by kernel_rfl
theorem p92:(match Tryz.f92.body with | some c=>codeB [0] c | none=>false) = true:=by kernel_rfl
theorem fok92:FnOk Tryz.prog [0] 92 ⟨25,c92,[.tmp 2]⟩:=FnOk.by Tryz.func92 b92 p92 Tryz.ntmps92 (by rw [Tryz.results92]) (by kernel_rfl)
theorem b93:(match Tryz.f93.body with | some c=>rcOf c c93 | none=>none) = some c93:=by kernel_rfl
theorem p93:(match Tryz.f93.body with | some c=>codeB [0] c | none=>false) = true:=by kernel_rfl
theorem fok93:FnOk Tryz.prog [0] 93 ⟨67,c93,[.tmp 10,.tmp 11]⟩:=FnOk.by Tryz.func93 b93 p93 Tryz.ntmps93 (by rw [Tryz.results93]) (by kernel_rfl)
theorem b94:(match Tryz.f94.body with | some c=>rcOf c c94 | none=>none) = some c94:=by kernel_rfl
theorem p94:(match Tryz.f94.body with | some c=>codeB [0] c | none=>false) = true:=by kernel_rfl
theorem fok94:FnOk Tryz.prog [0] 94 ⟨148,c94,[]⟩:=FnOk.by Tryz.func94 b94 p94 Tryz.ntmps94 (by rw [Tryz.results94]) (by kernel_rfl)
theorem b95:(match Tryz.f95.body with | some c=>rcOf c c95 | none=>none) = some c95:=by kernel_rfl
theorem p95:(match Tryz.f95.body with | some c=>codeB [0] c | none=>false) = true:=by kernel_rfl
theorem fok95:FnOk Tryz.prog [0] 95 ⟨8,c95,[.tmp 2]⟩:=FnOk.by Tryz.func95 b95 p95 Tryz.ntmps95 (by rw [Tryz.results95]) (by kernel_rfl)
theorem b96:(match Tryz.f96.body with | some c=>rcOf c c96 | none=>none) = some c96:=by kernel_rfl
theorem p96:(match Tryz.f96.body with | some c=>codeB [0] c | none=>false) = true:=by kernel_rfl
theorem fok96:FnOk Tryz.prog [0] 96 ⟨28,c96,[]⟩:=FnOk.by Tryz.func96 b96 p96 Tryz.ntmps96 (by rw [Tryz.results96]) (by kernel_rfl)
theorem b97:(match Tryz.f97.body with | some c=>rcOf c c97 | none=>none) = some c97:=by kernel_rfl
theorem p97:(match Tryz.f97.body with | some c=>codeB [0] c | none=>false) = true:=by kernel_rfl
theorem fok97:FnOk Tryz.prog [0] 97 ⟨34,c97,[.tmp 4]⟩:=FnOk.by Tryz.func97 b97 p97 Tryz.ntmps97 (by rw [Tryz.results97]) (by kernel_rfl)
theorem b100:(match Tryz.f100.body with | some c=>rcOf c c100 | none=>none) = some c100:=by kernel_rfl
theorem p100:(match Tryz.f100.body with | some c=>codeB [0] c | none=>false) = true:=by kernel_rfl
theorem fok100:FnOk Tryz.prog [0] 100 ⟨134,c100,[]⟩:=FnOk.by Tryz.func100 b100 p100 Tryz.ntmps100 (by rw [Tryz.results100]) (by kernel_rfl)
theorem b101:(match Tryz.f101.body with | some c=>rcOf c c101 | none=>none) = some c101:=by kernel_rfl
theorem p101:(match Tryz.f101.body with | some c=>codeB [0] c | none=>false) = true:=by kernel_rfl
theorem fok101:FnOk Tryz.prog [0] 101 ⟨6,c101,[.tmp 2]⟩:=FnOk.by Tryz.func101 b101 p101 Tryz.ntmps101 (by rw [Tryz.results101]) (by kernel_rfl)
theorem b102:(match Tryz.f102.body with | some c=>rcOf c c102 | none=>none) = some c102:=by kernel_rfl
theorem p102:(match Tryz.f102.body with | some c=>codeB [0] c | none=>false) = true:=by kernel_rfl
theorem fok102:FnOk Tryz.prog [0] 102 ⟨53,c102,[]⟩:=FnOk.by Tryz.func102 b102 p102 Tryz.ntmps102 (by rw [Tryz.results102]) (by kernel_rfl)
theorem b110:(match Tryz.f110.body with | some c=>rcOf c c110 | none=>none) = some c110:=by kernel_rfl
theorem p110:(match Tryz.f110.body with | some c=>codeB [0] c | none=>false) = true:=by kernel_rfl
theorem fok110:FnOk Tryz.prog [0] 110 ⟨19,c110,[.tmp 2]⟩:=FnOk.by Tryz.func110 b110 p110 Tryz.ntmps110 (by rw [Tryz.results110]) (by kernel_rfl)
end Go.Proofs.YtokbaaeimejjlaaGreatDoor.BkX
set_option maxRecDepth 100000
namespace Go.Proofs.YtokbaaeimejjlaaGreatDoor.BkX
open Go Go.Sp Go.BkX
theorem b111:(match Tryz.f111.body with | some c=>rcOf c c111 | none=>none) = some c111:=by kernel_rfl
theorem p111:(match Tryz.f111.body with | some c=>codeB [0] c | none=>false) = true:=by kernel_rfl
theorem fok111:FnOk Tryz.prog [0] 111 ⟨25,c111,[.tmp 2]⟩:=FnOk.by Tryz.func111 b111 p111 Tryz.ntmps111 (by rw [Tryz.results111]) (by kernel_rfl)
theorem b113:(match Tryz.f113.body with | some c=>rcOf c c113 | none=>none) = some c113:=by kernel_rfl
theorem p113:(match Tryz.f113.body with | some c=>codeB [0] c | none=>false) = true:=by kernel_rfl
theorem fok113:FnOk Tryz.prog [0] 113 ⟨49,c113,[]⟩:=FnOk.by Tryz.func113 b113 p113 Tryz.ntmps113 (by rw [Tryz.results113]) (by kernel_rfl)
theorem b119:(match Tryz.f119.body with | some c=>rcOf c c119 | none=>none) = some c119:=by kernel_rfl
theorem p119:(match Tryz.f119.body with | some c=>codeB [0] c | none=>false) = true:=by kernel_rfl
theorem fok119:FnOk Tryz.prog [0] 119 ⟨17,c119,[.tmp 4]⟩:=FnOk.by Tryz.func119 b119 p119 Tryz.ntmps119 (by rw [Tryz.results119]) (by kernel_rfl)
end Go.Proofs.YtokbaaeimejjlaaGreatDoor.BkX
set_option maxRecDepth 100000
namespace Go.Proofs.YtokbaaeimejjlaaGreatDoor.BkX
open Go Go.Sp Go.BkX
theorem tok3:TyOk Tryz.prog 3 ti3:=TyOk.by Tryz.underlying3 (inf:=Tryz.t3) (by kernel_rfl) (by kernel_rfl) (by kernel_rfl) (by kernel_rfl) (by kernel_rfl) (fun h=>by cases h)
theorem tok4:TyOk Tryz.prog 4 ti4:=TyOk.by Tryz.underlying4 (inf:=Tryz.t4) (by kernel_rfl) (by kernel_rfl) (by kernel_rfl) (by kernel_rfl) (by kernel_rfl) (fun h=>by cases h)
theorem tok5:TyOk Tryz.prog 5 ti5:=TyOk.by Tryz.underlying5 (inf:=Tryz.t5) (by kernel_rfl) (by kernel_rfl) (by kernel_rfl) (by kernel_rfl) (by kernel_rfl) (fun h=>by cases h)
theorem tok9:TyOk Tryz.prog 9 ti9:=TyOk.by Tryz.underlying9 (inf:=Tryz.t9) (by kernel_rfl) (by kernel_rfl) (by kernel_rfl) (by kernel_rfl) (by kernel_rfl) (fun h=>by cases h)
theorem tok22:TyOk Tryz.prog 22 ti22:=TyOk.by Tryz.underlying22 (inf:=Tryz.t22) (by kernel_rfl) (by kernel_rfl) (by kernel_rfl) (by kernel_rfl) (by kernel_rfl) (fun h=>by cases h)
theorem tok24:TyOk Tryz.prog 24 ti24:=TyOk.by Tryz.underlying24 (inf:=Tryz.t24) (by kernel_rfl) (by kernel_rfl) (by kernel_rfl) (by kernel_rfl) (by kernel_rfl) (fun h=>by cases h)
theorem tok27:TyOk Tryz.prog 27 ti27:=TyOk.by Tryz.underlying27 (inf:=Tryz.t27) (by kernel_rfl) (by kernel_rfl) (by kernel_rfl) (by kernel_rfl) (by kernel_rfl) (fun h=>by cases h)
theorem tok28:TyOk Tryz.prog 28 ti28:=TyOk.by Tryz.underlying28 (inf:=Tryz.t28) (by kernel_rfl) (by kernel_rfl) (by kernel_rfl) (by kernel_rfl) (by kernel_rfl) (fun h=>by cases h)
theorem tok37:TyOk Tryz.prog 37 ti37:=TyOk.by Tryz.underlying37 (inf:=Tryz.t37) (by kernel_rfl) (by kernel_rfl) (by kernel_rfl) (by kernel_rfl) (by kernel_rfl) (fun h=>by cases h)
theorem tok39:TyOk Tryz.prog 39 ti39:=TyOk.by Tryz.underlying39 (inf:=Tryz.t39) (by kernel_rfl) (by kernel_rfl) (by kernel_rfl) (by kernel_rfl) (by kernel_rfl) (fun h=>by cases h)
theorem tok64:TyOk Tryz.prog 64 ti64:=TyOk.by Tryz.underlying64 (inf:=Tryz.t64) (by kernel_rfl) (by kernel_rfl) (by kernel_rfl) (by kernel_rfl) (by kernel_rfl) (fun h=>by cases h)
theorem tok69:TyOk Tryz.prog 69 ti69:=TyOk.by Tryz.underlying69 (inf:=Tryz.t69) (by kernel_rfl) (by kernel_rfl) (by kernel_rfl) (by kernel_rfl) (by kernel_rfl) (fun h=>by cases h)
theorem tok74:TyOk Tryz.prog 74 ti74:=TyOk.by Tryz.underlying74 (inf:=Tryz.t74) (by kernel_rfl) (by kernel_rfl) (by kernel_rfl) (by kernel_rfl) (by kernel_rfl) (fun h=>by cases h)
theorem tok84:TyOk Tryz.prog 84 ti84:=TyOk.by Tryz.underlying84 (inf:=Tryz.t84) (by kernel_rfl) (by kernel_rfl) (by kernel_rfl) (by kernel_rfl) (by kernel_rfl) (fun _=>⟨_,rfl,Fl.ok (d:=8) (⟨by kernel_rfl,.inr (.inr (.inr (.inl ⟨17,3,[(.int .i64 0)],Tryz.underlying84,⟨by kernel_rfl,.inl ⟨⟨_,Tryz.underlying3⟩,_,_,rfl⟩⟩,by kernel_rfl⟩)))⟩) (by decide) ⟨_,Tryz.underlying84,rfl⟩ (by kernel_rfl)⟩)
theorem tok86:TyOk Tryz.prog 86 ti86:=TyOk.by Tryz.underlying86 (inf:=Tryz.t86) (by kernel_rfl) (by kernel_rfl) (by kernel_rfl) (by kernel_rfl) (by kernel_rfl) (fun h=>by cases h)
theorem tok87:TyOk Tryz.prog 87 ti87:=TyOk.by Tryz.underlying87 (inf:=Tryz.t87) (by kernel_rfl) (by kernel_rfl) (by kernel_rfl) (by kernel_rfl) (by kernel_rfl) (fun h=>by cases h)
theorem tok89:TyOk Tryz.prog 89 ti89:=TyOk.by Tryz.underlying89 (inf:=Tryz.t89) (by kernel_rfl) (by kernel_rfl) (by kernel_rfl) (by kernel_rfl) (by kernel_rfl) (fun h=>by cases h)
theorem tok92:TyOk Tryz.prog 92 ti92:=TyOk.by Tryz.underlying92 (inf:=Tryz.t92) (by kernel_rfl) (by kernel_rfl) (by kernel_rfl) (by kernel_rfl) (by kernel_rfl) (fun h=>by cases h)
theorem tok99:TyOk Tryz.prog 99 ti99:=TyOk.by Tryz.underlying99 (inf:=Tryz.t99) (by kernel_rfl) (by kernel_rfl) (by kernel_rfl) (by kernel_rfl) (by kernel_rfl) (fun _=>⟨_,rfl,Fl.ok (d:=8) (⟨by kernel_rfl,.inr (.inr (.inr (.inr ⟨_,Tryz.underlying99,by kernel_rfl,⟨by decide,rfl,[(.int .i64 0)],[(.bool false)],rfl,⟨by kernel_rfl,.inl ⟨⟨_,Tryz.underlying3⟩,_,_,rfl⟩⟩,⟨by decide,rfl,[(.bool false)],[],rfl,⟨by kernel_rfl,.inr (.inl ⟨Tryz.underlying4,_,rfl⟩)⟩,rfl⟩⟩⟩)))⟩) (by decide) ⟨_,Tryz.underlying99,rfl⟩ (by kernel_rfl)⟩)
theorem tok110:TyOk Tryz.prog 110 ti110:=TyOk.by Tryz.underlying110 (inf:=Tryz.t110) (by kernel_rfl) (by kernel_rfl) (by kernel_rfl) (by kernel_rfl) (by kernel_rfl) (fun h=>by cases h)
theorem tok112:TyOk Tryz.prog 112 ti112:=TyOk.by Tryz.underlying112 (inf:=Tryz.t112) (by kernel_rfl) (by kernel_rfl) (by kernel_rfl) (by kernel_rfl) (by kernel_rfl) (fun _=>⟨_,rfl,Fl.ok (d:=8) (⟨by kernel_rfl,.inr (.inr (.inr (.inl ⟨32,5,[(.int .u8 0)],Tryz.underlying112,⟨by kernel_rfl,.inl ⟨⟨_,Tryz.underlying5⟩,_,_,rfl⟩⟩,by kernel_rfl⟩)))⟩) (by decide) ⟨_,Tryz.underlying112,rfl⟩ (by kernel_rfl)⟩)
theorem tok113:TyOk Tryz.prog 113 ti113:=TyOk.by Tryz.underlying113 (inf:=Tryz.t113) (by kernel_rfl) (by kernel_rfl) (by kernel_rfl) (by kernel_rfl) (by kernel_rfl) (fun h=>by cases h)
theorem tok114:TyOk Tryz.prog 114 ti114:=TyOk.by Tryz.underlying114 (inf:=Tryz.t114) (by kernel_rfl) (by kernel_rfl) (by kernel_rfl) (by kernel_rfl) (by kernel_rfl) (fun h=>by cases h)
theorem tok123:TyOk Tryz.prog 123 ti123:=TyOk.by Tryz.underlying123 (inf:=Tryz.t123) (by kernel_rfl) (by kernel_rfl) (by kernel_rfl) (by kernel_rfl) (by kernel_rfl) (fun h=>by cases h)
theorem tok132:TyOk Tryz.prog 132 ti132:=TyOk.by Tryz.underlying132 (inf:=Tryz.t132) (by kernel_rfl) (by kernel_rfl) (by kernel_rfl) (by kernel_rfl) (by kernel_rfl) (fun h=>by cases h)
theorem ttOk:TOk Tryz.prog tt:=TOk.of_all (t:=ttTr) ⟨trivial,⟨trivial,⟨tok3,⟨trivial,trivial,⟨trivial,⟨tok39,trivial,trivial⟩,⟨trivial,⟨tok87,trivial,trivial⟩,trivial⟩⟩⟩,⟨trivial,⟨trivial,⟨trivial,trivial,⟨tok99,trivial,trivial⟩⟩,trivial⟩,⟨tok27,trivial,⟨trivial,trivial,⟨tok123,trivial,trivial⟩⟩⟩⟩⟩,⟨tok5,⟨tok9,⟨trivial,trivial,⟨trivial,trivial,⟨tok113,trivial,trivial⟩⟩⟩,⟨trivial,trivial,⟨trivial,⟨tok89,trivial,trivial⟩,trivial⟩⟩⟩,⟨trivial,⟨trivial,⟨tok37,⟨tok69,trivial,trivial⟩,trivial⟩,trivial⟩,trivial⟩⟩⟩,⟨trivial,⟨tok4,⟨trivial,⟨trivial,⟨trivial,⟨tok64,trivial,trivial⟩,trivial⟩,⟨trivial,trivial,⟨tok112,trivial,trivial⟩⟩⟩,⟨tok24,trivial,trivial⟩⟩,⟨trivial,⟨trivial,⟨trivial,⟨trivial,⟨tok132,trivial,trivial⟩,trivial⟩,trivial⟩,⟨trivial,⟨tok84,trivial,trivial⟩,trivial⟩⟩,⟨tok28,trivial,⟨trivial,⟨tok92,trivial,trivial⟩,trivial⟩⟩⟩⟩,⟨trivial,⟨trivial,⟨trivial,trivial,⟨trivial,trivial,⟨tok114,trivial,trivial⟩⟩⟩,⟨trivial,⟨trivial,⟨tok74,trivial,trivial⟩,trivial⟩,trivial⟩⟩,⟨trivial,⟨tok22,trivial,⟨trivial,⟨tok86,trivial,trivial⟩,trivial⟩⟩,⟨trivial,⟨trivial,trivial,⟨tok110,trivial,trivial⟩⟩,trivial⟩⟩⟩⟩⟩
theorem fnAll:fnTr.All (FnOk Tryz.prog [0]):=⟨trivial,⟨trivial,⟨fok3,⟨trivial,⟨fok15,⟨fok31,trivial,⟨fok95,trivial,trivial⟩⟩,⟨fok47,⟨fok79,trivial,trivial⟩,⟨fok111,trivial,trivial⟩⟩⟩,⟨fok23,⟨fok39,⟨fok71,trivial,trivial⟩,trivial⟩,⟨fok55,⟨fok87,trivial,trivial⟩,⟨fok119,trivial,trivial⟩⟩⟩⟩,⟨fok11,⟨trivial,⟨trivial,⟨fok67,trivial,trivial⟩,trivial⟩,⟨fok51,⟨fok83,trivial,trivial⟩,trivial⟩⟩,⟨fok27,⟨fok43,⟨fok75,trivial,trivial⟩,trivial⟩,⟨fok59,⟨fok91,trivial,trivial⟩,trivial⟩⟩⟩⟩,⟨trivial,⟨fok9,⟨fok17,⟨fok33,⟨fok65,trivial,trivial⟩,⟨fok97,trivial,trivial⟩⟩,⟨fok49,⟨fok81,trivial,trivial⟩,⟨fok113,trivial,trivial⟩⟩⟩,⟨fok25,⟨fok41,trivial,trivial⟩,⟨trivial,⟨fok89,trivial,trivial⟩,trivial⟩⟩⟩,⟨fok13,⟨trivial,⟨trivial,⟨fok69,trivial,trivial⟩,⟨fok101,trivial,trivial⟩⟩,⟨trivial,⟨fok85,trivial,trivial⟩,trivial⟩⟩,⟨fok29,⟨fok45,⟨fok77,trivial,trivial⟩,trivial⟩,⟨fok61,⟨fok93,trivial,trivial⟩,trivial⟩⟩⟩⟩⟩,⟨trivial,⟨trivial,⟨trivial,⟨fok16,⟨trivial,trivial,⟨fok96,trivial,trivial⟩⟩,⟨fok48,⟨fok80,trivial,trivial⟩,trivial⟩⟩,⟨trivial,⟨fok40,⟨fok72,trivial,trivial⟩,trivial⟩,⟨fok56,⟨fok88,trivial,trivial⟩,trivial⟩⟩⟩,⟨fok12,⟨fok20,⟨fok36,⟨fok68,trivial,trivial⟩,⟨fok100,trivial,trivial⟩⟩,⟨fok52,⟨fok84,trivial,trivial⟩,trivial⟩⟩,⟨trivial,⟨fok44,⟨fok76,trivial,trivial⟩,trivial⟩,⟨fok60,⟨fok92,trivial,trivial⟩,trivial⟩⟩⟩⟩,⟨trivial,⟨fok10,⟨fok18,⟨fok34,⟨fok66,trivial,trivial⟩,trivial⟩,⟨fok50,⟨fok82,trivial,trivial⟩,trivial⟩⟩,⟨trivial,⟨fok42,trivial,trivial⟩,⟨trivial,⟨fok90,trivial,trivial⟩,trivial⟩⟩⟩,⟨fok14,⟨fok22,⟨trivial,⟨fok70,trivial,trivial⟩,⟨fok102,trivial,trivial⟩⟩,⟨trivial,⟨fok86,trivial,trivial⟩,trivial⟩⟩,⟨trivial,⟨fok46,trivial,⟨fok110,trivial,trivial⟩⟩,⟨fok62,⟨fok94,trivial,trivial⟩,trivial⟩⟩⟩⟩⟩⟩
theorem fnsOk (f:FuncId) (r:RFn) (h:fns f = some r):FnOk Tryz.prog [0] f r:=fnAll.get h
end Go.Proofs.YtokbaaeimejjlaaGreatDoor.BkX
set_option maxRecDepth 100000
namespace Go.Proofs.YtokbaaeimejjlaaGreatDoor.BkX
open Go Go.Sp Go.BkXM Go.BkX
noncomputable section
theorem fk3:FnOk Tryz.prog (List.range tabs.length) 3 ⟨99,c3_23,[.tmp 8]⟩:=by
 have h:c3 = c3_23:=by kernel_rfl
 rw [←h];exact fok3
theorem fk9:FnOk Tryz.prog (List.range tabs.length) 9 ⟨21,c9_3,[.tmp 6]⟩:=by
 have h:c9 = c9_3:=by kernel_rfl
 rw [←h];exact fok9
theorem fk11:FnOk Tryz.prog (List.range tabs.length) 11 ⟨34,c11_19,[.tmp 6,.tmp 7]⟩:=by
 have h:c11 = c11_19:=by kernel_rfl
 rw [←h];exact fok11
theorem fk12:FnOk Tryz.prog (List.range tabs.length) 12 ⟨28,c12_16,[.tmp 6,.tmp 7]⟩:=by
 have h:c12 = c12_16:=by kernel_rfl
 rw [←h];exact fok12
theorem fk13:FnOk Tryz.prog (List.range tabs.length) 13 ⟨42,c13_30,[.tmp 6,.tmp 7]⟩:=by
 have h:c13 = c13_30:=by kernel_rfl
 rw [←h];exact fok13
theorem fk14:FnOk Tryz.prog (List.range tabs.length) 14 ⟨43,c14_33,[.tmp 6,.tmp 7]⟩:=by
 have h:c14 = c14_33:=by kernel_rfl
 rw [←h];exact fok14
theorem fk15:FnOk Tryz.prog (List.range tabs.length) 15 ⟨43,c15_31,[.tmp 4,.tmp 5]⟩:=by
 have h:c15 = c15_31:=by kernel_rfl
 rw [←h];exact fok15
theorem fk16:FnOk Tryz.prog (List.range tabs.length) 16 ⟨41,c16_29,[.tmp 4,.tmp 5]⟩:=by
 have h:c16 = c16_29:=by kernel_rfl
 rw [←h];exact fok16
theorem fk17:FnOk Tryz.prog (List.range tabs.length) 17 ⟨26,c17_26,[.tmp 4]⟩:=by
 have h:c17 = c17_26:=by kernel_rfl
 rw [←h];exact fok17
theorem fk34:FnOk Tryz.prog (List.range tabs.length) 34 ⟨37,c34_26,[.tmp 4,.tmp 5]⟩:=by
 have h:c34 = c34_26:=by kernel_rfl
 rw [←h];exact fok34
theorem fk36:FnOk Tryz.prog (List.range tabs.length) 36 ⟨106,c36_76,[.tmp 2]⟩:=by
 have h:c36 = c36_76:=by kernel_rfl
 rw [←h];exact fok36
theorem fk43:FnOk Tryz.prog (List.range tabs.length) 43 ⟨33,c43_32,[.tmp 4,.tmp 5]⟩:=by
 have h:c43 = c43_32:=by kernel_rfl
 rw [←h];exact fok43
theorem fk44:FnOk Tryz.prog (List.range tabs.length) 44 ⟨19,c44_22,[.tmp 4]⟩:=by
 have h:c44 = c44_22:=by kernel_rfl
 rw [←h];exact fok44
theorem fk45:FnOk Tryz.prog (List.range tabs.length) 45 ⟨35,c45_20,[.tmp 6]⟩:=by
 have h:c45 = c45_20:=by kernel_rfl
 rw [←h];exact fok45
theorem fk46:FnOk Tryz.prog (List.range tabs.length) 46 ⟨41,c46_26,[.tmp 4]⟩:=by
 have h:c46 = c46_26:=by kernel_rfl
 rw [←h];exact fok46
theorem fk47:FnOk Tryz.prog (List.range tabs.length) 47 ⟨18,c47_20,[.tmp 4]⟩:=by
 have h:c47 = c47_20:=by kernel_rfl
 rw [←h];exact fok47
theorem fk49:FnOk Tryz.prog (List.range tabs.length) 49 ⟨26,c49_28,[.tmp 4]⟩:=by
 have h:c49 = c49_28:=by kernel_rfl
 rw [←h];exact fok49
theorem fk50:FnOk Tryz.prog (List.range tabs.length) 50 ⟨21,c50_20,[.tmp 4]⟩:=by
 have h:c50 = c50_20:=by kernel_rfl
 rw [←h];exact fok50
theorem fk51:FnOk Tryz.prog (List.range tabs.length) 51 ⟨38,c51_23,[.tmp 6]⟩:=by
 have h:c51 = c51_23:=by kernel_rfl
 rw [←h];exact fok51
theorem fk55:FnOk Tryz.prog (List.range tabs.length) 55 ⟨110,c55_91,[.tmp 2,.tmp 3]⟩:=by
 have h:c55 = c55_91:=by kernel_rfl
 rw [←h];exact fok55
theorem fk59:FnOk Tryz.prog (List.range tabs.length) 59 ⟨15,c59_3,[.tmp 6]⟩:=by
 have h:c59 = c59_3:=by kernel_rfl
 rw [←h];exact fok59
theorem fk62:FnOk Tryz.prog (List.range tabs.length) 62 ⟨15,c62_3,[.tmp 6]⟩:=by
 have h:c62 = c62_3:=by kernel_rfl
 rw [←h];exact fok62
theorem fk75:FnOk Tryz.prog (List.range tabs.length) 75 ⟨18,c75_27,[.cell 2 99]⟩:=by
 have h:c75 = c75_27:=by kernel_rfl
 rw [←h];exact fok75
theorem fk76:FnOk Tryz.prog (List.range tabs.length) 76 ⟨22,c76_8,[.cell 4 99]⟩:=by
 have h:c76 = c76_8:=by kernel_rfl
 rw [←h];exact fok76
theorem fk77:FnOk Tryz.prog (List.range tabs.length) 77 ⟨22,c77_27,[.tmp 2]⟩:=by
 have h:c77 = c77_27:=by kernel_rfl
 rw [←h];exact fok77
theorem fk80:FnOk Tryz.prog (List.range tabs.length) 80 ⟨34,c80_15,[.tmp 4]⟩:=by
 have h:c80 = c80_15:=by kernel_rfl
 rw [←h];exact fok80
theorem fk81:FnOk Tryz.prog (List.range tabs.length) 81 ⟨32,c81_5,[.tmp 6]⟩:=by
 have h:c81 = c81_5:=by kernel_rfl
 rw [←h];exact fok81
theorem fk91:FnOk Tryz.prog (List.range tabs.length) 91 ⟨25,c91_23,[.tmp 2]⟩:=by
 have h:c91 = c91_23:=by kernel_rfl
 rw [←h];exact fok91
theorem fk92:FnOk Tryz.prog (List.range tabs.length) 92 ⟨25,c92_23,[.tmp 2]⟩:=by
 have h:c92 = c92_23:=by kernel_rfl
 rw [←h];exact fok92
theorem fk93:FnOk Tryz.prog (List.range tabs.length) 93 ⟨67,c93_42,[.tmp 10,.tmp 11]⟩:=by
 have h:c93 = c93_42:=by kernel_rfl
 rw [←h];exact fok93
theorem fk48:FnOk Tryz.prog (List.range tabs.length) 48 ⟨26,c48_18,[.tmp 6]⟩:=by
 have h:c48 = c48_18:=by kernel_rfl
 rw [←h];exact fok48
theorem tabs_ne:∀ t ∈ tabs,t ≠ []:=by intro t ht;simp [tabs] at ht;subst ht;intro h;cases h
theorem tabs_pl:∀ t ∈ tabs,∀ x ∈ t,plain1 x = true:=by intro t ht x hx;simp [tabs] at ht;subst ht;simp [tab0] at hx;rcases hx with rfl | rfl | rfl | rfl | rfl | rfl | rfl | rfl | rfl | rfl | rfl | rfl | rfl | rfl | rfl | rfl | rfl | rfl | rfl | rfl | rfl | rfl | rfl | rfl | rfl | rfl | rfl | rfl | rfl | rfl | rfl | rfl <;> rfl
theorem inl_ok (hm:Tryz.prog.follows .mixedOrders = true) {pu:PureF} (hg98:PureOk Tryz.prog tabs 98 (pu 98)) (hg43:PureOk Tryz.prog tabs 43 (pu 43)) (h0:ObjOk Tryz.prog tabs 3 0 48 (pu 10480)) (h1:ObjOk Tryz.prog tabs 3 1 48 (pu 10481)):CallOk Tryz.prog (List.range tabs.length) (inl pu):=fun g args H v H' h=>by
 replace h:bb (Nat.beq g 98) (giveF tabs 1 (pu 98) args H) (bb (Nat.beq g 43) (giveF tabs 1 (pu 43) args H) (bb (Nat.beq g 48) (bb (an (oo (nthL args 1) false (fun v=>nt (isS (vSl v)))) true) (objG tabs [[none,none,none,some 1],[some 1],[none]] 3 [] [] (pu 10480) args H) (objG tabs [[none,none,none,some 1],[none],[none]] 3 [.tmp 1 false] [false] (pu 10481) args H)) (none))) = some (v,H'):=h
 have hq:=bb_cases h;clear h;rcases hq with ⟨e,h⟩ | ⟨_,h⟩
 ·obtain rfl := Nat.eq_of_beq_eq_true e
  exact giveF_ok tabs_ne tabs_pl hg98 h
 have hq:=bb_cases h;clear h;rcases hq with ⟨e,h⟩ | ⟨_,h⟩
 ·obtain rfl := Nat.eq_of_beq_eq_true e
  exact giveF_ok tabs_ne tabs_pl hg43 h
 have hq:=bb_cases h;clear h;rcases hq with ⟨e,h⟩ | ⟨_,h⟩
 ·obtain rfl := Nat.eq_of_beq_eq_true e
  have hq:=bb_any h;clear h;rcases hq with h | h
  ·exact objG_ok (rs:=[]) tabs_ne tabs_pl h0 h
  exact objG_ok (rs:=[.tmp 1 false]) tabs_ne tabs_pl h1 h
 cases h
theorem disp_ok (hm:Tryz.prog.follows .mixedOrders = true) (hw:PureOk Tryz.prog tabs 10 orc10∧PureOk Tryz.prog tabs 84 orc84∧PureOk Tryz.prog tabs 98 orc98) {pu:PureF} (hall:(∀ g,isP g = true→PureOk Tryz.prog tabs g (pu g))∧PureOk Tryz.prog tabs 98 (pu 98)∧PureOk Tryz.prog tabs 43 (pu 43)∧ObjOk Tryz.prog tabs 3 0 48 (pu 10480)∧ObjOk Tryz.prog tabs 3 1 48 (pu 10481)):(∀ g,isP g = true→PureOk Tryz.prog tabs g (disp pu g))∧PureOk Tryz.prog tabs 98 (disp pu 98)∧PureOk Tryz.prog tabs 43 (disp pu 43)∧ObjOk Tryz.prog tabs 3 0 48 (disp pu 10480)∧ObjOk Tryz.prog tabs 3 1 48 (disp pu 10481):=by
 obtain ⟨hpu,hg98,hg43,h0,h4⟩:=hall
 have hcall:=callP_ok (P:=Tryz.prog) (tabs:=tabs) tabs_ne tabs_pl (inl_ok hm hg98 hg43 h0 h4) hpu
 refine ⟨fun g hg=>?_,?_,?_,?_,?_⟩
 ·have hg : g ∈ plist := memN_iff.1 hg
  simp only [plist,List.mem_cons,List.not_mem_nil,or_false] at hg
  rcases hg with rfl | rfl | rfl | rfl | rfl | rfl | rfl | rfl | rfl | rfl | rfl | rfl | rfl | rfl | rfl | rfl | rfl | rfl | rfl | rfl | rfl | rfl | rfl | rfl | rfl | rfl | rfl | rfl | rfl | rfl | rfl
  ·exact pureOk_of_run (tabs:=tabs) (f:=m3 pu L) ttOk hm hcall fk3 fun args v h hc=>r3 pu L rfl h hc
  ·exact pureOk_of_run (tabs:=tabs) (f:=m9 pu L) ttOk hm hcall fk9 fun args v h hc=>r9 pu L rfl h hc
  ·exact hw.1
  ·exact pureOk_of_run (tabs:=tabs) (f:=m11 pu L) ttOk hm hcall fk11 fun args v h hc=>r11 pu L rfl h hc
  ·exact pureOk_of_run (tabs:=tabs) (f:=m12 pu L) ttOk hm hcall fk12 fun args v h hc=>r12 pu L rfl h hc
  ·exact pureOk_of_run (tabs:=tabs) (f:=m13 pu L) ttOk hm hcall fk13 fun args v h hc=>r13 pu L rfl h hc
  ·exact pureOk_of_run (tabs:=tabs) (f:=m14 pu L) ttOk hm hcall fk14 fun args v h hc=>r14 pu L rfl h hc
  ·exact pureOk_of_run (tabs:=tabs) (f:=m15 pu L) ttOk hm hcall fk15 fun args v h hc=>r15 pu L rfl h hc
  ·exact pureOk_of_run (tabs:=tabs) (f:=m16 pu L) ttOk hm hcall fk16 fun args v h hc=>r16 pu L rfl h hc
  ·exact pureOk_of_run (tabs:=tabs) (f:=m17 pu L) ttOk hm hcall fk17 fun args v h hc=>r17 pu L rfl h hc
  ·exact pureOk_of_run (tabs:=tabs) (f:=m34 pu L) ttOk hm hcall fk34 fun args v h hc=>r34 pu L rfl h hc
  ·exact pureOk_of_run (tabs:=tabs) (f:=m36 pu L) ttOk hm hcall fk36 fun args v h hc=>r36 pu L rfl h hc
  ·exact pureOk_of_run (tabs:=tabs) (f:=m44 pu L) ttOk hm hcall fk44 fun args v h hc=>r44 pu L rfl h hc
  ·exact pureOk_of_run (tabs:=tabs) (f:=m45 pu L) ttOk hm hcall fk45 fun args v h hc=>r45 pu L rfl h hc
  ·exact pureOk_of_run (tabs:=tabs) (f:=m46 pu L) ttOk hm hcall fk46 fun args v h hc=>r46 pu L rfl h hc
  ·exact pureOk_of_run (tabs:=tabs) (f:=m47 pu L) ttOk hm hcall fk47 fun args v h hc=>r47 pu L rfl h hc
  ·exact pureOk_of_run (tabs:=tabs) (f:=m49 pu L) ttOk hm hcall fk49 fun args v h hc=>r49 pu L rfl h hc
  ·exact pureOk_of_run (tabs:=tabs) (f:=m50 pu L) ttOk hm hcall fk50 fun args v h hc=>r50 pu L rfl h hc
  ·exact pureOk_of_run (tabs:=tabs) (f:=m51 pu L) ttOk hm hcall fk51 fun args v h hc=>r51 pu L rfl h hc
  ·exact pureOk_of_run (tabs:=tabs) (f:=m55 pu L) ttOk hm hcall fk55 fun args v h hc=>r55 pu L rfl h hc
  ·exact pureOk_of_run (tabs:=tabs) (f:=m59 pu L) ttOk hm hcall fk59 fun args v h hc=>r59 pu L rfl h hc
  ·exact pureOk_of_run (tabs:=tabs) (f:=m62 pu L) ttOk hm hcall fk62 fun args v h hc=>r62 pu L rfl h hc
  ·exact pureOk_of_run (tabs:=tabs) (f:=m75 pu L) ttOk hm hcall fk75 fun args v h hc=>r75 pu L rfl h hc
  ·exact pureOk_of_run (tabs:=tabs) (f:=m76 pu L) ttOk hm hcall fk76 fun args v h hc=>r76 pu L rfl h hc
  ·exact pureOk_of_run (tabs:=tabs) (f:=m77 pu L) ttOk hm hcall fk77 fun args v h hc=>r77 pu L rfl h hc
  ·exact pureOk_of_run (tabs:=tabs) (f:=m80 pu L) ttOk hm hcall fk80 fun args v h hc=>r80 pu L rfl h hc
  ·exact pureOk_of_run (tabs:=tabs) (f:=m81 pu L) ttOk hm hcall fk81 fun args v h hc=>r81 pu L rfl h hc
  ·exact hw.2.1
  ·exact pureOk_of_run (tabs:=tabs) (f:=m91 pu L) ttOk hm hcall fk91 fun args v h hc=>r91 pu L rfl h hc
  ·exact pureOk_of_run (tabs:=tabs) (f:=m92 pu L) ttOk hm hcall fk92 fun args v h hc=>r92 pu L rfl h hc
  ·exact pureOk_of_run (tabs:=tabs) (f:=m93 pu L) ttOk hm hcall fk93 fun args v h hc=>r93 pu L rfl h hc
 ·exact hw.2.2
 ·exact pureOk_of_run (tabs:=tabs) (f:=m43 pu L) ttOk hm hcall fk43 fun args v h hc=>r43 pu L rfl h hc
 ·exact objOk_of_run (tabs:=tabs) (f:=m10480 pu L) ttOk hm hcall fk48 fun args os z h1 h2 h3 h=>r10480 pu L rfl h1 h2 h3 h
 ·exact objOk_of_run (tabs:=tabs) (f:=m10481 pu L) ttOk hm hcall fk48 fun args os z h1 h2 h3 h=>r10481 pu L rfl h1 h2 h3 h
theorem all_ok (hm:Tryz.prog.follows .mixedOrders = true) (hw:PureOk Tryz.prog tabs 10 orc10∧PureOk Tryz.prog tabs 84 orc84∧PureOk Tryz.prog tabs 98 orc98):∀ n,(∀ g,isP g = true→PureOk Tryz.prog tabs g (puN n g))∧PureOk Tryz.prog tabs 98 (puN n 98)∧PureOk Tryz.prog tabs 43 (puN n 43)∧ObjOk Tryz.prog tabs 3 0 48 (puN n 10480)∧ObjOk Tryz.prog tabs 3 1 48 (puN n 10481):=fun n=>by
 induction n with
 | zero =>
  refine ⟨fun g hg=>?_,?_,?_,?_,?_⟩
  ·have hg : g ∈ plist := memN_iff.1 hg
   simp only [plist,List.mem_cons,List.not_mem_nil,or_false] at hg
   rcases hg with rfl | rfl | rfl | rfl | rfl | rfl | rfl | rfl | rfl | rfl | rfl | rfl | rfl | rfl | rfl | rfl | rfl | rfl | rfl | rfl | rfl | rfl | rfl | rfl | rfl | rfl | rfl | rfl | rfl | rfl | rfl
   ·exact ⟨enter_ok fk3,fun args v h=>by cases h⟩
   ·exact ⟨enter_ok fk9,fun args v h=>by cases h⟩
   ·exact ⟨(hw.1).1,fun args v h=>by cases h⟩
   ·exact ⟨enter_ok fk11,fun args v h=>by cases h⟩
   ·exact ⟨enter_ok fk12,fun args v h=>by cases h⟩
   ·exact ⟨enter_ok fk13,fun args v h=>by cases h⟩
   ·exact ⟨enter_ok fk14,fun args v h=>by cases h⟩
   ·exact ⟨enter_ok fk15,fun args v h=>by cases h⟩
   ·exact ⟨enter_ok fk16,fun args v h=>by cases h⟩
   ·exact ⟨enter_ok fk17,fun args v h=>by cases h⟩
   ·exact ⟨enter_ok fk34,fun args v h=>by cases h⟩
   ·exact ⟨enter_ok fk36,fun args v h=>by cases h⟩
   ·exact ⟨enter_ok fk44,fun args v h=>by cases h⟩
   ·exact ⟨enter_ok fk45,fun args v h=>by cases h⟩
   ·exact ⟨enter_ok fk46,fun args v h=>by cases h⟩
   ·exact ⟨enter_ok fk47,fun args v h=>by cases h⟩
   ·exact ⟨enter_ok fk49,fun args v h=>by cases h⟩
   ·exact ⟨enter_ok fk50,fun args v h=>by cases h⟩
   ·exact ⟨enter_ok fk51,fun args v h=>by cases h⟩
   ·exact ⟨enter_ok fk55,fun args v h=>by cases h⟩
   ·exact ⟨enter_ok fk59,fun args v h=>by cases h⟩
   ·exact ⟨enter_ok fk62,fun args v h=>by cases h⟩
   ·exact ⟨enter_ok fk75,fun args v h=>by cases h⟩
   ·exact ⟨enter_ok fk76,fun args v h=>by cases h⟩
   ·exact ⟨enter_ok fk77,fun args v h=>by cases h⟩
   ·exact ⟨enter_ok fk80,fun args v h=>by cases h⟩
   ·exact ⟨enter_ok fk81,fun args v h=>by cases h⟩
   ·exact ⟨(hw.2.1).1,fun args v h=>by cases h⟩
   ·exact ⟨enter_ok fk91,fun args v h=>by cases h⟩
   ·exact ⟨enter_ok fk92,fun args v h=>by cases h⟩
   ·exact ⟨enter_ok fk93,fun args v h=>by cases h⟩
  ·exact ⟨(hw.2.2).1,fun args v h=>by cases h⟩
  ·exact ⟨enter_ok fk43,fun args v h=>by cases h⟩
  ·exact ⟨enter_ok fk48,fun args os z h1 h2 h3 h=>by cases h⟩
  ·exact ⟨enter_ok fk48,fun args os z h1 h2 h3 h=>by cases h⟩
 | succ n ih=>exact disp_ok hm hw ih
theorem pu_ok (hm:Tryz.prog.follows .mixedOrders = true) (hw:PureOk Tryz.prog tabs 10 orc10∧PureOk Tryz.prog tabs 84 orc84∧PureOk Tryz.prog tabs 98 orc98):∀ n g,isP g = true→PureOk Tryz.prog tabs g (puN n g):=fun n=>(all_ok hm hw n).1
end
end Go.Proofs.YtokbaaeimejjlaaGreatDoor.BkX
namespace Go.Proofs
open Go Go.RowKit Go.Shelf
attribute [local go_sem] Oper.semAt_some

def BkUp {r:Nat} (hr:0 < r) (k:Nat):List (Fin r):=(List.range k).map fun i=>⟨i % r,Nat.mod_lt _ hr⟩
theorem BkUp_succ {r:Nat} (hr:0 < r) (k:Nat):BkUp hr (k + 1) = BkUp hr k ++ [⟨k % r,Nat.mod_lt _ hr⟩]:=by simp [BkUp,List.range_succ]
theorem BkUp_len {r:Nat} (hr:0 < r) (k:Nat):(BkUp hr k).length = k:=by simp [BkUp]

set_option maxRecDepth 100000 in
set_option maxHeartbeats 4000000 in
theorem bkChunk1 (F : Fence) (n : Nat) (h7 : F.fn 127) (hro : F.round = none) (hn : 1 ≤ n) (l Bs Bn b off r c N cap : Nat) (hr : 0 < r) (hc : 1 ≤ c) (hc4 : c ≤ 4) (hN : N = r * c) (hrc : N ≤ 16) (hcap : N ≤ cap) (J Jx : List (Fin r) → World → Prop) (hJd : ∀ s W, J s W → J s W.drew)
 (hY : ∀ pre (x : Fin r) W, J pre W → pre.length < r → YieldAt F (n - 1) Tryz.prog l #[.slice (some ⟨b, off + x.1 * c, none⟩) c c] W fun e W' =>
   (e = .returned (.bool true)∧J (pre ++ [x]) W'∧(W'.cell? ⟨Bs,0,none⟩ = W.cell? ⟨Bs,0,none⟩∧W'.cell? ⟨Bn,0,none⟩ = W.cell? ⟨Bn,0,none⟩))∨(e = .returned (.bool false)∧Jx (pre ++ [x]) W'))
 (W:World) (hBs:W.cell? ⟨Bs,0,none⟩ = some (.slice (some ⟨b,off,none⟩) N cap)) (hBn:W.cell? ⟨Bn,0,none⟩ = some (.int .i64 c)) (h0:J [] W) :
 CallsIn F n Tryz.prog 127 #[.func (.yield l) #[] #[], .pointer (some ⟨Bs, 0, none⟩), .pointer (some ⟨Bn, 0, none⟩)] W fun e W' => (∃ v, e = .returned v) ∧
  ((∃ ys,ys = BkUp hr r∧J ys W')∨(∃ pre,True∧Jx pre W')):=by
 refine callsIn_of_wp Tryz.func127 rfl h7 ?_ hro
 simp only [Tryz.ntmps127,List.size_toArray,List.length_cons,List.length_nil,Nat.reduceAdd,Nat.reduceSub,Array.replicate_succ,Array.replicate_zero,List.push_toArray,List.append_toArray,List.nil_append,List.cons_append]
 gi_wp2
 gi_loopw [4] (fun i wr => ∃ k q : Nat, k ≤ r ∧ q = k * c ∧ i = .int .i64 q ∧ J (BkUp hr k) wr ∧ wr.cell? ⟨Bs, 0, none⟩ = some (.slice (some ⟨b, off, none⟩) N cap) ∧ wr.cell? ⟨Bn, 0, none⟩ = some (.int .i64 c))
  (fun i _=>N - (intOf i).toNat)
 case atStart=>exact ⟨0,0,Nat.zero_le _,by simp,rfl,h0,hBs,hBn⟩
 case round=>
  obtain ⟨k,q,hk,hq,rfl,hJs,hs,hnn⟩:=hrel
  by_cases hlt:k < r
  ·obtain ⟨fn, tmps, assign, body, hy, hR⟩ := hY _ ⟨k, hlt⟩ wr.drew (hJd _ _ hJs) (by rw [BkUp_len]; exact hlt)
   have e1:q + c≤N:=by rw [hq,hN,←Nat.succ_mul];exact Nat.mul_le_mul_right c hlt
   have hq2:Hid ((k + 1) * c = q + c):=by show (k + 1) * c = q + c;rw [Nat.succ_mul,hq]
   dsimp only at hy
   rw [←hq] at hy
   have hmod:(⟨k % r,Nat.mod_lt _ hr⟩:Fin r) = ⟨k,hlt⟩:=by simp [Nat.mod_eq_of_lt hlt]
   have hJn:Hid (∀ W',J (BkUp hr k ++ [⟨k,hlt⟩]) W'→J (BkUp hr (k + 1)) W'):=fun W' h=>by rw [BkUp_succ,hmod];exact h
   have hnc:c≤N - q:=by omega
   clear hq hN hmod hY hJd hBs hBn h0 hJs
   gi_wp2
   gi_region
   all_goals (try rw [if_neg (show ¬ N - q < c by omega)])
   all_goals gi_wp2
   all_goals
    refine hR.mono ?_
    rintro e W3 (⟨rfl,hJ3,hs3,hn3⟩ | ⟨rfl,hJx3⟩)
    ·have hs4 : W3.cell? ⟨Bs, 0, none⟩ = some (.slice (some ⟨b, off, none⟩) N cap) := hs3.trans hs
     have hn4:W3.cell? ⟨Bn,0,none⟩ = some (.int .i64 c):=hn3.trans hnn
     clear hs3 hn3 hs hnn
     gi_wp2
     go_roundw
     case rel=>exact ⟨k + 1,q + c,by omega,hq2.out.symm,by simp,hJn.out _ hJ3,hs4,hn4⟩
     case measure=>simp [intOf];omega
    ·gi_wp2
     refine bodyPost_ret (results_none rfl _ _ _) rfl ?_
     exact ⟨⟨_,rfl⟩,.inr ⟨_,trivial,hJx3⟩⟩
  ·obtain rfl : k = r := by omega
   obtain rfl:q = N:=by rw [hq,hN]
   gi_wp2
   go_end0
   exact ⟨⟨_,rfl⟩,.inl ⟨_,rfl,hJs⟩⟩
end Go.Proofs
