/- Made from wip. -/
import Derived.Test.YtflonlkiajhhjaaGreatDoorProg
import Derived.Test.YtflonlkiajhhjaaGreatDoorSpObjx
import Derived.Test.YtflonlkiajhhjaaGreatDoorTpFCode

set_option maxRecDepth 100000
namespace Go.Proofs.YtflonlkiajhhjaaGreatDoor.TpF
open Go Go.Sp Go.TpF
theorem b9:(match Tryz.f9.body with | some c=>BF c c9 | none=>none)=some c9:=by kernel_rfl
theorem p9:(match Tryz.f9.body with | some c=>AU [0,1] c | none=>false)=true:=by kernel_rfl
theorem Ai3:Ar Tryz.prog [0,1] 9 ⟨183,c9,[.tmp 4]⟩:=Ar.by Tryz.func9 b9 p9 Tryz.ntmps9 (by rw[Tryz.results9]) (by kernel_rfl)
theorem b15:(match Tryz.f15.body with | some c=>BF c c15 | none=>none)=some c15:=by kernel_rfl
theorem p15:(match Tryz.f15.body with | some c=>AU [0,1] c | none=>false)=true:=by kernel_rfl
theorem Ai4:Ar Tryz.prog [0,1] 15 ⟨4,c15,[.tmp 2]⟩:=Ar.by Tryz.func15 b15 p15 Tryz.ntmps15 (by rw[Tryz.results15]) (by kernel_rfl)
theorem b16:(match Tryz.f16.body with | some c=>BF c c16 | none=>none)=some c16:=by kernel_rfl
theorem p16:(match Tryz.f16.body with | some c=>AU [0,1] c | none=>false)=true:=by kernel_rfl
theorem vT:Ar Tryz.prog [0,1] 16 ⟨27,c16,[.tmp 4]⟩:=Ar.by Tryz.func16 b16 p16 Tryz.ntmps16 (by rw[Tryz.results16]) (by kernel_rfl)
theorem b18:(match Tryz.f18.body with | some c=>BF c c18 | none=>none)=some c18:=by kernel_rfl
theorem p18:(match Tryz.f18.body with | some c=>AU [0,1] c | none=>false)=true:=by kernel_rfl
theorem vU:Ar Tryz.prog [0,1] 18 ⟨17,c18,[.tmp 4]⟩:=Ar.by Tryz.func18 b18 p18 Tryz.ntmps18 (by rw[Tryz.results18]) (by kernel_rfl)
theorem b22:(match Tryz.f22.body with | some c=>BF c c22 | none=>none)=some c22:=by kernel_rfl
theorem p22:(match Tryz.f22.body with | some c=>AU [0,1] c | none=>false)=true:=by kernel_rfl
theorem vV:Ar Tryz.prog [0,1] 22 ⟨26,c22,[.tmp 4]⟩:=Ar.by Tryz.func22 b22 p22 Tryz.ntmps22 (by rw[Tryz.results22]) (by kernel_rfl)
theorem b24:(match Tryz.f24.body with | some c=>BF c c24 | none=>none)=some c24:=by kernel_rfl
theorem p24:(match Tryz.f24.body with | some c=>AU [0,1] c | none=>false)=true:=by kernel_rfl
theorem Zv:Ar Tryz.prog [0,1] 24 ⟨24,c24,[.tmp 0]⟩:=Ar.by Tryz.func24 b24 p24 Tryz.ntmps24 (by rw[Tryz.results24]) (by kernel_rfl)
theorem b30:(match Tryz.f30.body with | some c=>BF c c30 | none=>none)=some c30:=by kernel_rfl
theorem p30:(match Tryz.f30.body with | some c=>AU [0,1] c | none=>false)=true:=by kernel_rfl
theorem vW:Ar Tryz.prog [0,1] 30 ⟨50,c30,[.tmp 0]⟩:=Ar.by Tryz.func30 b30 p30 Tryz.ntmps30 (by rw[Tryz.results30]) (by kernel_rfl)
theorem b39:(match Tryz.f39.body with | some c=>BF c c39 | none=>none)=some c39:=by kernel_rfl
theorem p39:(match Tryz.f39.body with | some c=>AU [0,1] c | none=>false)=true:=by kernel_rfl
theorem vX:Ar Tryz.prog [0,1] 39 ⟨20,c39,[.tmp 0]⟩:=Ar.by Tryz.func39 b39 p39 Tryz.ntmps39 (by rw[Tryz.results39]) (by kernel_rfl)
theorem b40:(match Tryz.f40.body with | some c=>BF c c40 | none=>none)=some c40:=by kernel_rfl
theorem p40:(match Tryz.f40.body with | some c=>AU [0,1] c | none=>false)=true:=by kernel_rfl
theorem vY:Ar Tryz.prog [0,1] 40 ⟨15,c40,[.tmp 2]⟩:=Ar.by Tryz.func40 b40 p40 Tryz.ntmps40 (by rw[Tryz.results40]) (by kernel_rfl)
theorem b41:(match Tryz.f41.body with | some c=>BF c c41 | none=>none)=some c41:=by kernel_rfl
theorem p41:(match Tryz.f41.body with | some c=>AU [0,1] c | none=>false)=true:=by kernel_rfl
theorem vZ:Ar Tryz.prog [0,1] 41 ⟨38,c41,[.tmp 4,.tmp 5]⟩:=Ar.by Tryz.func41 b41 p41 Tryz.ntmps41 (by rw[Tryz.results41]) (by kernel_rfl)
theorem b42:(match Tryz.f42.body with | some c=>BF c c42 | none=>none)=some c42:=by kernel_rfl
theorem p42:(match Tryz.f42.body with | some c=>AU [0,1] c | none=>false)=true:=by kernel_rfl
theorem wB:Ar Tryz.prog [0,1] 42 ⟨45,c42,[.tmp 4,.tmp 5]⟩:=Ar.by Tryz.func42 b42 p42 Tryz.ntmps42 (by rw[Tryz.results42]) (by kernel_rfl)
theorem b43:(match Tryz.f43.body with | some c=>BF c c43 | none=>none)=some c43:=by kernel_rfl
theorem p43:(match Tryz.f43.body with | some c=>AU [0,1] c | none=>false)=true:=by kernel_rfl
theorem wC:Ar Tryz.prog [0,1] 43 ⟨39,c43,[.cell 4 41,.tmp 5]⟩:=Ar.by Tryz.func43 b43 p43 Tryz.ntmps43 (by rw[Tryz.results43]) (by kernel_rfl)
theorem b44:(match Tryz.f44.body with | some c=>BF c c44 | none=>none)=some c44:=by kernel_rfl
theorem p44:(match Tryz.f44.body with | some c=>AU [0,1] c | none=>false)=true:=by kernel_rfl
theorem wI:Ar Tryz.prog [0,1] 44 ⟨11,c44,[]⟩:=Ar.by Tryz.func44 b44 p44 Tryz.ntmps44 (by rw[Tryz.results44]) (by kernel_rfl)
theorem b46:(match Tryz.f46.body with | some c=>BF c c46 | none=>none)=some c46:=by kernel_rfl
theorem p46:(match Tryz.f46.body with | some c=>AU [0,1] c | none=>false)=true:=by kernel_rfl
theorem Ai5:Ar Tryz.prog [0,1] 46 ⟨25,c46,[.tmp 2]⟩:=Ar.by Tryz.func46 b46 p46 Tryz.ntmps46 (by rw[Tryz.results46]) (by kernel_rfl)
theorem b54:(match Tryz.f54.body with | some c=>BF c c54 | none=>none)=some c54:=by kernel_rfl
theorem p54:(match Tryz.f54.body with | some c=>AU [0,1] c | none=>false)=true:=by kernel_rfl
theorem wJ:Ar Tryz.prog [0,1] 54 ⟨16,c54,[.cell 2 99,.tmp 3]⟩:=Ar.by Tryz.func54 b54 p54 Tryz.ntmps54 (by rw[Tryz.results54]) (by kernel_rfl)
theorem b56:(match Tryz.f56.body with | some c=>BF c c56 | none=>none)=some c56:=by kernel_rfl
theorem p56:(match Tryz.f56.body with | some c=>AU [0,1] c | none=>false)=true:=by kernel_rfl
theorem wK:Ar Tryz.prog [0,1] 56 ⟨15,c56,[.tmp 4]⟩:=Ar.by Tryz.func56 b56 p56 Tryz.ntmps56 (by rw[Tryz.results56]) (by kernel_rfl)
theorem b57:(match Tryz.f57.body with | some c=>BF c c57 | none=>none)=some c57:=by kernel_rfl
theorem p57:(match Tryz.f57.body with | some c=>AU [0,1] c | none=>false)=true:=by kernel_rfl
theorem wL:Ar Tryz.prog [0,1] 57 ⟨8,c57,[.cell 2 41]⟩:=Ar.by Tryz.func57 b57 p57 Tryz.ntmps57 (by rw[Tryz.results57]) (by kernel_rfl)
theorem b61:(match Tryz.f61.body with | some c=>BF c c61 | none=>none)=some c61:=by kernel_rfl
theorem p61:(match Tryz.f61.body with | some c=>AU [0,1] c | none=>false)=true:=by kernel_rfl
theorem wM:Ar Tryz.prog [0,1] 61 ⟨30,c61,[.cell 4 99]⟩:=Ar.by Tryz.func61 b61 p61 Tryz.ntmps61 (by rw[Tryz.results61]) (by kernel_rfl)
theorem b62:(match Tryz.f62.body with | some c=>BF c c62 | none=>none)=some c62:=by kernel_rfl
theorem p62:(match Tryz.f62.body with | some c=>AU [0,1] c | none=>false)=true:=by kernel_rfl
theorem Ai7:Ar Tryz.prog [0,1] 62 ⟨40,c62,[.cell 4 41,.tmp 5]⟩:=Ar.by Tryz.func62 b62 p62 Tryz.ntmps62 (by rw[Tryz.results62]) (by kernel_rfl)
theorem b63:(match Tryz.f63.body with | some c=>BF c c63 | none=>none)=some c63:=by kernel_rfl
theorem p63:(match Tryz.f63.body with | some c=>AU [0,1] c | none=>false)=true:=by kernel_rfl
theorem wN:Ar Tryz.prog [0,1] 63 ⟨24,c63,[.tmp 0]⟩:=Ar.by Tryz.func63 b63 p63 Tryz.ntmps63 (by rw[Tryz.results63]) (by kernel_rfl)
theorem b66:(match Tryz.f66.body with | some c=>BF c c66 | none=>none)=some c66:=by kernel_rfl
theorem p66:(match Tryz.f66.body with | some c=>AU [0,1] c | none=>false)=true:=by kernel_rfl
theorem Ajb:Ar Tryz.prog [0,1] 66 ⟨46,c66,[.tmp 2]⟩:=Ar.by Tryz.func66 b66 p66 Tryz.ntmps66 (by rw[Tryz.results66]) (by kernel_rfl)
theorem b67:(match Tryz.f67.body with | some c=>BF c c67 | none=>none)=some c67:=by kernel_rfl
theorem p67:(match Tryz.f67.body with | some c=>AU [0,1] c | none=>false)=true:=by kernel_rfl
theorem Ajc:Ar Tryz.prog [0,1] 67 ⟨8,c67,[.tmp 2]⟩:=Ar.by Tryz.func67 b67 p67 Tryz.ntmps67 (by rw[Tryz.results67]) (by kernel_rfl)
theorem b70:(match Tryz.f70.body with | some c=>BF c c70 | none=>none)=some c70:=by kernel_rfl
theorem p70:(match Tryz.f70.body with | some c=>AU [0,1] c | none=>false)=true:=by kernel_rfl
theorem Ajd:Ar Tryz.prog [0,1] 70 ⟨44,c70,[.tmp 4,.tmp 5]⟩:=Ar.by Tryz.func70 b70 p70 Tryz.ntmps70 (by rw[Tryz.results70]) (by kernel_rfl)
theorem b71:(match Tryz.f71.body with | some c=>BF c c71 | none=>none)=some c71:=by kernel_rfl
theorem p71:(match Tryz.f71.body with | some c=>AU [0,1] c | none=>false)=true:=by kernel_rfl
theorem Aje:Ar Tryz.prog [0,1] 71 ⟨32,c71,[.tmp 4,.tmp 5]⟩:=Ar.by Tryz.func71 b71 p71 Tryz.ntmps71 (by rw[Tryz.results71]) (by kernel_rfl)
theorem b72:(match Tryz.f72.body with | some c=>BF c c72 | none=>none)=some c72:=by kernel_rfl
theorem p72:(match Tryz.f72.body with | some c=>AU [0,1] c | none=>false)=true:=by kernel_rfl
theorem Ajf:Ar Tryz.prog [0,1] 72 ⟨19,c72,[.tmp 2,.tmp 3]⟩:=Ar.by Tryz.func72 b72 p72 Tryz.ntmps72 (by rw[Tryz.results72]) (by kernel_rfl)
end Go.Proofs.YtflonlkiajhhjaaGreatDoor.TpF
set_option maxRecDepth 100000
namespace Go.Proofs.YtflonlkiajhhjaaGreatDoor.TpF
open Go Go.Sp Go.TpF
theorem b73:(match Tryz.f73.body with | some c=>BF c c73 | none=>none)=some c73:=by kernel_rfl
theorem p73:(match Tryz.f73.body with | some c=>AU [0,1] c | none=>false)=true:=by kernel_rfl
theorem Ajg:Ar Tryz.prog [0,1] 73 ⟨16,c73,[.tmp 4]⟩:=Ar.by Tryz.func73 b73 p73 Tryz.ntmps73 (by rw[Tryz.results73]) (by kernel_rfl)
theorem b76:(match Tryz.f76.body with | some c=>BF c c76 | none=>none)=some c76:=by kernel_rfl
theorem p76:(match Tryz.f76.body with | some c=>AU [0,1] c | none=>false)=true:=by kernel_rfl
theorem wO:Ar Tryz.prog [0,1] 76 ⟨39,c76,[.tmp 2]⟩:=Ar.by Tryz.func76 b76 p76 Tryz.ntmps76 (by rw[Tryz.results76]) (by kernel_rfl)
theorem b77:(match Tryz.f77.body with | some c=>BF c c77 | none=>none)=some c77:=by kernel_rfl
theorem p77:(match Tryz.f77.body with | some c=>AU [0,1] c | none=>false)=true:=by kernel_rfl
theorem Ajh:Ar Tryz.prog [0,1] 77 ⟨53,c77,[.tmp 2,.tmp 3]⟩:=Ar.by Tryz.func77 b77 p77 Tryz.ntmps77 (by rw[Tryz.results77]) (by kernel_rfl)
theorem b82:(match Tryz.f82.body with | some c=>BF c c82 | none=>none)=some c82:=by kernel_rfl
theorem p82:(match Tryz.f82.body with | some c=>AU [0,1] c | none=>false)=true:=by kernel_rfl
theorem wP:Ar Tryz.prog [0,1] 82 ⟨8,c82,[.tmp 2]⟩:=Ar.by Tryz.func82 b82 p82 Tryz.ntmps82 (by rw[Tryz.results82]) (by kernel_rfl)
theorem b84:(match Tryz.f84.body with | some c=>BF c c84 | none=>none)=some c84:=by kernel_rfl
theorem p84:(match Tryz.f84.body with | some c=>AU [0,1] c | none=>false)=true:=by kernel_rfl
theorem Ajj:Ar Tryz.prog [0,1] 84 ⟨9,c84,[.tmp 4]⟩:=Ar.by Tryz.func84 b84 p84 Tryz.ntmps84 (by rw[Tryz.results84]) (by kernel_rfl)
theorem b96:(match Tryz.f96.body with | some c=>BF c c96 | none=>none)=some c96:=by kernel_rfl
theorem p96:(match Tryz.f96.body with | some c=>AU [0,1] c | none=>false)=true:=by kernel_rfl
theorem Ajk:Ar Tryz.prog [0,1] 96 ⟨15,c96,[.tmp 6]⟩:=Ar.by Tryz.func96 b96 p96 Tryz.ntmps96 (by rw[Tryz.results96]) (by kernel_rfl)
theorem b97:(match Tryz.f97.body with | some c=>BF c c97 | none=>none)=some c97:=by kernel_rfl
theorem p97:(match Tryz.f97.body with | some c=>AU [0,1] c | none=>false)=true:=by kernel_rfl
theorem Ajl:Ar Tryz.prog [0,1] 97 ⟨17,c97,[.tmp 2,.tmp 3]⟩:=Ar.by Tryz.func97 b97 p97 Tryz.ntmps97 (by rw[Tryz.results97]) (by kernel_rfl)
theorem b98:(match Tryz.f98.body with | some c=>BF c c98 | none=>none)=some c98:=by kernel_rfl
theorem p98:(match Tryz.f98.body with | some c=>AU [0,1] c | none=>false)=true:=by kernel_rfl
theorem wQ:Ar Tryz.prog [0,1] 98 ⟨35,c98,[.tmp 0]⟩:=Ar.by Tryz.func98 b98 p98 Tryz.ntmps98 (by rw[Tryz.results98]) (by kernel_rfl)
theorem b99:(match Tryz.f99.body with | some c=>BF c c99 | none=>none)=some c99:=by kernel_rfl
theorem p99:(match Tryz.f99.body with | some c=>AU [0,1] c | none=>false)=true:=by kernel_rfl
theorem wR:Ar Tryz.prog [0,1] 99 ⟨11,c99,[.tmp 2]⟩:=Ar.by Tryz.func99 b99 p99 Tryz.ntmps99 (by rw[Tryz.results99]) (by kernel_rfl)
theorem AlM:(match Tryz.f100.body with | some c=>BF c X5 | none=>none)=some X5:=by kernel_rfl
theorem AlN:(match Tryz.f100.body with | some c=>AU [0,1] c | none=>false)=true:=by kernel_rfl
theorem Zw:Ar Tryz.prog [0,1] 100 ⟨15,X5,[.tmp 6]⟩:=Ar.by Tryz.func100 AlM AlN Tryz.ntmps100 (by rw[Tryz.results100]) (by kernel_rfl)
theorem AlO:(match Tryz.f101.body with | some c=>BF c X6 | none=>none)=some X6:=by kernel_rfl
theorem AlP:(match Tryz.f101.body with | some c=>AU [0,1] c | none=>false)=true:=by kernel_rfl
theorem Zx:Ar Tryz.prog [0,1] 101 ⟨24,X6,[.tmp 6]⟩:=Ar.by Tryz.func101 AlO AlP Tryz.ntmps101 (by rw[Tryz.results101]) (by kernel_rfl)
theorem AlQ:(match Tryz.f102.body with | some c=>BF c X7 | none=>none)=some X7:=by kernel_rfl
theorem AlR:(match Tryz.f102.body with | some c=>AU [0,1] c | none=>false)=true:=by kernel_rfl
theorem Zy:Ar Tryz.prog [0,1] 102 ⟨23,X7,[.tmp 4]⟩:=Ar.by Tryz.func102 AlQ AlR Tryz.ntmps102 (by rw[Tryz.results102]) (by kernel_rfl)
theorem AlS:(match Tryz.f103.body with | some c=>BF c X9 | none=>none)=some X9:=by kernel_rfl
theorem AlT:(match Tryz.f103.body with | some c=>AU [0,1] c | none=>false)=true:=by kernel_rfl
theorem Zz:Ar Tryz.prog [0,1] 103 ⟨134,X9,[]⟩:=Ar.by Tryz.func103 AlS AlT Tryz.ntmps103 (by rw[Tryz.results103]) (by kernel_rfl)
theorem AlU:(match Tryz.f112.body with | some c=>BF c kV | none=>none)=some kV:=by kernel_rfl
theorem AlV:(match Tryz.f112.body with | some c=>AU [0,1] c | none=>false)=true:=by kernel_rfl
theorem Acl:Ar Tryz.prog [0,1] 112 ⟨110,kV,[.tmp 2,.tmp 3]⟩:=Ar.by Tryz.func112 AlU AlV Tryz.ntmps112 (by rw[Tryz.results112]) (by kernel_rfl)
theorem AlW:(match Tryz.f114.body with | some c=>BF c Ya | none=>none)=some Ya:=by kernel_rfl
theorem AlX:(match Tryz.f114.body with | some c=>AU [0,1] c | none=>false)=true:=by kernel_rfl
theorem ZA:Ar Tryz.prog [0,1] 114 ⟨42,Ya,[.tmp 2]⟩:=Ar.by Tryz.func114 AlW AlX Tryz.ntmps114 (by rw[Tryz.results114]) (by kernel_rfl)
theorem AlY:(match Tryz.f115.body with | some c=>BF c Yb | none=>none)=some Yb:=by kernel_rfl
theorem AlZ:(match Tryz.f115.body with | some c=>AU [0,1] c | none=>false)=true:=by kernel_rfl
theorem ZB:Ar Tryz.prog [0,1] 115 ⟨24,Yb,[.cell 4 99]⟩:=Ar.by Tryz.func115 AlY AlZ Tryz.ntmps115 (by rw[Tryz.results115]) (by kernel_rfl)
theorem Al0:(match Tryz.f116.body with | some c=>BF c Yc | none=>none)=some Yc:=by kernel_rfl
theorem Acm:(match Tryz.f116.body with | some c=>AU [0,1] c | none=>false)=true:=by kernel_rfl
theorem ZC:Ar Tryz.prog [0,1] 116 ⟨19,Yc,[.tmp 2]⟩:=Ar.by Tryz.func116 Al0 Acm Tryz.ntmps116 (by rw[Tryz.results116]) (by kernel_rfl)
theorem Al1:(match Tryz.f117.body with | some c=>BF c kW | none=>none)=some kW:=by kernel_rfl
theorem Al2:(match Tryz.f117.body with | some c=>AU [0,1] c | none=>false)=true:=by kernel_rfl
theorem Acn:Ar Tryz.prog [0,1] 117 ⟨48,kW,[.tmp 10]⟩:=Ar.by Tryz.func117 Al1 Al2 Tryz.ntmps117 (by rw[Tryz.results117]) (by kernel_rfl)
theorem Al3:(match Tryz.f118.body with | some c=>BF c kX | none=>none)=some kX:=by kernel_rfl
theorem Al4:(match Tryz.f118.body with | some c=>AU [0,1] c | none=>false)=true:=by kernel_rfl
theorem Aco:Ar Tryz.prog [0,1] 118 ⟨6,kX,[.tmp 2]⟩:=Ar.by Tryz.func118 Al3 Al4 Tryz.ntmps118 (by rw[Tryz.results118]) (by kernel_rfl)
theorem Al5:(match Tryz.f119.body with | some c=>BF c Yd | none=>none)=some Yd:=by kernel_rfl
theorem Acp:(match Tryz.f119.body with | some c=>AU [0,1] c | none=>false)=true:=by kernel_rfl
theorem ZE:Ar Tryz.prog [0,1] 119 ⟨27,Yd,[.tmp 2]⟩:=Ar.by Tryz.func119 Al5 Acp Tryz.ntmps119 (by rw[Tryz.results119]) (by kernel_rfl)
theorem Al6:(match Tryz.f120.body with | some c=>BF c kY | none=>none)=some kY:=by kernel_rfl
theorem Al7:(match Tryz.f120.body with | some c=>AU [0,1] c | none=>false)=true:=by kernel_rfl
theorem Acr:Ar Tryz.prog [0,1] 120 ⟨11,kY,[.tmp 4]⟩:=Ar.by Tryz.func120 Al6 Al7 Tryz.ntmps120 (by rw[Tryz.results120]) (by kernel_rfl)
theorem Al8:(match Tryz.f121.body with | some c=>BF c Ye | none=>none)=some Ye:=by kernel_rfl
theorem Acs:(match Tryz.f121.body with | some c=>AU [0,1] c | none=>false)=true:=by kernel_rfl
theorem ZF:Ar Tryz.prog [0,1] 121 ⟨15,Ye,[.tmp 2]⟩:=Ar.by Tryz.func121 Al8 Acs Tryz.ntmps121 (by rw[Tryz.results121]) (by kernel_rfl)
theorem Al9:(match Tryz.f122.body with | some c=>BF c kZ | none=>none)=some kZ:=by kernel_rfl
theorem Ama:(match Tryz.f122.body with | some c=>AU [0,1] c | none=>false)=true:=by kernel_rfl
theorem Acu:Ar Tryz.prog [0,1] 122 ⟨16,kZ,[.tmp 6,.tmp 7]⟩:=Ar.by Tryz.func122 Al9 Ama Tryz.ntmps122 (by rw[Tryz.results122]) (by kernel_rfl)
theorem Amb:(match Tryz.f123.body with | some c=>BF c lH | none=>none)=some lH:=by kernel_rfl
theorem Amc:(match Tryz.f123.body with | some c=>AU [0,1] c | none=>false)=true:=by kernel_rfl
theorem Acv:Ar Tryz.prog [0,1] 123 ⟨15,lH,[.tmp 6]⟩:=Ar.by Tryz.func123 Amb Amc Tryz.ntmps123 (by rw[Tryz.results123]) (by kernel_rfl)
theorem Amd:(match Tryz.f125.body with | some c=>BF c Yf | none=>none)=some Yf:=by kernel_rfl
theorem Ame:(match Tryz.f125.body with | some c=>AU [0,1] c | none=>false)=true:=by kernel_rfl
theorem ZG:Ar Tryz.prog [0,1] 125 ⟨17,Yf,[.tmp 4]⟩:=Ar.by Tryz.func125 Amd Ame Tryz.ntmps125 (by rw[Tryz.results125]) (by kernel_rfl)
end Go.Proofs.YtflonlkiajhhjaaGreatDoor.TpF
set_option maxRecDepth 100000
namespace Go.Proofs.YtflonlkiajhhjaaGreatDoor.TpF
open Go Go.Sp Go.TpF
theorem Amf:(match Tryz.f126.body with | some c=>BF c lI | none=>none)=some lI:=by kernel_rfl
theorem Amg:(match Tryz.f126.body with | some c=>AU [0,1] c | none=>false)=true:=by kernel_rfl
theorem Acw:Ar Tryz.prog [0,1] 126 ⟨20,lI,[.tmp 4]⟩:=Ar.by Tryz.func126 Amf Amg Tryz.ntmps126 (by rw[Tryz.results126]) (by kernel_rfl)
theorem Amh:(match Tryz.f127.body with | some c=>BF c lJ | none=>none)=some lJ:=by kernel_rfl
theorem Ami:(match Tryz.f127.body with | some c=>AU [0,1] c | none=>false)=true:=by kernel_rfl
theorem Acx:Ar Tryz.prog [0,1] 127 ⟨21,lJ,[.tmp 4]⟩:=Ar.by Tryz.func127 Amh Ami Tryz.ntmps127 (by rw[Tryz.results127]) (by kernel_rfl)
theorem Amj:(match Tryz.f128.body with | some c=>BF c lK | none=>none)=some lK:=by kernel_rfl
theorem Amk:(match Tryz.f128.body with | some c=>AU [0,1] c | none=>false)=true:=by kernel_rfl
theorem Acy:Ar Tryz.prog [0,1] 128 ⟨17,lK,[.cell 2 173,.tmp 3]⟩:=Ar.by Tryz.func128 Amj Amk Tryz.ntmps128 (by rw[Tryz.results128]) (by kernel_rfl)
theorem Aml:(match Tryz.f129.body with | some c=>BF c lL | none=>none)=some lL:=by kernel_rfl
theorem Amm:(match Tryz.f129.body with | some c=>AU [0,1] c | none=>false)=true:=by kernel_rfl
theorem Acz:Ar Tryz.prog [0,1] 129 ⟨38,lL,[.tmp 4]⟩:=Ar.by Tryz.func129 Aml Amm Tryz.ntmps129 (by rw[Tryz.results129]) (by kernel_rfl)
theorem Amn:(match Tryz.f136.body with | some c=>BF c Yg | none=>none)=some Yg:=by kernel_rfl
theorem Amo:(match Tryz.f136.body with | some c=>AU [0,1] c | none=>false)=true:=by kernel_rfl
theorem ZH:Ar Tryz.prog [0,1] 136 ⟨19,Yg,[.tmp 2]⟩:=Ar.by Tryz.func136 Amn Amo Tryz.ntmps136 (by rw[Tryz.results136]) (by kernel_rfl)
theorem Amq:(match Tryz.f137.body with | some c=>BF c Yh | none=>none)=some Yh:=by kernel_rfl
theorem Amr:(match Tryz.f137.body with | some c=>AU [0,1] c | none=>false)=true:=by kernel_rfl
theorem ZI:Ar Tryz.prog [0,1] 137 ⟨25,Yh,[.tmp 2]⟩:=Ar.by Tryz.func137 Amq Amr Tryz.ntmps137 (by rw[Tryz.results137]) (by kernel_rfl)
theorem Ams:(match Tryz.f138.body with | some c=>BF c lM | none=>none)=some lM:=by kernel_rfl
theorem Amt:(match Tryz.f138.body with | some c=>AU [0,1] c | none=>false)=true:=by kernel_rfl
theorem AcA:Ar Tryz.prog [0,1] 138 ⟨19,lM,[.tmp 4]⟩:=Ar.by Tryz.func138 Ams Amt Tryz.ntmps138 (by rw[Tryz.results138]) (by kernel_rfl)
theorem Amu:(match Tryz.f142.body with | some c=>BF c lN | none=>none)=some lN:=by kernel_rfl
theorem Amv:(match Tryz.f142.body with | some c=>AU [0,1] c | none=>false)=true:=by kernel_rfl
theorem AcB:Ar Tryz.prog [0,1] 142 ⟨68,lN,[.tmp 2,.tmp 3]⟩:=Ar.by Tryz.func142 Amu Amv Tryz.ntmps142 (by rw[Tryz.results142]) (by kernel_rfl)
theorem Amw:(match Tryz.f143.body with | some c=>BF c lQ | none=>none)=some lQ:=by kernel_rfl
theorem Amx:(match Tryz.f143.body with | some c=>AU [0,1] c | none=>false)=true:=by kernel_rfl
theorem AcC:Ar Tryz.prog [0,1] 143 ⟨10,lQ,[.tmp 2]⟩:=Ar.by Tryz.func143 Amw Amx Tryz.ntmps143 (by rw[Tryz.results143]) (by kernel_rfl)
theorem Amy:(match Tryz.f145.body with | some c=>BF c lS | none=>none)=some lS:=by kernel_rfl
theorem Amz:(match Tryz.f145.body with | some c=>AU [0,1] c | none=>false)=true:=by kernel_rfl
theorem AcD:Ar Tryz.prog [0,1] 145 ⟨31,lS,[.tmp 2]⟩:=Ar.by Tryz.func145 Amy Amz Tryz.ntmps145 (by rw[Tryz.results145]) (by kernel_rfl)
theorem AmA:(match Tryz.f146.body with | some c=>BF c lT | none=>none)=some lT:=by kernel_rfl
theorem AmB:(match Tryz.f146.body with | some c=>AU [0,1] c | none=>false)=true:=by kernel_rfl
theorem AcE:Ar Tryz.prog [0,1] 146 ⟨39,lT,[.tmp 2,.tmp 3]⟩:=Ar.by Tryz.func146 AmA AmB Tryz.ntmps146 (by rw[Tryz.results146]) (by kernel_rfl)
theorem AmC:(match Tryz.f147.body with | some c=>BF c lU | none=>none)=some lU:=by kernel_rfl
theorem AmD:(match Tryz.f147.body with | some c=>AU [0,1] c | none=>false)=true:=by kernel_rfl
theorem AcF:Ar Tryz.prog [0,1] 147 ⟨18,lU,[.tmp 2,.tmp 3]⟩:=Ar.by Tryz.func147 AmC AmD Tryz.ntmps147 (by rw[Tryz.results147]) (by kernel_rfl)
theorem AmE:(match Tryz.f148.body with | some c=>BF c lV | none=>none)=some lV:=by kernel_rfl
theorem AmF:(match Tryz.f148.body with | some c=>AU [0,1] c | none=>false)=true:=by kernel_rfl
theorem ZJ:Ar Tryz.prog [0,1] 148 ⟨35,lV,[.tmp 0]⟩:=Ar.by Tryz.func148 AmE AmF Tryz.ntmps148 (by rw[Tryz.results148]) (by kernel_rfl)
theorem AmG:(match Tryz.f149.body with | some c=>BF c Yi | none=>none)=some Yi:=by kernel_rfl
theorem AmH:(match Tryz.f149.body with | some c=>AU [0,1] c | none=>false)=true:=by kernel_rfl
theorem ZK:Ar Tryz.prog [0,1] 149 ⟨49,Yi,[]⟩:=Ar.by Tryz.func149 AmG AmH Tryz.ntmps149 (by rw[Tryz.results149]) (by kernel_rfl)
theorem AmI:(match Tryz.f150.body with | some c=>BF c lW | none=>none)=some lW:=by kernel_rfl
theorem AmJ:(match Tryz.f150.body with | some c=>AU [0,1] c | none=>false)=true:=by kernel_rfl
theorem AcG:Ar Tryz.prog [0,1] 150 ⟨56,lW,[]⟩:=Ar.by Tryz.func150 AmI AmJ Tryz.ntmps150 (by rw[Tryz.results150]) (by kernel_rfl)
theorem AmK:(match Tryz.f151.body with | some c=>BF c lX | none=>none)=some lX:=by kernel_rfl
theorem AmL:(match Tryz.f151.body with | some c=>AU [0,1] c | none=>false)=true:=by kernel_rfl
theorem AcH:Ar Tryz.prog [0,1] 151 ⟨65,lX,[]⟩:=Ar.by Tryz.func151 AmK AmL Tryz.ntmps151 (by rw[Tryz.results151]) (by kernel_rfl)
theorem AmM:(match Tryz.f152.body with | some c=>BF c lY | none=>none)=some lY:=by kernel_rfl
theorem AmN:(match Tryz.f152.body with | some c=>AU [0,1] c | none=>false)=true:=by kernel_rfl
theorem AcI:Ar Tryz.prog [0,1] 152 ⟨57,lY,[.tmp 6,.tmp 7]⟩:=Ar.by Tryz.func152 AmM AmN Tryz.ntmps152 (by rw[Tryz.results152]) (by kernel_rfl)
theorem AmO:(match Tryz.f153.body with | some c=>BF c lZ | none=>none)=some lZ:=by kernel_rfl
theorem AmP:(match Tryz.f153.body with | some c=>AU [0,1] c | none=>false)=true:=by kernel_rfl
theorem AcJ:Ar Tryz.prog [0,1] 153 ⟨32,lZ,[]⟩:=Ar.by Tryz.func153 AmO AmP Tryz.ntmps153 (by rw[Tryz.results153]) (by kernel_rfl)
theorem AmQ:(match Tryz.f154.body with | some c=>BF c mD | none=>none)=some mD:=by kernel_rfl
theorem AmR:(match Tryz.f154.body with | some c=>AU [0,1] c | none=>false)=true:=by kernel_rfl
theorem AcK:Ar Tryz.prog [0,1] 154 ⟨133,mD,[.tmp 6]⟩:=Ar.by Tryz.func154 AmQ AmR Tryz.ntmps154 (by rw[Tryz.results154]) (by kernel_rfl)
theorem AmS:(match Tryz.f155.body with | some c=>BF c mE | none=>none)=some mE:=by kernel_rfl
theorem AmT:(match Tryz.f155.body with | some c=>AU [0,1] c | none=>false)=true:=by kernel_rfl
theorem AcL:Ar Tryz.prog [0,1] 155 ⟨84,mE,[.tmp 8]⟩:=Ar.by Tryz.func155 AmS AmT Tryz.ntmps155 (by rw[Tryz.results155]) (by kernel_rfl)
theorem AmU:(match Tryz.f156.body with | some c=>BF c mK | none=>none)=some mK:=by kernel_rfl
theorem AmV:(match Tryz.f156.body with | some c=>AU [0,1] c | none=>false)=true:=by kernel_rfl
theorem AcM:Ar Tryz.prog [0,1] 156 ⟨168,mK,[.tmp 8,.tmp 9]⟩:=Ar.by Tryz.func156 AmU AmV Tryz.ntmps156 (by rw[Tryz.results156]) (by kernel_rfl)
theorem AmW:(match Tryz.f164.body with | some c=>BF c mM | none=>none)=some mM:=by kernel_rfl
theorem AmX:(match Tryz.f164.body with | some c=>AU [0,1] c | none=>false)=true:=by kernel_rfl
theorem AcN:Ar Tryz.prog [0,1] 164 ⟨18,mM,[.cell 2 208]⟩:=Ar.by Tryz.func164 AmW AmX Tryz.ntmps164 (by rw[Tryz.results164]) (by kernel_rfl)
theorem AmY:(match Tryz.f165.body with | some c=>BF c mO | none=>none)=some mO:=by kernel_rfl
theorem AmZ:(match Tryz.f165.body with | some c=>AU [0,1] c | none=>false)=true:=by kernel_rfl
theorem ZL:Ar Tryz.prog [0,1] 165 ⟨47,mO,[.tmp 4]⟩:=Ar.by Tryz.func165 AmY AmZ Tryz.ntmps165 (by rw[Tryz.results165]) (by kernel_rfl)
theorem Am0:(match Tryz.f166.body with | some c=>BF c mP | none=>none)=some mP:=by kernel_rfl
theorem Am1:(match Tryz.f166.body with | some c=>AU [0,1] c | none=>false)=true:=by kernel_rfl
theorem AcO:Ar Tryz.prog [0,1] 166 ⟨22,mP,[.cell 4 208]⟩:=Ar.by Tryz.func166 Am0 Am1 Tryz.ntmps166 (by rw[Tryz.results166]) (by kernel_rfl)
theorem Am2:(match Tryz.f167.body with | some c=>BF c mQ | none=>none)=some mQ:=by kernel_rfl
theorem Am3:(match Tryz.f167.body with | some c=>AU [0,1] c | none=>false)=true:=by kernel_rfl
theorem AcP:Ar Tryz.prog [0,1] 167 ⟨22,mQ,[.tmp 2]⟩:=Ar.by Tryz.func167 Am2 Am3 Tryz.ntmps167 (by rw[Tryz.results167]) (by kernel_rfl)
end Go.Proofs.YtflonlkiajhhjaaGreatDoor.TpF
set_option maxRecDepth 100000
namespace Go.Proofs.YtflonlkiajhhjaaGreatDoor.TpF
open Go Go.Sp Go.TpF
theorem Am4:(match Tryz.f169.body with | some c=>BF c Yj | none=>none)=some Yj:=by kernel_rfl
theorem AcQ:(match Tryz.f169.body with | some c=>AU [0,1] c | none=>false)=true:=by kernel_rfl
theorem ZM:Ar Tryz.prog [0,1] 169 ⟨11,Yj,[.tmp 4]⟩:=Ar.by Tryz.func169 Am4 AcQ Tryz.ntmps169 (by rw[Tryz.results169]) (by kernel_rfl)
theorem Am5:(match Tryz.f170.body with | some c=>BF c Yk | none=>none)=some Yk:=by kernel_rfl
theorem Am6:(match Tryz.f170.body with | some c=>AU [0,1] c | none=>false)=true:=by kernel_rfl
theorem ZN:Ar Tryz.prog [0,1] 170 ⟨38,Yk,[.tmp 2]⟩:=Ar.by Tryz.func170 Am5 Am6 Tryz.ntmps170 (by rw[Tryz.results170]) (by kernel_rfl)
theorem Am7:(match Tryz.f171.body with | some c=>BF c nD | none=>none)=some nD:=by kernel_rfl
theorem Am8:(match Tryz.f171.body with | some c=>AU [0,1] c | none=>false)=true:=by kernel_rfl
theorem AcR:Ar Tryz.prog [0,1] 171 ⟨31,nD,[.cell 4 214]⟩:=Ar.by Tryz.func171 Am7 Am8 Tryz.ntmps171 (by rw[Tryz.results171]) (by kernel_rfl)
theorem Am9:(match Tryz.f172.body with | some c=>BF c nG | none=>none)=some nG:=by kernel_rfl
theorem Ana:(match Tryz.f172.body with | some c=>AU [0,1] c | none=>false)=true:=by kernel_rfl
theorem AcS:Ar Tryz.prog [0,1] 172 ⟨25,nG,[.tmp 6]⟩:=Ar.by Tryz.func172 Am9 Ana Tryz.ntmps172 (by rw[Tryz.results172]) (by kernel_rfl)
theorem Anb:(match Tryz.f173.body with | some c=>BF c nH | none=>none)=some nH:=by kernel_rfl
theorem Ane:(match Tryz.f173.body with | some c=>AU [0,1] c | none=>false)=true:=by kernel_rfl
theorem AcT:Ar Tryz.prog [0,1] 173 ⟨23,nH,[.tmp 6]⟩:=Ar.by Tryz.func173 Anb Ane Tryz.ntmps173 (by rw[Tryz.results173]) (by kernel_rfl)
theorem Anf:(match Tryz.f174.body with | some c=>BF c nI | none=>none)=some nI:=by kernel_rfl
theorem Ang:(match Tryz.f174.body with | some c=>AU [0,1] c | none=>false)=true:=by kernel_rfl
theorem AcU:Ar Tryz.prog [0,1] 174 ⟨18,nI,[.tmp 2,.tmp 3]⟩:=Ar.by Tryz.func174 Anf Ang Tryz.ntmps174 (by rw[Tryz.results174]) (by kernel_rfl)
theorem Anh:(match Tryz.f176.body with | some c=>BF c Yl | none=>none)=some Yl:=by kernel_rfl
theorem Ani:(match Tryz.f176.body with | some c=>AU [0,1] c | none=>false)=true:=by kernel_rfl
theorem ZO:Ar Tryz.prog [0,1] 176 ⟨6,Yl,[.tmp 2]⟩:=Ar.by Tryz.func176 Anh Ani Tryz.ntmps176 (by rw[Tryz.results176]) (by kernel_rfl)
theorem Anj:(match Tryz.f177.body with | some c=>BF c nJ | none=>none)=some nJ:=by kernel_rfl
theorem Ank:(match Tryz.f177.body with | some c=>AU [0,1] c | none=>false)=true:=by kernel_rfl
theorem AcV:Ar Tryz.prog [0,1] 177 ⟨38,nJ,[.cell 2 173]⟩:=Ar.by Tryz.func177 Anj Ank Tryz.ntmps177 (by rw[Tryz.results177]) (by kernel_rfl)
theorem Anl:(match Tryz.f178.body with | some c=>BF c nK | none=>none)=some nK:=by kernel_rfl
theorem Anm:(match Tryz.f178.body with | some c=>AU [0,1] c | none=>false)=true:=by kernel_rfl
theorem AcW:Ar Tryz.prog [0,1] 178 ⟨21,nK,[.cell 4 173]⟩:=Ar.by Tryz.func178 Anl Anm Tryz.ntmps178 (by rw[Tryz.results178]) (by kernel_rfl)
theorem Ann:(match Tryz.f179.body with | some c=>BF c nL | none=>none)=some nL:=by kernel_rfl
theorem Ano:(match Tryz.f179.body with | some c=>AU [0,1] c | none=>false)=true:=by kernel_rfl
theorem AcX:Ar Tryz.prog [0,1] 179 ⟨14,nL,[.tmp 2]⟩:=Ar.by Tryz.func179 Ann Ano Tryz.ntmps179 (by rw[Tryz.results179]) (by kernel_rfl)
theorem Anp:(match Tryz.f183.body with | some c=>BF c nM | none=>none)=some nM:=by kernel_rfl
theorem Anq:(match Tryz.f183.body with | some c=>AU [0,1] c | none=>false)=true:=by kernel_rfl
theorem AcY:Ar Tryz.prog [0,1] 183 ⟨38,nM,[.tmp 2]⟩:=Ar.by Tryz.func183 Anp Anq Tryz.ntmps183 (by rw[Tryz.results183]) (by kernel_rfl)
theorem Anr:(match Tryz.f184.body with | some c=>BF c nN | none=>none)=some nN:=by kernel_rfl
theorem Ans:(match Tryz.f184.body with | some c=>AU [0,1] c | none=>false)=true:=by kernel_rfl
theorem AcZ:Ar Tryz.prog [0,1] 184 ⟨7,nN,[.tmp 2]⟩:=Ar.by Tryz.func184 Anr Ans Tryz.ntmps184 (by rw[Tryz.results184]) (by kernel_rfl)
theorem Ant:(match Tryz.f185.body with | some c=>BF c nO | none=>none)=some nO:=by kernel_rfl
theorem Anu:(match Tryz.f185.body with | some c=>AU [0,1] c | none=>false)=true:=by kernel_rfl
theorem Ac0:Ar Tryz.prog [0,1] 185 ⟨42,nO,[.tmp 4,.tmp 5,.tmp 6]⟩:=Ar.by Tryz.func185 Ant Anu Tryz.ntmps185 (by rw[Tryz.results185]) (by kernel_rfl)
theorem Anv:(match Tryz.f186.body with | some c=>BF c nP | none=>none)=some nP:=by kernel_rfl
theorem Anw:(match Tryz.f186.body with | some c=>AU [0,1] c | none=>false)=true:=by kernel_rfl
theorem Ac1:Ar Tryz.prog [0,1] 186 ⟨27,nP,[.tmp 4]⟩:=Ar.by Tryz.func186 Anv Anw Tryz.ntmps186 (by rw[Tryz.results186]) (by kernel_rfl)
theorem Anx:(match Tryz.f187.body with | some c=>BF c nQ | none=>none)=some nQ:=by kernel_rfl
theorem Anz:(match Tryz.f187.body with | some c=>AU [0,1] c | none=>false)=true:=by kernel_rfl
theorem Ac2:Ar Tryz.prog [0,1] 187 ⟨18,nQ,[.tmp 2]⟩:=Ar.by Tryz.func187 Anx Anz Tryz.ntmps187 (by rw[Tryz.results187]) (by kernel_rfl)
theorem AnA:(match Tryz.f188.body with | some c=>BF c nR | none=>none)=some nR:=by kernel_rfl
theorem AnB:(match Tryz.f188.body with | some c=>AU [0,1] c | none=>false)=true:=by kernel_rfl
theorem Ac3:Ar Tryz.prog [0,1] 188 ⟨15,nR,[.tmp 4]⟩:=Ar.by Tryz.func188 AnA AnB Tryz.ntmps188 (by rw[Tryz.results188]) (by kernel_rfl)
theorem AnC:(match Tryz.f189.body with | some c=>BF c nS | none=>none)=some nS:=by kernel_rfl
theorem AnD:(match Tryz.f189.body with | some c=>AU [0,1] c | none=>false)=true:=by kernel_rfl
theorem Ac4:Ar Tryz.prog [0,1] 189 ⟨39,nS,[.cell 2 239]⟩:=Ar.by Tryz.func189 AnC AnD Tryz.ntmps189 (by rw[Tryz.results189]) (by kernel_rfl)
theorem AnE:(match Tryz.f190.body with | some c=>BF c nT | none=>none)=some nT:=by kernel_rfl
theorem AnF:(match Tryz.f190.body with | some c=>AU [0,1] c | none=>false)=true:=by kernel_rfl
theorem Ac5:Ar Tryz.prog [0,1] 190 ⟨16,nT,[.tmp 2,.tmp 3]⟩:=Ar.by Tryz.func190 AnE AnF Tryz.ntmps190 (by rw[Tryz.results190]) (by kernel_rfl)
theorem AnG:(match Tryz.f191.body with | some c=>BF c nU | none=>none)=some nU:=by kernel_rfl
theorem AnH:(match Tryz.f191.body with | some c=>AU [0,1] c | none=>false)=true:=by kernel_rfl
theorem Ac6:Ar Tryz.prog [0,1] 191 ⟨20,nU,[.tmp 2,.tmp 3]⟩:=Ar.by Tryz.func191 AnG AnH Tryz.ntmps191 (by rw[Tryz.results191]) (by kernel_rfl)
theorem AnI:(match Tryz.f192.body with | some c=>BF c nV | none=>none)=some nV:=by kernel_rfl
theorem AnJ:(match Tryz.f192.body with | some c=>AU [0,1] c | none=>false)=true:=by kernel_rfl
theorem Ac7:Ar Tryz.prog [0,1] 192 ⟨76,nV,[]⟩:=Ar.by Tryz.func192 AnI AnJ Tryz.ntmps192 (by rw[Tryz.results192]) (by kernel_rfl)
theorem AnK:(match Tryz.f193.body with | some c=>BF c nW | none=>none)=some nW:=by kernel_rfl
theorem AnL:(match Tryz.f193.body with | some c=>AU [0,1] c | none=>false)=true:=by kernel_rfl
theorem Ac8:Ar Tryz.prog [0,1] 193 ⟨7,nW,[.tmp 2]⟩:=Ar.by Tryz.func193 AnK AnL Tryz.ntmps193 (by rw[Tryz.results193]) (by kernel_rfl)
theorem AnM:(match Tryz.f194.body with | some c=>BF c nX | none=>none)=some nX:=by kernel_rfl
theorem AnN:(match Tryz.f194.body with | some c=>AU [0,1] c | none=>false)=true:=by kernel_rfl
theorem Ac9:Ar Tryz.prog [0,1] 194 ⟨33,nX,[.tmp 2]⟩:=Ar.by Tryz.func194 AnM AnN Tryz.ntmps194 (by rw[Tryz.results194]) (by kernel_rfl)
theorem AnO:(match Tryz.f195.body with | some c=>BF c nY | none=>none)=some nY:=by kernel_rfl
theorem AnP:(match Tryz.f195.body with | some c=>AU [0,1] c | none=>false)=true:=by kernel_rfl
theorem Ada:Ar Tryz.prog [0,1] 195 ⟨15,nY,[.tmp 6]⟩:=Ar.by Tryz.func195 AnO AnP Tryz.ntmps195 (by rw[Tryz.results195]) (by kernel_rfl)
theorem AnQ:(match Tryz.f196.body with | some c=>BF c nZ | none=>none)=some nZ:=by kernel_rfl
theorem AnR:(match Tryz.f196.body with | some c=>AU [0,1] c | none=>false)=true:=by kernel_rfl
theorem Adb:Ar Tryz.prog [0,1] 196 ⟨36,nZ,[.tmp 10]⟩:=Ar.by Tryz.func196 AnQ AnR Tryz.ntmps196 (by rw[Tryz.results196]) (by kernel_rfl)
theorem AnS:(match Tryz.f202.body with | some c=>BF c oD | none=>none)=some oD:=by kernel_rfl
theorem AnT:(match Tryz.f202.body with | some c=>AU [0,1] c | none=>false)=true:=by kernel_rfl
theorem Adc:Ar Tryz.prog [0,1] 202 ⟨28,oD,[]⟩:=Ar.by Tryz.func202 AnS AnT Tryz.ntmps202 (by rw[Tryz.results202]) (by kernel_rfl)
end Go.Proofs.YtflonlkiajhhjaaGreatDoor.TpF
set_option maxRecDepth 100000
namespace Go.Proofs.YtflonlkiajhhjaaGreatDoor.TpF
open Go Go.Sp Go.TpF
theorem AnU:(match Tryz.f203.body with | some c=>BF c oF | none=>none)=some oF:=by kernel_rfl
theorem AnV:(match Tryz.f203.body with | some c=>AU [0,1] c | none=>false)=true:=by kernel_rfl
theorem Ade:Ar Tryz.prog [0,1] 203 ⟨34,oF,[.tmp 4]⟩:=Ar.by Tryz.func203 AnU AnV Tryz.ntmps203 (by rw[Tryz.results203]) (by kernel_rfl)
theorem AnW:(match Tryz.f205.body with | some c=>BF c oG | none=>none)=some oG:=by kernel_rfl
theorem AnX:(match Tryz.f205.body with | some c=>AU [0,1] c | none=>false)=true:=by kernel_rfl
theorem Adf:Ar Tryz.prog [0,1] 205 ⟨47,oG,[.tmp 2,.tmp 3,.tmp 4]⟩:=Ar.by Tryz.func205 AnW AnX Tryz.ntmps205 (by rw[Tryz.results205]) (by kernel_rfl)
theorem AnY:(match Tryz.f206.body with | some c=>BF c oH | none=>none)=some oH:=by kernel_rfl
theorem AnZ:(match Tryz.f206.body with | some c=>AU [0,1] c | none=>false)=true:=by kernel_rfl
theorem Adg:Ar Tryz.prog [0,1] 206 ⟨30,oH,[.tmp 8]⟩:=Ar.by Tryz.func206 AnY AnZ Tryz.ntmps206 (by rw[Tryz.results206]) (by kernel_rfl)
theorem An0:(match Tryz.f207.body with | some c=>BF c oI | none=>none)=some oI:=by kernel_rfl
theorem An1:(match Tryz.f207.body with | some c=>AU [0,1] c | none=>false)=true:=by kernel_rfl
theorem Adh:Ar Tryz.prog [0,1] 207 ⟨17,oI,[.tmp 2]⟩:=Ar.by Tryz.func207 An0 An1 Tryz.ntmps207 (by rw[Tryz.results207]) (by kernel_rfl)
theorem An2:(match Tryz.f217.body with | some c=>BF c oJ | none=>none)=some oJ:=by kernel_rfl
theorem An3:(match Tryz.f217.body with | some c=>AU [0,1] c | none=>false)=true:=by kernel_rfl
theorem Adi:Ar Tryz.prog [0,1] 217 ⟨41,oJ,[.cell 4 173]⟩:=Ar.by Tryz.func217 An2 An3 Tryz.ntmps217 (by rw[Tryz.results217]) (by kernel_rfl)
theorem An4:(match Tryz.f221.body with | some c=>BF c oK | none=>none)=some oK:=by kernel_rfl
theorem An5:(match Tryz.f221.body with | some c=>AU [0,1] c | none=>false)=true:=by kernel_rfl
theorem Adj:Ar Tryz.prog [0,1] 221 ⟨9,oK,[.tmp 2]⟩:=Ar.by Tryz.func221 An4 An5 Tryz.ntmps221 (by rw[Tryz.results221]) (by kernel_rfl)
theorem An6:(match Tryz.f222.body with | some c=>BF c oL | none=>none)=some oL:=by kernel_rfl
theorem An7:(match Tryz.f222.body with | some c=>AU [0,1] c | none=>false)=true:=by kernel_rfl
theorem Adk:Ar Tryz.prog [0,1] 222 ⟨50,oL,[.cell 4 270]⟩:=Ar.by Tryz.func222 An6 An7 Tryz.ntmps222 (by rw[Tryz.results222]) (by kernel_rfl)
theorem An8:(match Tryz.f223.body with | some c=>BF c oM | none=>none)=some oM:=by kernel_rfl
theorem An9:(match Tryz.f223.body with | some c=>AU [0,1] c | none=>false)=true:=by kernel_rfl
theorem Adl:Ar Tryz.prog [0,1] 223 ⟨9,oM,[.tmp 2]⟩:=Ar.by Tryz.func223 An8 An9 Tryz.ntmps223 (by rw[Tryz.results223]) (by kernel_rfl)
theorem Aoa:(match Tryz.f224.body with | some c=>BF c oN | none=>none)=some oN:=by kernel_rfl
theorem Aob:(match Tryz.f224.body with | some c=>AU [0,1] c | none=>false)=true:=by kernel_rfl
theorem Adm:Ar Tryz.prog [0,1] 224 ⟨44,oN,[.tmp 6]⟩:=Ar.by Tryz.func224 Aoa Aob Tryz.ntmps224 (by rw[Tryz.results224]) (by kernel_rfl)
theorem Aoc:(match Tryz.f225.body with | some c=>BF c oO | none=>none)=some oO:=by kernel_rfl
theorem Aod:(match Tryz.f225.body with | some c=>AU [0,1] c | none=>false)=true:=by kernel_rfl
theorem Adn:Ar Tryz.prog [0,1] 225 ⟨35,oO,[.cell 2 276,.tmp 3]⟩:=Ar.by Tryz.func225 Aoc Aod Tryz.ntmps225 (by rw[Tryz.results225]) (by kernel_rfl)
theorem Aoe:(match Tryz.f226.body with | some c=>BF c oP | none=>none)=some oP:=by kernel_rfl
theorem Aof:(match Tryz.f226.body with | some c=>AU [0,1] c | none=>false)=true:=by kernel_rfl
theorem Ado:Ar Tryz.prog [0,1] 226 ⟨7,oP,[.tmp 2]⟩:=Ar.by Tryz.func226 Aoe Aof Tryz.ntmps226 (by rw[Tryz.results226]) (by kernel_rfl)
theorem Aog:(match Tryz.f227.body with | some c=>BF c oQ | none=>none)=some oQ:=by kernel_rfl
theorem Aoh:(match Tryz.f227.body with | some c=>AU [0,1] c | none=>false)=true:=by kernel_rfl
theorem Adp:Ar Tryz.prog [0,1] 227 ⟨80,oQ,[.tmp 2,.tmp 3]⟩:=Ar.by Tryz.func227 Aog Aoh Tryz.ntmps227 (by rw[Tryz.results227]) (by kernel_rfl)
theorem Aoi:(match Tryz.f228.body with | some c=>BF c oU | none=>none)=some oU:=by kernel_rfl
theorem Aoj:(match Tryz.f228.body with | some c=>AU [0,1] c | none=>false)=true:=by kernel_rfl
theorem Adq:Ar Tryz.prog [0,1] 228 ⟨20,oU,[]⟩:=Ar.by Tryz.func228 Aoi Aoj Tryz.ntmps228 (by rw[Tryz.results228]) (by kernel_rfl)
theorem Aok:(match Tryz.f229.body with | some c=>BF c oV | none=>none)=some oV:=by kernel_rfl
theorem Aol:(match Tryz.f229.body with | some c=>AU [0,1] c | none=>false)=true:=by kernel_rfl
theorem Adr:Ar Tryz.prog [0,1] 229 ⟨28,oV,[.tmp 8,.tmp 9]⟩:=Ar.by Tryz.func229 Aok Aol Tryz.ntmps229 (by rw[Tryz.results229]) (by kernel_rfl)
theorem Aom:(match Tryz.f233.body with | some c=>BF c oW | none=>none)=some oW:=by kernel_rfl
theorem Aon:(match Tryz.f233.body with | some c=>AU [0,1] c | none=>false)=true:=by kernel_rfl
theorem Ads:Ar Tryz.prog [0,1] 233 ⟨42,oW,[.tmp 2]⟩:=Ar.by Tryz.func233 Aom Aon Tryz.ntmps233 (by rw[Tryz.results233]) (by kernel_rfl)
theorem Aoo:(match Tryz.f234.body with | some c=>BF c oZ | none=>none)=some oZ:=by kernel_rfl
theorem Aop:(match Tryz.f234.body with | some c=>AU [0,1] c | none=>false)=true:=by kernel_rfl
theorem Adt:Ar Tryz.prog [0,1] 234 ⟨50,oZ,[.tmp 2]⟩:=Ar.by Tryz.func234 Aoo Aop Tryz.ntmps234 (by rw[Tryz.results234]) (by kernel_rfl)
theorem Aoq:(match Tryz.f235.body with | some c=>BF c pE | none=>none)=some pE:=by kernel_rfl
theorem Aor:(match Tryz.f235.body with | some c=>AU [0,1] c | none=>false)=true:=by kernel_rfl
theorem Adu:Ar Tryz.prog [0,1] 235 ⟨10,pE,[.tmp 4]⟩:=Ar.by Tryz.func235 Aoq Aor Tryz.ntmps235 (by rw[Tryz.results235]) (by kernel_rfl)
theorem Aos:(match Tryz.f241.body with | some c=>BF c pF | none=>none)=some pF:=by kernel_rfl
theorem Aot:(match Tryz.f241.body with | some c=>AU [0,1] c | none=>false)=true:=by kernel_rfl
theorem Adv:Ar Tryz.prog [0,1] 241 ⟨12,pF,[.tmp 2]⟩:=Ar.by Tryz.func241 Aos Aot Tryz.ntmps241 (by rw[Tryz.results241]) (by kernel_rfl)
theorem Aou:(match Tryz.f242.body with | some c=>BF c pG | none=>none)=some pG:=by kernel_rfl
theorem Aov:(match Tryz.f242.body with | some c=>AU [0,1] c | none=>false)=true:=by kernel_rfl
theorem Adw:Ar Tryz.prog [0,1] 242 ⟨11,pG,[.tmp 2]⟩:=Ar.by Tryz.func242 Aou Aov Tryz.ntmps242 (by rw[Tryz.results242]) (by kernel_rfl)
theorem Aow:(match Tryz.f243.body with | some c=>BF c pI | none=>none)=some pI:=by kernel_rfl
theorem Aox:(match Tryz.f243.body with | some c=>AU [0,1] c | none=>false)=true:=by kernel_rfl
theorem Adx:Ar Tryz.prog [0,1] 243 ⟨137,pI,[.tmp 6]⟩:=Ar.by Tryz.func243 Aow Aox Tryz.ntmps243 (by rw[Tryz.results243]) (by kernel_rfl)
theorem Aoy:(match Tryz.f244.body with | some c=>BF c pJ | none=>none)=some pJ:=by kernel_rfl
theorem Aoz:(match Tryz.f244.body with | some c=>AU [0,1] c | none=>false)=true:=by kernel_rfl
theorem Ady:Ar Tryz.prog [0,1] 244 ⟨29,pJ,[.tmp 2]⟩:=Ar.by Tryz.func244 Aoy Aoz Tryz.ntmps244 (by rw[Tryz.results244]) (by kernel_rfl)
theorem AoA:(match Tryz.f245.body with | some c=>BF c pK | none=>none)=some pK:=by kernel_rfl
theorem AoB:(match Tryz.f245.body with | some c=>AU [0,1] c | none=>false)=true:=by kernel_rfl
theorem Adz:Ar Tryz.prog [0,1] 245 ⟨22,pK,[.tmp 6]⟩:=Ar.by Tryz.func245 AoA AoB Tryz.ntmps245 (by rw[Tryz.results245]) (by kernel_rfl)
theorem AoC:(match Tryz.f246.body with | some c=>BF c pM | none=>none)=some pM:=by kernel_rfl
theorem AoD:(match Tryz.f246.body with | some c=>AU [0,1] c | none=>false)=true:=by kernel_rfl
theorem AdA:Ar Tryz.prog [0,1] 246 ⟨15,pM,[.tmp 6]⟩:=Ar.by Tryz.func246 AoC AoD Tryz.ntmps246 (by rw[Tryz.results246]) (by kernel_rfl)
theorem AoE:(match Tryz.f247.body with | some c=>BF c pO | none=>none)=some pO:=by kernel_rfl
theorem AoF:(match Tryz.f247.body with | some c=>AU [0,1] c | none=>false)=true:=by kernel_rfl
theorem AdB:Ar Tryz.prog [0,1] 247 ⟨62,pO,[.tmp 2]⟩:=Ar.by Tryz.func247 AoE AoF Tryz.ntmps247 (by rw[Tryz.results247]) (by kernel_rfl)
theorem AoG:(match Tryz.f248.body with | some c=>BF c pQ | none=>none)=some pQ:=by kernel_rfl
theorem AoH:(match Tryz.f248.body with | some c=>AU [0,1] c | none=>false)=true:=by kernel_rfl
theorem AdC:Ar Tryz.prog [0,1] 248 ⟨3,pQ,[.tmp 2]⟩:=Ar.by Tryz.func248 AoG AoH Tryz.ntmps248 (by rw[Tryz.results248]) (by kernel_rfl)
end Go.Proofs.YtflonlkiajhhjaaGreatDoor.TpF
set_option maxRecDepth 100000
namespace Go.Proofs.YtflonlkiajhhjaaGreatDoor.TpF
open Go Go.Sp Go.TpF
theorem AoI:(match Tryz.f249.body with | some c=>BF c pR | none=>none)=some pR:=by kernel_rfl
theorem AoJ:(match Tryz.f249.body with | some c=>AU [0,1] c | none=>false)=true:=by kernel_rfl
theorem AdD:Ar Tryz.prog [0,1] 249 ⟨53,pR,[.tmp 2]⟩:=Ar.by Tryz.func249 AoI AoJ Tryz.ntmps249 (by rw[Tryz.results249]) (by kernel_rfl)
theorem AoK:(match Tryz.f250.body with | some c=>BF c pV | none=>none)=some pV:=by kernel_rfl
theorem AoL:(match Tryz.f250.body with | some c=>AU [0,1] c | none=>false)=true:=by kernel_rfl
theorem AdE:Ar Tryz.prog [0,1] 250 ⟨5,pV,[.tmp 2]⟩:=Ar.by Tryz.func250 AoK AoL Tryz.ntmps250 (by rw[Tryz.results250]) (by kernel_rfl)
theorem AoM:(match Tryz.f251.body with | some c=>BF c pW | none=>none)=some pW:=by kernel_rfl
theorem AoN:(match Tryz.f251.body with | some c=>AU [0,1] c | none=>false)=true:=by kernel_rfl
theorem AdF:Ar Tryz.prog [0,1] 251 ⟨115,pW,[.tmp 8]⟩:=Ar.by Tryz.func251 AoM AoN Tryz.ntmps251 (by rw[Tryz.results251]) (by kernel_rfl)
theorem AoO:(match Tryz.f252.body with | some c=>BF c Ym | none=>none)=some Ym:=by kernel_rfl
theorem AoP:(match Tryz.f252.body with | some c=>AU [0,1] c | none=>false)=true:=by kernel_rfl
theorem ZP:Ar Tryz.prog [0,1] 252 ⟨32,Ym,[]⟩:=Ar.by Tryz.func252 AoO AoP Tryz.ntmps252 (by rw[Tryz.results252]) (by kernel_rfl)
theorem AoQ:(match Tryz.f253.body with | some c=>BF c pX | none=>none)=some pX:=by kernel_rfl
theorem AoR:(match Tryz.f253.body with | some c=>AU [0,1] c | none=>false)=true:=by kernel_rfl
theorem AdG:Ar Tryz.prog [0,1] 253 ⟨47,pX,[]⟩:=Ar.by Tryz.func253 AoQ AoR Tryz.ntmps253 (by rw[Tryz.results253]) (by kernel_rfl)
theorem AoS:(match Tryz.f254.body with | some c=>BF c pY | none=>none)=some pY:=by kernel_rfl
theorem AoT:(match Tryz.f254.body with | some c=>AU [0,1] c | none=>false)=true:=by kernel_rfl
theorem AdH:Ar Tryz.prog [0,1] 254 ⟨7,pY,[.tmp 3]⟩:=Ar.by Tryz.func254 AoS AoT Tryz.ntmps254 (by rw[Tryz.results254]) (by kernel_rfl)
theorem AoU:(match Tryz.f259.body with | some c=>BF c qB | none=>none)=some qB:=by kernel_rfl
theorem AoV:(match Tryz.f259.body with | some c=>AU [0,1] c | none=>false)=true:=by kernel_rfl
theorem AdI:Ar Tryz.prog [0,1] 259 ⟨12,qB,[.tmp 3]⟩:=Ar.by Tryz.func259 AoU AoV Tryz.ntmps259 (by rw[Tryz.results259]) (by kernel_rfl)
theorem AoW:(match Tryz.f262.body with | some c=>BF c qC | none=>none)=some qC:=by kernel_rfl
theorem AoX:(match Tryz.f262.body with | some c=>AU [0,1] c | none=>false)=true:=by kernel_rfl
theorem AdJ:Ar Tryz.prog [0,1] 262 ⟨30,qC,[.cell 8 239]⟩:=Ar.by Tryz.func262 AoW AoX Tryz.ntmps262 (by rw[Tryz.results262]) (by kernel_rfl)
theorem AoY:(match Tryz.f263.body with | some c=>BF c qR | none=>none)=some qR:=by kernel_rfl
theorem AoZ:(match Tryz.f263.body with | some c=>AU [0,1] c | none=>false)=true:=by kernel_rfl
theorem AdK:Ar Tryz.prog [0,1] 263 ⟨26,qR,[.tmp 6]⟩:=Ar.by Tryz.func263 AoY AoZ Tryz.ntmps263 (by rw[Tryz.results263]) (by kernel_rfl)
theorem Ao0:(match Tryz.f264.body with | some c=>BF c qU | none=>none)=some qU:=by kernel_rfl
theorem Ao1:(match Tryz.f264.body with | some c=>AU [0,1] c | none=>false)=true:=by kernel_rfl
theorem AdL:Ar Tryz.prog [0,1] 264 ⟨10,qU,[.tmp 3]⟩:=Ar.by Tryz.func264 Ao0 Ao1 Tryz.ntmps264 (by rw[Tryz.results264]) (by kernel_rfl)
theorem Ao2:(match Tryz.f265.body with | some c=>BF c qV | none=>none)=some qV:=by kernel_rfl
theorem Ao3:(match Tryz.f265.body with | some c=>AU [0,1] c | none=>false)=true:=by kernel_rfl
theorem AdM:Ar Tryz.prog [0,1] 265 ⟨55,qV,[]⟩:=Ar.by Tryz.func265 Ao2 Ao3 Tryz.ntmps265 (by rw[Tryz.results265]) (by kernel_rfl)
theorem Ao4:(match Tryz.f266.body with | some c=>BF c qW | none=>none)=some qW:=by kernel_rfl
theorem Ao5:(match Tryz.f266.body with | some c=>AU [0,1] c | none=>false)=true:=by kernel_rfl
theorem AdN:Ar Tryz.prog [0,1] 266 ⟨14,qW,[.tmp 7]⟩:=Ar.by Tryz.func266 Ao4 Ao5 Tryz.ntmps266 (by rw[Tryz.results266]) (by kernel_rfl)
theorem Ao6:(match Tryz.f267.body with | some c=>BF c qX | none=>none)=some qX:=by kernel_rfl
theorem Ao7:(match Tryz.f267.body with | some c=>AU [0,1] c | none=>false)=true:=by kernel_rfl
theorem AdO:Ar Tryz.prog [0,1] 267 ⟨15,qX,[.tmp 6]⟩:=Ar.by Tryz.func267 Ao6 Ao7 Tryz.ntmps267 (by rw[Tryz.results267]) (by kernel_rfl)
theorem Ao8:(match Tryz.f268.body with | some c=>BF c rA | none=>none)=some rA:=by kernel_rfl
theorem Ao9:(match Tryz.f268.body with | some c=>AU [0,1] c | none=>false)=true:=by kernel_rfl
theorem AdP:Ar Tryz.prog [0,1] 268 ⟨29,rA,[]⟩:=Ar.by Tryz.func268 Ao8 Ao9 Tryz.ntmps268 (by rw[Tryz.results268]) (by kernel_rfl)
theorem Apa:(match Tryz.f269.body with | some c=>BF c rC | none=>none)=some rC:=by kernel_rfl
theorem Apb:(match Tryz.f269.body with | some c=>AU [0,1] c | none=>false)=true:=by kernel_rfl
theorem AdQ:Ar Tryz.prog [0,1] 269 ⟨13,rC,[.tmp 4]⟩:=Ar.by Tryz.func269 Apa Apb Tryz.ntmps269 (by rw[Tryz.results269]) (by kernel_rfl)
theorem Apc:(match Tryz.f272.body with | some c=>BF c rD | none=>none)=some rD:=by kernel_rfl
theorem Apd:(match Tryz.f272.body with | some c=>AU [0,1] c | none=>false)=true:=by kernel_rfl
theorem AdR:Ar Tryz.prog [0,1] 272 ⟨24,rD,[.tmp 4,.tmp 5]⟩:=Ar.by Tryz.func272 Apc Apd Tryz.ntmps272 (by rw[Tryz.results272]) (by kernel_rfl)
theorem Ape:(match Tryz.f273.body with | some c=>BF c rE | none=>none)=some rE:=by kernel_rfl
theorem Apf:(match Tryz.f273.body with | some c=>AU [0,1] c | none=>false)=true:=by kernel_rfl
theorem AdS:Ar Tryz.prog [0,1] 273 ⟨63,rE,[.tmp 6,.tmp 7]⟩:=Ar.by Tryz.func273 Ape Apf Tryz.ntmps273 (by rw[Tryz.results273]) (by kernel_rfl)
theorem Apg:(match Tryz.f276.body with | some c=>BF c rF | none=>none)=some rF:=by kernel_rfl
theorem Aph:(match Tryz.f276.body with | some c=>AU [0,1] c | none=>false)=true:=by kernel_rfl
theorem AdT:Ar Tryz.prog [0,1] 276 ⟨15,rF,[.tmp 4,.tmp 5]⟩:=Ar.by Tryz.func276 Apg Aph Tryz.ntmps276 (by rw[Tryz.results276]) (by kernel_rfl)
end Go.Proofs.YtflonlkiajhhjaaGreatDoor.TpF
set_option maxRecDepth 100000
namespace Go.Proofs.YtflonlkiajhhjaaGreatDoor.TpF
open Go Go.Sp Go.TpF
theorem Api:Cu Tryz.prog 3 ti3:=Cu.by Tryz.underlying3 (inf:=Tryz.t3) (by kernel_rfl) (by kernel_rfl) (by kernel_rfl) (by kernel_rfl) (by kernel_rfl) (fun h=>by cases h)
theorem Apj:Cu Tryz.prog 4 ti4:=Cu.by Tryz.underlying4 (inf:=Tryz.t4) (by kernel_rfl) (by kernel_rfl) (by kernel_rfl) (by kernel_rfl) (by kernel_rfl) (fun h=>by cases h)
theorem Apk:Cu Tryz.prog 5 ti5:=Cu.by Tryz.underlying5 (inf:=Tryz.t5) (by kernel_rfl) (by kernel_rfl) (by kernel_rfl) (by kernel_rfl) (by kernel_rfl) (fun h=>by cases h)
theorem Apl:Cu Tryz.prog 9 ti9:=Cu.by Tryz.underlying9 (inf:=Tryz.t9) (by kernel_rfl) (by kernel_rfl) (by kernel_rfl) (by kernel_rfl) (by kernel_rfl) (fun h=>by cases h)
theorem Ajm:Cu Tryz.prog 20 Aiu:=Cu.by Tryz.underlying20 (inf:=Tryz.t20) (by kernel_rfl) (by kernel_rfl) (by kernel_rfl) (by kernel_rfl) (by kernel_rfl) (fun h=>by cases h)
theorem Ajn:Cu Tryz.prog 23 Aiv:=Cu.by Tryz.underlying23 (inf:=Tryz.t23) (by kernel_rfl) (by kernel_rfl) (by kernel_rfl) (by kernel_rfl) (by kernel_rfl) (fun h=>by cases h)
theorem Ajo:Cu Tryz.prog 27 Aiw:=Cu.by Tryz.underlying27 (inf:=Tryz.t27) (by kernel_rfl) (by kernel_rfl) (by kernel_rfl) (by kernel_rfl) (by kernel_rfl) (fun h=>by cases h)
theorem Ajp:Cu Tryz.prog 36 Aix:=Cu.by Tryz.underlying36 (inf:=Tryz.t36) (by kernel_rfl) (by kernel_rfl) (by kernel_rfl) (by kernel_rfl) (by kernel_rfl) (fun h=>by cases h)
theorem Ajq:Cu Tryz.prog 38 Aiy:=Cu.by Tryz.underlying38 (inf:=Tryz.t38) (by kernel_rfl) (by kernel_rfl) (by kernel_rfl) (by kernel_rfl) (by kernel_rfl) (fun h=>by cases h)
theorem Ajr:Cu Tryz.prog 41 Aiz:=Cu.by Tryz.underlying41 (inf:=Tryz.t41) (by kernel_rfl) (by kernel_rfl) (by kernel_rfl) (by kernel_rfl) (by kernel_rfl) (fun h=>by cases h)
theorem Ajs:Cu Tryz.prog 53 AiA:=Cu.by Tryz.underlying53 (inf:=Tryz.t53) (by kernel_rfl) (by kernel_rfl) (by kernel_rfl) (by kernel_rfl) (by kernel_rfl) (fun h=>by cases h)
theorem Ajt:Cu Tryz.prog 54 AiB:=Cu.by Tryz.underlying54 (inf:=Tryz.t54) (by kernel_rfl) (by kernel_rfl) (by kernel_rfl) (by kernel_rfl) (by kernel_rfl) (fun h=>by cases h)
theorem Aju:Cu Tryz.prog 56 AiC:=Cu.by Tryz.underlying56 (inf:=Tryz.t56) (by kernel_rfl) (by kernel_rfl) (by kernel_rfl) (by kernel_rfl) (by kernel_rfl) (fun h=>by cases h)
theorem Ajv:Cu Tryz.prog 58 AiD:=Cu.by Tryz.underlying58 (inf:=Tryz.t58) (by kernel_rfl) (by kernel_rfl) (by kernel_rfl) (by kernel_rfl) (by kernel_rfl) (fun _=>⟨_,rfl,Fl.ok (d:=8) (⟨by kernel_rfl,.inr (.inr (.inr (.inl ⟨2,3,[(.int .i64 0)],Tryz.underlying58,⟨by kernel_rfl,.inl ⟨⟨_,Tryz.underlying3⟩,_,_,rfl⟩⟩,by kernel_rfl⟩)))⟩) (by decide) ⟨_,Tryz.underlying58,rfl⟩ (by kernel_rfl)⟩)
theorem Ajw:Cu Tryz.prog 71 AiE:=Cu.by Tryz.underlying71 (inf:=Tryz.t71) (by kernel_rfl) (by kernel_rfl) (by kernel_rfl) (by kernel_rfl) (by kernel_rfl) (fun h=>by cases h)
theorem Ajx:Cu Tryz.prog 91 AiF:=Cu.by Tryz.underlying91 (inf:=Tryz.t91) (by kernel_rfl) (by kernel_rfl) (by kernel_rfl) (by kernel_rfl) (by kernel_rfl) (fun h=>by cases h)
theorem Ajy:Cu Tryz.prog 92 AiG:=Cu.by Tryz.underlying92 (inf:=Tryz.t92) (by kernel_rfl) (by kernel_rfl) (by kernel_rfl) (by kernel_rfl) (by kernel_rfl) (fun h=>by cases h)
theorem Ajz:Cu Tryz.prog 96 AiH:=Cu.by Tryz.underlying96 (inf:=Tryz.t96) (by kernel_rfl) (by kernel_rfl) (by kernel_rfl) (by kernel_rfl) (by kernel_rfl) (fun h=>by cases h)
theorem AjA:Cu Tryz.prog 99 AiI:=Cu.by Tryz.underlying99 (inf:=Tryz.t99) (by kernel_rfl) (by kernel_rfl) (by kernel_rfl) (by kernel_rfl) (by kernel_rfl) (fun _=>⟨_,rfl,Fl.ok (d:=8) (⟨by kernel_rfl,.inr (.inr (.inr (.inr ⟨_,Tryz.underlying99,by kernel_rfl,⟨by decide,rfl,[(.int .i64 0)],[(.int .u32 0)],rfl,⟨by kernel_rfl,.inl ⟨⟨_,Tryz.underlying3⟩,_,_,rfl⟩⟩,⟨by decide,rfl,[(.int .u32 0)],[],rfl,⟨by kernel_rfl,.inl ⟨⟨_,Tryz.underlying38⟩,_,_,rfl⟩⟩,rfl⟩⟩⟩)))⟩) (by decide) ⟨_,Tryz.underlying99,rfl⟩ (by kernel_rfl)⟩)
theorem AdU:Cu Tryz.prog 130 sZ:=Cu.by Tryz.underlying130 (inf:=Tryz.t130) (by kernel_rfl) (by kernel_rfl) (by kernel_rfl) (by kernel_rfl) (by kernel_rfl) (fun h=>by cases h)
theorem AdV:Cu Tryz.prog 133 tC:=Cu.by Tryz.underlying133 (inf:=Tryz.t133) (by kernel_rfl) (by kernel_rfl) (by kernel_rfl) (by kernel_rfl) (by kernel_rfl) (fun h=>by cases h)
theorem AdW:Cu Tryz.prog 140 tF:=Cu.by Tryz.underlying140 (inf:=Tryz.t140) (by kernel_rfl) (by kernel_rfl) (by kernel_rfl) (by kernel_rfl) (by kernel_rfl) (fun h=>by cases h)
theorem AdX:Cu Tryz.prog 141 tH:=Cu.by Tryz.underlying141 (inf:=Tryz.t141) (by kernel_rfl) (by kernel_rfl) (by kernel_rfl) (by kernel_rfl) (by kernel_rfl) (fun h=>by cases h)
theorem AdY:Cu Tryz.prog 163 tJ:=Cu.by Tryz.underlying163 (inf:=Tryz.t163) (by kernel_rfl) (by kernel_rfl) (by kernel_rfl) (by kernel_rfl) (by kernel_rfl) (fun h=>by cases h)
theorem AdZ:Cu Tryz.prog 166 tK:=Cu.by Tryz.underlying166 (inf:=Tryz.t166) (by kernel_rfl) (by kernel_rfl) (by kernel_rfl) (by kernel_rfl) (by kernel_rfl) (fun h=>by cases h)
theorem Ad0:Cu Tryz.prog 168 tL:=Cu.by Tryz.underlying168 (inf:=Tryz.t168) (by kernel_rfl) (by kernel_rfl) (by kernel_rfl) (by kernel_rfl) (by kernel_rfl) (fun _=>⟨_,rfl,Fl.ok (d:=8) (⟨by kernel_rfl,.inr (.inr (.inr (.inl ⟨11,3,[(.int .i64 0)],Tryz.underlying168,⟨by kernel_rfl,.inl ⟨⟨_,Tryz.underlying3⟩,_,_,rfl⟩⟩,by kernel_rfl⟩)))⟩) (by decide) ⟨_,Tryz.underlying168,rfl⟩ (by kernel_rfl)⟩)
theorem Ad1:Cu Tryz.prog 170 tN:=Cu.by Tryz.underlying170 (inf:=Tryz.t170) (by kernel_rfl) (by kernel_rfl) (by kernel_rfl) (by kernel_rfl) (by kernel_rfl) (fun h=>by cases h)
theorem Ad2:Cu Tryz.prog 171 tO:=Cu.by Tryz.underlying171 (inf:=Tryz.t171) (by kernel_rfl) (by kernel_rfl) (by kernel_rfl) (by kernel_rfl) (by kernel_rfl) (fun _=>⟨_,rfl,Fl.ok (d:=8) (⟨by kernel_rfl,.inr (.inr (.inr (.inl ⟨2,170,[(.int .u64 0)],Tryz.underlying171,⟨by kernel_rfl,.inl ⟨⟨_,Tryz.underlying170⟩,_,_,rfl⟩⟩,by kernel_rfl⟩)))⟩) (by decide) ⟨_,Tryz.underlying171,rfl⟩ (by kernel_rfl)⟩)
theorem Ad3:Cu Tryz.prog 173 tQ:=Cu.by Tryz.underlying173 (inf:=Tryz.t173) (by kernel_rfl) (by kernel_rfl) (by kernel_rfl) (by kernel_rfl) (by kernel_rfl) (fun _=>⟨_,rfl,Fl.ok (d:=8) (⟨by kernel_rfl,.inr (.inr (.inr (.inl ⟨7,171,[(.int .u64 0),(.int .u64 0)],Tryz.underlying173,⟨by kernel_rfl,.inr (.inr (.inr (.inl ⟨2,170,[(.int .u64 0)],Tryz.underlying171,⟨by kernel_rfl,.inl ⟨⟨_,Tryz.underlying170⟩,_,_,rfl⟩⟩,by kernel_rfl⟩)))⟩,by kernel_rfl⟩)))⟩) (by decide) ⟨_,Tryz.underlying173,rfl⟩ (by kernel_rfl)⟩)
theorem Ad4:Cu Tryz.prog 185 tT:=Cu.by Tryz.underlying185 (inf:=Tryz.t185) (by kernel_rfl) (by kernel_rfl) (by kernel_rfl) (by kernel_rfl) (by kernel_rfl) (fun _=>⟨_,rfl,Fl.ok (d:=8) (⟨by kernel_rfl,.inr (.inr (.inr (.inl ⟨8,141,[(.int .u8 0)],Tryz.underlying185,⟨by kernel_rfl,.inl ⟨⟨_,Tryz.underlying141⟩,_,_,rfl⟩⟩,by kernel_rfl⟩)))⟩) (by decide) ⟨_,Tryz.underlying185,rfl⟩ (by kernel_rfl)⟩)
theorem Ad5:Cu Tryz.prog 186 tV:=Cu.by Tryz.underlying186 (inf:=Tryz.t186) (by kernel_rfl) (by kernel_rfl) (by kernel_rfl) (by kernel_rfl) (by kernel_rfl) (fun _=>⟨_,rfl,Fl.ok (d:=8) (⟨by kernel_rfl,.inr (.inr (.inr (.inl ⟨8,185,[(.int .u8 0),(.int .u8 0),(.int .u8 0),(.int .u8 0),(.int .u8 0),(.int .u8 0),(.int .u8 0),(.int .u8 0)],Tryz.underlying186,⟨by kernel_rfl,.inr (.inr (.inr (.inl ⟨8,141,[(.int .u8 0)],Tryz.underlying185,⟨by kernel_rfl,.inl ⟨⟨_,Tryz.underlying141⟩,_,_,rfl⟩⟩,by kernel_rfl⟩)))⟩,by kernel_rfl⟩)))⟩) (by decide) ⟨_,Tryz.underlying186,rfl⟩ (by kernel_rfl)⟩)
theorem Ad6:Cu Tryz.prog 188 tX:=Cu.by Tryz.underlying188 (inf:=Tryz.t188) (by kernel_rfl) (by kernel_rfl) (by kernel_rfl) (by kernel_rfl) (by kernel_rfl) (fun h=>by cases h)
theorem Ad7:Cu Tryz.prog 189 tY:=Cu.by Tryz.underlying189 (inf:=Tryz.t189) (by kernel_rfl) (by kernel_rfl) (by kernel_rfl) (by kernel_rfl) (by kernel_rfl) (fun h=>by cases h)
theorem Ad8:Cu Tryz.prog 193 tZ:=Cu.by Tryz.underlying193 (inf:=Tryz.t193) (by kernel_rfl) (by kernel_rfl) (by kernel_rfl) (by kernel_rfl) (by kernel_rfl) (fun h=>by cases h)
theorem Ad9:Cu Tryz.prog 208 uA:=Cu.by Tryz.underlying208 (inf:=Tryz.t208) (by kernel_rfl) (by kernel_rfl) (by kernel_rfl) (by kernel_rfl) (by kernel_rfl) (fun _=>⟨_,rfl,Fl.ok (d:=8) (⟨by kernel_rfl,.inr (.inr (.inr (.inr ⟨_,Tryz.underlying208,by kernel_rfl,⟨by decide,rfl,[(.int .i64 0)],[(.bool false)],rfl,⟨by kernel_rfl,.inl ⟨⟨_,Tryz.underlying3⟩,_,_,rfl⟩⟩,⟨by decide,rfl,[(.bool false)],[],rfl,⟨by kernel_rfl,.inr (.inl ⟨Tryz.underlying4,_,rfl⟩)⟩,rfl⟩⟩⟩)))⟩) (by decide) ⟨_,Tryz.underlying208,rfl⟩ (by kernel_rfl)⟩)
theorem Aea:Cu Tryz.prog 211 uB:=Cu.by Tryz.underlying211 (inf:=Tryz.t211) (by kernel_rfl) (by kernel_rfl) (by kernel_rfl) (by kernel_rfl) (by kernel_rfl) (fun h=>by cases h)
theorem Aeb:Cu Tryz.prog 214 uC:=Cu.by Tryz.underlying214 (inf:=Tryz.t214) (by kernel_rfl) (by kernel_rfl) (by kernel_rfl) (by kernel_rfl) (by kernel_rfl) (fun h=>by cases h)
theorem Aec:Cu Tryz.prog 216 uD:=Cu.by Tryz.underlying216 (inf:=Tryz.t216) (by kernel_rfl) (by kernel_rfl) (by kernel_rfl) (by kernel_rfl) (by kernel_rfl) (fun h=>by cases h)
theorem Aed:Cu Tryz.prog 219 uE:=Cu.by Tryz.underlying219 (inf:=Tryz.t219) (by kernel_rfl) (by kernel_rfl) (by kernel_rfl) (by kernel_rfl) (by kernel_rfl) (fun h=>by cases h)
theorem Aee:Cu Tryz.prog 220 uF:=Cu.by Tryz.underlying220 (inf:=Tryz.t220) (by kernel_rfl) (by kernel_rfl) (by kernel_rfl) (by kernel_rfl) (by kernel_rfl) (fun h=>by cases h)
theorem Aef:Cu Tryz.prog 222 uG:=Cu.by Tryz.underlying222 (inf:=Tryz.t222) (by kernel_rfl) (by kernel_rfl) (by kernel_rfl) (by kernel_rfl) (by kernel_rfl) (fun h=>by cases h)
theorem Aeg:Cu Tryz.prog 236 uH:=Cu.by Tryz.underlying236 (inf:=Tryz.t236) (by kernel_rfl) (by kernel_rfl) (by kernel_rfl) (by kernel_rfl) (by kernel_rfl) (fun h=>by cases h)
theorem Aeh:Cu Tryz.prog 239 uI:=Cu.by Tryz.underlying239 (inf:=Tryz.t239) (by kernel_rfl) (by kernel_rfl) (by kernel_rfl) (by kernel_rfl) (by kernel_rfl) (fun _=>⟨_,rfl,Fl.ok (d:=8) (⟨by kernel_rfl,.inr (.inr (.inr (.inr ⟨_,Tryz.underlying239,by kernel_rfl,⟨by decide,rfl,[(.int .i64 0)],[(.int .i64 0),(.int .i64 0),(.int .i64 0)],rfl,⟨by kernel_rfl,.inl ⟨⟨_,Tryz.underlying3⟩,_,_,rfl⟩⟩,⟨by decide,rfl,[(.int .i64 0)],[(.int .i64 0),(.int .i64 0)],rfl,⟨by kernel_rfl,.inl ⟨⟨_,Tryz.underlying3⟩,_,_,rfl⟩⟩,⟨by decide,rfl,[(.int .i64 0)],[(.int .i64 0)],rfl,⟨by kernel_rfl,.inl ⟨⟨_,Tryz.underlying3⟩,_,_,rfl⟩⟩,⟨by decide,rfl,[(.int .i64 0)],[],rfl,⟨by kernel_rfl,.inl ⟨⟨_,Tryz.underlying3⟩,_,_,rfl⟩⟩,rfl⟩⟩⟩⟩⟩)))⟩) (by decide) ⟨_,Tryz.underlying239,rfl⟩ (by kernel_rfl)⟩)
theorem Aei:Cu Tryz.prog 243 uJ:=Cu.by Tryz.underlying243 (inf:=Tryz.t243) (by kernel_rfl) (by kernel_rfl) (by kernel_rfl) (by kernel_rfl) (by kernel_rfl) (fun _=>⟨_,rfl,Fl.ok (d:=8) (⟨by kernel_rfl,.inr (.inr (.inr (.inr ⟨_,Tryz.underlying243,by kernel_rfl,⟨by decide,rfl,[(.int .i64 0)],[(.int .i64 0),(.int .i64 0),(.int .i64 0)],rfl,⟨by kernel_rfl,.inl ⟨⟨_,Tryz.underlying3⟩,_,_,rfl⟩⟩,⟨by decide,rfl,[(.int .i64 0)],[(.int .i64 0),(.int .i64 0)],rfl,⟨by kernel_rfl,.inl ⟨⟨_,Tryz.underlying3⟩,_,_,rfl⟩⟩,⟨by decide,rfl,[(.int .i64 0)],[(.int .i64 0)],rfl,⟨by kernel_rfl,.inl ⟨⟨_,Tryz.underlying3⟩,_,_,rfl⟩⟩,⟨by decide,rfl,[(.int .i64 0)],[],rfl,⟨by kernel_rfl,.inl ⟨⟨_,Tryz.underlying3⟩,_,_,rfl⟩⟩,rfl⟩⟩⟩⟩⟩)))⟩) (by decide) ⟨_,Tryz.underlying243,rfl⟩ (by kernel_rfl)⟩)
theorem Aej:Cu Tryz.prog 246 uK:=Cu.by Tryz.underlying246 (inf:=Tryz.t246) (by kernel_rfl) (by kernel_rfl) (by kernel_rfl) (by kernel_rfl) (by kernel_rfl) (fun _=>⟨_,rfl,Fl.ok (d:=8) (⟨by kernel_rfl,.inr (.inr (.inr (.inr ⟨_,Tryz.underlying246,by kernel_rfl,⟨by decide,rfl,[(.int .i64 0)],[(.int .i64 0),(.int .i64 0),(.int .i64 0)],rfl,⟨by kernel_rfl,.inl ⟨⟨_,Tryz.underlying3⟩,_,_,rfl⟩⟩,⟨by decide,rfl,[(.int .i64 0)],[(.int .i64 0),(.int .i64 0)],rfl,⟨by kernel_rfl,.inl ⟨⟨_,Tryz.underlying3⟩,_,_,rfl⟩⟩,⟨by decide,rfl,[(.int .i64 0)],[(.int .i64 0)],rfl,⟨by kernel_rfl,.inl ⟨⟨_,Tryz.underlying3⟩,_,_,rfl⟩⟩,⟨by decide,rfl,[(.int .i64 0)],[],rfl,⟨by kernel_rfl,.inl ⟨⟨_,Tryz.underlying3⟩,_,_,rfl⟩⟩,rfl⟩⟩⟩⟩⟩)))⟩) (by decide) ⟨_,Tryz.underlying246,rfl⟩ (by kernel_rfl)⟩)
theorem Aek:Cu Tryz.prog 247 uL:=Cu.by Tryz.underlying247 (inf:=Tryz.t247) (by kernel_rfl) (by kernel_rfl) (by kernel_rfl) (by kernel_rfl) (by kernel_rfl) (fun h=>by cases h)
theorem Ael:Cu Tryz.prog 249 uM:=Cu.by Tryz.underlying249 (inf:=Tryz.t249) (by kernel_rfl) (by kernel_rfl) (by kernel_rfl) (by kernel_rfl) (by kernel_rfl) (fun h=>by cases h)
theorem Aem:Cu Tryz.prog 250 uN:=Cu.by Tryz.underlying250 (inf:=Tryz.t250) (by kernel_rfl) (by kernel_rfl) (by kernel_rfl) (by kernel_rfl) (by kernel_rfl) (fun h=>by cases h)
theorem Aen:Cu Tryz.prog 254 uO:=Cu.by Tryz.underlying254 (inf:=Tryz.t254) (by kernel_rfl) (by kernel_rfl) (by kernel_rfl) (by kernel_rfl) (by kernel_rfl) (fun h=>by cases h)
theorem Aeo:Cu Tryz.prog 267 uP:=Cu.by Tryz.underlying267 (inf:=Tryz.t267) (by kernel_rfl) (by kernel_rfl) (by kernel_rfl) (by kernel_rfl) (by kernel_rfl) (fun _=>⟨_,rfl,Fl.ok (d:=8) (⟨by kernel_rfl,.inr (.inr (.inr (.inl ⟨64,5,[(.int .u8 0)],Tryz.underlying267,⟨by kernel_rfl,.inl ⟨⟨_,Tryz.underlying5⟩,_,_,rfl⟩⟩,by kernel_rfl⟩)))⟩) (by decide) ⟨_,Tryz.underlying267,rfl⟩ (by kernel_rfl)⟩)
theorem Aep:Cu Tryz.prog 270 uQ:=Cu.by Tryz.underlying270 (inf:=Tryz.t270) (by kernel_rfl) (by kernel_rfl) (by kernel_rfl) (by kernel_rfl) (by kernel_rfl) (fun _=>⟨_,rfl,Fl.ok (d:=8) (⟨by kernel_rfl,.inr (.inr (.inr (.inl ⟨17,3,[(.int .i64 0)],Tryz.underlying270,⟨by kernel_rfl,.inl ⟨⟨_,Tryz.underlying3⟩,_,_,rfl⟩⟩,by kernel_rfl⟩)))⟩) (by decide) ⟨_,Tryz.underlying270,rfl⟩ (by kernel_rfl)⟩)
theorem Aeq:Cu Tryz.prog 273 uR:=Cu.by Tryz.underlying273 (inf:=Tryz.t273) (by kernel_rfl) (by kernel_rfl) (by kernel_rfl) (by kernel_rfl) (by kernel_rfl) (fun h=>by cases h)
theorem Aer:Cu Tryz.prog 274 uS:=Cu.by Tryz.underlying274 (inf:=Tryz.t274) (by kernel_rfl) (by kernel_rfl) (by kernel_rfl) (by kernel_rfl) (by kernel_rfl) (fun _=>⟨_,rfl,Fl.ok (d:=8) (⟨by kernel_rfl,.inr (.inr (.inr (.inl ⟨2,273,[(.int .u64 0)],Tryz.underlying274,⟨by kernel_rfl,.inl ⟨⟨_,Tryz.underlying273⟩,_,_,rfl⟩⟩,by kernel_rfl⟩)))⟩) (by decide) ⟨_,Tryz.underlying274,rfl⟩ (by kernel_rfl)⟩)
theorem Aes:Cu Tryz.prog 276 uT:=Cu.by Tryz.underlying276 (inf:=Tryz.t276) (by kernel_rfl) (by kernel_rfl) (by kernel_rfl) (by kernel_rfl) (by kernel_rfl) (fun _=>⟨_,rfl,Fl.ok (d:=8) (⟨by kernel_rfl,.inr (.inr (.inr (.inr ⟨_,Tryz.underlying276,by kernel_rfl,⟨by decide,rfl,[(.int .i64 0),(.int .i64 0),(.int .i64 0),(.int .i64 0)],[(.int .u64 0),(.int .u64 0),(.int .u64 0)],rfl,⟨by kernel_rfl,.inr (.inr (.inr (.inr ⟨_,Tryz.underlying243,by kernel_rfl,⟨by decide,rfl,[(.int .i64 0)],[(.int .i64 0),(.int .i64 0),(.int .i64 0)],rfl,⟨by kernel_rfl,.inl ⟨⟨_,Tryz.underlying3⟩,_,_,rfl⟩⟩,⟨by decide,rfl,[(.int .i64 0)],[(.int .i64 0),(.int .i64 0)],rfl,⟨by kernel_rfl,.inl ⟨⟨_,Tryz.underlying3⟩,_,_,rfl⟩⟩,⟨by decide,rfl,[(.int .i64 0)],[(.int .i64 0)],rfl,⟨by kernel_rfl,.inl ⟨⟨_,Tryz.underlying3⟩,_,_,rfl⟩⟩,⟨by decide,rfl,[(.int .i64 0)],[],rfl,⟨by kernel_rfl,.inl ⟨⟨_,Tryz.underlying3⟩,_,_,rfl⟩⟩,rfl⟩⟩⟩⟩⟩)))⟩,⟨by decide,rfl,[(.int .u64 0),(.int .u64 0)],[(.int .u64 0)],rfl,⟨by kernel_rfl,.inr (.inr (.inr (.inl ⟨2,273,[(.int .u64 0)],Tryz.underlying274,⟨by kernel_rfl,.inl ⟨⟨_,Tryz.underlying273⟩,_,_,rfl⟩⟩,by kernel_rfl⟩)))⟩,⟨by decide,rfl,[(.int .u64 0)],[],rfl,⟨by kernel_rfl,.inl ⟨⟨_,Tryz.underlying273⟩,_,_,rfl⟩⟩,rfl⟩⟩⟩⟩)))⟩) (by decide) ⟨_,Tryz.underlying276,rfl⟩ (by kernel_rfl)⟩)
theorem Aet:Cu Tryz.prog 279 uU:=Cu.by Tryz.underlying279 (inf:=Tryz.t279) (by kernel_rfl) (by kernel_rfl) (by kernel_rfl) (by kernel_rfl) (by kernel_rfl) (fun h=>by cases h)
theorem Aeu:Cu Tryz.prog 284 uV:=Cu.by Tryz.underlying284 (inf:=Tryz.t284) (by kernel_rfl) (by kernel_rfl) (by kernel_rfl) (by kernel_rfl) (by kernel_rfl) (fun h=>by cases h)
theorem Aev:Cu Tryz.prog 295 uW:=Cu.by Tryz.underlying295 (inf:=Tryz.t295) (by kernel_rfl) (by kernel_rfl) (by kernel_rfl) (by kernel_rfl) (by kernel_rfl) (fun _=>⟨_,rfl,Fl.ok (d:=8) (⟨by kernel_rfl,.inr (.inr (.inr (.inl ⟨8,220,[(.int .u8 0)],Tryz.underlying295,⟨by kernel_rfl,.inl ⟨⟨_,Tryz.underlying220⟩,_,_,rfl⟩⟩,by kernel_rfl⟩)))⟩) (by decide) ⟨_,Tryz.underlying295,rfl⟩ (by kernel_rfl)⟩)
theorem Aew:Cu Tryz.prog 301 uX:=Cu.by Tryz.underlying301 (inf:=Tryz.t301) (by kernel_rfl) (by kernel_rfl) (by kernel_rfl) (by kernel_rfl) (by kernel_rfl) (fun _=>⟨_,rfl,Fl.ok (d:=8) (⟨by kernel_rfl,.inr (.inr (.inr (.inr ⟨_,Tryz.underlying301,by kernel_rfl,⟨by decide,rfl,[(.int .i64 0),(.int .i64 0),(.int .i64 0),(.int .i64 0)],[(.int .i64 0)],rfl,⟨by kernel_rfl,.inr (.inr (.inr (.inr ⟨_,Tryz.underlying239,by kernel_rfl,⟨by decide,rfl,[(.int .i64 0)],[(.int .i64 0),(.int .i64 0),(.int .i64 0)],rfl,⟨by kernel_rfl,.inl ⟨⟨_,Tryz.underlying3⟩,_,_,rfl⟩⟩,⟨by decide,rfl,[(.int .i64 0)],[(.int .i64 0),(.int .i64 0)],rfl,⟨by kernel_rfl,.inl ⟨⟨_,Tryz.underlying3⟩,_,_,rfl⟩⟩,⟨by decide,rfl,[(.int .i64 0)],[(.int .i64 0)],rfl,⟨by kernel_rfl,.inl ⟨⟨_,Tryz.underlying3⟩,_,_,rfl⟩⟩,⟨by decide,rfl,[(.int .i64 0)],[],rfl,⟨by kernel_rfl,.inl ⟨⟨_,Tryz.underlying3⟩,_,_,rfl⟩⟩,rfl⟩⟩⟩⟩⟩)))⟩,⟨by decide,rfl,[(.int .i64 0)],[],rfl,⟨by kernel_rfl,.inl ⟨⟨_,Tryz.underlying3⟩,_,_,rfl⟩⟩,rfl⟩⟩⟩)))⟩) (by decide) ⟨_,Tryz.underlying301,rfl⟩ (by kernel_rfl)⟩)
theorem Aey:Cu Tryz.prog 305 uY:=Cu.by Tryz.underlying305 (inf:=Tryz.t305) (by kernel_rfl) (by kernel_rfl) (by kernel_rfl) (by kernel_rfl) (by kernel_rfl) (fun h=>by cases h)
theorem Aez:Cu Tryz.prog 307 uZ:=Cu.by Tryz.underlying307 (inf:=Tryz.t307) (by kernel_rfl) (by kernel_rfl) (by kernel_rfl) (by kernel_rfl) (by kernel_rfl) (fun h=>by cases h)
theorem AeA:Cu Tryz.prog 309 vB:=Cu.by Tryz.underlying309 (inf:=Tryz.t309) (by kernel_rfl) (by kernel_rfl) (by kernel_rfl) (by kernel_rfl) (by kernel_rfl) (fun h=>by cases h)
theorem AeB:Cu Tryz.prog 323 vC:=Cu.by Tryz.underlying323 (inf:=Tryz.t323) (by kernel_rfl) (by kernel_rfl) (by kernel_rfl) (by kernel_rfl) (by kernel_rfl) (fun _=>⟨_,rfl,Fl.ok (d:=8) (⟨by kernel_rfl,.inr (.inr (.inr (.inr ⟨_,Tryz.underlying323,by kernel_rfl,⟨by decide,rfl,[(.int .i64 0)],[(.int .i64 0),(.bool false)],rfl,⟨by kernel_rfl,.inl ⟨⟨_,Tryz.underlying3⟩,_,_,rfl⟩⟩,⟨by decide,rfl,[(.int .i64 0)],[(.bool false)],rfl,⟨by kernel_rfl,.inl ⟨⟨_,Tryz.underlying3⟩,_,_,rfl⟩⟩,⟨by decide,rfl,[(.bool false)],[],rfl,⟨by kernel_rfl,.inr (.inl ⟨Tryz.underlying4,_,rfl⟩)⟩,rfl⟩⟩⟩⟩)))⟩) (by decide) ⟨_,Tryz.underlying323,rfl⟩ (by kernel_rfl)⟩)
theorem AeC:Cu Tryz.prog 324 vD:=Cu.by Tryz.underlying324 (inf:=Tryz.t324) (by kernel_rfl) (by kernel_rfl) (by kernel_rfl) (by kernel_rfl) (by kernel_rfl) (fun h=>by cases h)
theorem AeD:Cu Tryz.prog 326 vE:=Cu.by Tryz.underlying326 (inf:=Tryz.t326) (by kernel_rfl) (by kernel_rfl) (by kernel_rfl) (by kernel_rfl) (by kernel_rfl) (fun _=>⟨_,rfl,Fl.ok (d:=8) (⟨by kernel_rfl,.inr (.inr (.inr (.inr ⟨_,Tryz.underlying326,by kernel_rfl,⟨by decide,rfl,[(.int .i64 0)],[(.int .i64 0),(.bool false)],rfl,⟨by kernel_rfl,.inl ⟨⟨_,Tryz.underlying3⟩,_,_,rfl⟩⟩,⟨by decide,rfl,[(.int .i64 0)],[(.bool false)],rfl,⟨by kernel_rfl,.inl ⟨⟨_,Tryz.underlying3⟩,_,_,rfl⟩⟩,⟨by decide,rfl,[(.bool false)],[],rfl,⟨by kernel_rfl,.inr (.inl ⟨Tryz.underlying4,_,rfl⟩)⟩,rfl⟩⟩⟩⟩)))⟩) (by decide) ⟨_,Tryz.underlying326,rfl⟩ (by kernel_rfl)⟩)
theorem AeE:Cu Tryz.prog 327 vF:=Cu.by Tryz.underlying327 (inf:=Tryz.t327) (by kernel_rfl) (by kernel_rfl) (by kernel_rfl) (by kernel_rfl) (by kernel_rfl) (fun h=>by cases h)
theorem AeF:Cu Tryz.prog 333 vG:=Cu.by Tryz.underlying333 (inf:=Tryz.t333) (by kernel_rfl) (by kernel_rfl) (by kernel_rfl) (by kernel_rfl) (by kernel_rfl) (fun h=>by cases h)
theorem Fb:Jm Tryz.prog tt:=Jm.of_all (t:=AiJ) ⟨trivial,⟨trivial,⟨Api,⟨trivial,⟨trivial,trivial,⟨trivial,trivial,⟨trivial,trivial,⟨Aeh,trivial,trivial⟩⟩⟩⟩,⟨Ajn,⟨trivial,⟨Ajw,trivial,⟨trivial,⟨AeE,trivial,trivial⟩,trivial⟩⟩,⟨trivial,⟨trivial,⟨Aev,trivial,trivial⟩,trivial⟩,trivial⟩⟩,⟨trivial,⟨trivial,⟨trivial,⟨Aet,trivial,trivial⟩,trivial⟩,trivial⟩,⟨trivial,trivial,⟨Aek,trivial,trivial⟩⟩⟩⟩⟩,⟨trivial,⟨trivial,⟨trivial,⟨trivial,trivial,⟨trivial,⟨AeB,trivial,trivial⟩,trivial⟩⟩,⟨AjA,⟨AdY,trivial,trivial⟩,trivial⟩⟩,⟨trivial,⟨trivial,trivial,⟨Aea,trivial,trivial⟩⟩,⟨trivial,⟨trivial,⟨Aez,trivial,trivial⟩,trivial⟩,⟨Aei,trivial,trivial⟩⟩⟩⟩,⟨Ajo,⟨trivial,⟨trivial,⟨trivial,⟨Aeo,trivial,trivial⟩,trivial⟩,trivial⟩,⟨trivial,⟨Ad2,trivial,trivial⟩,trivial⟩⟩,⟨trivial,⟨Ajx,trivial,⟨Aed,trivial,trivial⟩⟩,trivial⟩⟩⟩⟩,⟨Apk,⟨Apl,⟨trivial,⟨trivial,⟨trivial,trivial,⟨Ad8,trivial,trivial⟩⟩,trivial⟩,⟨trivial,⟨trivial,⟨trivial,⟨Aeq,trivial,trivial⟩,trivial⟩,trivial⟩,⟨trivial,⟨trivial,⟨Aey,trivial,trivial⟩,trivial⟩,trivial⟩⟩⟩,⟨trivial,⟨Ajr,trivial,trivial⟩,⟨trivial,trivial,⟨trivial,⟨Ad4,trivial,trivial⟩,⟨Ael,trivial,trivial⟩⟩⟩⟩⟩,⟨trivial,⟨trivial,⟨trivial,⟨trivial,⟨AdV,trivial,trivial⟩,trivial⟩,trivial⟩,⟨Ajs,trivial,⟨trivial,⟨trivial,⟨AeA,trivial,trivial⟩,trivial⟩,trivial⟩⟩⟩,⟨trivial,⟨trivial,⟨trivial,⟨AdX,trivial,trivial⟩,⟨trivial,⟨AeF,trivial,trivial⟩,trivial⟩⟩,⟨trivial,⟨Ad3,⟨Aew,trivial,trivial⟩,trivial⟩,trivial⟩⟩,⟨trivial,trivial,⟨trivial,⟨Ad7,trivial,trivial⟩,trivial⟩⟩⟩⟩⟩⟩,⟨trivial,⟨Apj,⟨trivial,⟨trivial,⟨trivial,trivial,⟨Ajz,trivial,trivial⟩⟩,⟨trivial,⟨trivial,trivial,⟨Ad9,trivial,trivial⟩⟩,trivial⟩⟩,⟨trivial,⟨trivial,trivial,⟨trivial,⟨Ad0,trivial,trivial⟩,trivial⟩⟩,⟨Aju,⟨trivial,trivial,⟨Aec,trivial,trivial⟩⟩,trivial⟩⟩⟩,⟨trivial,⟨Ajm,⟨Ajp,⟨trivial,trivial,⟨trivial,⟨AeC,trivial,trivial⟩,trivial⟩⟩,trivial⟩,⟨trivial,⟨trivial,⟨trivial,⟨Aes,trivial,trivial⟩,trivial⟩,trivial⟩,trivial⟩⟩,⟨trivial,⟨trivial,⟨trivial,⟨AdW,trivial,trivial⟩,trivial⟩,⟨trivial,trivial,⟨Aeg,trivial,trivial⟩⟩⟩,⟨trivial,⟨Ajy,⟨trivial,⟨Aeu,trivial,trivial⟩,trivial⟩,⟨Aee,trivial,trivial⟩⟩,⟨trivial,⟨Ad6,trivial,trivial⟩,trivial⟩⟩⟩⟩⟩,⟨trivial,⟨trivial,⟨trivial,⟨trivial,⟨trivial,⟨AdU,trivial,trivial⟩,trivial⟩,trivial⟩,⟨trivial,⟨trivial,⟨trivial,⟨Aer,trivial,trivial⟩,trivial⟩,trivial⟩,trivial⟩⟩,⟨trivial,⟨trivial,trivial,⟨trivial,⟨Ad1,trivial,trivial⟩,trivial⟩⟩,⟨Ajv,trivial,⟨trivial,⟨Ad5,trivial,trivial⟩,⟨Aem,trivial,trivial⟩⟩⟩⟩⟩,⟨trivial,⟨trivial,⟨Ajq,⟨trivial,trivial,⟨trivial,⟨AeD,trivial,trivial⟩,trivial⟩⟩,⟨trivial,⟨AdZ,trivial,trivial⟩,trivial⟩⟩,⟨Ajt,⟨trivial,trivial,⟨Aeb,trivial,trivial⟩⟩,⟨trivial,trivial,⟨Aej,trivial,trivial⟩⟩⟩⟩,⟨trivial,⟨trivial,⟨trivial,⟨trivial,⟨Aep,trivial,trivial⟩,trivial⟩,trivial⟩,trivial⟩,⟨trivial,⟨trivial,trivial,⟨Aef,trivial,trivial⟩⟩,⟨trivial,trivial,⟨Aen,trivial,trivial⟩⟩⟩⟩⟩⟩⟩⟩
theorem AjB:AiK.All (Ar Tryz.prog [0,1]):=⟨trivial,⟨trivial,⟨trivial,⟨trivial,⟨Ai4,⟨trivial,⟨wN,⟨Acx,trivial,trivial⟩,⟨Ac6,trivial,trivial⟩⟩,⟨trivial,trivial,⟨Adl,trivial,trivial⟩⟩⟩,⟨trivial,⟨trivial,⟨AcC,trivial,trivial⟩,⟨Adh,trivial,trivial⟩⟩,trivial⟩⟩,⟨trivial,⟨vX,⟨Aje,⟨trivial,⟨AdK,trivial,trivial⟩,trivial⟩,trivial⟩,⟨Zz,⟨AcP,trivial,trivial⟩,trivial⟩⟩,⟨trivial,⟨trivial,⟨AcH,trivial,trivial⟩,trivial⟩,⟨ZE,⟨AcY,trivial,trivial⟩,⟨AdB,trivial,trivial⟩⟩⟩⟩⟩,⟨trivial,⟨trivial,⟨trivial,⟨Ajc,⟨trivial,⟨AdI,trivial,trivial⟩,trivial⟩,⟨Ada,trivial,trivial⟩⟩,⟨wR,trivial,⟨Adp,trivial,trivial⟩⟩⟩,⟨trivial,⟨trivial,⟨AcF,trivial,trivial⟩,trivial⟩,⟨ZB,⟨AcX,trivial,trivial⟩,⟨Adx,trivial,trivial⟩⟩⟩⟩,⟨trivial,⟨wC,⟨trivial,⟨trivial,⟨AdO,trivial,trivial⟩,trivial⟩,⟨Ade,trivial,trivial⟩⟩,⟨trivial,⟨AcR,trivial,trivial⟩,⟨Adu,trivial,trivial⟩⟩⟩,⟨trivial,⟨trivial,⟨AcL,trivial,trivial⟩,trivial⟩,⟨Acv,⟨Ac2,trivial,trivial⟩,⟨AdF,trivial,trivial⟩⟩⟩⟩⟩⟩,⟨trivial,⟨Ai3,⟨trivial,⟨trivial,⟨trivial,⟨Acz,trivial,trivial⟩,⟨Ac8,trivial,trivial⟩⟩,⟨Ajl,trivial,⟨Adn,trivial,trivial⟩⟩⟩,⟨trivial,⟨trivial,⟨AcD,⟨AdS,trivial,trivial⟩,trivial⟩,trivial⟩,⟨trivial,⟨AcV,trivial,trivial⟩,⟨Adv,trivial,trivial⟩⟩⟩⟩,⟨trivial,⟨vZ,⟨Ajg,⟨ZI,⟨AdM,trivial,trivial⟩,trivial⟩,trivial⟩,⟨trivial,⟨ZM,trivial,trivial⟩,⟨Ads,trivial,trivial⟩⟩⟩,⟨wL,⟨trivial,⟨AcJ,trivial,trivial⟩,⟨Adi,trivial,trivial⟩⟩,⟨ZF,⟨Ac0,trivial,trivial⟩,⟨AdD,trivial,trivial⟩⟩⟩⟩⟩,⟨trivial,⟨trivial,⟨trivial,trivial,⟨Zx,⟨ZL,trivial,trivial⟩,⟨Adr,trivial,trivial⟩⟩⟩,⟨trivial,⟨trivial,⟨ZK,trivial,trivial⟩,trivial⟩,⟨Acn,trivial,⟨Adz,trivial,trivial⟩⟩⟩⟩,⟨trivial,⟨trivial,⟨Ajh,⟨trivial,⟨AdQ,trivial,trivial⟩,trivial⟩,⟨Adf,trivial,trivial⟩⟩,⟨trivial,⟨AcT,trivial,trivial⟩,trivial⟩⟩,⟨wM,⟨trivial,trivial,⟨Adj,trivial,trivial⟩⟩,⟨ZG,⟨Ac4,trivial,trivial⟩,⟨AdG,trivial,trivial⟩⟩⟩⟩⟩⟩⟩,⟨trivial,⟨trivial,⟨trivial,⟨vT,⟨trivial,⟨trivial,⟨Acy,trivial,trivial⟩,⟨Ac7,trivial,trivial⟩⟩,⟨Ajk,trivial,⟨Adm,trivial,trivial⟩⟩⟩,⟨trivial,⟨trivial,⟨trivial,⟨AdR,trivial,trivial⟩,trivial⟩,trivial⟩,⟨Acl,⟨ZO,trivial,trivial⟩,trivial⟩⟩⟩,⟨Zv,⟨vY,⟨Ajf,⟨ZH,⟨AdL,trivial,trivial⟩,trivial⟩,trivial⟩,trivial⟩,⟨wK,⟨trivial,⟨AcI,trivial,trivial⟩,trivial⟩,⟨Acr,⟨AcZ,trivial,trivial⟩,⟨AdC,trivial,trivial⟩⟩⟩⟩⟩,⟨trivial,⟨trivial,⟨trivial,⟨trivial,trivial,⟨Adb,trivial,trivial⟩⟩,⟨Zw,⟨AcN,trivial,trivial⟩,⟨Adq,trivial,trivial⟩⟩⟩,⟨trivial,⟨Ajj,⟨ZJ,⟨AdT,trivial,trivial⟩,trivial⟩,trivial⟩,⟨ZC,trivial,⟨Ady,trivial,trivial⟩⟩⟩⟩,⟨trivial,⟨wI,⟨wO,⟨trivial,⟨AdP,trivial,trivial⟩,trivial⟩,trivial⟩,⟨trivial,⟨AcS,trivial,trivial⟩,trivial⟩⟩,⟨trivial,⟨trivial,⟨AcM,trivial,trivial⟩,trivial⟩,⟨trivial,⟨Ac3,trivial,trivial⟩,⟨ZP,trivial,trivial⟩⟩⟩⟩⟩⟩,⟨trivial,⟨trivial,⟨vU,⟨trivial,⟨Ajb,trivial,⟨Ac9,trivial,trivial⟩⟩,⟨wQ,trivial,⟨Ado,trivial,trivial⟩⟩⟩,⟨trivial,⟨wP,⟨AcE,trivial,trivial⟩,trivial⟩,⟨ZA,⟨AcW,trivial,trivial⟩,⟨Adw,trivial,trivial⟩⟩⟩⟩,⟨trivial,⟨wB,⟨trivial,⟨AcA,⟨AdN,trivial,trivial⟩,trivial⟩,⟨Adc,trivial,trivial⟩⟩,⟨trivial,⟨ZN,trivial,trivial⟩,⟨Adt,trivial,trivial⟩⟩⟩,⟨trivial,⟨trivial,⟨AcK,trivial,trivial⟩,trivial⟩,⟨Acu,⟨Ac1,trivial,trivial⟩,⟨AdE,trivial,trivial⟩⟩⟩⟩⟩,⟨trivial,⟨vV,⟨trivial,⟨Ajd,⟨trivial,⟨AdJ,trivial,trivial⟩,trivial⟩,trivial⟩,⟨Zy,⟨AcO,trivial,trivial⟩,trivial⟩⟩,⟨wJ,⟨trivial,⟨AcG,trivial,trivial⟩,trivial⟩,⟨Aco,trivial,⟨AdA,trivial,trivial⟩⟩⟩⟩,⟨vW,⟨Ai5,⟨trivial,⟨AcB,trivial,trivial⟩,⟨Adg,trivial,trivial⟩⟩,⟨trivial,⟨AcU,trivial,trivial⟩,trivial⟩⟩,⟨Ai7,⟨trivial,trivial,⟨Adk,trivial,trivial⟩⟩,⟨Acw,⟨Ac5,trivial,trivial⟩,⟨AdH,trivial,trivial⟩⟩⟩⟩⟩⟩⟩⟩
theorem K3 (f:FuncId) (r:Xq) (h:IB f=some r):Ar Tryz.prog [0,1] f r:=AjB.get h
end Go.Proofs.YtflonlkiajhhjaaGreatDoor.TpF
