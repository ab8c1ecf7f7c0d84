/- Made from wip. -/
import Derived.Test.YtflonlkiajhhjaaGreatDoorProg
import Derived.Test.YtflonlkiajhhjaaGreatDoorSpObjx
import Derived.Test.YtflonlkiajhhjaaGreatDoorTpECode

set_option maxRecDepth 100000
namespace Go.Proofs.YtflonlkiajhhjaaGreatDoor.TpE
open Go Go.Sp Go.TpE
theorem b4:(match Tryz.f4.body with | some c=>BF c c4 | none=>none)=some c4:=by kernel_rfl
theorem p4:(match Tryz.f4.body with | some c=>AU [0,1] c | none=>false)=true:=by kernel_rfl
theorem AhC:Ar Tryz.prog [0,1] 4 ⟨212,c4,[.tmp 4]⟩:=Ar.by Tryz.func4 b4 p4 Tryz.ntmps4 (by rw[Tryz.results4]) (by kernel_rfl)
theorem b15:(match Tryz.f15.body with | some c=>BF c c15 | none=>none)=some c15:=by kernel_rfl
theorem p15:(match Tryz.f15.body with | some c=>AU [0,1] c | none=>false)=true:=by kernel_rfl
theorem vB:Ar Tryz.prog [0,1] 15 ⟨4,c15,[.tmp 2]⟩:=Ar.by Tryz.func15 b15 p15 Tryz.ntmps15 (by rw[Tryz.results15]) (by kernel_rfl)
theorem b16:(match Tryz.f16.body with | some c=>BF c c16 | none=>none)=some c16:=by kernel_rfl
theorem p16:(match Tryz.f16.body with | some c=>AU [0,1] c | none=>false)=true:=by kernel_rfl
theorem vC:Ar Tryz.prog [0,1] 16 ⟨27,c16,[.tmp 4]⟩:=Ar.by Tryz.func16 b16 p16 Tryz.ntmps16 (by rw[Tryz.results16]) (by kernel_rfl)
theorem b17:(match Tryz.f17.body with | some c=>BF c c17 | none=>none)=some c17:=by kernel_rfl
theorem p17:(match Tryz.f17.body with | some c=>AU [0,1] c | none=>false)=true:=by kernel_rfl
theorem vD:Ar Tryz.prog [0,1] 17 ⟨3,c17,[.tmp 0]⟩:=Ar.by Tryz.func17 b17 p17 Tryz.ntmps17 (by rw[Tryz.results17]) (by kernel_rfl)
theorem b18:(match Tryz.f18.body with | some c=>BF c c18 | none=>none)=some c18:=by kernel_rfl
theorem p18:(match Tryz.f18.body with | some c=>AU [0,1] c | none=>false)=true:=by kernel_rfl
theorem vE:Ar Tryz.prog [0,1] 18 ⟨17,c18,[.tmp 4]⟩:=Ar.by Tryz.func18 b18 p18 Tryz.ntmps18 (by rw[Tryz.results18]) (by kernel_rfl)
theorem b19:(match Tryz.f19.body with | some c=>BF c c19 | none=>none)=some c19:=by kernel_rfl
theorem p19:(match Tryz.f19.body with | some c=>AU [0,1] c | none=>false)=true:=by kernel_rfl
theorem vF:Ar Tryz.prog [0,1] 19 ⟨43,c19,[.tmp 4,.tmp 5]⟩:=Ar.by Tryz.func19 b19 p19 Tryz.ntmps19 (by rw[Tryz.results19]) (by kernel_rfl)
theorem b20:(match Tryz.f20.body with | some c=>BF c c20 | none=>none)=some c20:=by kernel_rfl
theorem p20:(match Tryz.f20.body with | some c=>AU [0,1] c | none=>false)=true:=by kernel_rfl
theorem vG:Ar Tryz.prog [0,1] 20 ⟨23,c20,[.cell 4 41,.tmp 5]⟩:=Ar.by Tryz.func20 b20 p20 Tryz.ntmps20 (by rw[Tryz.results20]) (by kernel_rfl)
theorem b21:(match Tryz.f21.body with | some c=>BF c c21 | none=>none)=some c21:=by kernel_rfl
theorem p21:(match Tryz.f21.body with | some c=>AU [0,1] c | none=>false)=true:=by kernel_rfl
theorem vH:Ar Tryz.prog [0,1] 21 ⟨34,c21,[.tmp 6,.tmp 7]⟩:=Ar.by Tryz.func21 b21 p21 Tryz.ntmps21 (by rw[Tryz.results21]) (by kernel_rfl)
theorem b22:(match Tryz.f22.body with | some c=>BF c c22 | none=>none)=some c22:=by kernel_rfl
theorem p22:(match Tryz.f22.body with | some c=>AU [0,1] c | none=>false)=true:=by kernel_rfl
theorem vI:Ar Tryz.prog [0,1] 22 ⟨26,c22,[.tmp 4]⟩:=Ar.by Tryz.func22 b22 p22 Tryz.ntmps22 (by rw[Tryz.results22]) (by kernel_rfl)
theorem b23:(match Tryz.f23.body with | some c=>BF c c23 | none=>none)=some c23:=by kernel_rfl
theorem p23:(match Tryz.f23.body with | some c=>AU [0,1] c | none=>false)=true:=by kernel_rfl
theorem vJ:Ar Tryz.prog [0,1] 23 ⟨62,c23,[.tmp 4,.tmp 5,.tmp 6]⟩:=Ar.by Tryz.func23 b23 p23 Tryz.ntmps23 (by rw[Tryz.results23]) (by kernel_rfl)
theorem b24:(match Tryz.f24.body with | some c=>BF c c24 | none=>none)=some c24:=by kernel_rfl
theorem p24:(match Tryz.f24.body with | some c=>AU [0,1] c | none=>false)=true:=by kernel_rfl
theorem ZC:Ar Tryz.prog [0,1] 24 ⟨24,c24,[.tmp 0]⟩:=Ar.by Tryz.func24 b24 p24 Tryz.ntmps24 (by rw[Tryz.results24]) (by kernel_rfl)
theorem b30:(match Tryz.f30.body with | some c=>BF c c30 | none=>none)=some c30:=by kernel_rfl
theorem p30:(match Tryz.f30.body with | some c=>AU [0,1] c | none=>false)=true:=by kernel_rfl
theorem vK:Ar Tryz.prog [0,1] 30 ⟨50,c30,[.tmp 0]⟩:=Ar.by Tryz.func30 b30 p30 Tryz.ntmps30 (by rw[Tryz.results30]) (by kernel_rfl)
theorem b39:(match Tryz.f39.body with | some c=>BF c c39 | none=>none)=some c39:=by kernel_rfl
theorem p39:(match Tryz.f39.body with | some c=>AU [0,1] c | none=>false)=true:=by kernel_rfl
theorem vM:Ar Tryz.prog [0,1] 39 ⟨20,c39,[.tmp 0]⟩:=Ar.by Tryz.func39 b39 p39 Tryz.ntmps39 (by rw[Tryz.results39]) (by kernel_rfl)
theorem b46:(match Tryz.f46.body with | some c=>BF c c46 | none=>none)=some c46:=by kernel_rfl
theorem p46:(match Tryz.f46.body with | some c=>AU [0,1] c | none=>false)=true:=by kernel_rfl
theorem vN:Ar Tryz.prog [0,1] 46 ⟨25,c46,[.tmp 2]⟩:=Ar.by Tryz.func46 b46 p46 Tryz.ntmps46 (by rw[Tryz.results46]) (by kernel_rfl)
theorem b52:(match Tryz.f52.body with | some c=>BF c c52 | none=>none)=some c52:=by kernel_rfl
theorem p52:(match Tryz.f52.body with | some c=>AU [0,1] c | none=>false)=true:=by kernel_rfl
theorem vO:Ar Tryz.prog [0,1] 52 ⟨33,c52,[.tmp 4,.tmp 5]⟩:=Ar.by Tryz.func52 b52 p52 Tryz.ntmps52 (by rw[Tryz.results52]) (by kernel_rfl)
theorem b53:(match Tryz.f53.body with | some c=>BF c c53 | none=>none)=some c53:=by kernel_rfl
theorem p53:(match Tryz.f53.body with | some c=>AU [0,1] c | none=>false)=true:=by kernel_rfl
theorem vP:Ar Tryz.prog [0,1] 53 ⟨38,c53,[.tmp 6]⟩:=Ar.by Tryz.func53 b53 p53 Tryz.ntmps53 (by rw[Tryz.results53]) (by kernel_rfl)
theorem b54:(match Tryz.f54.body with | some c=>BF c c54 | none=>none)=some c54:=by kernel_rfl
theorem p54:(match Tryz.f54.body with | some c=>AU [0,1] c | none=>false)=true:=by kernel_rfl
theorem vQ:Ar Tryz.prog [0,1] 54 ⟨16,c54,[.cell 2 99,.tmp 3]⟩:=Ar.by Tryz.func54 b54 p54 Tryz.ntmps54 (by rw[Tryz.results54]) (by kernel_rfl)
theorem b55:(match Tryz.f55.body with | some c=>BF c c55 | none=>none)=some c55:=by kernel_rfl
theorem p55:(match Tryz.f55.body with | some c=>AU [0,1] c | none=>false)=true:=by kernel_rfl
theorem vR:Ar Tryz.prog [0,1] 55 ⟨26,c55,[.cell 4 99]⟩:=Ar.by Tryz.func55 b55 p55 Tryz.ntmps55 (by rw[Tryz.results55]) (by kernel_rfl)
theorem b56:(match Tryz.f56.body with | some c=>BF c c56 | none=>none)=some c56:=by kernel_rfl
theorem p56:(match Tryz.f56.body with | some c=>AU [0,1] c | none=>false)=true:=by kernel_rfl
theorem vS:Ar Tryz.prog [0,1] 56 ⟨15,c56,[.tmp 4]⟩:=Ar.by Tryz.func56 b56 p56 Tryz.ntmps56 (by rw[Tryz.results56]) (by kernel_rfl)
theorem b57:(match Tryz.f57.body with | some c=>BF c c57 | none=>none)=some c57:=by kernel_rfl
theorem p57:(match Tryz.f57.body with | some c=>AU [0,1] c | none=>false)=true:=by kernel_rfl
theorem vT:Ar Tryz.prog [0,1] 57 ⟨8,c57,[.cell 2 41]⟩:=Ar.by Tryz.func57 b57 p57 Tryz.ntmps57 (by rw[Tryz.results57]) (by kernel_rfl)
theorem b58:(match Tryz.f58.body with | some c=>BF c c58 | none=>none)=some c58:=by kernel_rfl
theorem p58:(match Tryz.f58.body with | some c=>AU [0,1] c | none=>false)=true:=by kernel_rfl
theorem vU:Ar Tryz.prog [0,1] 58 ⟨19,c58,[.tmp 4]⟩:=Ar.by Tryz.func58 b58 p58 Tryz.ntmps58 (by rw[Tryz.results58]) (by kernel_rfl)
theorem b59:(match Tryz.f59.body with | some c=>BF c c59 | none=>none)=some c59:=by kernel_rfl
theorem p59:(match Tryz.f59.body with | some c=>AU [0,1] c | none=>false)=true:=by kernel_rfl
theorem vV:Ar Tryz.prog [0,1] 59 ⟨35,c59,[.tmp 6]⟩:=Ar.by Tryz.func59 b59 p59 Tryz.ntmps59 (by rw[Tryz.results59]) (by kernel_rfl)
theorem b60:(match Tryz.f60.body with | some c=>BF c c60 | none=>none)=some c60:=by kernel_rfl
theorem p60:(match Tryz.f60.body with | some c=>AU [0,1] c | none=>false)=true:=by kernel_rfl
theorem vW:Ar Tryz.prog [0,1] 60 ⟨19,c60,[.tmp 4,.tmp 5]⟩:=Ar.by Tryz.func60 b60 p60 Tryz.ntmps60 (by rw[Tryz.results60]) (by kernel_rfl)
theorem b61:(match Tryz.f61.body with | some c=>BF c c61 | none=>none)=some c61:=by kernel_rfl
theorem p61:(match Tryz.f61.body with | some c=>AU [0,1] c | none=>false)=true:=by kernel_rfl
theorem vX:Ar Tryz.prog [0,1] 61 ⟨30,c61,[.cell 4 99]⟩:=Ar.by Tryz.func61 b61 p61 Tryz.ntmps61 (by rw[Tryz.results61]) (by kernel_rfl)
theorem b62:(match Tryz.f62.body with | some c=>BF c c62 | none=>none)=some c62:=by kernel_rfl
theorem p62:(match Tryz.f62.body with | some c=>AU [0,1] c | none=>false)=true:=by kernel_rfl
theorem AhD:Ar Tryz.prog [0,1] 62 ⟨40,c62,[.cell 4 41,.tmp 5]⟩:=Ar.by Tryz.func62 b62 p62 Tryz.ntmps62 (by rw[Tryz.results62]) (by kernel_rfl)
end Go.Proofs.YtflonlkiajhhjaaGreatDoor.TpE
set_option maxRecDepth 100000
namespace Go.Proofs.YtflonlkiajhhjaaGreatDoor.TpE
open Go Go.Sp Go.TpE
theorem b63:(match Tryz.f63.body with | some c=>BF c c63 | none=>none)=some c63:=by kernel_rfl
theorem p63:(match Tryz.f63.body with | some c=>AU [0,1] c | none=>false)=true:=by kernel_rfl
theorem vY:Ar Tryz.prog [0,1] 63 ⟨24,c63,[.tmp 0]⟩:=Ar.by Tryz.func63 b63 p63 Tryz.ntmps63 (by rw[Tryz.results63]) (by kernel_rfl)
theorem b66:(match Tryz.f66.body with | some c=>BF c c66 | none=>none)=some c66:=by kernel_rfl
theorem p66:(match Tryz.f66.body with | some c=>AU [0,1] c | none=>false)=true:=by kernel_rfl
theorem AhE:Ar Tryz.prog [0,1] 66 ⟨46,c66,[.tmp 2]⟩:=Ar.by Tryz.func66 b66 p66 Tryz.ntmps66 (by rw[Tryz.results66]) (by kernel_rfl)
theorem b67:(match Tryz.f67.body with | some c=>BF c c67 | none=>none)=some c67:=by kernel_rfl
theorem p67:(match Tryz.f67.body with | some c=>AU [0,1] c | none=>false)=true:=by kernel_rfl
theorem AhF:Ar Tryz.prog [0,1] 67 ⟨8,c67,[.tmp 2]⟩:=Ar.by Tryz.func67 b67 p67 Tryz.ntmps67 (by rw[Tryz.results67]) (by kernel_rfl)
theorem b70:(match Tryz.f70.body with | some c=>BF c c70 | none=>none)=some c70:=by kernel_rfl
theorem p70:(match Tryz.f70.body with | some c=>AU [0,1] c | none=>false)=true:=by kernel_rfl
theorem AhG:Ar Tryz.prog [0,1] 70 ⟨44,c70,[.tmp 4,.tmp 5]⟩:=Ar.by Tryz.func70 b70 p70 Tryz.ntmps70 (by rw[Tryz.results70]) (by kernel_rfl)
theorem b71:(match Tryz.f71.body with | some c=>BF c c71 | none=>none)=some c71:=by kernel_rfl
theorem p71:(match Tryz.f71.body with | some c=>AU [0,1] c | none=>false)=true:=by kernel_rfl
theorem AhH:Ar Tryz.prog [0,1] 71 ⟨32,c71,[.tmp 4,.tmp 5]⟩:=Ar.by Tryz.func71 b71 p71 Tryz.ntmps71 (by rw[Tryz.results71]) (by kernel_rfl)
theorem b72:(match Tryz.f72.body with | some c=>BF c c72 | none=>none)=some c72:=by kernel_rfl
theorem p72:(match Tryz.f72.body with | some c=>AU [0,1] c | none=>false)=true:=by kernel_rfl
theorem AhI:Ar Tryz.prog [0,1] 72 ⟨19,c72,[.tmp 2,.tmp 3]⟩:=Ar.by Tryz.func72 b72 p72 Tryz.ntmps72 (by rw[Tryz.results72]) (by kernel_rfl)
theorem b73:(match Tryz.f73.body with | some c=>BF c c73 | none=>none)=some c73:=by kernel_rfl
theorem p73:(match Tryz.f73.body with | some c=>AU [0,1] c | none=>false)=true:=by kernel_rfl
theorem AhJ:Ar Tryz.prog [0,1] 73 ⟨16,c73,[.tmp 4]⟩:=Ar.by Tryz.func73 b73 p73 Tryz.ntmps73 (by rw[Tryz.results73]) (by kernel_rfl)
theorem b76:(match Tryz.f76.body with | some c=>BF c c76 | none=>none)=some c76:=by kernel_rfl
theorem p76:(match Tryz.f76.body with | some c=>AU [0,1] c | none=>false)=true:=by kernel_rfl
theorem AhK:Ar Tryz.prog [0,1] 76 ⟨39,c76,[.tmp 2]⟩:=Ar.by Tryz.func76 b76 p76 Tryz.ntmps76 (by rw[Tryz.results76]) (by kernel_rfl)
theorem b77:(match Tryz.f77.body with | some c=>BF c c77 | none=>none)=some c77:=by kernel_rfl
theorem p77:(match Tryz.f77.body with | some c=>AU [0,1] c | none=>false)=true:=by kernel_rfl
theorem AhL:Ar Tryz.prog [0,1] 77 ⟨53,c77,[.tmp 2,.tmp 3]⟩:=Ar.by Tryz.func77 b77 p77 Tryz.ntmps77 (by rw[Tryz.results77]) (by kernel_rfl)
theorem b84:(match Tryz.f84.body with | some c=>BF c c84 | none=>none)=some c84:=by kernel_rfl
theorem p84:(match Tryz.f84.body with | some c=>AU [0,1] c | none=>false)=true:=by kernel_rfl
theorem AhM:Ar Tryz.prog [0,1] 84 ⟨9,c84,[.tmp 4]⟩:=Ar.by Tryz.func84 b84 p84 Tryz.ntmps84 (by rw[Tryz.results84]) (by kernel_rfl)
theorem b96:(match Tryz.f96.body with | some c=>BF c c96 | none=>none)=some c96:=by kernel_rfl
theorem p96:(match Tryz.f96.body with | some c=>AU [0,1] c | none=>false)=true:=by kernel_rfl
theorem vZ:Ar Tryz.prog [0,1] 96 ⟨15,c96,[.tmp 6]⟩:=Ar.by Tryz.func96 b96 p96 Tryz.ntmps96 (by rw[Tryz.results96]) (by kernel_rfl)
theorem b97:(match Tryz.f97.body with | some c=>BF c c97 | none=>none)=some c97:=by kernel_rfl
theorem p97:(match Tryz.f97.body with | some c=>AU [0,1] c | none=>false)=true:=by kernel_rfl
theorem AhN:Ar Tryz.prog [0,1] 97 ⟨17,c97,[.tmp 2,.tmp 3]⟩:=Ar.by Tryz.func97 b97 p97 Tryz.ntmps97 (by rw[Tryz.results97]) (by kernel_rfl)
theorem b98:(match Tryz.f98.body with | some c=>BF c c98 | none=>none)=some c98:=by kernel_rfl
theorem p98:(match Tryz.f98.body with | some c=>AU [0,1] c | none=>false)=true:=by kernel_rfl
theorem wB:Ar Tryz.prog [0,1] 98 ⟨35,c98,[.tmp 0]⟩:=Ar.by Tryz.func98 b98 p98 Tryz.ntmps98 (by rw[Tryz.results98]) (by kernel_rfl)
theorem AjS:(match Tryz.f100.body with | some c=>BF c lM | none=>none)=some lM:=by kernel_rfl
theorem AjT:(match Tryz.f100.body with | some c=>AU [0,1] c | none=>false)=true:=by kernel_rfl
theorem Acd:Ar Tryz.prog [0,1] 100 ⟨15,lM,[.tmp 6]⟩:=Ar.by Tryz.func100 AjS AjT Tryz.ntmps100 (by rw[Tryz.results100]) (by kernel_rfl)
theorem AjU:(match Tryz.f112.body with | some c=>BF c X9 | none=>none)=some X9:=by kernel_rfl
theorem AjV:(match Tryz.f112.body with | some c=>AU [0,1] c | none=>false)=true:=by kernel_rfl
theorem ZE:Ar Tryz.prog [0,1] 112 ⟨110,X9,[.tmp 2,.tmp 3]⟩:=Ar.by Tryz.func112 AjU AjV Tryz.ntmps112 (by rw[Tryz.results112]) (by kernel_rfl)
theorem AjW:(match Tryz.f113.body with | some c=>BF c Ya | none=>none)=some Ya:=by kernel_rfl
theorem AjX:(match Tryz.f113.body with | some c=>AU [0,1] c | none=>false)=true:=by kernel_rfl
theorem ZF:Ar Tryz.prog [0,1] 113 ⟨34,Ya,[.tmp 4]⟩:=Ar.by Tryz.func113 AjW AjX Tryz.ntmps113 (by rw[Tryz.results113]) (by kernel_rfl)
theorem AjY:(match Tryz.f114.body with | some c=>BF c Yb | none=>none)=some Yb:=by kernel_rfl
theorem AjZ:(match Tryz.f114.body with | some c=>AU [0,1] c | none=>false)=true:=by kernel_rfl
theorem ZG:Ar Tryz.prog [0,1] 114 ⟨42,Yb,[.tmp 2]⟩:=Ar.by Tryz.func114 AjY AjZ Tryz.ntmps114 (by rw[Tryz.results114]) (by kernel_rfl)
theorem Aj0:(match Tryz.f115.body with | some c=>BF c Yc | none=>none)=some Yc:=by kernel_rfl
theorem Aj2:(match Tryz.f115.body with | some c=>AU [0,1] c | none=>false)=true:=by kernel_rfl
theorem ZH:Ar Tryz.prog [0,1] 115 ⟨24,Yc,[.cell 4 99]⟩:=Ar.by Tryz.func115 Aj0 Aj2 Tryz.ntmps115 (by rw[Tryz.results115]) (by kernel_rfl)
theorem Aj3:(match Tryz.f116.body with | some c=>BF c Yd | none=>none)=some Yd:=by kernel_rfl
theorem Ace:(match Tryz.f116.body with | some c=>AU [0,1] c | none=>false)=true:=by kernel_rfl
theorem ZI:Ar Tryz.prog [0,1] 116 ⟨19,Yd,[.tmp 2]⟩:=Ar.by Tryz.func116 Aj3 Ace Tryz.ntmps116 (by rw[Tryz.results116]) (by kernel_rfl)
theorem Aj4:(match Tryz.f117.body with | some c=>BF c lN | none=>none)=some lN:=by kernel_rfl
theorem Aj5:(match Tryz.f117.body with | some c=>AU [0,1] c | none=>false)=true:=by kernel_rfl
theorem Acf:Ar Tryz.prog [0,1] 117 ⟨48,lN,[.tmp 10]⟩:=Ar.by Tryz.func117 Aj4 Aj5 Tryz.ntmps117 (by rw[Tryz.results117]) (by kernel_rfl)
theorem Aj6:(match Tryz.f118.body with | some c=>BF c lQ | none=>none)=some lQ:=by kernel_rfl
theorem Aj7:(match Tryz.f118.body with | some c=>AU [0,1] c | none=>false)=true:=by kernel_rfl
theorem Acg:Ar Tryz.prog [0,1] 118 ⟨6,lQ,[.tmp 2]⟩:=Ar.by Tryz.func118 Aj6 Aj7 Tryz.ntmps118 (by rw[Tryz.results118]) (by kernel_rfl)
theorem Aj8:(match Tryz.f119.body with | some c=>BF c Ye | none=>none)=some Ye:=by kernel_rfl
theorem Ach:(match Tryz.f119.body with | some c=>AU [0,1] c | none=>false)=true:=by kernel_rfl
theorem ZJ:Ar Tryz.prog [0,1] 119 ⟨27,Ye,[.tmp 2]⟩:=Ar.by Tryz.func119 Aj8 Ach Tryz.ntmps119 (by rw[Tryz.results119]) (by kernel_rfl)
theorem Aj9:(match Tryz.f120.body with | some c=>BF c lS | none=>none)=some lS:=by kernel_rfl
theorem Aka:(match Tryz.f120.body with | some c=>AU [0,1] c | none=>false)=true:=by kernel_rfl
theorem Aci:Ar Tryz.prog [0,1] 120 ⟨11,lS,[.tmp 4]⟩:=Ar.by Tryz.func120 Aj9 Aka Tryz.ntmps120 (by rw[Tryz.results120]) (by kernel_rfl)
theorem Akc:(match Tryz.f121.body with | some c=>BF c Yf | none=>none)=some Yf:=by kernel_rfl
theorem Acj:(match Tryz.f121.body with | some c=>AU [0,1] c | none=>false)=true:=by kernel_rfl
theorem ZK:Ar Tryz.prog [0,1] 121 ⟨15,Yf,[.tmp 2]⟩:=Ar.by Tryz.func121 Akc Acj Tryz.ntmps121 (by rw[Tryz.results121]) (by kernel_rfl)
theorem Ake:(match Tryz.f122.body with | some c=>BF c lT | none=>none)=some lT:=by kernel_rfl
theorem Akf:(match Tryz.f122.body with | some c=>AU [0,1] c | none=>false)=true:=by kernel_rfl
theorem Ack:Ar Tryz.prog [0,1] 122 ⟨16,lT,[.tmp 6,.tmp 7]⟩:=Ar.by Tryz.func122 Ake Akf Tryz.ntmps122 (by rw[Tryz.results122]) (by kernel_rfl)
end Go.Proofs.YtflonlkiajhhjaaGreatDoor.TpE
set_option maxRecDepth 100000
namespace Go.Proofs.YtflonlkiajhhjaaGreatDoor.TpE
open Go Go.Sp Go.TpE
theorem Akg:(match Tryz.f123.body with | some c=>BF c lU | none=>none)=some lU:=by kernel_rfl
theorem Akh:(match Tryz.f123.body with | some c=>AU [0,1] c | none=>false)=true:=by kernel_rfl
theorem Acl:Ar Tryz.prog [0,1] 123 ⟨15,lU,[.tmp 6]⟩:=Ar.by Tryz.func123 Akg Akh Tryz.ntmps123 (by rw[Tryz.results123]) (by kernel_rfl)
theorem Aki:(match Tryz.f126.body with | some c=>BF c lV | none=>none)=some lV:=by kernel_rfl
theorem Akj:(match Tryz.f126.body with | some c=>AU [0,1] c | none=>false)=true:=by kernel_rfl
theorem Acm:Ar Tryz.prog [0,1] 126 ⟨20,lV,[.tmp 4]⟩:=Ar.by Tryz.func126 Aki Akj Tryz.ntmps126 (by rw[Tryz.results126]) (by kernel_rfl)
theorem Akk:(match Tryz.f127.body with | some c=>BF c lW | none=>none)=some lW:=by kernel_rfl
theorem Akl:(match Tryz.f127.body with | some c=>AU [0,1] c | none=>false)=true:=by kernel_rfl
theorem Acn:Ar Tryz.prog [0,1] 127 ⟨21,lW,[.tmp 4]⟩:=Ar.by Tryz.func127 Akk Akl Tryz.ntmps127 (by rw[Tryz.results127]) (by kernel_rfl)
theorem Akm:(match Tryz.f128.body with | some c=>BF c lX | none=>none)=some lX:=by kernel_rfl
theorem Akn:(match Tryz.f128.body with | some c=>AU [0,1] c | none=>false)=true:=by kernel_rfl
theorem Aco:Ar Tryz.prog [0,1] 128 ⟨17,lX,[.cell 2 173,.tmp 3]⟩:=Ar.by Tryz.func128 Akm Akn Tryz.ntmps128 (by rw[Tryz.results128]) (by kernel_rfl)
theorem Ako:(match Tryz.f129.body with | some c=>BF c lY | none=>none)=some lY:=by kernel_rfl
theorem Akp:(match Tryz.f129.body with | some c=>AU [0,1] c | none=>false)=true:=by kernel_rfl
theorem Acp:Ar Tryz.prog [0,1] 129 ⟨38,lY,[.tmp 4]⟩:=Ar.by Tryz.func129 Ako Akp Tryz.ntmps129 (by rw[Tryz.results129]) (by kernel_rfl)
theorem Akq:(match Tryz.f138.body with | some c=>BF c lZ | none=>none)=some lZ:=by kernel_rfl
theorem Akr:(match Tryz.f138.body with | some c=>AU [0,1] c | none=>false)=true:=by kernel_rfl
theorem Acr:Ar Tryz.prog [0,1] 138 ⟨19,lZ,[.tmp 4]⟩:=Ar.by Tryz.func138 Akq Akr Tryz.ntmps138 (by rw[Tryz.results138]) (by kernel_rfl)
theorem Aks:(match Tryz.f142.body with | some c=>BF c mD | none=>none)=some mD:=by kernel_rfl
theorem Akt:(match Tryz.f142.body with | some c=>AU [0,1] c | none=>false)=true:=by kernel_rfl
theorem Acs:Ar Tryz.prog [0,1] 142 ⟨68,mD,[.tmp 2,.tmp 3]⟩:=Ar.by Tryz.func142 Aks Akt Tryz.ntmps142 (by rw[Tryz.results142]) (by kernel_rfl)
theorem Aku:(match Tryz.f143.body with | some c=>BF c mE | none=>none)=some mE:=by kernel_rfl
theorem Akv:(match Tryz.f143.body with | some c=>AU [0,1] c | none=>false)=true:=by kernel_rfl
theorem Acu:Ar Tryz.prog [0,1] 143 ⟨10,mE,[.tmp 2]⟩:=Ar.by Tryz.func143 Aku Akv Tryz.ntmps143 (by rw[Tryz.results143]) (by kernel_rfl)
theorem Akw:(match Tryz.f145.body with | some c=>BF c mK | none=>none)=some mK:=by kernel_rfl
theorem Akx:(match Tryz.f145.body with | some c=>AU [0,1] c | none=>false)=true:=by kernel_rfl
theorem Acv:Ar Tryz.prog [0,1] 145 ⟨31,mK,[.tmp 2]⟩:=Ar.by Tryz.func145 Akw Akx Tryz.ntmps145 (by rw[Tryz.results145]) (by kernel_rfl)
theorem Aky:(match Tryz.f146.body with | some c=>BF c mM | none=>none)=some mM:=by kernel_rfl
theorem Akz:(match Tryz.f146.body with | some c=>AU [0,1] c | none=>false)=true:=by kernel_rfl
theorem Acw:Ar Tryz.prog [0,1] 146 ⟨39,mM,[.tmp 2,.tmp 3]⟩:=Ar.by Tryz.func146 Aky Akz Tryz.ntmps146 (by rw[Tryz.results146]) (by kernel_rfl)
theorem AkA:(match Tryz.f147.body with | some c=>BF c mO | none=>none)=some mO:=by kernel_rfl
theorem AkB:(match Tryz.f147.body with | some c=>AU [0,1] c | none=>false)=true:=by kernel_rfl
theorem Acx:Ar Tryz.prog [0,1] 147 ⟨18,mO,[.tmp 2,.tmp 3]⟩:=Ar.by Tryz.func147 AkA AkB Tryz.ntmps147 (by rw[Tryz.results147]) (by kernel_rfl)
theorem AkC:(match Tryz.f148.body with | some c=>BF c mP | none=>none)=some mP:=by kernel_rfl
theorem AkD:(match Tryz.f148.body with | some c=>AU [0,1] c | none=>false)=true:=by kernel_rfl
theorem ZL:Ar Tryz.prog [0,1] 148 ⟨35,mP,[.tmp 0]⟩:=Ar.by Tryz.func148 AkC AkD Tryz.ntmps148 (by rw[Tryz.results148]) (by kernel_rfl)
theorem AkE:(match Tryz.f164.body with | some c=>BF c Yg | none=>none)=some Yg:=by kernel_rfl
theorem AkF:(match Tryz.f164.body with | some c=>AU [0,1] c | none=>false)=true:=by kernel_rfl
theorem ZM:Ar Tryz.prog [0,1] 164 ⟨18,Yg,[.cell 2 208]⟩:=Ar.by Tryz.func164 AkE AkF Tryz.ntmps164 (by rw[Tryz.results164]) (by kernel_rfl)
theorem AkG:(match Tryz.f165.body with | some c=>BF c mQ | none=>none)=some mQ:=by kernel_rfl
theorem AkH:(match Tryz.f165.body with | some c=>AU [0,1] c | none=>false)=true:=by kernel_rfl
theorem ZN:Ar Tryz.prog [0,1] 165 ⟨47,mQ,[.tmp 4]⟩:=Ar.by Tryz.func165 AkG AkH Tryz.ntmps165 (by rw[Tryz.results165]) (by kernel_rfl)
theorem AkI:(match Tryz.f166.body with | some c=>BF c Yh | none=>none)=some Yh:=by kernel_rfl
theorem AkJ:(match Tryz.f166.body with | some c=>AU [0,1] c | none=>false)=true:=by kernel_rfl
theorem ZO:Ar Tryz.prog [0,1] 166 ⟨22,Yh,[.cell 4 208]⟩:=Ar.by Tryz.func166 AkI AkJ Tryz.ntmps166 (by rw[Tryz.results166]) (by kernel_rfl)
theorem AkK:(match Tryz.f167.body with | some c=>BF c Yi | none=>none)=some Yi:=by kernel_rfl
theorem AkL:(match Tryz.f167.body with | some c=>AU [0,1] c | none=>false)=true:=by kernel_rfl
theorem ZP:Ar Tryz.prog [0,1] 167 ⟨22,Yi,[.tmp 2]⟩:=Ar.by Tryz.func167 AkK AkL Tryz.ntmps167 (by rw[Tryz.results167]) (by kernel_rfl)
theorem AkM:(match Tryz.f168.body with | some c=>BF c Yj | none=>none)=some Yj:=by kernel_rfl
theorem AkN:(match Tryz.f168.body with | some c=>AU [0,1] c | none=>false)=true:=by kernel_rfl
theorem ZQ:Ar Tryz.prog [0,1] 168 ⟨25,Yj,[.tmp 2]⟩:=Ar.by Tryz.func168 AkM AkN Tryz.ntmps168 (by rw[Tryz.results168]) (by kernel_rfl)
theorem AkO:(match Tryz.f169.body with | some c=>BF c Yk | none=>none)=some Yk:=by kernel_rfl
theorem Acy:(match Tryz.f169.body with | some c=>AU [0,1] c | none=>false)=true:=by kernel_rfl
theorem ZR:Ar Tryz.prog [0,1] 169 ⟨11,Yk,[.tmp 4]⟩:=Ar.by Tryz.func169 AkO Acy Tryz.ntmps169 (by rw[Tryz.results169]) (by kernel_rfl)
theorem AkP:(match Tryz.f170.body with | some c=>BF c Yl | none=>none)=some Yl:=by kernel_rfl
theorem AkQ:(match Tryz.f170.body with | some c=>AU [0,1] c | none=>false)=true:=by kernel_rfl
theorem ZT:Ar Tryz.prog [0,1] 170 ⟨38,Yl,[.tmp 2]⟩:=Ar.by Tryz.func170 AkP AkQ Tryz.ntmps170 (by rw[Tryz.results170]) (by kernel_rfl)
theorem AkR:(match Tryz.f171.body with | some c=>BF c nD | none=>none)=some nD:=by kernel_rfl
theorem AkS:(match Tryz.f171.body with | some c=>AU [0,1] c | none=>false)=true:=by kernel_rfl
theorem Acz:Ar Tryz.prog [0,1] 171 ⟨31,nD,[.cell 4 214]⟩:=Ar.by Tryz.func171 AkR AkS Tryz.ntmps171 (by rw[Tryz.results171]) (by kernel_rfl)
theorem AkT:(match Tryz.f172.body with | some c=>BF c nG | none=>none)=some nG:=by kernel_rfl
theorem AkU:(match Tryz.f172.body with | some c=>AU [0,1] c | none=>false)=true:=by kernel_rfl
theorem AcA:Ar Tryz.prog [0,1] 172 ⟨25,nG,[.tmp 6]⟩:=Ar.by Tryz.func172 AkT AkU Tryz.ntmps172 (by rw[Tryz.results172]) (by kernel_rfl)
theorem AkV:(match Tryz.f173.body with | some c=>BF c nH | none=>none)=some nH:=by kernel_rfl
theorem AkW:(match Tryz.f173.body with | some c=>AU [0,1] c | none=>false)=true:=by kernel_rfl
theorem AcB:Ar Tryz.prog [0,1] 173 ⟨23,nH,[.tmp 6]⟩:=Ar.by Tryz.func173 AkV AkW Tryz.ntmps173 (by rw[Tryz.results173]) (by kernel_rfl)
theorem AkX:(match Tryz.f174.body with | some c=>BF c nI | none=>none)=some nI:=by kernel_rfl
theorem AkY:(match Tryz.f174.body with | some c=>AU [0,1] c | none=>false)=true:=by kernel_rfl
theorem AcC:Ar Tryz.prog [0,1] 174 ⟨18,nI,[.tmp 2,.tmp 3]⟩:=Ar.by Tryz.func174 AkX AkY Tryz.ntmps174 (by rw[Tryz.results174]) (by kernel_rfl)
theorem AkZ:(match Tryz.f177.body with | some c=>BF c nJ | none=>none)=some nJ:=by kernel_rfl
theorem Ak0:(match Tryz.f177.body with | some c=>AU [0,1] c | none=>false)=true:=by kernel_rfl
theorem AcD:Ar Tryz.prog [0,1] 177 ⟨38,nJ,[.cell 2 173]⟩:=Ar.by Tryz.func177 AkZ Ak0 Tryz.ntmps177 (by rw[Tryz.results177]) (by kernel_rfl)
theorem Ak1:(match Tryz.f178.body with | some c=>BF c nK | none=>none)=some nK:=by kernel_rfl
theorem Ak2:(match Tryz.f178.body with | some c=>AU [0,1] c | none=>false)=true:=by kernel_rfl
theorem AcE:Ar Tryz.prog [0,1] 178 ⟨21,nK,[.cell 4 173]⟩:=Ar.by Tryz.func178 Ak1 Ak2 Tryz.ntmps178 (by rw[Tryz.results178]) (by kernel_rfl)
end Go.Proofs.YtflonlkiajhhjaaGreatDoor.TpE
set_option maxRecDepth 100000
namespace Go.Proofs.YtflonlkiajhhjaaGreatDoor.TpE
open Go Go.Sp Go.TpE
theorem Ak3:(match Tryz.f179.body with | some c=>BF c nL | none=>none)=some nL:=by kernel_rfl
theorem Ak4:(match Tryz.f179.body with | some c=>AU [0,1] c | none=>false)=true:=by kernel_rfl
theorem AcF:Ar Tryz.prog [0,1] 179 ⟨14,nL,[.tmp 2]⟩:=Ar.by Tryz.func179 Ak3 Ak4 Tryz.ntmps179 (by rw[Tryz.results179]) (by kernel_rfl)
theorem Ak5:(match Tryz.f183.body with | some c=>BF c nM | none=>none)=some nM:=by kernel_rfl
theorem Ak6:(match Tryz.f183.body with | some c=>AU [0,1] c | none=>false)=true:=by kernel_rfl
theorem AcG:Ar Tryz.prog [0,1] 183 ⟨38,nM,[.tmp 2]⟩:=Ar.by Tryz.func183 Ak5 Ak6 Tryz.ntmps183 (by rw[Tryz.results183]) (by kernel_rfl)
theorem Ak7:(match Tryz.f184.body with | some c=>BF c nN | none=>none)=some nN:=by kernel_rfl
theorem Ak8:(match Tryz.f184.body with | some c=>AU [0,1] c | none=>false)=true:=by kernel_rfl
theorem AcH:Ar Tryz.prog [0,1] 184 ⟨7,nN,[.tmp 2]⟩:=Ar.by Tryz.func184 Ak7 Ak8 Tryz.ntmps184 (by rw[Tryz.results184]) (by kernel_rfl)
theorem Ak9:(match Tryz.f185.body with | some c=>BF c nO | none=>none)=some nO:=by kernel_rfl
theorem Ala:(match Tryz.f185.body with | some c=>AU [0,1] c | none=>false)=true:=by kernel_rfl
theorem AcI:Ar Tryz.prog [0,1] 185 ⟨42,nO,[.tmp 4,.tmp 5,.tmp 6]⟩:=Ar.by Tryz.func185 Ak9 Ala Tryz.ntmps185 (by rw[Tryz.results185]) (by kernel_rfl)
theorem Alb:(match Tryz.f186.body with | some c=>BF c nP | none=>none)=some nP:=by kernel_rfl
theorem Alc:(match Tryz.f186.body with | some c=>AU [0,1] c | none=>false)=true:=by kernel_rfl
theorem AcJ:Ar Tryz.prog [0,1] 186 ⟨27,nP,[.tmp 4]⟩:=Ar.by Tryz.func186 Alb Alc Tryz.ntmps186 (by rw[Tryz.results186]) (by kernel_rfl)
theorem Ald:(match Tryz.f187.body with | some c=>BF c nQ | none=>none)=some nQ:=by kernel_rfl
theorem Ale:(match Tryz.f187.body with | some c=>AU [0,1] c | none=>false)=true:=by kernel_rfl
theorem AcK:Ar Tryz.prog [0,1] 187 ⟨18,nQ,[.tmp 2]⟩:=Ar.by Tryz.func187 Ald Ale Tryz.ntmps187 (by rw[Tryz.results187]) (by kernel_rfl)
theorem Alf:(match Tryz.f188.body with | some c=>BF c nR | none=>none)=some nR:=by kernel_rfl
theorem Alg:(match Tryz.f188.body with | some c=>AU [0,1] c | none=>false)=true:=by kernel_rfl
theorem AcL:Ar Tryz.prog [0,1] 188 ⟨15,nR,[.tmp 4]⟩:=Ar.by Tryz.func188 Alf Alg Tryz.ntmps188 (by rw[Tryz.results188]) (by kernel_rfl)
theorem Alh:(match Tryz.f189.body with | some c=>BF c nS | none=>none)=some nS:=by kernel_rfl
theorem Ali:(match Tryz.f189.body with | some c=>AU [0,1] c | none=>false)=true:=by kernel_rfl
theorem AcM:Ar Tryz.prog [0,1] 189 ⟨39,nS,[.cell 2 239]⟩:=Ar.by Tryz.func189 Alh Ali Tryz.ntmps189 (by rw[Tryz.results189]) (by kernel_rfl)
theorem Alj:(match Tryz.f190.body with | some c=>BF c nT | none=>none)=some nT:=by kernel_rfl
theorem Alk:(match Tryz.f190.body with | some c=>AU [0,1] c | none=>false)=true:=by kernel_rfl
theorem AcN:Ar Tryz.prog [0,1] 190 ⟨16,nT,[.tmp 2,.tmp 3]⟩:=Ar.by Tryz.func190 Alj Alk Tryz.ntmps190 (by rw[Tryz.results190]) (by kernel_rfl)
theorem Alm:(match Tryz.f191.body with | some c=>BF c nU | none=>none)=some nU:=by kernel_rfl
theorem Aln:(match Tryz.f191.body with | some c=>AU [0,1] c | none=>false)=true:=by kernel_rfl
theorem AcO:Ar Tryz.prog [0,1] 191 ⟨20,nU,[.tmp 2,.tmp 3]⟩:=Ar.by Tryz.func191 Alm Aln Tryz.ntmps191 (by rw[Tryz.results191]) (by kernel_rfl)
theorem Alo:(match Tryz.f202.body with | some c=>BF c nV | none=>none)=some nV:=by kernel_rfl
theorem Alp:(match Tryz.f202.body with | some c=>AU [0,1] c | none=>false)=true:=by kernel_rfl
theorem AcP:Ar Tryz.prog [0,1] 202 ⟨28,nV,[]⟩:=Ar.by Tryz.func202 Alo Alp Tryz.ntmps202 (by rw[Tryz.results202]) (by kernel_rfl)
theorem Alq:(match Tryz.f203.body with | some c=>BF c nW | none=>none)=some nW:=by kernel_rfl
theorem Alr:(match Tryz.f203.body with | some c=>AU [0,1] c | none=>false)=true:=by kernel_rfl
theorem AcQ:Ar Tryz.prog [0,1] 203 ⟨34,nW,[.tmp 4]⟩:=Ar.by Tryz.func203 Alq Alr Tryz.ntmps203 (by rw[Tryz.results203]) (by kernel_rfl)
theorem Als:(match Tryz.f205.body with | some c=>BF c nX | none=>none)=some nX:=by kernel_rfl
theorem Alt:(match Tryz.f205.body with | some c=>AU [0,1] c | none=>false)=true:=by kernel_rfl
theorem AcR:Ar Tryz.prog [0,1] 205 ⟨47,nX,[.tmp 2,.tmp 3,.tmp 4]⟩:=Ar.by Tryz.func205 Als Alt Tryz.ntmps205 (by rw[Tryz.results205]) (by kernel_rfl)
theorem Alu:(match Tryz.f206.body with | some c=>BF c nY | none=>none)=some nY:=by kernel_rfl
theorem Alv:(match Tryz.f206.body with | some c=>AU [0,1] c | none=>false)=true:=by kernel_rfl
theorem AcS:Ar Tryz.prog [0,1] 206 ⟨30,nY,[.tmp 8]⟩:=Ar.by Tryz.func206 Alu Alv Tryz.ntmps206 (by rw[Tryz.results206]) (by kernel_rfl)
theorem Alw:(match Tryz.f207.body with | some c=>BF c nZ | none=>none)=some nZ:=by kernel_rfl
theorem Alx:(match Tryz.f207.body with | some c=>AU [0,1] c | none=>false)=true:=by kernel_rfl
theorem AcT:Ar Tryz.prog [0,1] 207 ⟨17,nZ,[.tmp 2]⟩:=Ar.by Tryz.func207 Alw Alx Tryz.ntmps207 (by rw[Tryz.results207]) (by kernel_rfl)
theorem Aly:(match Tryz.f217.body with | some c=>BF c oD | none=>none)=some oD:=by kernel_rfl
theorem Alz:(match Tryz.f217.body with | some c=>AU [0,1] c | none=>false)=true:=by kernel_rfl
theorem AcU:Ar Tryz.prog [0,1] 217 ⟨41,oD,[.cell 4 173]⟩:=Ar.by Tryz.func217 Aly Alz Tryz.ntmps217 (by rw[Tryz.results217]) (by kernel_rfl)
theorem AlA:(match Tryz.f221.body with | some c=>BF c oF | none=>none)=some oF:=by kernel_rfl
theorem AlB:(match Tryz.f221.body with | some c=>AU [0,1] c | none=>false)=true:=by kernel_rfl
theorem AcV:Ar Tryz.prog [0,1] 221 ⟨9,oF,[.tmp 2]⟩:=Ar.by Tryz.func221 AlA AlB Tryz.ntmps221 (by rw[Tryz.results221]) (by kernel_rfl)
theorem AlC:(match Tryz.f222.body with | some c=>BF c oG | none=>none)=some oG:=by kernel_rfl
theorem AlD:(match Tryz.f222.body with | some c=>AU [0,1] c | none=>false)=true:=by kernel_rfl
theorem AcW:Ar Tryz.prog [0,1] 222 ⟨50,oG,[.cell 4 270]⟩:=Ar.by Tryz.func222 AlC AlD Tryz.ntmps222 (by rw[Tryz.results222]) (by kernel_rfl)
theorem AlE:(match Tryz.f223.body with | some c=>BF c oH | none=>none)=some oH:=by kernel_rfl
theorem AlF:(match Tryz.f223.body with | some c=>AU [0,1] c | none=>false)=true:=by kernel_rfl
theorem AcX:Ar Tryz.prog [0,1] 223 ⟨9,oH,[.tmp 2]⟩:=Ar.by Tryz.func223 AlE AlF Tryz.ntmps223 (by rw[Tryz.results223]) (by kernel_rfl)
theorem AlG:(match Tryz.f224.body with | some c=>BF c oI | none=>none)=some oI:=by kernel_rfl
theorem AlH:(match Tryz.f224.body with | some c=>AU [0,1] c | none=>false)=true:=by kernel_rfl
theorem AcY:Ar Tryz.prog [0,1] 224 ⟨44,oI,[.tmp 6]⟩:=Ar.by Tryz.func224 AlG AlH Tryz.ntmps224 (by rw[Tryz.results224]) (by kernel_rfl)
theorem AlI:(match Tryz.f225.body with | some c=>BF c oJ | none=>none)=some oJ:=by kernel_rfl
theorem AlJ:(match Tryz.f225.body with | some c=>AU [0,1] c | none=>false)=true:=by kernel_rfl
theorem AcZ:Ar Tryz.prog [0,1] 225 ⟨35,oJ,[.cell 2 276,.tmp 3]⟩:=Ar.by Tryz.func225 AlI AlJ Tryz.ntmps225 (by rw[Tryz.results225]) (by kernel_rfl)
theorem AlK:(match Tryz.f226.body with | some c=>BF c oK | none=>none)=some oK:=by kernel_rfl
theorem AlL:(match Tryz.f226.body with | some c=>AU [0,1] c | none=>false)=true:=by kernel_rfl
theorem Ac0:Ar Tryz.prog [0,1] 226 ⟨7,oK,[.tmp 2]⟩:=Ar.by Tryz.func226 AlK AlL Tryz.ntmps226 (by rw[Tryz.results226]) (by kernel_rfl)
theorem AlM:(match Tryz.f227.body with | some c=>BF c oL | none=>none)=some oL:=by kernel_rfl
theorem AlN:(match Tryz.f227.body with | some c=>AU [0,1] c | none=>false)=true:=by kernel_rfl
theorem Ac1:Ar Tryz.prog [0,1] 227 ⟨80,oL,[.tmp 2,.tmp 3]⟩:=Ar.by Tryz.func227 AlM AlN Tryz.ntmps227 (by rw[Tryz.results227]) (by kernel_rfl)
theorem AlO:(match Tryz.f228.body with | some c=>BF c oM | none=>none)=some oM:=by kernel_rfl
theorem AlP:(match Tryz.f228.body with | some c=>AU [0,1] c | none=>false)=true:=by kernel_rfl
theorem Ac2:Ar Tryz.prog [0,1] 228 ⟨20,oM,[]⟩:=Ar.by Tryz.func228 AlO AlP Tryz.ntmps228 (by rw[Tryz.results228]) (by kernel_rfl)
theorem AlQ:(match Tryz.f233.body with | some c=>BF c oN | none=>none)=some oN:=by kernel_rfl
theorem AlR:(match Tryz.f233.body with | some c=>AU [0,1] c | none=>false)=true:=by kernel_rfl
theorem Ac3:Ar Tryz.prog [0,1] 233 ⟨42,oN,[.tmp 2]⟩:=Ar.by Tryz.func233 AlQ AlR Tryz.ntmps233 (by rw[Tryz.results233]) (by kernel_rfl)
end Go.Proofs.YtflonlkiajhhjaaGreatDoor.TpE
set_option maxRecDepth 100000
namespace Go.Proofs.YtflonlkiajhhjaaGreatDoor.TpE
open Go Go.Sp Go.TpE
theorem AlS:(match Tryz.f234.body with | some c=>BF c oO | none=>none)=some oO:=by kernel_rfl
theorem AlT:(match Tryz.f234.body with | some c=>AU [0,1] c | none=>false)=true:=by kernel_rfl
theorem Ac4:Ar Tryz.prog [0,1] 234 ⟨50,oO,[.tmp 2]⟩:=Ar.by Tryz.func234 AlS AlT Tryz.ntmps234 (by rw[Tryz.results234]) (by kernel_rfl)
theorem AlU:(match Tryz.f235.body with | some c=>BF c oP | none=>none)=some oP:=by kernel_rfl
theorem AlV:(match Tryz.f235.body with | some c=>AU [0,1] c | none=>false)=true:=by kernel_rfl
theorem Ac5:Ar Tryz.prog [0,1] 235 ⟨10,oP,[.tmp 4]⟩:=Ar.by Tryz.func235 AlU AlV Tryz.ntmps235 (by rw[Tryz.results235]) (by kernel_rfl)
theorem AlW:(match Tryz.f241.body with | some c=>BF c oQ | none=>none)=some oQ:=by kernel_rfl
theorem AlX:(match Tryz.f241.body with | some c=>AU [0,1] c | none=>false)=true:=by kernel_rfl
theorem Ac6:Ar Tryz.prog [0,1] 241 ⟨12,oQ,[.tmp 2]⟩:=Ar.by Tryz.func241 AlW AlX Tryz.ntmps241 (by rw[Tryz.results241]) (by kernel_rfl)
theorem AlY:(match Tryz.f242.body with | some c=>BF c oU | none=>none)=some oU:=by kernel_rfl
theorem AlZ:(match Tryz.f242.body with | some c=>AU [0,1] c | none=>false)=true:=by kernel_rfl
theorem Ac7:Ar Tryz.prog [0,1] 242 ⟨11,oU,[.tmp 2]⟩:=Ar.by Tryz.func242 AlY AlZ Tryz.ntmps242 (by rw[Tryz.results242]) (by kernel_rfl)
theorem Al0:(match Tryz.f243.body with | some c=>BF c oV | none=>none)=some oV:=by kernel_rfl
theorem Al1:(match Tryz.f243.body with | some c=>AU [0,1] c | none=>false)=true:=by kernel_rfl
theorem Ac8:Ar Tryz.prog [0,1] 243 ⟨137,oV,[.tmp 6]⟩:=Ar.by Tryz.func243 Al0 Al1 Tryz.ntmps243 (by rw[Tryz.results243]) (by kernel_rfl)
theorem Al2:(match Tryz.f244.body with | some c=>BF c oW | none=>none)=some oW:=by kernel_rfl
theorem Al3:(match Tryz.f244.body with | some c=>AU [0,1] c | none=>false)=true:=by kernel_rfl
theorem Ac9:Ar Tryz.prog [0,1] 244 ⟨29,oW,[.tmp 2]⟩:=Ar.by Tryz.func244 Al2 Al3 Tryz.ntmps244 (by rw[Tryz.results244]) (by kernel_rfl)
theorem Al4:(match Tryz.f245.body with | some c=>BF c oZ | none=>none)=some oZ:=by kernel_rfl
theorem Al5:(match Tryz.f245.body with | some c=>AU [0,1] c | none=>false)=true:=by kernel_rfl
theorem Ada:Ar Tryz.prog [0,1] 245 ⟨22,oZ,[.tmp 6]⟩:=Ar.by Tryz.func245 Al4 Al5 Tryz.ntmps245 (by rw[Tryz.results245]) (by kernel_rfl)
theorem Al6:(match Tryz.f246.body with | some c=>BF c pE | none=>none)=some pE:=by kernel_rfl
theorem Al7:(match Tryz.f246.body with | some c=>AU [0,1] c | none=>false)=true:=by kernel_rfl
theorem Adb:Ar Tryz.prog [0,1] 246 ⟨15,pE,[.tmp 6]⟩:=Ar.by Tryz.func246 Al6 Al7 Tryz.ntmps246 (by rw[Tryz.results246]) (by kernel_rfl)
theorem Al8:(match Tryz.f247.body with | some c=>BF c pF | none=>none)=some pF:=by kernel_rfl
theorem Al9:(match Tryz.f247.body with | some c=>AU [0,1] c | none=>false)=true:=by kernel_rfl
theorem Adc:Ar Tryz.prog [0,1] 247 ⟨62,pF,[.tmp 2]⟩:=Ar.by Tryz.func247 Al8 Al9 Tryz.ntmps247 (by rw[Tryz.results247]) (by kernel_rfl)
theorem Ama:(match Tryz.f248.body with | some c=>BF c pG | none=>none)=some pG:=by kernel_rfl
theorem Amb:(match Tryz.f248.body with | some c=>AU [0,1] c | none=>false)=true:=by kernel_rfl
theorem Ade:Ar Tryz.prog [0,1] 248 ⟨3,pG,[.tmp 2]⟩:=Ar.by Tryz.func248 Ama Amb Tryz.ntmps248 (by rw[Tryz.results248]) (by kernel_rfl)
theorem Amc:(match Tryz.f249.body with | some c=>BF c pI | none=>none)=some pI:=by kernel_rfl
theorem Amd:(match Tryz.f249.body with | some c=>AU [0,1] c | none=>false)=true:=by kernel_rfl
theorem Adf:Ar Tryz.prog [0,1] 249 ⟨53,pI,[.tmp 2]⟩:=Ar.by Tryz.func249 Amc Amd Tryz.ntmps249 (by rw[Tryz.results249]) (by kernel_rfl)
theorem Ame:(match Tryz.f250.body with | some c=>BF c pJ | none=>none)=some pJ:=by kernel_rfl
theorem Amf:(match Tryz.f250.body with | some c=>AU [0,1] c | none=>false)=true:=by kernel_rfl
theorem Adg:Ar Tryz.prog [0,1] 250 ⟨5,pJ,[.tmp 2]⟩:=Ar.by Tryz.func250 Ame Amf Tryz.ntmps250 (by rw[Tryz.results250]) (by kernel_rfl)
theorem Amg:(match Tryz.f251.body with | some c=>BF c pK | none=>none)=some pK:=by kernel_rfl
theorem Amh:(match Tryz.f251.body with | some c=>AU [0,1] c | none=>false)=true:=by kernel_rfl
theorem Adh:Ar Tryz.prog [0,1] 251 ⟨115,pK,[.tmp 8]⟩:=Ar.by Tryz.func251 Amg Amh Tryz.ntmps251 (by rw[Tryz.results251]) (by kernel_rfl)
theorem Ami:(match Tryz.f252.body with | some c=>BF c Ym | none=>none)=some Ym:=by kernel_rfl
theorem Amj:(match Tryz.f252.body with | some c=>AU [0,1] c | none=>false)=true:=by kernel_rfl
theorem bI:Ar Tryz.prog [0,1] 252 ⟨32,Ym,[]⟩:=Ar.by Tryz.func252 Ami Amj Tryz.ntmps252 (by rw[Tryz.results252]) (by kernel_rfl)
theorem Amk:(match Tryz.f253.body with | some c=>BF c pM | none=>none)=some pM:=by kernel_rfl
theorem Aml:(match Tryz.f253.body with | some c=>AU [0,1] c | none=>false)=true:=by kernel_rfl
theorem Adi:Ar Tryz.prog [0,1] 253 ⟨47,pM,[]⟩:=Ar.by Tryz.func253 Amk Aml Tryz.ntmps253 (by rw[Tryz.results253]) (by kernel_rfl)
theorem Amm:(match Tryz.f254.body with | some c=>BF c pO | none=>none)=some pO:=by kernel_rfl
theorem Amn:(match Tryz.f254.body with | some c=>AU [0,1] c | none=>false)=true:=by kernel_rfl
theorem Adj:Ar Tryz.prog [0,1] 254 ⟨7,pO,[.tmp 3]⟩:=Ar.by Tryz.func254 Amm Amn Tryz.ntmps254 (by rw[Tryz.results254]) (by kernel_rfl)
theorem Amo:(match Tryz.f259.body with | some c=>BF c pQ | none=>none)=some pQ:=by kernel_rfl
theorem Amq:(match Tryz.f259.body with | some c=>AU [0,1] c | none=>false)=true:=by kernel_rfl
theorem Adk:Ar Tryz.prog [0,1] 259 ⟨12,pQ,[.tmp 3]⟩:=Ar.by Tryz.func259 Amo Amq Tryz.ntmps259 (by rw[Tryz.results259]) (by kernel_rfl)
theorem Amr:(match Tryz.f262.body with | some c=>BF c pR | none=>none)=some pR:=by kernel_rfl
theorem Ams:(match Tryz.f262.body with | some c=>AU [0,1] c | none=>false)=true:=by kernel_rfl
theorem Adl:Ar Tryz.prog [0,1] 262 ⟨30,pR,[.cell 8 239]⟩:=Ar.by Tryz.func262 Amr Ams Tryz.ntmps262 (by rw[Tryz.results262]) (by kernel_rfl)
theorem Amt:(match Tryz.f263.body with | some c=>BF c pV | none=>none)=some pV:=by kernel_rfl
theorem Amu:(match Tryz.f263.body with | some c=>AU [0,1] c | none=>false)=true:=by kernel_rfl
theorem Adm:Ar Tryz.prog [0,1] 263 ⟨26,pV,[.tmp 6]⟩:=Ar.by Tryz.func263 Amt Amu Tryz.ntmps263 (by rw[Tryz.results263]) (by kernel_rfl)
theorem Amv:(match Tryz.f264.body with | some c=>BF c pW | none=>none)=some pW:=by kernel_rfl
theorem Amw:(match Tryz.f264.body with | some c=>AU [0,1] c | none=>false)=true:=by kernel_rfl
theorem Adn:Ar Tryz.prog [0,1] 264 ⟨10,pW,[.tmp 3]⟩:=Ar.by Tryz.func264 Amv Amw Tryz.ntmps264 (by rw[Tryz.results264]) (by kernel_rfl)
theorem Amx:(match Tryz.f265.body with | some c=>BF c pX | none=>none)=some pX:=by kernel_rfl
theorem Amy:(match Tryz.f265.body with | some c=>AU [0,1] c | none=>false)=true:=by kernel_rfl
theorem Ado:Ar Tryz.prog [0,1] 265 ⟨55,pX,[]⟩:=Ar.by Tryz.func265 Amx Amy Tryz.ntmps265 (by rw[Tryz.results265]) (by kernel_rfl)
theorem Amz:(match Tryz.f266.body with | some c=>BF c pY | none=>none)=some pY:=by kernel_rfl
theorem AmA:(match Tryz.f266.body with | some c=>AU [0,1] c | none=>false)=true:=by kernel_rfl
theorem Adp:Ar Tryz.prog [0,1] 266 ⟨14,pY,[.tmp 7]⟩:=Ar.by Tryz.func266 Amz AmA Tryz.ntmps266 (by rw[Tryz.results266]) (by kernel_rfl)
theorem AmB:(match Tryz.f267.body with | some c=>BF c qB | none=>none)=some qB:=by kernel_rfl
theorem AmC:(match Tryz.f267.body with | some c=>AU [0,1] c | none=>false)=true:=by kernel_rfl
theorem Adq:Ar Tryz.prog [0,1] 267 ⟨15,qB,[.tmp 6]⟩:=Ar.by Tryz.func267 AmB AmC Tryz.ntmps267 (by rw[Tryz.results267]) (by kernel_rfl)
theorem AmD:(match Tryz.f268.body with | some c=>BF c qC | none=>none)=some qC:=by kernel_rfl
theorem AmE:(match Tryz.f268.body with | some c=>AU [0,1] c | none=>false)=true:=by kernel_rfl
theorem Adr:Ar Tryz.prog [0,1] 268 ⟨29,qC,[]⟩:=Ar.by Tryz.func268 AmD AmE Tryz.ntmps268 (by rw[Tryz.results268]) (by kernel_rfl)
theorem AmF:(match Tryz.f269.body with | some c=>BF c qR | none=>none)=some qR:=by kernel_rfl
theorem AmG:(match Tryz.f269.body with | some c=>AU [0,1] c | none=>false)=true:=by kernel_rfl
theorem Ads:Ar Tryz.prog [0,1] 269 ⟨13,qR,[.tmp 4]⟩:=Ar.by Tryz.func269 AmF AmG Tryz.ntmps269 (by rw[Tryz.results269]) (by kernel_rfl)
end Go.Proofs.YtflonlkiajhhjaaGreatDoor.TpE
set_option maxRecDepth 100000
namespace Go.Proofs.YtflonlkiajhhjaaGreatDoor.TpE
open Go Go.Sp Go.TpE
theorem AmH:(match Tryz.f272.body with | some c=>BF c qU | none=>none)=some qU:=by kernel_rfl
theorem AmI:(match Tryz.f272.body with | some c=>AU [0,1] c | none=>false)=true:=by kernel_rfl
theorem Adt:Ar Tryz.prog [0,1] 272 ⟨24,qU,[.tmp 4,.tmp 5]⟩:=Ar.by Tryz.func272 AmH AmI Tryz.ntmps272 (by rw[Tryz.results272]) (by kernel_rfl)
theorem AmJ:(match Tryz.f273.body with | some c=>BF c qV | none=>none)=some qV:=by kernel_rfl
theorem AmK:(match Tryz.f273.body with | some c=>AU [0,1] c | none=>false)=true:=by kernel_rfl
theorem Adu:Ar Tryz.prog [0,1] 273 ⟨63,qV,[.tmp 6,.tmp 7]⟩:=Ar.by Tryz.func273 AmJ AmK Tryz.ntmps273 (by rw[Tryz.results273]) (by kernel_rfl)
theorem AmL:(match Tryz.f276.body with | some c=>BF c qW | none=>none)=some qW:=by kernel_rfl
theorem AmM:(match Tryz.f276.body with | some c=>AU [0,1] c | none=>false)=true:=by kernel_rfl
theorem Adv:Ar Tryz.prog [0,1] 276 ⟨15,qW,[.tmp 4,.tmp 5]⟩:=Ar.by Tryz.func276 AmL AmM Tryz.ntmps276 (by rw[Tryz.results276]) (by kernel_rfl)
end Go.Proofs.YtflonlkiajhhjaaGreatDoor.TpE
set_option maxRecDepth 100000
namespace Go.Proofs.YtflonlkiajhhjaaGreatDoor.TpE
open Go Go.Sp Go.TpE
theorem AmN:Cu Tryz.prog 3 ti3:=Cu.by Tryz.underlying3 (inf:=Tryz.t3) (by kernel_rfl) (by kernel_rfl) (by kernel_rfl) (by kernel_rfl) (by kernel_rfl) (fun h=>by cases h)
theorem AmO:Cu Tryz.prog 4 ti4:=Cu.by Tryz.underlying4 (inf:=Tryz.t4) (by kernel_rfl) (by kernel_rfl) (by kernel_rfl) (by kernel_rfl) (by kernel_rfl) (fun h=>by cases h)
theorem AmP:Cu Tryz.prog 5 ti5:=Cu.by Tryz.underlying5 (inf:=Tryz.t5) (by kernel_rfl) (by kernel_rfl) (by kernel_rfl) (by kernel_rfl) (by kernel_rfl) (fun h=>by cases h)
theorem AmQ:Cu Tryz.prog 9 ti9:=Cu.by Tryz.underlying9 (inf:=Tryz.t9) (by kernel_rfl) (by kernel_rfl) (by kernel_rfl) (by kernel_rfl) (by kernel_rfl) (fun h=>by cases h)
theorem AhO:Cu Tryz.prog 20 AgO:=Cu.by Tryz.underlying20 (inf:=Tryz.t20) (by kernel_rfl) (by kernel_rfl) (by kernel_rfl) (by kernel_rfl) (by kernel_rfl) (fun h=>by cases h)
theorem AhP:Cu Tryz.prog 23 AgP:=Cu.by Tryz.underlying23 (inf:=Tryz.t23) (by kernel_rfl) (by kernel_rfl) (by kernel_rfl) (by kernel_rfl) (by kernel_rfl) (fun h=>by cases h)
theorem AhQ:Cu Tryz.prog 27 AgQ:=Cu.by Tryz.underlying27 (inf:=Tryz.t27) (by kernel_rfl) (by kernel_rfl) (by kernel_rfl) (by kernel_rfl) (by kernel_rfl) (fun h=>by cases h)
theorem AhR:Cu Tryz.prog 36 AgR:=Cu.by Tryz.underlying36 (inf:=Tryz.t36) (by kernel_rfl) (by kernel_rfl) (by kernel_rfl) (by kernel_rfl) (by kernel_rfl) (fun h=>by cases h)
theorem AhS:Cu Tryz.prog 38 AgS:=Cu.by Tryz.underlying38 (inf:=Tryz.t38) (by kernel_rfl) (by kernel_rfl) (by kernel_rfl) (by kernel_rfl) (by kernel_rfl) (fun h=>by cases h)
theorem AhT:Cu Tryz.prog 41 AgT:=Cu.by Tryz.underlying41 (inf:=Tryz.t41) (by kernel_rfl) (by kernel_rfl) (by kernel_rfl) (by kernel_rfl) (by kernel_rfl) (fun h=>by cases h)
theorem AhU:Cu Tryz.prog 44 AgU:=Cu.by Tryz.underlying44 (inf:=Tryz.t44) (by kernel_rfl) (by kernel_rfl) (by kernel_rfl) (by kernel_rfl) (by kernel_rfl) (fun _=>⟨_,rfl,Fl.ok (d:=8) (⟨by kernel_rfl,.inr (.inr (.inr (.inl ⟨8,3,[(.int .i64 0)],Tryz.underlying44,⟨by kernel_rfl,.inl ⟨⟨_,Tryz.underlying3⟩,_,_,rfl⟩⟩,by kernel_rfl⟩)))⟩) (by decide) ⟨_,Tryz.underlying44,rfl⟩ (by kernel_rfl)⟩)
theorem AhV:Cu Tryz.prog 53 AgV:=Cu.by Tryz.underlying53 (inf:=Tryz.t53) (by kernel_rfl) (by kernel_rfl) (by kernel_rfl) (by kernel_rfl) (by kernel_rfl) (fun h=>by cases h)
theorem AhW:Cu Tryz.prog 54 AgW:=Cu.by Tryz.underlying54 (inf:=Tryz.t54) (by kernel_rfl) (by kernel_rfl) (by kernel_rfl) (by kernel_rfl) (by kernel_rfl) (fun h=>by cases h)
theorem AhX:Cu Tryz.prog 56 AgX:=Cu.by Tryz.underlying56 (inf:=Tryz.t56) (by kernel_rfl) (by kernel_rfl) (by kernel_rfl) (by kernel_rfl) (by kernel_rfl) (fun h=>by cases h)
theorem AhY:Cu Tryz.prog 58 AgY:=Cu.by Tryz.underlying58 (inf:=Tryz.t58) (by kernel_rfl) (by kernel_rfl) (by kernel_rfl) (by kernel_rfl) (by kernel_rfl) (fun _=>⟨_,rfl,Fl.ok (d:=8) (⟨by kernel_rfl,.inr (.inr (.inr (.inl ⟨2,3,[(.int .i64 0)],Tryz.underlying58,⟨by kernel_rfl,.inl ⟨⟨_,Tryz.underlying3⟩,_,_,rfl⟩⟩,by kernel_rfl⟩)))⟩) (by decide) ⟨_,Tryz.underlying58,rfl⟩ (by kernel_rfl)⟩)
theorem AhZ:Cu Tryz.prog 71 AgZ:=Cu.by Tryz.underlying71 (inf:=Tryz.t71) (by kernel_rfl) (by kernel_rfl) (by kernel_rfl) (by kernel_rfl) (by kernel_rfl) (fun h=>by cases h)
theorem Ah0:Cu Tryz.prog 91 Ag0:=Cu.by Tryz.underlying91 (inf:=Tryz.t91) (by kernel_rfl) (by kernel_rfl) (by kernel_rfl) (by kernel_rfl) (by kernel_rfl) (fun h=>by cases h)
theorem Ah1:Cu Tryz.prog 92 Ag1:=Cu.by Tryz.underlying92 (inf:=Tryz.t92) (by kernel_rfl) (by kernel_rfl) (by kernel_rfl) (by kernel_rfl) (by kernel_rfl) (fun h=>by cases h)
theorem Ah2:Cu Tryz.prog 96 Ag2:=Cu.by Tryz.underlying96 (inf:=Tryz.t96) (by kernel_rfl) (by kernel_rfl) (by kernel_rfl) (by kernel_rfl) (by kernel_rfl) (fun h=>by cases h)
theorem Ah3:Cu Tryz.prog 99 Ag3:=Cu.by Tryz.underlying99 (inf:=Tryz.t99) (by kernel_rfl) (by kernel_rfl) (by kernel_rfl) (by kernel_rfl) (by kernel_rfl) (fun _=>⟨_,rfl,Fl.ok (d:=8) (⟨by kernel_rfl,.inr (.inr (.inr (.inr ⟨_,Tryz.underlying99,by kernel_rfl,⟨by decide,rfl,[(.int .i64 0)],[(.int .u32 0)],rfl,⟨by kernel_rfl,.inl ⟨⟨_,Tryz.underlying3⟩,_,_,rfl⟩⟩,⟨by decide,rfl,[(.int .u32 0)],[],rfl,⟨by kernel_rfl,.inl ⟨⟨_,Tryz.underlying38⟩,_,_,rfl⟩⟩,rfl⟩⟩⟩)))⟩) (by decide) ⟨_,Tryz.underlying99,rfl⟩ (by kernel_rfl)⟩)
theorem Adw:Cu Tryz.prog 130 sH:=Cu.by Tryz.underlying130 (inf:=Tryz.t130) (by kernel_rfl) (by kernel_rfl) (by kernel_rfl) (by kernel_rfl) (by kernel_rfl) (fun h=>by cases h)
theorem Adx:Cu Tryz.prog 133 sI:=Cu.by Tryz.underlying133 (inf:=Tryz.t133) (by kernel_rfl) (by kernel_rfl) (by kernel_rfl) (by kernel_rfl) (by kernel_rfl) (fun h=>by cases h)
theorem Ady:Cu Tryz.prog 140 sJ:=Cu.by Tryz.underlying140 (inf:=Tryz.t140) (by kernel_rfl) (by kernel_rfl) (by kernel_rfl) (by kernel_rfl) (by kernel_rfl) (fun h=>by cases h)
theorem Adz:Cu Tryz.prog 141 sK:=Cu.by Tryz.underlying141 (inf:=Tryz.t141) (by kernel_rfl) (by kernel_rfl) (by kernel_rfl) (by kernel_rfl) (by kernel_rfl) (fun h=>by cases h)
theorem AdA:Cu Tryz.prog 163 sM:=Cu.by Tryz.underlying163 (inf:=Tryz.t163) (by kernel_rfl) (by kernel_rfl) (by kernel_rfl) (by kernel_rfl) (by kernel_rfl) (fun h=>by cases h)
theorem AdB:Cu Tryz.prog 166 sN:=Cu.by Tryz.underlying166 (inf:=Tryz.t166) (by kernel_rfl) (by kernel_rfl) (by kernel_rfl) (by kernel_rfl) (by kernel_rfl) (fun h=>by cases h)
theorem AdC:Cu Tryz.prog 168 sO:=Cu.by Tryz.underlying168 (inf:=Tryz.t168) (by kernel_rfl) (by kernel_rfl) (by kernel_rfl) (by kernel_rfl) (by kernel_rfl) (fun _=>⟨_,rfl,Fl.ok (d:=8) (⟨by kernel_rfl,.inr (.inr (.inr (.inl ⟨11,3,[(.int .i64 0)],Tryz.underlying168,⟨by kernel_rfl,.inl ⟨⟨_,Tryz.underlying3⟩,_,_,rfl⟩⟩,by kernel_rfl⟩)))⟩) (by decide) ⟨_,Tryz.underlying168,rfl⟩ (by kernel_rfl)⟩)
theorem AdD:Cu Tryz.prog 170 sP:=Cu.by Tryz.underlying170 (inf:=Tryz.t170) (by kernel_rfl) (by kernel_rfl) (by kernel_rfl) (by kernel_rfl) (by kernel_rfl) (fun h=>by cases h)
theorem AdE:Cu Tryz.prog 171 sQ:=Cu.by Tryz.underlying171 (inf:=Tryz.t171) (by kernel_rfl) (by kernel_rfl) (by kernel_rfl) (by kernel_rfl) (by kernel_rfl) (fun _=>⟨_,rfl,Fl.ok (d:=8) (⟨by kernel_rfl,.inr (.inr (.inr (.inl ⟨2,170,[(.int .u64 0)],Tryz.underlying171,⟨by kernel_rfl,.inl ⟨⟨_,Tryz.underlying170⟩,_,_,rfl⟩⟩,by kernel_rfl⟩)))⟩) (by decide) ⟨_,Tryz.underlying171,rfl⟩ (by kernel_rfl)⟩)
theorem AdF:Cu Tryz.prog 173 sS:=Cu.by Tryz.underlying173 (inf:=Tryz.t173) (by kernel_rfl) (by kernel_rfl) (by kernel_rfl) (by kernel_rfl) (by kernel_rfl) (fun _=>⟨_,rfl,Fl.ok (d:=8) (⟨by kernel_rfl,.inr (.inr (.inr (.inl ⟨7,171,[(.int .u64 0),(.int .u64 0)],Tryz.underlying173,⟨by kernel_rfl,.inr (.inr (.inr (.inl ⟨2,170,[(.int .u64 0)],Tryz.underlying171,⟨by kernel_rfl,.inl ⟨⟨_,Tryz.underlying170⟩,_,_,rfl⟩⟩,by kernel_rfl⟩)))⟩,by kernel_rfl⟩)))⟩) (by decide) ⟨_,Tryz.underlying173,rfl⟩ (by kernel_rfl)⟩)
theorem AdG:Cu Tryz.prog 185 sU:=Cu.by Tryz.underlying185 (inf:=Tryz.t185) (by kernel_rfl) (by kernel_rfl) (by kernel_rfl) (by kernel_rfl) (by kernel_rfl) (fun _=>⟨_,rfl,Fl.ok (d:=8) (⟨by kernel_rfl,.inr (.inr (.inr (.inl ⟨8,141,[(.int .u8 0)],Tryz.underlying185,⟨by kernel_rfl,.inl ⟨⟨_,Tryz.underlying141⟩,_,_,rfl⟩⟩,by kernel_rfl⟩)))⟩) (by decide) ⟨_,Tryz.underlying185,rfl⟩ (by kernel_rfl)⟩)
theorem AdH:Cu Tryz.prog 186 sV:=Cu.by Tryz.underlying186 (inf:=Tryz.t186) (by kernel_rfl) (by kernel_rfl) (by kernel_rfl) (by kernel_rfl) (by kernel_rfl) (fun _=>⟨_,rfl,Fl.ok (d:=8) (⟨by kernel_rfl,.inr (.inr (.inr (.inl ⟨8,185,[(.int .u8 0),(.int .u8 0),(.int .u8 0),(.int .u8 0),(.int .u8 0),(.int .u8 0),(.int .u8 0),(.int .u8 0)],Tryz.underlying186,⟨by kernel_rfl,.inr (.inr (.inr (.inl ⟨8,141,[(.int .u8 0)],Tryz.underlying185,⟨by kernel_rfl,.inl ⟨⟨_,Tryz.underlying141⟩,_,_,rfl⟩⟩,by kernel_rfl⟩)))⟩,by kernel_rfl⟩)))⟩) (by decide) ⟨_,Tryz.underlying186,rfl⟩ (by kernel_rfl)⟩)
theorem AdI:Cu Tryz.prog 188 sW:=Cu.by Tryz.underlying188 (inf:=Tryz.t188) (by kernel_rfl) (by kernel_rfl) (by kernel_rfl) (by kernel_rfl) (by kernel_rfl) (fun h=>by cases h)
theorem AdJ:Cu Tryz.prog 189 sZ:=Cu.by Tryz.underlying189 (inf:=Tryz.t189) (by kernel_rfl) (by kernel_rfl) (by kernel_rfl) (by kernel_rfl) (by kernel_rfl) (fun h=>by cases h)
theorem AdK:Cu Tryz.prog 208 tC:=Cu.by Tryz.underlying208 (inf:=Tryz.t208) (by kernel_rfl) (by kernel_rfl) (by kernel_rfl) (by kernel_rfl) (by kernel_rfl) (fun _=>⟨_,rfl,Fl.ok (d:=8) (⟨by kernel_rfl,.inr (.inr (.inr (.inr ⟨_,Tryz.underlying208,by kernel_rfl,⟨by decide,rfl,[(.int .i64 0)],[(.bool false)],rfl,⟨by kernel_rfl,.inl ⟨⟨_,Tryz.underlying3⟩,_,_,rfl⟩⟩,⟨by decide,rfl,[(.bool false)],[],rfl,⟨by kernel_rfl,.inr (.inl ⟨Tryz.underlying4,_,rfl⟩)⟩,rfl⟩⟩⟩)))⟩) (by decide) ⟨_,Tryz.underlying208,rfl⟩ (by kernel_rfl)⟩)
theorem AdL:Cu Tryz.prog 211 tF:=Cu.by Tryz.underlying211 (inf:=Tryz.t211) (by kernel_rfl) (by kernel_rfl) (by kernel_rfl) (by kernel_rfl) (by kernel_rfl) (fun h=>by cases h)
theorem AdM:Cu Tryz.prog 214 tH:=Cu.by Tryz.underlying214 (inf:=Tryz.t214) (by kernel_rfl) (by kernel_rfl) (by kernel_rfl) (by kernel_rfl) (by kernel_rfl) (fun h=>by cases h)
theorem AdN:Cu Tryz.prog 216 tJ:=Cu.by Tryz.underlying216 (inf:=Tryz.t216) (by kernel_rfl) (by kernel_rfl) (by kernel_rfl) (by kernel_rfl) (by kernel_rfl) (fun h=>by cases h)
theorem AdO:Cu Tryz.prog 219 tK:=Cu.by Tryz.underlying219 (inf:=Tryz.t219) (by kernel_rfl) (by kernel_rfl) (by kernel_rfl) (by kernel_rfl) (by kernel_rfl) (fun h=>by cases h)
theorem AdP:Cu Tryz.prog 220 tL:=Cu.by Tryz.underlying220 (inf:=Tryz.t220) (by kernel_rfl) (by kernel_rfl) (by kernel_rfl) (by kernel_rfl) (by kernel_rfl) (fun h=>by cases h)
theorem AdQ:Cu Tryz.prog 222 tN:=Cu.by Tryz.underlying222 (inf:=Tryz.t222) (by kernel_rfl) (by kernel_rfl) (by kernel_rfl) (by kernel_rfl) (by kernel_rfl) (fun h=>by cases h)
theorem AdR:Cu Tryz.prog 236 tO:=Cu.by Tryz.underlying236 (inf:=Tryz.t236) (by kernel_rfl) (by kernel_rfl) (by kernel_rfl) (by kernel_rfl) (by kernel_rfl) (fun h=>by cases h)
theorem AdS:Cu Tryz.prog 239 tQ:=Cu.by Tryz.underlying239 (inf:=Tryz.t239) (by kernel_rfl) (by kernel_rfl) (by kernel_rfl) (by kernel_rfl) (by kernel_rfl) (fun _=>⟨_,rfl,Fl.ok (d:=8) (⟨by kernel_rfl,.inr (.inr (.inr (.inr ⟨_,Tryz.underlying239,by kernel_rfl,⟨by decide,rfl,[(.int .i64 0)],[(.int .i64 0),(.int .i64 0),(.int .i64 0)],rfl,⟨by kernel_rfl,.inl ⟨⟨_,Tryz.underlying3⟩,_,_,rfl⟩⟩,⟨by decide,rfl,[(.int .i64 0)],[(.int .i64 0),(.int .i64 0)],rfl,⟨by kernel_rfl,.inl ⟨⟨_,Tryz.underlying3⟩,_,_,rfl⟩⟩,⟨by decide,rfl,[(.int .i64 0)],[(.int .i64 0)],rfl,⟨by kernel_rfl,.inl ⟨⟨_,Tryz.underlying3⟩,_,_,rfl⟩⟩,⟨by decide,rfl,[(.int .i64 0)],[],rfl,⟨by kernel_rfl,.inl ⟨⟨_,Tryz.underlying3⟩,_,_,rfl⟩⟩,rfl⟩⟩⟩⟩⟩)))⟩) (by decide) ⟨_,Tryz.underlying239,rfl⟩ (by kernel_rfl)⟩)
theorem AdT:Cu Tryz.prog 243 tT:=Cu.by Tryz.underlying243 (inf:=Tryz.t243) (by kernel_rfl) (by kernel_rfl) (by kernel_rfl) (by kernel_rfl) (by kernel_rfl) (fun _=>⟨_,rfl,Fl.ok (d:=8) (⟨by kernel_rfl,.inr (.inr (.inr (.inr ⟨_,Tryz.underlying243,by kernel_rfl,⟨by decide,rfl,[(.int .i64 0)],[(.int .i64 0),(.int .i64 0),(.int .i64 0)],rfl,⟨by kernel_rfl,.inl ⟨⟨_,Tryz.underlying3⟩,_,_,rfl⟩⟩,⟨by decide,rfl,[(.int .i64 0)],[(.int .i64 0),(.int .i64 0)],rfl,⟨by kernel_rfl,.inl ⟨⟨_,Tryz.underlying3⟩,_,_,rfl⟩⟩,⟨by decide,rfl,[(.int .i64 0)],[(.int .i64 0)],rfl,⟨by kernel_rfl,.inl ⟨⟨_,Tryz.underlying3⟩,_,_,rfl⟩⟩,⟨by decide,rfl,[(.int .i64 0)],[],rfl,⟨by kernel_rfl,.inl ⟨⟨_,Tryz.underlying3⟩,_,_,rfl⟩⟩,rfl⟩⟩⟩⟩⟩)))⟩) (by decide) ⟨_,Tryz.underlying243,rfl⟩ (by kernel_rfl)⟩)
theorem AdU:Cu Tryz.prog 246 tV:=Cu.by Tryz.underlying246 (inf:=Tryz.t246) (by kernel_rfl) (by kernel_rfl) (by kernel_rfl) (by kernel_rfl) (by kernel_rfl) (fun _=>⟨_,rfl,Fl.ok (d:=8) (⟨by kernel_rfl,.inr (.inr (.inr (.inr ⟨_,Tryz.underlying246,by kernel_rfl,⟨by decide,rfl,[(.int .i64 0)],[(.int .i64 0),(.int .i64 0),(.int .i64 0)],rfl,⟨by kernel_rfl,.inl ⟨⟨_,Tryz.underlying3⟩,_,_,rfl⟩⟩,⟨by decide,rfl,[(.int .i64 0)],[(.int .i64 0),(.int .i64 0)],rfl,⟨by kernel_rfl,.inl ⟨⟨_,Tryz.underlying3⟩,_,_,rfl⟩⟩,⟨by decide,rfl,[(.int .i64 0)],[(.int .i64 0)],rfl,⟨by kernel_rfl,.inl ⟨⟨_,Tryz.underlying3⟩,_,_,rfl⟩⟩,⟨by decide,rfl,[(.int .i64 0)],[],rfl,⟨by kernel_rfl,.inl ⟨⟨_,Tryz.underlying3⟩,_,_,rfl⟩⟩,rfl⟩⟩⟩⟩⟩)))⟩) (by decide) ⟨_,Tryz.underlying246,rfl⟩ (by kernel_rfl)⟩)
theorem AdV:Cu Tryz.prog 247 tX:=Cu.by Tryz.underlying247 (inf:=Tryz.t247) (by kernel_rfl) (by kernel_rfl) (by kernel_rfl) (by kernel_rfl) (by kernel_rfl) (fun h=>by cases h)
theorem AdW:Cu Tryz.prog 249 tY:=Cu.by Tryz.underlying249 (inf:=Tryz.t249) (by kernel_rfl) (by kernel_rfl) (by kernel_rfl) (by kernel_rfl) (by kernel_rfl) (fun h=>by cases h)
theorem AdX:Cu Tryz.prog 267 tZ:=Cu.by Tryz.underlying267 (inf:=Tryz.t267) (by kernel_rfl) (by kernel_rfl) (by kernel_rfl) (by kernel_rfl) (by kernel_rfl) (fun _=>⟨_,rfl,Fl.ok (d:=8) (⟨by kernel_rfl,.inr (.inr (.inr (.inl ⟨64,5,[(.int .u8 0)],Tryz.underlying267,⟨by kernel_rfl,.inl ⟨⟨_,Tryz.underlying5⟩,_,_,rfl⟩⟩,by kernel_rfl⟩)))⟩) (by decide) ⟨_,Tryz.underlying267,rfl⟩ (by kernel_rfl)⟩)
theorem AdY:Cu Tryz.prog 270 uA:=Cu.by Tryz.underlying270 (inf:=Tryz.t270) (by kernel_rfl) (by kernel_rfl) (by kernel_rfl) (by kernel_rfl) (by kernel_rfl) (fun _=>⟨_,rfl,Fl.ok (d:=8) (⟨by kernel_rfl,.inr (.inr (.inr (.inl ⟨17,3,[(.int .i64 0)],Tryz.underlying270,⟨by kernel_rfl,.inl ⟨⟨_,Tryz.underlying3⟩,_,_,rfl⟩⟩,by kernel_rfl⟩)))⟩) (by decide) ⟨_,Tryz.underlying270,rfl⟩ (by kernel_rfl)⟩)
theorem AdZ:Cu Tryz.prog 273 uB:=Cu.by Tryz.underlying273 (inf:=Tryz.t273) (by kernel_rfl) (by kernel_rfl) (by kernel_rfl) (by kernel_rfl) (by kernel_rfl) (fun h=>by cases h)
theorem Ad0:Cu Tryz.prog 274 uC:=Cu.by Tryz.underlying274 (inf:=Tryz.t274) (by kernel_rfl) (by kernel_rfl) (by kernel_rfl) (by kernel_rfl) (by kernel_rfl) (fun _=>⟨_,rfl,Fl.ok (d:=8) (⟨by kernel_rfl,.inr (.inr (.inr (.inl ⟨2,273,[(.int .u64 0)],Tryz.underlying274,⟨by kernel_rfl,.inl ⟨⟨_,Tryz.underlying273⟩,_,_,rfl⟩⟩,by kernel_rfl⟩)))⟩) (by decide) ⟨_,Tryz.underlying274,rfl⟩ (by kernel_rfl)⟩)
theorem Ad1:Cu Tryz.prog 276 uD:=Cu.by Tryz.underlying276 (inf:=Tryz.t276) (by kernel_rfl) (by kernel_rfl) (by kernel_rfl) (by kernel_rfl) (by kernel_rfl) (fun _=>⟨_,rfl,Fl.ok (d:=8) (⟨by kernel_rfl,.inr (.inr (.inr (.inr ⟨_,Tryz.underlying276,by kernel_rfl,⟨by decide,rfl,[(.int .i64 0),(.int .i64 0),(.int .i64 0),(.int .i64 0)],[(.int .u64 0),(.int .u64 0),(.int .u64 0)],rfl,⟨by kernel_rfl,.inr (.inr (.inr (.inr ⟨_,Tryz.underlying243,by kernel_rfl,⟨by decide,rfl,[(.int .i64 0)],[(.int .i64 0),(.int .i64 0),(.int .i64 0)],rfl,⟨by kernel_rfl,.inl ⟨⟨_,Tryz.underlying3⟩,_,_,rfl⟩⟩,⟨by decide,rfl,[(.int .i64 0)],[(.int .i64 0),(.int .i64 0)],rfl,⟨by kernel_rfl,.inl ⟨⟨_,Tryz.underlying3⟩,_,_,rfl⟩⟩,⟨by decide,rfl,[(.int .i64 0)],[(.int .i64 0)],rfl,⟨by kernel_rfl,.inl ⟨⟨_,Tryz.underlying3⟩,_,_,rfl⟩⟩,⟨by decide,rfl,[(.int .i64 0)],[],rfl,⟨by kernel_rfl,.inl ⟨⟨_,Tryz.underlying3⟩,_,_,rfl⟩⟩,rfl⟩⟩⟩⟩⟩)))⟩,⟨by decide,rfl,[(.int .u64 0),(.int .u64 0)],[(.int .u64 0)],rfl,⟨by kernel_rfl,.inr (.inr (.inr (.inl ⟨2,273,[(.int .u64 0)],Tryz.underlying274,⟨by kernel_rfl,.inl ⟨⟨_,Tryz.underlying273⟩,_,_,rfl⟩⟩,by kernel_rfl⟩)))⟩,⟨by decide,rfl,[(.int .u64 0)],[],rfl,⟨by kernel_rfl,.inl ⟨⟨_,Tryz.underlying273⟩,_,_,rfl⟩⟩,rfl⟩⟩⟩⟩)))⟩) (by decide) ⟨_,Tryz.underlying276,rfl⟩ (by kernel_rfl)⟩)
theorem Ad2:Cu Tryz.prog 279 uE:=Cu.by Tryz.underlying279 (inf:=Tryz.t279) (by kernel_rfl) (by kernel_rfl) (by kernel_rfl) (by kernel_rfl) (by kernel_rfl) (fun h=>by cases h)
theorem Ad3:Cu Tryz.prog 284 uF:=Cu.by Tryz.underlying284 (inf:=Tryz.t284) (by kernel_rfl) (by kernel_rfl) (by kernel_rfl) (by kernel_rfl) (by kernel_rfl) (fun h=>by cases h)
theorem Ad4:Cu Tryz.prog 295 uG:=Cu.by Tryz.underlying295 (inf:=Tryz.t295) (by kernel_rfl) (by kernel_rfl) (by kernel_rfl) (by kernel_rfl) (by kernel_rfl) (fun _=>⟨_,rfl,Fl.ok (d:=8) (⟨by kernel_rfl,.inr (.inr (.inr (.inl ⟨8,220,[(.int .u8 0)],Tryz.underlying295,⟨by kernel_rfl,.inl ⟨⟨_,Tryz.underlying220⟩,_,_,rfl⟩⟩,by kernel_rfl⟩)))⟩) (by decide) ⟨_,Tryz.underlying295,rfl⟩ (by kernel_rfl)⟩)
theorem Ad5:Cu Tryz.prog 301 uH:=Cu.by Tryz.underlying301 (inf:=Tryz.t301) (by kernel_rfl) (by kernel_rfl) (by kernel_rfl) (by kernel_rfl) (by kernel_rfl) (fun _=>⟨_,rfl,Fl.ok (d:=8) (⟨by kernel_rfl,.inr (.inr (.inr (.inr ⟨_,Tryz.underlying301,by kernel_rfl,⟨by decide,rfl,[(.int .i64 0),(.int .i64 0),(.int .i64 0),(.int .i64 0)],[(.int .i64 0)],rfl,⟨by kernel_rfl,.inr (.inr (.inr (.inr ⟨_,Tryz.underlying239,by kernel_rfl,⟨by decide,rfl,[(.int .i64 0)],[(.int .i64 0),(.int .i64 0),(.int .i64 0)],rfl,⟨by kernel_rfl,.inl ⟨⟨_,Tryz.underlying3⟩,_,_,rfl⟩⟩,⟨by decide,rfl,[(.int .i64 0)],[(.int .i64 0),(.int .i64 0)],rfl,⟨by kernel_rfl,.inl ⟨⟨_,Tryz.underlying3⟩,_,_,rfl⟩⟩,⟨by decide,rfl,[(.int .i64 0)],[(.int .i64 0)],rfl,⟨by kernel_rfl,.inl ⟨⟨_,Tryz.underlying3⟩,_,_,rfl⟩⟩,⟨by decide,rfl,[(.int .i64 0)],[],rfl,⟨by kernel_rfl,.inl ⟨⟨_,Tryz.underlying3⟩,_,_,rfl⟩⟩,rfl⟩⟩⟩⟩⟩)))⟩,⟨by decide,rfl,[(.int .i64 0)],[],rfl,⟨by kernel_rfl,.inl ⟨⟨_,Tryz.underlying3⟩,_,_,rfl⟩⟩,rfl⟩⟩⟩)))⟩) (by decide) ⟨_,Tryz.underlying301,rfl⟩ (by kernel_rfl)⟩)
theorem Ad6:Cu Tryz.prog 305 uI:=Cu.by Tryz.underlying305 (inf:=Tryz.t305) (by kernel_rfl) (by kernel_rfl) (by kernel_rfl) (by kernel_rfl) (by kernel_rfl) (fun h=>by cases h)
theorem Ad7:Cu Tryz.prog 307 uJ:=Cu.by Tryz.underlying307 (inf:=Tryz.t307) (by kernel_rfl) (by kernel_rfl) (by kernel_rfl) (by kernel_rfl) (by kernel_rfl) (fun h=>by cases h)
theorem Ad8:Cu Tryz.prog 309 uK:=Cu.by Tryz.underlying309 (inf:=Tryz.t309) (by kernel_rfl) (by kernel_rfl) (by kernel_rfl) (by kernel_rfl) (by kernel_rfl) (fun h=>by cases h)
theorem Ad9:Cu Tryz.prog 323 uL:=Cu.by Tryz.underlying323 (inf:=Tryz.t323) (by kernel_rfl) (by kernel_rfl) (by kernel_rfl) (by kernel_rfl) (by kernel_rfl) (fun _=>⟨_,rfl,Fl.ok (d:=8) (⟨by kernel_rfl,.inr (.inr (.inr (.inr ⟨_,Tryz.underlying323,by kernel_rfl,⟨by decide,rfl,[(.int .i64 0)],[(.int .i64 0),(.bool false)],rfl,⟨by kernel_rfl,.inl ⟨⟨_,Tryz.underlying3⟩,_,_,rfl⟩⟩,⟨by decide,rfl,[(.int .i64 0)],[(.bool false)],rfl,⟨by kernel_rfl,.inl ⟨⟨_,Tryz.underlying3⟩,_,_,rfl⟩⟩,⟨by decide,rfl,[(.bool false)],[],rfl,⟨by kernel_rfl,.inr (.inl ⟨Tryz.underlying4,_,rfl⟩)⟩,rfl⟩⟩⟩⟩)))⟩) (by decide) ⟨_,Tryz.underlying323,rfl⟩ (by kernel_rfl)⟩)
theorem Aea:Cu Tryz.prog 324 uM:=Cu.by Tryz.underlying324 (inf:=Tryz.t324) (by kernel_rfl) (by kernel_rfl) (by kernel_rfl) (by kernel_rfl) (by kernel_rfl) (fun h=>by cases h)
theorem Aeb:Cu Tryz.prog 326 uN:=Cu.by Tryz.underlying326 (inf:=Tryz.t326) (by kernel_rfl) (by kernel_rfl) (by kernel_rfl) (by kernel_rfl) (by kernel_rfl) (fun _=>⟨_,rfl,Fl.ok (d:=8) (⟨by kernel_rfl,.inr (.inr (.inr (.inr ⟨_,Tryz.underlying326,by kernel_rfl,⟨by decide,rfl,[(.int .i64 0)],[(.int .i64 0),(.bool false)],rfl,⟨by kernel_rfl,.inl ⟨⟨_,Tryz.underlying3⟩,_,_,rfl⟩⟩,⟨by decide,rfl,[(.int .i64 0)],[(.bool false)],rfl,⟨by kernel_rfl,.inl ⟨⟨_,Tryz.underlying3⟩,_,_,rfl⟩⟩,⟨by decide,rfl,[(.bool false)],[],rfl,⟨by kernel_rfl,.inr (.inl ⟨Tryz.underlying4,_,rfl⟩)⟩,rfl⟩⟩⟩⟩)))⟩) (by decide) ⟨_,Tryz.underlying326,rfl⟩ (by kernel_rfl)⟩)
theorem Aec:Cu Tryz.prog 327 uO:=Cu.by Tryz.underlying327 (inf:=Tryz.t327) (by kernel_rfl) (by kernel_rfl) (by kernel_rfl) (by kernel_rfl) (by kernel_rfl) (fun h=>by cases h)
theorem Aed:Cu Tryz.prog 333 uP:=Cu.by Tryz.underlying333 (inf:=Tryz.t333) (by kernel_rfl) (by kernel_rfl) (by kernel_rfl) (by kernel_rfl) (by kernel_rfl) (fun h=>by cases h)
theorem C8:Jm Tryz.prog tt:=Jm.of_all (t:=Ag4) ⟨trivial,⟨trivial,⟨AmN,⟨trivial,⟨trivial,trivial,⟨trivial,trivial,⟨trivial,trivial,⟨AdS,trivial,trivial⟩⟩⟩⟩,⟨AhP,⟨trivial,⟨AhZ,trivial,⟨trivial,⟨Aec,trivial,trivial⟩,trivial⟩⟩,⟨trivial,⟨trivial,⟨Ad4,trivial,trivial⟩,trivial⟩,trivial⟩⟩,⟨trivial,⟨trivial,⟨trivial,⟨Ad2,trivial,trivial⟩,trivial⟩,trivial⟩,⟨trivial,trivial,⟨AdV,trivial,trivial⟩⟩⟩⟩⟩,⟨trivial,⟨trivial,⟨trivial,⟨trivial,trivial,⟨trivial,⟨Ad9,trivial,trivial⟩,trivial⟩⟩,⟨Ah3,⟨AdA,trivial,trivial⟩,trivial⟩⟩,⟨trivial,⟨trivial,trivial,⟨AdL,trivial,trivial⟩⟩,⟨trivial,⟨trivial,⟨Ad7,trivial,trivial⟩,trivial⟩,⟨AdT,trivial,trivial⟩⟩⟩⟩,⟨AhQ,⟨trivial,⟨trivial,⟨trivial,⟨AdX,trivial,trivial⟩,trivial⟩,trivial⟩,⟨trivial,⟨AdE,trivial,trivial⟩,trivial⟩⟩,⟨trivial,⟨Ah0,trivial,⟨AdO,trivial,trivial⟩⟩,trivial⟩⟩⟩⟩,⟨AmP,⟨AmQ,⟨trivial,trivial,⟨trivial,⟨trivial,⟨trivial,⟨AdZ,trivial,trivial⟩,trivial⟩,trivial⟩,⟨trivial,⟨trivial,⟨Ad6,trivial,trivial⟩,trivial⟩,trivial⟩⟩⟩,⟨trivial,⟨AhT,trivial,trivial⟩,⟨trivial,trivial,⟨trivial,⟨AdG,trivial,trivial⟩,⟨AdW,trivial,trivial⟩⟩⟩⟩⟩,⟨trivial,⟨trivial,⟨trivial,⟨trivial,⟨Adx,trivial,trivial⟩,trivial⟩,trivial⟩,⟨AhV,trivial,⟨trivial,⟨trivial,⟨Ad8,trivial,trivial⟩,trivial⟩,trivial⟩⟩⟩,⟨trivial,⟨trivial,⟨trivial,⟨Adz,trivial,trivial⟩,⟨trivial,⟨Aed,trivial,trivial⟩,trivial⟩⟩,⟨trivial,⟨AdF,⟨Ad5,trivial,trivial⟩,trivial⟩,trivial⟩⟩,⟨trivial,trivial,⟨trivial,⟨AdJ,trivial,trivial⟩,trivial⟩⟩⟩⟩⟩⟩,⟨trivial,⟨AmO,⟨trivial,⟨trivial,⟨trivial,trivial,⟨Ah2,trivial,trivial⟩⟩,⟨trivial,⟨trivial,trivial,⟨AdK,trivial,trivial⟩⟩,trivial⟩⟩,⟨trivial,⟨trivial,trivial,⟨trivial,⟨AdC,trivial,trivial⟩,trivial⟩⟩,⟨AhX,⟨trivial,trivial,⟨AdN,trivial,trivial⟩⟩,trivial⟩⟩⟩,⟨trivial,⟨AhO,⟨AhR,⟨trivial,trivial,⟨trivial,⟨Aea,trivial,trivial⟩,trivial⟩⟩,trivial⟩,⟨trivial,⟨trivial,⟨trivial,⟨Ad1,trivial,trivial⟩,trivial⟩,trivial⟩,trivial⟩⟩,⟨trivial,⟨AhU,⟨trivial,⟨Ady,trivial,trivial⟩,trivial⟩,⟨trivial,trivial,⟨AdR,trivial,trivial⟩⟩⟩,⟨trivial,⟨Ah1,⟨trivial,⟨Ad3,trivial,trivial⟩,trivial⟩,⟨AdP,trivial,trivial⟩⟩,⟨trivial,⟨AdI,trivial,trivial⟩,trivial⟩⟩⟩⟩⟩,⟨trivial,⟨trivial,⟨trivial,⟨trivial,⟨trivial,⟨Adw,trivial,trivial⟩,trivial⟩,trivial⟩,⟨trivial,⟨trivial,⟨trivial,⟨Ad0,trivial,trivial⟩,trivial⟩,trivial⟩,trivial⟩⟩,⟨trivial,⟨trivial,trivial,⟨trivial,⟨AdD,trivial,trivial⟩,trivial⟩⟩,⟨AhY,trivial,⟨trivial,⟨AdH,trivial,trivial⟩,trivial⟩⟩⟩⟩,⟨trivial,⟨trivial,⟨AhS,⟨trivial,trivial,⟨trivial,⟨Aeb,trivial,trivial⟩,trivial⟩⟩,⟨trivial,⟨AdB,trivial,trivial⟩,trivial⟩⟩,⟨AhW,⟨trivial,trivial,⟨AdM,trivial,trivial⟩⟩,⟨trivial,trivial,⟨AdU,trivial,trivial⟩⟩⟩⟩,⟨trivial,⟨trivial,⟨trivial,⟨trivial,⟨AdY,trivial,trivial⟩,trivial⟩,trivial⟩,trivial⟩,⟨trivial,⟨trivial,trivial,⟨AdQ,trivial,trivial⟩⟩,trivial⟩⟩⟩⟩⟩⟩
theorem Ah4:Ag5.All (Ar Tryz.prog [0,1]):=⟨trivial,⟨trivial,⟨trivial,⟨trivial,⟨vB,⟨trivial,⟨vY,⟨Acn,trivial,trivial⟩,⟨AcO,trivial,trivial⟩⟩,⟨trivial,trivial,⟨AcX,trivial,trivial⟩⟩⟩,⟨trivial,⟨trivial,⟨Acu,trivial,trivial⟩,⟨AcT,trivial,trivial⟩⟩,trivial⟩⟩,⟨vJ,⟨vM,⟨AhH,⟨trivial,⟨Adm,trivial,trivial⟩,trivial⟩,trivial⟩,⟨trivial,⟨ZP,trivial,trivial⟩,trivial⟩⟩,⟨vR,trivial,⟨ZJ,⟨AcG,trivial,trivial⟩,⟨Adc,trivial,trivial⟩⟩⟩⟩⟩,⟨trivial,⟨vF,⟨trivial,⟨AhF,⟨trivial,⟨Adk,trivial,trivial⟩,trivial⟩,trivial⟩,⟨trivial,trivial,⟨Ac1,trivial,trivial⟩⟩⟩,⟨trivial,⟨trivial,⟨Acx,trivial,trivial⟩,trivial⟩,⟨ZH,⟨AcF,trivial,trivial⟩,⟨Ac8,trivial,trivial⟩⟩⟩⟩,⟨trivial,⟨trivial,⟨trivial,⟨trivial,⟨Adq,trivial,trivial⟩,trivial⟩,⟨AcQ,trivial,trivial⟩⟩,⟨trivial,⟨Acz,trivial,trivial⟩,⟨Ac5,trivial,trivial⟩⟩⟩,⟨vV,trivial,⟨Acl,⟨AcK,trivial,trivial⟩,⟨Adh,trivial,trivial⟩⟩⟩⟩⟩⟩,⟨trivial,⟨trivial,⟨vD,⟨trivial,⟨trivial,⟨Acp,trivial,trivial⟩,trivial⟩,⟨AhN,trivial,⟨AcZ,trivial,trivial⟩⟩⟩,⟨trivial,⟨trivial,⟨Acv,⟨Adu,trivial,trivial⟩,trivial⟩,trivial⟩,⟨ZF,⟨AcD,trivial,trivial⟩,⟨Ac6,trivial,trivial⟩⟩⟩⟩,⟨trivial,⟨trivial,⟨AhJ,⟨trivial,⟨Ado,trivial,trivial⟩,trivial⟩,trivial⟩,⟨trivial,⟨ZR,trivial,trivial⟩,⟨Ac3,trivial,trivial⟩⟩⟩,⟨vT,⟨trivial,trivial,⟨AcU,trivial,trivial⟩⟩,⟨ZK,⟨AcI,trivial,trivial⟩,⟨Adf,trivial,trivial⟩⟩⟩⟩⟩,⟨trivial,⟨vH,⟨trivial,trivial,⟨trivial,⟨ZN,trivial,trivial⟩,trivial⟩⟩,⟨vP,trivial,⟨Acf,trivial,⟨Ada,trivial,trivial⟩⟩⟩⟩,⟨trivial,⟨trivial,⟨AhL,⟨trivial,⟨Ads,trivial,trivial⟩,trivial⟩,⟨AcR,trivial,trivial⟩⟩,⟨trivial,⟨AcB,trivial,trivial⟩,trivial⟩⟩,⟨vX,⟨trivial,trivial,⟨AcV,trivial,trivial⟩⟩,⟨trivial,⟨AcM,trivial,trivial⟩,⟨Adi,trivial,trivial⟩⟩⟩⟩⟩⟩⟩,⟨trivial,⟨AhC,⟨trivial,⟨vC,⟨trivial,⟨trivial,⟨Aco,trivial,trivial⟩,trivial⟩,⟨vZ,trivial,⟨AcY,trivial,trivial⟩⟩⟩,⟨trivial,⟨trivial,⟨trivial,⟨Adt,trivial,trivial⟩,trivial⟩,trivial⟩,⟨ZE,trivial,trivial⟩⟩⟩,⟨ZC,⟨trivial,⟨AhI,⟨trivial,⟨Adn,trivial,trivial⟩,trivial⟩,trivial⟩,⟨trivial,⟨ZQ,trivial,trivial⟩,trivial⟩⟩,⟨vS,trivial,⟨Aci,⟨AcH,trivial,trivial⟩,⟨Ade,trivial,trivial⟩⟩⟩⟩⟩,⟨trivial,⟨vG,⟨trivial,trivial,⟨Acd,⟨ZM,trivial,trivial⟩,⟨Ac2,trivial,trivial⟩⟩⟩,⟨vO,⟨AhM,⟨ZL,⟨Adv,trivial,trivial⟩,trivial⟩,trivial⟩,⟨ZI,trivial,⟨Ac9,trivial,trivial⟩⟩⟩⟩,⟨trivial,⟨trivial,⟨AhK,⟨trivial,⟨Adr,trivial,trivial⟩,trivial⟩,trivial⟩,⟨trivial,⟨AcA,trivial,trivial⟩,trivial⟩⟩,⟨vW,trivial,⟨trivial,⟨AcL,trivial,trivial⟩,⟨bI,trivial,trivial⟩⟩⟩⟩⟩⟩,⟨trivial,⟨trivial,⟨vE,⟨trivial,⟨AhE,trivial,trivial⟩,⟨wB,trivial,⟨Ac0,trivial,trivial⟩⟩⟩,⟨trivial,⟨trivial,⟨Acw,trivial,trivial⟩,trivial⟩,⟨ZG,⟨AcE,trivial,trivial⟩,⟨Ac7,trivial,trivial⟩⟩⟩⟩,⟨trivial,⟨trivial,⟨trivial,⟨Acr,⟨Adp,trivial,trivial⟩,trivial⟩,⟨AcP,trivial,trivial⟩⟩,⟨trivial,⟨ZT,trivial,trivial⟩,⟨Ac4,trivial,trivial⟩⟩⟩,⟨vU,trivial,⟨Ack,⟨AcJ,trivial,trivial⟩,⟨Adg,trivial,trivial⟩⟩⟩⟩⟩,⟨trivial,⟨vI,⟨trivial,⟨AhG,⟨trivial,⟨Adl,trivial,trivial⟩,trivial⟩,trivial⟩,⟨trivial,⟨ZO,trivial,trivial⟩,trivial⟩⟩,⟨vQ,trivial,⟨Acg,trivial,⟨Adb,trivial,trivial⟩⟩⟩⟩,⟨vK,⟨vN,⟨trivial,⟨Acs,trivial,trivial⟩,⟨AcS,trivial,trivial⟩⟩,⟨trivial,⟨AcC,trivial,trivial⟩,trivial⟩⟩,⟨AhD,⟨trivial,trivial,⟨AcW,trivial,trivial⟩⟩,⟨Acm,⟨AcN,trivial,trivial⟩,⟨Adj,trivial,trivial⟩⟩⟩⟩⟩⟩⟩⟩
theorem Kb (f:FuncId) (r:Xq) (h:Hw f=some r):Ar Tryz.prog [0,1] f r:=Ah4.get h
end Go.Proofs.YtflonlkiajhhjaaGreatDoor.TpE
