/- Made from wip. -/
import Derived.Test.YtflonlkiajhhjaaGreatDoorProg
import Derived.Test.YtflonlkiajhhjaaGreatDoorSpClox
import Derived.Test.YtflonlkiajhhjaaGreatDoorTpDCode
import Derived.Test.YtflonlkiajhhjaaGreatDoorTpDPux

set_option maxRecDepth 100000
namespace Go.Proofs.YtflonlkiajhhjaaGreatDoor.TpD
open Go Go.Sp Go.TpD
theorem b3:(match Tryz.f3.body with | some c=>BF c c3 | none=>none)=some c3:=by kernel_rfl
theorem p3:(match Tryz.f3.body with | some c=>AU [0,1] c | none=>false)=true:=by kernel_rfl
theorem AbQ:Ar Tryz.prog [0,1] 3 ⟨85,c3,[.tmp 4]⟩:=Ar.by Tryz.func3 b3 p3 Tryz.ntmps3 (by rw[Tryz.results3]) (by kernel_rfl)
theorem b10:(match Tryz.f10.body with | some c=>BF c c10 | none=>none)=some c10:=by kernel_rfl
theorem p10:(match Tryz.f10.body with | some c=>AU [0,1] c | none=>false)=true:=by kernel_rfl
theorem iU:Ar Tryz.prog [0,1] 10 ⟨54,c10,[.tmp 4]⟩:=Ar.by Tryz.func10 b10 p10 Tryz.ntmps10 (by rw[Tryz.results10]) (by kernel_rfl)
theorem b11:(match Tryz.f11.body with | some c=>BF c c11 | none=>none)=some c11:=by kernel_rfl
theorem p11:(match Tryz.f11.body with | some c=>AU [0,1] c | none=>false)=true:=by kernel_rfl
theorem iV:Ar Tryz.prog [0,1] 11 ⟨143,c11,[.tmp 2,.tmp 3]⟩:=Ar.by Tryz.func11 b11 p11 Tryz.ntmps11 (by rw[Tryz.results11]) (by kernel_rfl)
theorem b12:(match Tryz.f12.body with | some c=>BF c c12 | none=>none)=some c12:=by kernel_rfl
theorem p12:(match Tryz.f12.body with | some c=>AU [0,1] c | none=>false)=true:=by kernel_rfl
theorem iW:Ar Tryz.prog [0,1] 12 ⟨44,c12,[.tmp 2,.tmp 3]⟩:=Ar.by Tryz.func12 b12 p12 Tryz.ntmps12 (by rw[Tryz.results12]) (by kernel_rfl)
theorem b13:(match Tryz.f13.body with | some c=>BF c c13 | none=>none)=some c13:=by kernel_rfl
theorem p13:(match Tryz.f13.body with | some c=>AU [0,1] c | none=>false)=true:=by kernel_rfl
theorem iX:Ar Tryz.prog [0,1] 13 ⟨12,c13,[.tmp 2,.tmp 3]⟩:=Ar.by Tryz.func13 b13 p13 Tryz.ntmps13 (by rw[Tryz.results13]) (by kernel_rfl)
theorem b14:(match Tryz.f14.body with | some c=>BF c c14 | none=>none)=some c14:=by kernel_rfl
theorem p14:(match Tryz.f14.body with | some c=>AU [0,1] c | none=>false)=true:=by kernel_rfl
theorem UL:Ar Tryz.prog [0,1] 14 ⟨18,c14,[.tmp 0]⟩:=Ar.by Tryz.func14 b14 p14 Tryz.ntmps14 (by rw[Tryz.results14]) (by kernel_rfl)
theorem b15:(match Tryz.f15.body with | some c=>BF c c15 | none=>none)=some c15:=by kernel_rfl
theorem p15:(match Tryz.f15.body with | some c=>AU [0,1] c | none=>false)=true:=by kernel_rfl
theorem AbR:Ar Tryz.prog [0,1] 15 ⟨4,c15,[.tmp 2]⟩:=Ar.by Tryz.func15 b15 p15 Tryz.ntmps15 (by rw[Tryz.results15]) (by kernel_rfl)
theorem b22:(match Tryz.f22.body with | some c=>BF c c22 | none=>none)=some c22:=by kernel_rfl
theorem p22:(match Tryz.f22.body with | some c=>AU [0,1] c | none=>false)=true:=by kernel_rfl
theorem AbS:Ar Tryz.prog [0,1] 22 ⟨26,c22,[.tmp 4]⟩:=Ar.by Tryz.func22 b22 p22 Tryz.ntmps22 (by rw[Tryz.results22]) (by kernel_rfl)
theorem b45:(match Tryz.f45.body with | some c=>BF c c45 | none=>none)=some c45:=by kernel_rfl
theorem p45:(match Tryz.f45.body with | some c=>AU [0,1] c | none=>false)=true:=by kernel_rfl
theorem iY:Ar Tryz.prog [0,1] 45 ⟨13,c45,[.tmp 2]⟩:=Ar.by Tryz.func45 b45 p45 Tryz.ntmps45 (by rw[Tryz.results45]) (by kernel_rfl)
theorem b46:(match Tryz.f46.body with | some c=>BF c c46 | none=>none)=some c46:=by kernel_rfl
theorem p46:(match Tryz.f46.body with | some c=>AU [0,1] c | none=>false)=true:=by kernel_rfl
theorem iZ:Ar Tryz.prog [0,1] 46 ⟨25,c46,[.tmp 2]⟩:=Ar.by Tryz.func46 b46 p46 Tryz.ntmps46 (by rw[Tryz.results46]) (by kernel_rfl)
theorem b47:(match Tryz.f47.body with | some c=>BF c c47 | none=>none)=some c47:=by kernel_rfl
theorem p47:(match Tryz.f47.body with | some c=>AU [0,1] c | none=>false)=true:=by kernel_rfl
theorem jA:Ar Tryz.prog [0,1] 47 ⟨73,c47,[.tmp 2]⟩:=Ar.by Tryz.func47 b47 p47 Tryz.ntmps47 (by rw[Tryz.results47]) (by kernel_rfl)
theorem b48:(match Tryz.f48.body with | some c=>BF c c48 | none=>none)=some c48:=by kernel_rfl
theorem p48:(match Tryz.f48.body with | some c=>AU [0,1] c | none=>false)=true:=by kernel_rfl
theorem jC:Ar Tryz.prog [0,1] 48 ⟨49,c48,[.tmp 2]⟩:=Ar.by Tryz.func48 b48 p48 Tryz.ntmps48 (by rw[Tryz.results48]) (by kernel_rfl)
theorem b49:(match Tryz.f49.body with | some c=>BF c c49 | none=>none)=some c49:=by kernel_rfl
theorem p49:(match Tryz.f49.body with | some c=>AU [0,1] c | none=>false)=true:=by kernel_rfl
theorem jD:Ar Tryz.prog [0,1] 49 ⟨13,c49,[.tmp 2]⟩:=Ar.by Tryz.func49 b49 p49 Tryz.ntmps49 (by rw[Tryz.results49]) (by kernel_rfl)
theorem b50:(match Tryz.f50.body with | some c=>BF c c50 | none=>none)=some c50:=by kernel_rfl
theorem p50:(match Tryz.f50.body with | some c=>AU [0,1] c | none=>false)=true:=by kernel_rfl
theorem Ab0:Ar Tryz.prog [0,1] 50 ⟨88,c50,[.tmp 2,.tmp 3]⟩:=Ar.by Tryz.func50 b50 p50 Tryz.ntmps50 (by rw[Tryz.results50]) (by kernel_rfl)
theorem b51:(match Tryz.f51.body with | some c=>BF c c51 | none=>none)=some c51:=by kernel_rfl
theorem p51:(match Tryz.f51.body with | some c=>AU [0,1] c | none=>false)=true:=by kernel_rfl
theorem jE:Ar Tryz.prog [0,1] 51 ⟨20,c51,[.tmp 0]⟩:=Ar.by Tryz.func51 b51 p51 Tryz.ntmps51 (by rw[Tryz.results51]) (by kernel_rfl)
theorem b66:(match Tryz.f66.body with | some c=>BF c c66 | none=>none)=some c66:=by kernel_rfl
theorem p66:(match Tryz.f66.body with | some c=>AU [0,1] c | none=>false)=true:=by kernel_rfl
theorem Ab4:Ar Tryz.prog [0,1] 66 ⟨46,c66,[.tmp 2]⟩:=Ar.by Tryz.func66 b66 p66 Tryz.ntmps66 (by rw[Tryz.results66]) (by kernel_rfl)
theorem b67:(match Tryz.f67.body with | some c=>BF c c67 | none=>none)=some c67:=by kernel_rfl
theorem p67:(match Tryz.f67.body with | some c=>AU [0,1] c | none=>false)=true:=by kernel_rfl
theorem Ab8:Ar Tryz.prog [0,1] 67 ⟨8,c67,[.tmp 2]⟩:=Ar.by Tryz.func67 b67 p67 Tryz.ntmps67 (by rw[Tryz.results67]) (by kernel_rfl)
theorem b71:(match Tryz.f71.body with | some c=>BF c c71 | none=>none)=some c71:=by kernel_rfl
theorem p71:(match Tryz.f71.body with | some c=>AU [0,1] c | none=>false)=true:=by kernel_rfl
theorem Ab9:Ar Tryz.prog [0,1] 71 ⟨32,c71,[.tmp 4,.tmp 5]⟩:=Ar.by Tryz.func71 b71 p71 Tryz.ntmps71 (by rw[Tryz.results71]) (by kernel_rfl)
theorem b72:(match Tryz.f72.body with | some c=>BF c c72 | none=>none)=some c72:=by kernel_rfl
theorem p72:(match Tryz.f72.body with | some c=>AU [0,1] c | none=>false)=true:=by kernel_rfl
theorem Aca:Ar Tryz.prog [0,1] 72 ⟨19,c72,[.tmp 2,.tmp 3]⟩:=Ar.by Tryz.func72 b72 p72 Tryz.ntmps72 (by rw[Tryz.results72]) (by kernel_rfl)
theorem b73:(match Tryz.f73.body with | some c=>BF c c73 | none=>none)=some c73:=by kernel_rfl
theorem p73:(match Tryz.f73.body with | some c=>AU [0,1] c | none=>false)=true:=by kernel_rfl
theorem Acb:Ar Tryz.prog [0,1] 73 ⟨16,c73,[.tmp 4]⟩:=Ar.by Tryz.func73 b73 p73 Tryz.ntmps73 (by rw[Tryz.results73]) (by kernel_rfl)
theorem b76:(match Tryz.f76.body with | some c=>BF c c76 | none=>none)=some c76:=by kernel_rfl
theorem p76:(match Tryz.f76.body with | some c=>AU [0,1] c | none=>false)=true:=by kernel_rfl
theorem Acc:Ar Tryz.prog [0,1] 76 ⟨39,c76,[.tmp 2]⟩:=Ar.by Tryz.func76 b76 p76 Tryz.ntmps76 (by rw[Tryz.results76]) (by kernel_rfl)
theorem b77:(match Tryz.f77.body with | some c=>BF c c77 | none=>none)=some c77:=by kernel_rfl
theorem p77:(match Tryz.f77.body with | some c=>AU [0,1] c | none=>false)=true:=by kernel_rfl
theorem Acd:Ar Tryz.prog [0,1] 77 ⟨53,c77,[.tmp 2,.tmp 3]⟩:=Ar.by Tryz.func77 b77 p77 Tryz.ntmps77 (by rw[Tryz.results77]) (by kernel_rfl)
theorem b80:(match Tryz.f80.body with | some c=>BF c c80 | none=>none)=some c80:=by kernel_rfl
theorem p80:(match Tryz.f80.body with | some c=>AU [0,1] c | none=>false)=true:=by kernel_rfl
theorem jJ:Ar Tryz.prog [0,1] 80 ⟨15,c80,[.tmp 6]⟩:=Ar.by Tryz.func80 b80 p80 Tryz.ntmps80 (by rw[Tryz.results80]) (by kernel_rfl)
theorem b84:(match Tryz.f84.body with | some c=>BF c c84 | none=>none)=some c84:=by kernel_rfl
theorem p84:(match Tryz.f84.body with | some c=>AU [0,1] c | none=>false)=true:=by kernel_rfl
theorem Ace:Ar Tryz.prog [0,1] 84 ⟨9,c84,[.tmp 4]⟩:=Ar.by Tryz.func84 b84 p84 Tryz.ntmps84 (by rw[Tryz.results84]) (by kernel_rfl)
theorem b90:(match Tryz.f90.body with | some c=>BF c c90 | none=>none)=some c90:=by kernel_rfl
theorem p90:(match Tryz.f90.body with | some c=>AU [0,1] c | none=>false)=true:=by kernel_rfl
theorem jK:Ar Tryz.prog [0,1] 90 ⟨15,c90,[.tmp 2]⟩:=Ar.by Tryz.func90 b90 p90 Tryz.ntmps90 (by rw[Tryz.results90]) (by kernel_rfl)
end Go.Proofs.YtflonlkiajhhjaaGreatDoor.TpD
set_option maxRecDepth 100000
namespace Go.Proofs.YtflonlkiajhhjaaGreatDoor.TpD
open Go Go.Sp Go.TpD
theorem b96:(match Tryz.f96.body with | some c=>BF c c96 | none=>none)=some c96:=by kernel_rfl
theorem p96:(match Tryz.f96.body with | some c=>AU [0,1] c | none=>false)=true:=by kernel_rfl
theorem Acf:Ar Tryz.prog [0,1] 96 ⟨15,c96,[.tmp 6]⟩:=Ar.by Tryz.func96 b96 p96 Tryz.ntmps96 (by rw[Tryz.results96]) (by kernel_rfl)
theorem AdR:(match Tryz.f100.body with | some c=>BF c XP | none=>none)=some XP:=by kernel_rfl
theorem AdS:(match Tryz.f100.body with | some c=>AU [0,1] c | none=>false)=true:=by kernel_rfl
theorem uW:Ar Tryz.prog [0,1] 100 ⟨15,XP,[.tmp 6]⟩:=Ar.by Tryz.func100 AdR AdS Tryz.ntmps100 (by rw[Tryz.results100]) (by kernel_rfl)
theorem AdT:(match Tryz.f104.body with | some c=>BF c Ua | none=>none)=some Ua:=by kernel_rfl
theorem AdU:(match Tryz.f104.body with | some c=>AU [0,1] c | none=>false)=true:=by kernel_rfl
theorem UM:Ar Tryz.prog [0,1] 104 ⟨30,Ua,[.tmp 2]⟩:=Ar.by Tryz.func104 AdT AdU Tryz.ntmps104 (by rw[Tryz.results104]) (by kernel_rfl)
theorem AdV:(match Tryz.f105.body with | some c=>BF c Ub | none=>none)=some Ub:=by kernel_rfl
theorem AdW:(match Tryz.f105.body with | some c=>AU [0,1] c | none=>false)=true:=by kernel_rfl
theorem UN:Ar Tryz.prog [0,1] 105 ⟨15,Ub,[.tmp 6]⟩:=Ar.by Tryz.func105 AdV AdW Tryz.ntmps105 (by rw[Tryz.results105]) (by kernel_rfl)
theorem AdX:(match Tryz.f106.body with | some c=>BF c Ud | none=>none)=some Ud:=by kernel_rfl
theorem AdY:(match Tryz.f106.body with | some c=>AU [0,1] c | none=>false)=true:=by kernel_rfl
theorem UO:Ar Tryz.prog [0,1] 106 ⟨27,Ud,[.tmp 2]⟩:=Ar.by Tryz.func106 AdX AdY Tryz.ntmps106 (by rw[Tryz.results106]) (by kernel_rfl)
theorem AdZ:(match Tryz.f107.body with | some c=>BF c Ue | none=>none)=some Ue:=by kernel_rfl
theorem Ad0:(match Tryz.f107.body with | some c=>AU [0,1] c | none=>false)=true:=by kernel_rfl
theorem UQ:Ar Tryz.prog [0,1] 107 ⟨11,Ue,[.tmp 2]⟩:=Ar.by Tryz.func107 AdZ Ad0 Tryz.ntmps107 (by rw[Tryz.results107]) (by kernel_rfl)
theorem Ad1:(match Tryz.f108.body with | some c=>BF c Uf | none=>none)=some Uf:=by kernel_rfl
theorem Ad2:(match Tryz.f108.body with | some c=>AU [0,1] c | none=>false)=true:=by kernel_rfl
theorem UT:Ar Tryz.prog [0,1] 108 ⟨8,Uf,[.tmp 2]⟩:=Ar.by Tryz.func108 Ad1 Ad2 Tryz.ntmps108 (by rw[Tryz.results108]) (by kernel_rfl)
theorem Ad3:(match Tryz.f109.body with | some c=>BF c Ug | none=>none)=some Ug:=by kernel_rfl
theorem Ad4:(match Tryz.f109.body with | some c=>AU [0,1] c | none=>false)=true:=by kernel_rfl
theorem UU:Ar Tryz.prog [0,1] 109 ⟨52,Ug,[.tmp 4]⟩:=Ar.by Tryz.func109 Ad3 Ad4 Tryz.ntmps109 (by rw[Tryz.results109]) (by kernel_rfl)
theorem Ad5:(match Tryz.f110.body with | some c=>BF c XQ | none=>none)=some XQ:=by kernel_rfl
theorem Ad6:(match Tryz.f110.body with | some c=>AU [0,1] c | none=>false)=true:=by kernel_rfl
theorem uX:Ar Tryz.prog [0,1] 110 ⟨14,XQ,[.tmp 2,.tmp 3]⟩:=Ar.by Tryz.func110 Ad5 Ad6 Tryz.ntmps110 (by rw[Tryz.results110]) (by kernel_rfl)
theorem Ad7:(match Tryz.f111.body with | some c=>BF c XR | none=>none)=some XR:=by kernel_rfl
theorem Ad8:(match Tryz.f111.body with | some c=>AU [0,1] c | none=>false)=true:=by kernel_rfl
theorem UV:Ar Tryz.prog [0,1] 111 ⟨21,XR,[.tmp 0]⟩:=Ar.by Tryz.func111 Ad7 Ad8 Tryz.ntmps111 (by rw[Tryz.results111]) (by kernel_rfl)
theorem Ad9:(match Tryz.f112.body with | some c=>BF c XT | none=>none)=some XT:=by kernel_rfl
theorem Aea:(match Tryz.f112.body with | some c=>AU [0,1] c | none=>false)=true:=by kernel_rfl
theorem uY:Ar Tryz.prog [0,1] 112 ⟨110,XT,[.tmp 2,.tmp 3]⟩:=Ar.by Tryz.func112 Ad9 Aea Tryz.ntmps112 (by rw[Tryz.results112]) (by kernel_rfl)
theorem Aeb:(match Tryz.f123.body with | some c=>BF c XU | none=>none)=some XU:=by kernel_rfl
theorem Aec:(match Tryz.f123.body with | some c=>AU [0,1] c | none=>false)=true:=by kernel_rfl
theorem uZ:Ar Tryz.prog [0,1] 123 ⟨15,XU,[.tmp 6]⟩:=Ar.by Tryz.func123 Aeb Aec Tryz.ntmps123 (by rw[Tryz.results123]) (by kernel_rfl)
theorem Aed:(match Tryz.f127.body with | some c=>BF c XZ | none=>none)=some XZ:=by kernel_rfl
theorem Aee:(match Tryz.f127.body with | some c=>AU [0,1] c | none=>false)=true:=by kernel_rfl
theorem vB:Ar Tryz.prog [0,1] 127 ⟨21,XZ,[.tmp 4]⟩:=Ar.by Tryz.func127 Aed Aee Tryz.ntmps127 (by rw[Tryz.results127]) (by kernel_rfl)
theorem Aef:(match Tryz.f128.body with | some c=>BF c X0 | none=>none)=some X0:=by kernel_rfl
theorem Aeg:(match Tryz.f128.body with | some c=>AU [0,1] c | none=>false)=true:=by kernel_rfl
theorem vC:Ar Tryz.prog [0,1] 128 ⟨17,X0,[.cell 2 173,.tmp 3]⟩:=Ar.by Tryz.func128 Aef Aeg Tryz.ntmps128 (by rw[Tryz.results128]) (by kernel_rfl)
theorem Aeh:(match Tryz.f129.body with | some c=>BF c X3 | none=>none)=some X3:=by kernel_rfl
theorem Aei:(match Tryz.f129.body with | some c=>AU [0,1] c | none=>false)=true:=by kernel_rfl
theorem vD:Ar Tryz.prog [0,1] 129 ⟨38,X3,[.tmp 4]⟩:=Ar.by Tryz.func129 Aeh Aei Tryz.ntmps129 (by rw[Tryz.results129]) (by kernel_rfl)
theorem Aej:(match Tryz.f138.body with | some c=>BF c X4 | none=>none)=some X4:=by kernel_rfl
theorem Aek:(match Tryz.f138.body with | some c=>AU [0,1] c | none=>false)=true:=by kernel_rfl
theorem vE:Ar Tryz.prog [0,1] 138 ⟨19,X4,[.tmp 4]⟩:=Ar.by Tryz.func138 Aej Aek Tryz.ntmps138 (by rw[Tryz.results138]) (by kernel_rfl)
theorem Ael:(match Tryz.f146.body with | some c=>BF c X5 | none=>none)=some X5:=by kernel_rfl
theorem Aem:(match Tryz.f146.body with | some c=>AU [0,1] c | none=>false)=true:=by kernel_rfl
theorem vF:Ar Tryz.prog [0,1] 146 ⟨39,X5,[.tmp 2,.tmp 3]⟩:=Ar.by Tryz.func146 Ael Aem Tryz.ntmps146 (by rw[Tryz.results146]) (by kernel_rfl)
theorem Aen:(match Tryz.f157.body with | some c=>BF c Uh | none=>none)=some Uh:=by kernel_rfl
theorem Aeo:(match Tryz.f157.body with | some c=>AU [0,1] c | none=>false)=true:=by kernel_rfl
theorem UW:Ar Tryz.prog [0,1] 157 ⟨16,Uh,[.tmp 2]⟩:=Ar.by Tryz.func157 Aen Aeo Tryz.ntmps157 (by rw[Tryz.results157]) (by kernel_rfl)
theorem Aep:(match Tryz.f158.body with | some c=>BF c Ui | none=>none)=some Ui:=by kernel_rfl
theorem Aeq:(match Tryz.f158.body with | some c=>AU [0,1] c | none=>false)=true:=by kernel_rfl
theorem UX:Ar Tryz.prog [0,1] 158 ⟨38,Ui,[.tmp 4]⟩:=Ar.by Tryz.func158 Aep Aeq Tryz.ntmps158 (by rw[Tryz.results158]) (by kernel_rfl)
theorem Aer:(match Tryz.f159.body with | some c=>BF c X6 | none=>none)=some X6:=by kernel_rfl
theorem Aes:(match Tryz.f159.body with | some c=>AU [0,1] c | none=>false)=true:=by kernel_rfl
theorem vG:Ar Tryz.prog [0,1] 159 ⟨32,X6,[.tmp 2]⟩:=Ar.by Tryz.func159 Aer Aes Tryz.ntmps159 (by rw[Tryz.results159]) (by kernel_rfl)
theorem Aet:(match Tryz.f160.body with | some c=>BF c X7 | none=>none)=some X7:=by kernel_rfl
theorem Aeu:(match Tryz.f160.body with | some c=>AU [0,1] c | none=>false)=true:=by kernel_rfl
theorem vH:Ar Tryz.prog [0,1] 160 ⟨19,X7,[.cell 2 204]⟩:=Ar.by Tryz.func160 Aet Aeu Tryz.ntmps160 (by rw[Tryz.results160]) (by kernel_rfl)
theorem Aev:(match Tryz.f161.body with | some c=>BF c X9 | none=>none)=some X9:=by kernel_rfl
theorem Aew:(match Tryz.f161.body with | some c=>AU [0,1] c | none=>false)=true:=by kernel_rfl
theorem vI:Ar Tryz.prog [0,1] 161 ⟨15,X9,[.cell 2 204]⟩:=Ar.by Tryz.func161 Aev Aew Tryz.ntmps161 (by rw[Tryz.results161]) (by kernel_rfl)
theorem Aey:(match Tryz.f162.body with | some c=>BF c Ya | none=>none)=some Ya:=by kernel_rfl
theorem Aez:(match Tryz.f162.body with | some c=>AU [0,1] c | none=>false)=true:=by kernel_rfl
theorem vJ:Ar Tryz.prog [0,1] 162 ⟨18,Ya,[.tmp 2]⟩:=Ar.by Tryz.func162 Aey Aez Tryz.ntmps162 (by rw[Tryz.results162]) (by kernel_rfl)
theorem AeA:(match Tryz.f163.body with | some c=>BF c Yb | none=>none)=some Yb:=by kernel_rfl
theorem AeB:(match Tryz.f163.body with | some c=>AU [0,1] c | none=>false)=true:=by kernel_rfl
theorem UY:Ar Tryz.prog [0,1] 163 ⟨20,Yb,[.tmp 0]⟩:=Ar.by Tryz.func163 AeA AeB Tryz.ntmps163 (by rw[Tryz.results163]) (by kernel_rfl)
theorem AeC:(match Tryz.f164.body with | some c=>BF c Yc | none=>none)=some Yc:=by kernel_rfl
theorem AeD:(match Tryz.f164.body with | some c=>AU [0,1] c | none=>false)=true:=by kernel_rfl
theorem vK:Ar Tryz.prog [0,1] 164 ⟨18,Yc,[.cell 2 208]⟩:=Ar.by Tryz.func164 AeC AeD Tryz.ntmps164 (by rw[Tryz.results164]) (by kernel_rfl)
end Go.Proofs.YtflonlkiajhhjaaGreatDoor.TpD
set_option maxRecDepth 100000
namespace Go.Proofs.YtflonlkiajhhjaaGreatDoor.TpD
open Go Go.Sp Go.TpD
theorem AeE:(match Tryz.f165.body with | some c=>BF c Yd | none=>none)=some Yd:=by kernel_rfl
theorem AeF:(match Tryz.f165.body with | some c=>AU [0,1] c | none=>false)=true:=by kernel_rfl
theorem UZ:Ar Tryz.prog [0,1] 165 ⟨47,Yd,[.tmp 4]⟩:=Ar.by Tryz.func165 AeE AeF Tryz.ntmps165 (by rw[Tryz.results165]) (by kernel_rfl)
theorem AeG:(match Tryz.f166.body with | some c=>BF c Ye | none=>none)=some Ye:=by kernel_rfl
theorem AeH:(match Tryz.f166.body with | some c=>AU [0,1] c | none=>false)=true:=by kernel_rfl
theorem vL:Ar Tryz.prog [0,1] 166 ⟨22,Ye,[.cell 4 208]⟩:=Ar.by Tryz.func166 AeG AeH Tryz.ntmps166 (by rw[Tryz.results166]) (by kernel_rfl)
theorem AeI:(match Tryz.f167.body with | some c=>BF c Yf | none=>none)=some Yf:=by kernel_rfl
theorem AeJ:(match Tryz.f167.body with | some c=>AU [0,1] c | none=>false)=true:=by kernel_rfl
theorem vM:Ar Tryz.prog [0,1] 167 ⟨22,Yf,[.tmp 2]⟩:=Ar.by Tryz.func167 AeI AeJ Tryz.ntmps167 (by rw[Tryz.results167]) (by kernel_rfl)
theorem AeK:(match Tryz.f177.body with | some c=>BF c Yg | none=>none)=some Yg:=by kernel_rfl
theorem AeL:(match Tryz.f177.body with | some c=>AU [0,1] c | none=>false)=true:=by kernel_rfl
theorem vN:Ar Tryz.prog [0,1] 177 ⟨38,Yg,[.cell 2 173]⟩:=Ar.by Tryz.func177 AeK AeL Tryz.ntmps177 (by rw[Tryz.results177]) (by kernel_rfl)
theorem AeM:(match Tryz.f178.body with | some c=>BF c Yh | none=>none)=some Yh:=by kernel_rfl
theorem AeN:(match Tryz.f178.body with | some c=>AU [0,1] c | none=>false)=true:=by kernel_rfl
theorem vO:Ar Tryz.prog [0,1] 178 ⟨21,Yh,[.cell 4 173]⟩:=Ar.by Tryz.func178 AeM AeN Tryz.ntmps178 (by rw[Tryz.results178]) (by kernel_rfl)
theorem AeO:(match Tryz.f179.body with | some c=>BF c Yi | none=>none)=some Yi:=by kernel_rfl
theorem AeP:(match Tryz.f179.body with | some c=>AU [0,1] c | none=>false)=true:=by kernel_rfl
theorem vP:Ar Tryz.prog [0,1] 179 ⟨14,Yi,[.tmp 2]⟩:=Ar.by Tryz.func179 AeO AeP Tryz.ntmps179 (by rw[Tryz.results179]) (by kernel_rfl)
theorem AeQ:(match Tryz.f186.body with | some c=>BF c Yj | none=>none)=some Yj:=by kernel_rfl
theorem AeR:(match Tryz.f186.body with | some c=>AU [0,1] c | none=>false)=true:=by kernel_rfl
theorem vQ:Ar Tryz.prog [0,1] 186 ⟨27,Yj,[.tmp 4]⟩:=Ar.by Tryz.func186 AeQ AeR Tryz.ntmps186 (by rw[Tryz.results186]) (by kernel_rfl)
theorem AeS:(match Tryz.f190.body with | some c=>BF c Yk | none=>none)=some Yk:=by kernel_rfl
theorem AeT:(match Tryz.f190.body with | some c=>AU [0,1] c | none=>false)=true:=by kernel_rfl
theorem vR:Ar Tryz.prog [0,1] 190 ⟨16,Yk,[.tmp 2,.tmp 3]⟩:=Ar.by Tryz.func190 AeS AeT Tryz.ntmps190 (by rw[Tryz.results190]) (by kernel_rfl)
theorem AeU:(match Tryz.f197.body with | some c=>BF c Uj | none=>none)=some Uj:=by kernel_rfl
theorem AeV:(match Tryz.f197.body with | some c=>AU [0,1] c | none=>false)=true:=by kernel_rfl
theorem U0:Ar Tryz.prog [0,1] 197 ⟨10,Uj,[.tmp 4]⟩:=Ar.by Tryz.func197 AeU AeV Tryz.ntmps197 (by rw[Tryz.results197]) (by kernel_rfl)
theorem AeW:(match Tryz.f198.body with | some c=>BF c Yl | none=>none)=some Yl:=by kernel_rfl
theorem AeX:(match Tryz.f198.body with | some c=>AU [0,1] c | none=>false)=true:=by kernel_rfl
theorem vS:Ar Tryz.prog [0,1] 198 ⟨15,Yl,[.tmp 6]⟩:=Ar.by Tryz.func198 AeW AeX Tryz.ntmps198 (by rw[Tryz.results198]) (by kernel_rfl)
theorem AeY:(match Tryz.f199.body with | some c=>BF c Ym | none=>none)=some Ym:=by kernel_rfl
theorem AeZ:(match Tryz.f199.body with | some c=>AU [0,1] c | none=>false)=true:=by kernel_rfl
theorem vT:Ar Tryz.prog [0,1] 199 ⟨17,Ym,[.tmp 2]⟩:=Ar.by Tryz.func199 AeY AeZ Tryz.ntmps199 (by rw[Tryz.results199]) (by kernel_rfl)
theorem Ae0:(match Tryz.f200.body with | some c=>BF c Yn | none=>none)=some Yn:=by kernel_rfl
theorem Ae1:(match Tryz.f200.body with | some c=>AU [0,1] c | none=>false)=true:=by kernel_rfl
theorem vU:Ar Tryz.prog [0,1] 200 ⟨48,Yn,[.tmp 4]⟩:=Ar.by Tryz.func200 Ae0 Ae1 Tryz.ntmps200 (by rw[Tryz.results200]) (by kernel_rfl)
theorem Ae2:(match Tryz.f201.body with | some c=>BF c Yo | none=>none)=some Yo:=by kernel_rfl
theorem Ae3:(match Tryz.f201.body with | some c=>AU [0,1] c | none=>false)=true:=by kernel_rfl
theorem VL:Ar Tryz.prog [0,1] 201 ⟨18,Yo,[.tmp 0]⟩:=Ar.by Tryz.func201 Ae2 Ae3 Tryz.ntmps201 (by rw[Tryz.results201]) (by kernel_rfl)
theorem Ae4:(match Tryz.f202.body with | some c=>BF c Yp | none=>none)=some Yp:=by kernel_rfl
theorem Ae5:(match Tryz.f202.body with | some c=>AU [0,1] c | none=>false)=true:=by kernel_rfl
theorem vV:Ar Tryz.prog [0,1] 202 ⟨28,Yp,[]⟩:=Ar.by Tryz.func202 Ae4 Ae5 Tryz.ntmps202 (by rw[Tryz.results202]) (by kernel_rfl)
theorem Ae6:(match Tryz.f203.body with | some c=>BF c Yq | none=>none)=some Yq:=by kernel_rfl
theorem Ae7:(match Tryz.f203.body with | some c=>AU [0,1] c | none=>false)=true:=by kernel_rfl
theorem vW:Ar Tryz.prog [0,1] 203 ⟨34,Yq,[.tmp 4]⟩:=Ar.by Tryz.func203 Ae6 Ae7 Tryz.ntmps203 (by rw[Tryz.results203]) (by kernel_rfl)
theorem Ae8:(match Tryz.f217.body with | some c=>BF c Yr | none=>none)=some Yr:=by kernel_rfl
theorem Ae9:(match Tryz.f217.body with | some c=>AU [0,1] c | none=>false)=true:=by kernel_rfl
theorem vX:Ar Tryz.prog [0,1] 217 ⟨41,Yr,[.cell 4 173]⟩:=Ar.by Tryz.func217 Ae8 Ae9 Tryz.ntmps217 (by rw[Tryz.results217]) (by kernel_rfl)
theorem Afa:(match Tryz.f222.body with | some c=>BF c Yt | none=>none)=some Yt:=by kernel_rfl
theorem Afb:(match Tryz.f222.body with | some c=>AU [0,1] c | none=>false)=true:=by kernel_rfl
theorem vY:Ar Tryz.prog [0,1] 222 ⟨50,Yt,[.cell 4 270]⟩:=Ar.by Tryz.func222 Afa Afb Tryz.ntmps222 (by rw[Tryz.results222]) (by kernel_rfl)
theorem Afc:(match Tryz.f225.body with | some c=>BF c Yu | none=>none)=some Yu:=by kernel_rfl
theorem Afd:(match Tryz.f225.body with | some c=>AU [0,1] c | none=>false)=true:=by kernel_rfl
theorem vZ:Ar Tryz.prog [0,1] 225 ⟨35,Yu,[.cell 2 276,.tmp 3]⟩:=Ar.by Tryz.func225 Afc Afd Tryz.ntmps225 (by rw[Tryz.results225]) (by kernel_rfl)
theorem Afe:(match Tryz.f226.body with | some c=>BF c Yv | none=>none)=some Yv:=by kernel_rfl
theorem Aff:(match Tryz.f226.body with | some c=>AU [0,1] c | none=>false)=true:=by kernel_rfl
theorem wB:Ar Tryz.prog [0,1] 226 ⟨7,Yv,[.tmp 2]⟩:=Ar.by Tryz.func226 Afe Aff Tryz.ntmps226 (by rw[Tryz.results226]) (by kernel_rfl)
theorem Afg:(match Tryz.f227.body with | some c=>BF c Yw | none=>none)=some Yw:=by kernel_rfl
theorem Afh:(match Tryz.f227.body with | some c=>AU [0,1] c | none=>false)=true:=by kernel_rfl
theorem wC:Ar Tryz.prog [0,1] 227 ⟨80,Yw,[.tmp 2,.tmp 3]⟩:=Ar.by Tryz.func227 Afg Afh Tryz.ntmps227 (by rw[Tryz.results227]) (by kernel_rfl)
theorem Afi:(match Tryz.f230.body with | some c=>BF c Yy | none=>none)=some Yy:=by kernel_rfl
theorem Afj:(match Tryz.f230.body with | some c=>AU [0,1] c | none=>false)=true:=by kernel_rfl
theorem wI:Ar Tryz.prog [0,1] 230 ⟨30,Yy,[.tmp 4,.tmp 5]⟩:=Ar.by Tryz.func230 Afi Afj Tryz.ntmps230 (by rw[Tryz.results230]) (by kernel_rfl)
theorem Afk:(match Tryz.f231.body with | some c=>BF c Yz | none=>none)=some Yz:=by kernel_rfl
theorem Afl:(match Tryz.f231.body with | some c=>AU [0,1] c | none=>false)=true:=by kernel_rfl
theorem VM:Ar Tryz.prog [0,1] 231 ⟨56,Yz,[.tmp 0]⟩:=Ar.by Tryz.func231 Afk Afl Tryz.ntmps231 (by rw[Tryz.results231]) (by kernel_rfl)
theorem Afm:(match Tryz.f244.body with | some c=>BF c YA | none=>none)=some YA:=by kernel_rfl
theorem Afn:(match Tryz.f244.body with | some c=>AU [0,1] c | none=>false)=true:=by kernel_rfl
theorem wJ:Ar Tryz.prog [0,1] 244 ⟨29,YA,[.tmp 2]⟩:=Ar.by Tryz.func244 Afm Afn Tryz.ntmps244 (by rw[Tryz.results244]) (by kernel_rfl)
theorem Afo:(match Tryz.f245.body with | some c=>BF c YB | none=>none)=some YB:=by kernel_rfl
theorem Afp:(match Tryz.f245.body with | some c=>AU [0,1] c | none=>false)=true:=by kernel_rfl
theorem wK:Ar Tryz.prog [0,1] 245 ⟨22,YB,[.tmp 6]⟩:=Ar.by Tryz.func245 Afo Afp Tryz.ntmps245 (by rw[Tryz.results245]) (by kernel_rfl)
theorem Afq:(match Tryz.f246.body with | some c=>BF c YC | none=>none)=some YC:=by kernel_rfl
theorem Afr:(match Tryz.f246.body with | some c=>AU [0,1] c | none=>false)=true:=by kernel_rfl
theorem wL:Ar Tryz.prog [0,1] 246 ⟨15,YC,[.tmp 6]⟩:=Ar.by Tryz.func246 Afq Afr Tryz.ntmps246 (by rw[Tryz.results246]) (by kernel_rfl)
end Go.Proofs.YtflonlkiajhhjaaGreatDoor.TpD
set_option maxRecDepth 100000
namespace Go.Proofs.YtflonlkiajhhjaaGreatDoor.TpD
open Go Go.Sp Go.TpD
theorem Afs:(match Tryz.f247.body with | some c=>BF c Zt | none=>none)=some Zt:=by kernel_rfl
theorem Afu:(match Tryz.f247.body with | some c=>AU [0,1] c | none=>false)=true:=by kernel_rfl
theorem wM:Ar Tryz.prog [0,1] 247 ⟨62,Zt,[.tmp 2]⟩:=Ar.by Tryz.func247 Afs Afu Tryz.ntmps247 (by rw[Tryz.results247]) (by kernel_rfl)
theorem Afv:(match Tryz.f248.body with | some c=>BF c Zu | none=>none)=some Zu:=by kernel_rfl
theorem Afw:(match Tryz.f248.body with | some c=>AU [0,1] c | none=>false)=true:=by kernel_rfl
theorem wN:Ar Tryz.prog [0,1] 248 ⟨3,Zu,[.tmp 2]⟩:=Ar.by Tryz.func248 Afv Afw Tryz.ntmps248 (by rw[Tryz.results248]) (by kernel_rfl)
theorem Afx:(match Tryz.f249.body with | some c=>BF c Zv | none=>none)=some Zv:=by kernel_rfl
theorem Afy:(match Tryz.f249.body with | some c=>AU [0,1] c | none=>false)=true:=by kernel_rfl
theorem wO:Ar Tryz.prog [0,1] 249 ⟨53,Zv,[.tmp 2]⟩:=Ar.by Tryz.func249 Afx Afy Tryz.ntmps249 (by rw[Tryz.results249]) (by kernel_rfl)
theorem Afz:(match Tryz.f250.body with | some c=>BF c Zw | none=>none)=some Zw:=by kernel_rfl
theorem AfA:(match Tryz.f250.body with | some c=>AU [0,1] c | none=>false)=true:=by kernel_rfl
theorem wP:Ar Tryz.prog [0,1] 250 ⟨5,Zw,[.tmp 2]⟩:=Ar.by Tryz.func250 Afz AfA Tryz.ntmps250 (by rw[Tryz.results250]) (by kernel_rfl)
theorem AfB:(match Tryz.f251.body with | some c=>BF c Zx | none=>none)=some Zx:=by kernel_rfl
theorem AfC:(match Tryz.f251.body with | some c=>AU [0,1] c | none=>false)=true:=by kernel_rfl
theorem wQ:Ar Tryz.prog [0,1] 251 ⟨115,Zx,[.tmp 8]⟩:=Ar.by Tryz.func251 AfB AfC Tryz.ntmps251 (by rw[Tryz.results251]) (by kernel_rfl)
theorem AfD:(match Tryz.f252.body with | some c=>BF c Uk | none=>none)=some Uk:=by kernel_rfl
theorem AfE:(match Tryz.f252.body with | some c=>AU [0,1] c | none=>false)=true:=by kernel_rfl
theorem VU:Ar Tryz.prog [0,1] 252 ⟨32,Uk,[]⟩:=Ar.by Tryz.func252 AfD AfE Tryz.ntmps252 (by rw[Tryz.results252]) (by kernel_rfl)
theorem AfF:(match Tryz.f253.body with | some c=>BF c Zy | none=>none)=some Zy:=by kernel_rfl
theorem AfG:(match Tryz.f253.body with | some c=>AU [0,1] c | none=>false)=true:=by kernel_rfl
theorem wR:Ar Tryz.prog [0,1] 253 ⟨47,Zy,[]⟩:=Ar.by Tryz.func253 AfF AfG Tryz.ntmps253 (by rw[Tryz.results253]) (by kernel_rfl)
theorem AfH:(match Tryz.f255.body with | some c=>BF c Zz | none=>none)=some Zz:=by kernel_rfl
theorem AfI:(match Tryz.f255.body with | some c=>AU [0,1] c | none=>false)=true:=by kernel_rfl
theorem wS:Ar Tryz.prog [0,1] 255 ⟨17,Zz,[.tmp 4,.tmp 5]⟩:=Ar.by Tryz.func255 AfH AfI Tryz.ntmps255 (by rw[Tryz.results255]) (by kernel_rfl)
theorem AfJ:(match Tryz.f256.body with | some c=>BF c ZA | none=>none)=some ZA:=by kernel_rfl
theorem AfK:(match Tryz.f256.body with | some c=>AU [0,1] c | none=>false)=true:=by kernel_rfl
theorem wT:Ar Tryz.prog [0,1] 256 ⟨51,ZA,[.tmp 4,.tmp 5]⟩:=Ar.by Tryz.func256 AfJ AfK Tryz.ntmps256 (by rw[Tryz.results256]) (by kernel_rfl)
theorem AfL:(match Tryz.f257.body with | some c=>BF c ZB | none=>none)=some ZB:=by kernel_rfl
theorem AfM:(match Tryz.f257.body with | some c=>AU [0,1] c | none=>false)=true:=by kernel_rfl
theorem wU:Ar Tryz.prog [0,1] 257 ⟨25,ZB,[.tmp 4,.tmp 5,.tmp 6]⟩:=Ar.by Tryz.func257 AfL AfM Tryz.ntmps257 (by rw[Tryz.results257]) (by kernel_rfl)
theorem AfN:(match Tryz.f263.body with | some c=>BF c ZC | none=>none)=some ZC:=by kernel_rfl
theorem AfO:(match Tryz.f263.body with | some c=>AU [0,1] c | none=>false)=true:=by kernel_rfl
theorem wV:Ar Tryz.prog [0,1] 263 ⟨26,ZC,[.tmp 6]⟩:=Ar.by Tryz.func263 AfN AfO Tryz.ntmps263 (by rw[Tryz.results263]) (by kernel_rfl)
theorem AfP:(match Tryz.f264.body with | some c=>BF c ZE | none=>none)=some ZE:=by kernel_rfl
theorem AfQ:(match Tryz.f264.body with | some c=>AU [0,1] c | none=>false)=true:=by kernel_rfl
theorem wW:Ar Tryz.prog [0,1] 264 ⟨10,ZE,[.tmp 3]⟩:=Ar.by Tryz.func264 AfP AfQ Tryz.ntmps264 (by rw[Tryz.results264]) (by kernel_rfl)
theorem AfR:(match Tryz.f265.body with | some c=>BF c ZF | none=>none)=some ZF:=by kernel_rfl
theorem AfS:(match Tryz.f265.body with | some c=>AU [0,1] c | none=>false)=true:=by kernel_rfl
theorem wZ:Ar Tryz.prog [0,1] 265 ⟨55,ZF,[]⟩:=Ar.by Tryz.func265 AfR AfS Tryz.ntmps265 (by rw[Tryz.results265]) (by kernel_rfl)
theorem AfT:(match Tryz.f266.body with | some c=>BF c ZG | none=>none)=some ZG:=by kernel_rfl
theorem AfU:(match Tryz.f266.body with | some c=>AU [0,1] c | none=>false)=true:=by kernel_rfl
theorem xA:Ar Tryz.prog [0,1] 266 ⟨14,ZG,[.tmp 7]⟩:=Ar.by Tryz.func266 AfT AfU Tryz.ntmps266 (by rw[Tryz.results266]) (by kernel_rfl)
theorem AfV:(match Tryz.f267.body with | some c=>BF c ZH | none=>none)=some ZH:=by kernel_rfl
theorem AfW:(match Tryz.f267.body with | some c=>AU [0,1] c | none=>false)=true:=by kernel_rfl
theorem xB:Ar Tryz.prog [0,1] 267 ⟨15,ZH,[.tmp 6]⟩:=Ar.by Tryz.func267 AfV AfW Tryz.ntmps267 (by rw[Tryz.results267]) (by kernel_rfl)
theorem AfX:(match Tryz.f268.body with | some c=>BF c ZI | none=>none)=some ZI:=by kernel_rfl
theorem AfY:(match Tryz.f268.body with | some c=>AU [0,1] c | none=>false)=true:=by kernel_rfl
theorem xC:Ar Tryz.prog [0,1] 268 ⟨29,ZI,[]⟩:=Ar.by Tryz.func268 AfX AfY Tryz.ntmps268 (by rw[Tryz.results268]) (by kernel_rfl)
theorem AfZ:(match Tryz.f269.body with | some c=>BF c ZJ | none=>none)=some ZJ:=by kernel_rfl
theorem Af0:(match Tryz.f269.body with | some c=>AU [0,1] c | none=>false)=true:=by kernel_rfl
theorem xD:Ar Tryz.prog [0,1] 269 ⟨13,ZJ,[.tmp 4]⟩:=Ar.by Tryz.func269 AfZ Af0 Tryz.ntmps269 (by rw[Tryz.results269]) (by kernel_rfl)
theorem Af1:(match Tryz.f270.body with | some c=>BF c ZK | none=>none)=some ZK:=by kernel_rfl
theorem Af2:(match Tryz.f270.body with | some c=>AU [0,1] c | none=>false)=true:=by kernel_rfl
theorem xE:Ar Tryz.prog [0,1] 270 ⟨24,ZK,[.tmp 4,.tmp 5]⟩:=Ar.by Tryz.func270 Af1 Af2 Tryz.ntmps270 (by rw[Tryz.results270]) (by kernel_rfl)
theorem Af3:(match Tryz.f271.body with | some c=>BF c ZL | none=>none)=some ZL:=by kernel_rfl
theorem Af4:(match Tryz.f271.body with | some c=>AU [0,1] c | none=>false)=true:=by kernel_rfl
theorem xG:Ar Tryz.prog [0,1] 271 ⟨27,ZL,[.tmp 4,.tmp 5]⟩:=Ar.by Tryz.func271 Af3 Af4 Tryz.ntmps271 (by rw[Tryz.results271]) (by kernel_rfl)
theorem Af5:(match Tryz.f272.body with | some c=>BF c ZM | none=>none)=some ZM:=by kernel_rfl
theorem Af6:(match Tryz.f272.body with | some c=>AU [0,1] c | none=>false)=true:=by kernel_rfl
theorem xH:Ar Tryz.prog [0,1] 272 ⟨24,ZM,[.tmp 4,.tmp 5]⟩:=Ar.by Tryz.func272 Af5 Af6 Tryz.ntmps272 (by rw[Tryz.results272]) (by kernel_rfl)
theorem Af7:(match Tryz.f273.body with | some c=>BF c ZN | none=>none)=some ZN:=by kernel_rfl
theorem Af8:(match Tryz.f273.body with | some c=>AU [0,1] c | none=>false)=true:=by kernel_rfl
theorem xI:Ar Tryz.prog [0,1] 273 ⟨63,ZN,[.tmp 6,.tmp 7]⟩:=Ar.by Tryz.func273 Af7 Af8 Tryz.ntmps273 (by rw[Tryz.results273]) (by kernel_rfl)
theorem Af9:(match Tryz.f274.body with | some c=>BF c ZO | none=>none)=some ZO:=by kernel_rfl
theorem Aga:(match Tryz.f274.body with | some c=>AU [0,1] c | none=>false)=true:=by kernel_rfl
theorem xJ:Ar Tryz.prog [0,1] 274 ⟨3,ZO,[.tmp 2]⟩:=Ar.by Tryz.func274 Af9 Aga Tryz.ntmps274 (by rw[Tryz.results274]) (by kernel_rfl)
theorem Agb:(match Tryz.f275.body with | some c=>BF c ZP | none=>none)=some ZP:=by kernel_rfl
theorem Agc:(match Tryz.f275.body with | some c=>AU [0,1] c | none=>false)=true:=by kernel_rfl
theorem xK:Ar Tryz.prog [0,1] 275 ⟨45,ZP,[]⟩:=Ar.by Tryz.func275 Agb Agc Tryz.ntmps275 (by rw[Tryz.results275]) (by kernel_rfl)
theorem Agd:(match Tryz.f276.body with | some c=>BF c ZQ | none=>none)=some ZQ:=by kernel_rfl
theorem Agf:(match Tryz.f276.body with | some c=>AU [0,1] c | none=>false)=true:=by kernel_rfl
theorem xL:Ar Tryz.prog [0,1] 276 ⟨15,ZQ,[.tmp 4,.tmp 5]⟩:=Ar.by Tryz.func276 Agd Agf Tryz.ntmps276 (by rw[Tryz.results276]) (by kernel_rfl)
theorem Agg:(match Tryz.f277.body with | some c=>BF c ZR | none=>none)=some ZR:=by kernel_rfl
theorem Agh:(match Tryz.f277.body with | some c=>AU [0,1] c | none=>false)=true:=by kernel_rfl
theorem xM:Ar Tryz.prog [0,1] 277 ⟨7,ZR,[.tmp 3]⟩:=Ar.by Tryz.func277 Agg Agh Tryz.ntmps277 (by rw[Tryz.results277]) (by kernel_rfl)
end Go.Proofs.YtflonlkiajhhjaaGreatDoor.TpD
set_option maxRecDepth 100000
namespace Go.Proofs.YtflonlkiajhhjaaGreatDoor.TpD
open Go Go.Sp Go.TpD
theorem Agi:Cu Tryz.prog 3 ti3:=Cu.by Tryz.underlying3 (inf:=Tryz.t3) (by kernel_rfl) (by kernel_rfl) (by kernel_rfl) (by kernel_rfl) (by kernel_rfl) (fun h=>by cases h)
theorem Agj:Cu Tryz.prog 4 ti4:=Cu.by Tryz.underlying4 (inf:=Tryz.t4) (by kernel_rfl) (by kernel_rfl) (by kernel_rfl) (by kernel_rfl) (by kernel_rfl) (fun h=>by cases h)
theorem Agk:Cu Tryz.prog 5 ti5:=Cu.by Tryz.underlying5 (inf:=Tryz.t5) (by kernel_rfl) (by kernel_rfl) (by kernel_rfl) (by kernel_rfl) (by kernel_rfl) (fun h=>by cases h)
theorem Agl:Cu Tryz.prog 9 ti9:=Cu.by Tryz.underlying9 (inf:=Tryz.t9) (by kernel_rfl) (by kernel_rfl) (by kernel_rfl) (by kernel_rfl) (by kernel_rfl) (fun h=>by cases h)
theorem Acg:Cu Tryz.prog 22 Abc:=Cu.by Tryz.underlying22 (inf:=Tryz.t22) (by kernel_rfl) (by kernel_rfl) (by kernel_rfl) (by kernel_rfl) (by kernel_rfl) (fun h=>by cases h)
theorem Ach:Cu Tryz.prog 23 Abd:=Cu.by Tryz.underlying23 (inf:=Tryz.t23) (by kernel_rfl) (by kernel_rfl) (by kernel_rfl) (by kernel_rfl) (by kernel_rfl) (fun h=>by cases h)
theorem Aci:Cu Tryz.prog 26 Abe:=Cu.by Tryz.underlying26 (inf:=Tryz.t26) (by kernel_rfl) (by kernel_rfl) (by kernel_rfl) (by kernel_rfl) (by kernel_rfl) (fun h=>by cases h)
theorem Acj:Cu Tryz.prog 27 Abf:=Cu.by Tryz.underlying27 (inf:=Tryz.t27) (by kernel_rfl) (by kernel_rfl) (by kernel_rfl) (by kernel_rfl) (by kernel_rfl) (fun h=>by cases h)
theorem Ack:Cu Tryz.prog 36 Abg:=Cu.by Tryz.underlying36 (inf:=Tryz.t36) (by kernel_rfl) (by kernel_rfl) (by kernel_rfl) (by kernel_rfl) (by kernel_rfl) (fun h=>by cases h)
theorem Acl:Cu Tryz.prog 38 Abh:=Cu.by Tryz.underlying38 (inf:=Tryz.t38) (by kernel_rfl) (by kernel_rfl) (by kernel_rfl) (by kernel_rfl) (by kernel_rfl) (fun h=>by cases h)
theorem Acm:Cu Tryz.prog 53 Abi:=Cu.by Tryz.underlying53 (inf:=Tryz.t53) (by kernel_rfl) (by kernel_rfl) (by kernel_rfl) (by kernel_rfl) (by kernel_rfl) (fun h=>by cases h)
theorem Acn:Cu Tryz.prog 54 Abj:=Cu.by Tryz.underlying54 (inf:=Tryz.t54) (by kernel_rfl) (by kernel_rfl) (by kernel_rfl) (by kernel_rfl) (by kernel_rfl) (fun h=>by cases h)
theorem Aco:Cu Tryz.prog 56 Abk:=Cu.by Tryz.underlying56 (inf:=Tryz.t56) (by kernel_rfl) (by kernel_rfl) (by kernel_rfl) (by kernel_rfl) (by kernel_rfl) (fun h=>by cases h)
theorem Acp:Cu Tryz.prog 58 Abl:=Cu.by Tryz.underlying58 (inf:=Tryz.t58) (by kernel_rfl) (by kernel_rfl) (by kernel_rfl) (by kernel_rfl) (by kernel_rfl) (fun _=>⟨_,rfl,Fl.ok (d:=8) (⟨by kernel_rfl,.inr (.inr (.inr (.inl ⟨2,3,[(.int .i64 0)],Tryz.underlying58,⟨by kernel_rfl,.inl ⟨⟨_,Tryz.underlying3⟩,_,_,rfl⟩⟩,by kernel_rfl⟩)))⟩) (by decide) ⟨_,Tryz.underlying58,rfl⟩ (by kernel_rfl)⟩)
theorem Acr:Cu Tryz.prog 71 Abm:=Cu.by Tryz.underlying71 (inf:=Tryz.t71) (by kernel_rfl) (by kernel_rfl) (by kernel_rfl) (by kernel_rfl) (by kernel_rfl) (fun h=>by cases h)
theorem Acs:Cu Tryz.prog 91 Abn:=Cu.by Tryz.underlying91 (inf:=Tryz.t91) (by kernel_rfl) (by kernel_rfl) (by kernel_rfl) (by kernel_rfl) (by kernel_rfl) (fun h=>by cases h)
theorem Acu:Cu Tryz.prog 92 Abo:=Cu.by Tryz.underlying92 (inf:=Tryz.t92) (by kernel_rfl) (by kernel_rfl) (by kernel_rfl) (by kernel_rfl) (by kernel_rfl) (fun h=>by cases h)
theorem Acv:Cu Tryz.prog 96 Abp:=Cu.by Tryz.underlying96 (inf:=Tryz.t96) (by kernel_rfl) (by kernel_rfl) (by kernel_rfl) (by kernel_rfl) (by kernel_rfl) (fun h=>by cases h)
theorem xN:Cu Tryz.prog 130 fO:=Cu.by Tryz.underlying130 (inf:=Tryz.t130) (by kernel_rfl) (by kernel_rfl) (by kernel_rfl) (by kernel_rfl) (by kernel_rfl) (fun h=>by cases h)
theorem xO:Cu Tryz.prog 133 fP:=Cu.by Tryz.underlying133 (inf:=Tryz.t133) (by kernel_rfl) (by kernel_rfl) (by kernel_rfl) (by kernel_rfl) (by kernel_rfl) (fun h=>by cases h)
theorem xP:Cu Tryz.prog 152 fQ:=Cu.by Tryz.underlying152 (inf:=Tryz.t152) (by kernel_rfl) (by kernel_rfl) (by kernel_rfl) (by kernel_rfl) (by kernel_rfl) (fun _=>⟨_,rfl,Fl.ok (d:=8) (⟨by kernel_rfl,.inr (.inr (.inr (.inl ⟨5,3,[(.int .i64 0)],Tryz.underlying152,⟨by kernel_rfl,.inl ⟨⟨_,Tryz.underlying3⟩,_,_,rfl⟩⟩,by kernel_rfl⟩)))⟩) (by decide) ⟨_,Tryz.underlying152,rfl⟩ (by kernel_rfl)⟩)
theorem xQ:Cu Tryz.prog 153 fT:=Cu.by Tryz.underlying153 (inf:=Tryz.t153) (by kernel_rfl) (by kernel_rfl) (by kernel_rfl) (by kernel_rfl) (by kernel_rfl) (fun h=>by cases h)
theorem xR:Cu Tryz.prog 154 fU:=Cu.by Tryz.underlying154 (inf:=Tryz.t154) (by kernel_rfl) (by kernel_rfl) (by kernel_rfl) (by kernel_rfl) (by kernel_rfl) (fun h=>by cases h)
theorem xS:Cu Tryz.prog 156 fV:=Cu.by Tryz.underlying156 (inf:=Tryz.t156) (by kernel_rfl) (by kernel_rfl) (by kernel_rfl) (by kernel_rfl) (by kernel_rfl) (fun h=>by cases h)
theorem xU:Cu Tryz.prog 170 fZ:=Cu.by Tryz.underlying170 (inf:=Tryz.t170) (by kernel_rfl) (by kernel_rfl) (by kernel_rfl) (by kernel_rfl) (by kernel_rfl) (fun h=>by cases h)
theorem xV:Cu Tryz.prog 171 gD:=Cu.by Tryz.underlying171 (inf:=Tryz.t171) (by kernel_rfl) (by kernel_rfl) (by kernel_rfl) (by kernel_rfl) (by kernel_rfl) (fun _=>⟨_,rfl,Fl.ok (d:=8) (⟨by kernel_rfl,.inr (.inr (.inr (.inl ⟨2,170,[(.int .u64 0)],Tryz.underlying171,⟨by kernel_rfl,.inl ⟨⟨_,Tryz.underlying170⟩,_,_,rfl⟩⟩,by kernel_rfl⟩)))⟩) (by decide) ⟨_,Tryz.underlying171,rfl⟩ (by kernel_rfl)⟩)
theorem xW:Cu Tryz.prog 173 gF:=Cu.by Tryz.underlying173 (inf:=Tryz.t173) (by kernel_rfl) (by kernel_rfl) (by kernel_rfl) (by kernel_rfl) (by kernel_rfl) (fun _=>⟨_,rfl,Fl.ok (d:=8) (⟨by kernel_rfl,.inr (.inr (.inr (.inl ⟨7,171,[(.int .u64 0),(.int .u64 0)],Tryz.underlying173,⟨by kernel_rfl,.inr (.inr (.inr (.inl ⟨2,170,[(.int .u64 0)],Tryz.underlying171,⟨by kernel_rfl,.inl ⟨⟨_,Tryz.underlying170⟩,_,_,rfl⟩⟩,by kernel_rfl⟩)))⟩,by kernel_rfl⟩)))⟩) (by decide) ⟨_,Tryz.underlying173,rfl⟩ (by kernel_rfl)⟩)
theorem xX:Cu Tryz.prog 181 gG:=Cu.by Tryz.underlying181 (inf:=Tryz.t181) (by kernel_rfl) (by kernel_rfl) (by kernel_rfl) (by kernel_rfl) (by kernel_rfl) (fun _=>⟨_,rfl,Fl.ok (d:=8) (⟨by kernel_rfl,.inr (.inr (.inr (.inl ⟨32,5,[(.int .u8 0)],Tryz.underlying181,⟨by kernel_rfl,.inl ⟨⟨_,Tryz.underlying5⟩,_,_,rfl⟩⟩,by kernel_rfl⟩)))⟩) (by decide) ⟨_,Tryz.underlying181,rfl⟩ (by kernel_rfl)⟩)
theorem xY:Cu Tryz.prog 199 gH:=Cu.by Tryz.underlying199 (inf:=Tryz.t199) (by kernel_rfl) (by kernel_rfl) (by kernel_rfl) (by kernel_rfl) (by kernel_rfl) (fun h=>by cases h)
theorem xZ:Cu Tryz.prog 201 gI:=Cu.by Tryz.underlying201 (inf:=Tryz.t201) (by kernel_rfl) (by kernel_rfl) (by kernel_rfl) (by kernel_rfl) (by kernel_rfl) (fun h=>by cases h)
theorem yA:Cu Tryz.prog 204 gK:=Cu.by Tryz.underlying204 (inf:=Tryz.t204) (by kernel_rfl) (by kernel_rfl) (by kernel_rfl) (by kernel_rfl) (by kernel_rfl) (fun _=>⟨_,rfl,Fl.ok (d:=8) (⟨by kernel_rfl,.inr (.inr (.inr (.inl ⟨22,3,[(.int .i64 0)],Tryz.underlying204,⟨by kernel_rfl,.inl ⟨⟨_,Tryz.underlying3⟩,_,_,rfl⟩⟩,by kernel_rfl⟩)))⟩) (by decide) ⟨_,Tryz.underlying204,rfl⟩ (by kernel_rfl)⟩)
theorem yB:Cu Tryz.prog 208 gL:=Cu.by Tryz.underlying208 (inf:=Tryz.t208) (by kernel_rfl) (by kernel_rfl) (by kernel_rfl) (by kernel_rfl) (by kernel_rfl) (fun _=>⟨_,rfl,Fl.ok (d:=8) (⟨by kernel_rfl,.inr (.inr (.inr (.inr ⟨_,Tryz.underlying208,by kernel_rfl,⟨by decide,rfl,[(.int .i64 0)],[(.bool false)],rfl,⟨by kernel_rfl,.inl ⟨⟨_,Tryz.underlying3⟩,_,_,rfl⟩⟩,⟨by decide,rfl,[(.bool false)],[],rfl,⟨by kernel_rfl,.inr (.inl ⟨Tryz.underlying4,_,rfl⟩)⟩,rfl⟩⟩⟩)))⟩) (by decide) ⟨_,Tryz.underlying208,rfl⟩ (by kernel_rfl)⟩)
theorem yC:Cu Tryz.prog 243 gM:=Cu.by Tryz.underlying243 (inf:=Tryz.t243) (by kernel_rfl) (by kernel_rfl) (by kernel_rfl) (by kernel_rfl) (by kernel_rfl) (fun _=>⟨_,rfl,Fl.ok (d:=8) (⟨by kernel_rfl,.inr (.inr (.inr (.inr ⟨_,Tryz.underlying243,by kernel_rfl,⟨by decide,rfl,[(.int .i64 0)],[(.int .i64 0),(.int .i64 0),(.int .i64 0)],rfl,⟨by kernel_rfl,.inl ⟨⟨_,Tryz.underlying3⟩,_,_,rfl⟩⟩,⟨by decide,rfl,[(.int .i64 0)],[(.int .i64 0),(.int .i64 0)],rfl,⟨by kernel_rfl,.inl ⟨⟨_,Tryz.underlying3⟩,_,_,rfl⟩⟩,⟨by decide,rfl,[(.int .i64 0)],[(.int .i64 0)],rfl,⟨by kernel_rfl,.inl ⟨⟨_,Tryz.underlying3⟩,_,_,rfl⟩⟩,⟨by decide,rfl,[(.int .i64 0)],[],rfl,⟨by kernel_rfl,.inl ⟨⟨_,Tryz.underlying3⟩,_,_,rfl⟩⟩,rfl⟩⟩⟩⟩⟩)))⟩) (by decide) ⟨_,Tryz.underlying243,rfl⟩ (by kernel_rfl)⟩)
theorem yD:Cu Tryz.prog 246 gP:=Cu.by Tryz.underlying246 (inf:=Tryz.t246) (by kernel_rfl) (by kernel_rfl) (by kernel_rfl) (by kernel_rfl) (by kernel_rfl) (fun _=>⟨_,rfl,Fl.ok (d:=8) (⟨by kernel_rfl,.inr (.inr (.inr (.inr ⟨_,Tryz.underlying246,by kernel_rfl,⟨by decide,rfl,[(.int .i64 0)],[(.int .i64 0),(.int .i64 0),(.int .i64 0)],rfl,⟨by kernel_rfl,.inl ⟨⟨_,Tryz.underlying3⟩,_,_,rfl⟩⟩,⟨by decide,rfl,[(.int .i64 0)],[(.int .i64 0),(.int .i64 0)],rfl,⟨by kernel_rfl,.inl ⟨⟨_,Tryz.underlying3⟩,_,_,rfl⟩⟩,⟨by decide,rfl,[(.int .i64 0)],[(.int .i64 0)],rfl,⟨by kernel_rfl,.inl ⟨⟨_,Tryz.underlying3⟩,_,_,rfl⟩⟩,⟨by decide,rfl,[(.int .i64 0)],[],rfl,⟨by kernel_rfl,.inl ⟨⟨_,Tryz.underlying3⟩,_,_,rfl⟩⟩,rfl⟩⟩⟩⟩⟩)))⟩) (by decide) ⟨_,Tryz.underlying246,rfl⟩ (by kernel_rfl)⟩)
theorem yE:Cu Tryz.prog 247 gQ:=Cu.by Tryz.underlying247 (inf:=Tryz.t247) (by kernel_rfl) (by kernel_rfl) (by kernel_rfl) (by kernel_rfl) (by kernel_rfl) (fun h=>by cases h)
theorem yF:Cu Tryz.prog 249 gT:=Cu.by Tryz.underlying249 (inf:=Tryz.t249) (by kernel_rfl) (by kernel_rfl) (by kernel_rfl) (by kernel_rfl) (by kernel_rfl) (fun h=>by cases h)
theorem yG:Cu Tryz.prog 267 gU:=Cu.by Tryz.underlying267 (inf:=Tryz.t267) (by kernel_rfl) (by kernel_rfl) (by kernel_rfl) (by kernel_rfl) (by kernel_rfl) (fun _=>⟨_,rfl,Fl.ok (d:=8) (⟨by kernel_rfl,.inr (.inr (.inr (.inl ⟨64,5,[(.int .u8 0)],Tryz.underlying267,⟨by kernel_rfl,.inl ⟨⟨_,Tryz.underlying5⟩,_,_,rfl⟩⟩,by kernel_rfl⟩)))⟩) (by decide) ⟨_,Tryz.underlying267,rfl⟩ (by kernel_rfl)⟩)
theorem yH:Cu Tryz.prog 270 gV:=Cu.by Tryz.underlying270 (inf:=Tryz.t270) (by kernel_rfl) (by kernel_rfl) (by kernel_rfl) (by kernel_rfl) (by kernel_rfl) (fun _=>⟨_,rfl,Fl.ok (d:=8) (⟨by kernel_rfl,.inr (.inr (.inr (.inl ⟨17,3,[(.int .i64 0)],Tryz.underlying270,⟨by kernel_rfl,.inl ⟨⟨_,Tryz.underlying3⟩,_,_,rfl⟩⟩,by kernel_rfl⟩)))⟩) (by decide) ⟨_,Tryz.underlying270,rfl⟩ (by kernel_rfl)⟩)
theorem yI:Cu Tryz.prog 273 gW:=Cu.by Tryz.underlying273 (inf:=Tryz.t273) (by kernel_rfl) (by kernel_rfl) (by kernel_rfl) (by kernel_rfl) (by kernel_rfl) (fun h=>by cases h)
theorem yJ:Cu Tryz.prog 274 gX:=Cu.by Tryz.underlying274 (inf:=Tryz.t274) (by kernel_rfl) (by kernel_rfl) (by kernel_rfl) (by kernel_rfl) (by kernel_rfl) (fun _=>⟨_,rfl,Fl.ok (d:=8) (⟨by kernel_rfl,.inr (.inr (.inr (.inl ⟨2,273,[(.int .u64 0)],Tryz.underlying274,⟨by kernel_rfl,.inl ⟨⟨_,Tryz.underlying273⟩,_,_,rfl⟩⟩,by kernel_rfl⟩)))⟩) (by decide) ⟨_,Tryz.underlying274,rfl⟩ (by kernel_rfl)⟩)
theorem yK:Cu Tryz.prog 276 gY:=Cu.by Tryz.underlying276 (inf:=Tryz.t276) (by kernel_rfl) (by kernel_rfl) (by kernel_rfl) (by kernel_rfl) (by kernel_rfl) (fun _=>⟨_,rfl,Fl.ok (d:=8) (⟨by kernel_rfl,.inr (.inr (.inr (.inr ⟨_,Tryz.underlying276,by kernel_rfl,⟨by decide,rfl,[(.int .i64 0),(.int .i64 0),(.int .i64 0),(.int .i64 0)],[(.int .u64 0),(.int .u64 0),(.int .u64 0)],rfl,⟨by kernel_rfl,.inr (.inr (.inr (.inr ⟨_,Tryz.underlying243,by kernel_rfl,⟨by decide,rfl,[(.int .i64 0)],[(.int .i64 0),(.int .i64 0),(.int .i64 0)],rfl,⟨by kernel_rfl,.inl ⟨⟨_,Tryz.underlying3⟩,_,_,rfl⟩⟩,⟨by decide,rfl,[(.int .i64 0)],[(.int .i64 0),(.int .i64 0)],rfl,⟨by kernel_rfl,.inl ⟨⟨_,Tryz.underlying3⟩,_,_,rfl⟩⟩,⟨by decide,rfl,[(.int .i64 0)],[(.int .i64 0)],rfl,⟨by kernel_rfl,.inl ⟨⟨_,Tryz.underlying3⟩,_,_,rfl⟩⟩,⟨by decide,rfl,[(.int .i64 0)],[],rfl,⟨by kernel_rfl,.inl ⟨⟨_,Tryz.underlying3⟩,_,_,rfl⟩⟩,rfl⟩⟩⟩⟩⟩)))⟩,⟨by decide,rfl,[(.int .u64 0),(.int .u64 0)],[(.int .u64 0)],rfl,⟨by kernel_rfl,.inr (.inr (.inr (.inl ⟨2,273,[(.int .u64 0)],Tryz.underlying274,⟨by kernel_rfl,.inl ⟨⟨_,Tryz.underlying273⟩,_,_,rfl⟩⟩,by kernel_rfl⟩)))⟩,⟨by decide,rfl,[(.int .u64 0)],[],rfl,⟨by kernel_rfl,.inl ⟨⟨_,Tryz.underlying273⟩,_,_,rfl⟩⟩,rfl⟩⟩⟩⟩)))⟩) (by decide) ⟨_,Tryz.underlying276,rfl⟩ (by kernel_rfl)⟩)
theorem yL:Cu Tryz.prog 279 gZ:=Cu.by Tryz.underlying279 (inf:=Tryz.t279) (by kernel_rfl) (by kernel_rfl) (by kernel_rfl) (by kernel_rfl) (by kernel_rfl) (fun h=>by cases h)
theorem yM:Cu Tryz.prog 284 iB:=Cu.by Tryz.underlying284 (inf:=Tryz.t284) (by kernel_rfl) (by kernel_rfl) (by kernel_rfl) (by kernel_rfl) (by kernel_rfl) (fun h=>by cases h)
theorem yN:Cu Tryz.prog 305 iC:=Cu.by Tryz.underlying305 (inf:=Tryz.t305) (by kernel_rfl) (by kernel_rfl) (by kernel_rfl) (by kernel_rfl) (by kernel_rfl) (fun h=>by cases h)
theorem yO:Cu Tryz.prog 307 iD:=Cu.by Tryz.underlying307 (inf:=Tryz.t307) (by kernel_rfl) (by kernel_rfl) (by kernel_rfl) (by kernel_rfl) (by kernel_rfl) (fun h=>by cases h)
theorem yP:Cu Tryz.prog 309 iE:=Cu.by Tryz.underlying309 (inf:=Tryz.t309) (by kernel_rfl) (by kernel_rfl) (by kernel_rfl) (by kernel_rfl) (by kernel_rfl) (fun h=>by cases h)
theorem yQ:Cu Tryz.prog 323 iF:=Cu.by Tryz.underlying323 (inf:=Tryz.t323) (by kernel_rfl) (by kernel_rfl) (by kernel_rfl) (by kernel_rfl) (by kernel_rfl) (fun _=>⟨_,rfl,Fl.ok (d:=8) (⟨by kernel_rfl,.inr (.inr (.inr (.inr ⟨_,Tryz.underlying323,by kernel_rfl,⟨by decide,rfl,[(.int .i64 0)],[(.int .i64 0),(.bool false)],rfl,⟨by kernel_rfl,.inl ⟨⟨_,Tryz.underlying3⟩,_,_,rfl⟩⟩,⟨by decide,rfl,[(.int .i64 0)],[(.bool false)],rfl,⟨by kernel_rfl,.inl ⟨⟨_,Tryz.underlying3⟩,_,_,rfl⟩⟩,⟨by decide,rfl,[(.bool false)],[],rfl,⟨by kernel_rfl,.inr (.inl ⟨Tryz.underlying4,_,rfl⟩)⟩,rfl⟩⟩⟩⟩)))⟩) (by decide) ⟨_,Tryz.underlying323,rfl⟩ (by kernel_rfl)⟩)
theorem yR:Cu Tryz.prog 324 iG:=Cu.by Tryz.underlying324 (inf:=Tryz.t324) (by kernel_rfl) (by kernel_rfl) (by kernel_rfl) (by kernel_rfl) (by kernel_rfl) (fun h=>by cases h)
theorem yS:Cu Tryz.prog 326 iH:=Cu.by Tryz.underlying326 (inf:=Tryz.t326) (by kernel_rfl) (by kernel_rfl) (by kernel_rfl) (by kernel_rfl) (by kernel_rfl) (fun _=>⟨_,rfl,Fl.ok (d:=8) (⟨by kernel_rfl,.inr (.inr (.inr (.inr ⟨_,Tryz.underlying326,by kernel_rfl,⟨by decide,rfl,[(.int .i64 0)],[(.int .i64 0),(.bool false)],rfl,⟨by kernel_rfl,.inl ⟨⟨_,Tryz.underlying3⟩,_,_,rfl⟩⟩,⟨by decide,rfl,[(.int .i64 0)],[(.bool false)],rfl,⟨by kernel_rfl,.inl ⟨⟨_,Tryz.underlying3⟩,_,_,rfl⟩⟩,⟨by decide,rfl,[(.bool false)],[],rfl,⟨by kernel_rfl,.inr (.inl ⟨Tryz.underlying4,_,rfl⟩)⟩,rfl⟩⟩⟩⟩)))⟩) (by decide) ⟨_,Tryz.underlying326,rfl⟩ (by kernel_rfl)⟩)
theorem yT:Cu Tryz.prog 327 iI:=Cu.by Tryz.underlying327 (inf:=Tryz.t327) (by kernel_rfl) (by kernel_rfl) (by kernel_rfl) (by kernel_rfl) (by kernel_rfl) (fun h=>by cases h)
theorem yU:Cu Tryz.prog 333 iJ:=Cu.by Tryz.underlying333 (inf:=Tryz.t333) (by kernel_rfl) (by kernel_rfl) (by kernel_rfl) (by kernel_rfl) (by kernel_rfl) (fun h=>by cases h)
theorem DL:Jm Tryz.prog tt:=Jm.of_all (t:=Abq) ⟨trivial,⟨trivial,⟨Agi,⟨trivial,trivial,⟨Ach,⟨trivial,⟨Acr,trivial,⟨xY,⟨yT,trivial,trivial⟩,trivial⟩⟩,trivial⟩,⟨trivial,⟨trivial,⟨trivial,⟨yL,trivial,trivial⟩,trivial⟩,trivial⟩,⟨trivial,trivial,⟨yE,trivial,trivial⟩⟩⟩⟩⟩,⟨trivial,⟨trivial,⟨trivial,⟨trivial,trivial,⟨trivial,⟨yQ,trivial,trivial⟩,trivial⟩⟩,trivial⟩,⟨trivial,trivial,⟨trivial,⟨trivial,⟨yO,trivial,trivial⟩,trivial⟩,⟨yC,trivial,trivial⟩⟩⟩⟩,⟨Acj,⟨trivial,⟨trivial,⟨trivial,⟨yG,trivial,trivial⟩,trivial⟩,trivial⟩,⟨trivial,⟨xV,trivial,trivial⟩,trivial⟩⟩,⟨trivial,⟨Acs,trivial,trivial⟩,trivial⟩⟩⟩⟩,⟨Agk,⟨Agl,⟨trivial,trivial,⟨trivial,⟨trivial,⟨trivial,⟨yI,trivial,trivial⟩,trivial⟩,trivial⟩,⟨trivial,⟨trivial,⟨yN,trivial,trivial⟩,trivial⟩,trivial⟩⟩⟩,⟨trivial,⟨trivial,⟨trivial,trivial,⟨xZ,trivial,trivial⟩⟩,trivial⟩,⟨trivial,⟨trivial,⟨xQ,trivial,trivial⟩,trivial⟩,⟨trivial,trivial,⟨yF,trivial,trivial⟩⟩⟩⟩⟩,⟨trivial,⟨trivial,⟨trivial,⟨trivial,⟨xO,trivial,trivial⟩,trivial⟩,trivial⟩,⟨Acm,trivial,⟨trivial,⟨xX,⟨yP,trivial,trivial⟩,trivial⟩,trivial⟩⟩⟩,⟨trivial,⟨trivial,⟨trivial,trivial,⟨trivial,⟨yU,trivial,trivial⟩,trivial⟩⟩,⟨trivial,⟨xW,trivial,trivial⟩,trivial⟩⟩,trivial⟩⟩⟩⟩,⟨trivial,⟨Agj,⟨trivial,⟨trivial,⟨trivial,trivial,⟨Acv,trivial,trivial⟩⟩,⟨trivial,⟨trivial,trivial,⟨yB,trivial,trivial⟩⟩,trivial⟩⟩,⟨trivial,trivial,⟨Aco,⟨trivial,⟨xP,trivial,trivial⟩,trivial⟩,trivial⟩⟩⟩,⟨trivial,⟨trivial,⟨Ack,⟨trivial,trivial,⟨trivial,⟨yR,trivial,trivial⟩,trivial⟩⟩,trivial⟩,⟨trivial,⟨trivial,⟨trivial,⟨yK,trivial,trivial⟩,trivial⟩,trivial⟩,trivial⟩⟩,⟨trivial,⟨trivial,⟨trivial,trivial,⟨yA,trivial,trivial⟩⟩,trivial⟩,⟨trivial,⟨Acu,⟨xS,⟨yM,trivial,trivial⟩,trivial⟩,trivial⟩,trivial⟩⟩⟩⟩,⟨trivial,⟨trivial,⟨trivial,⟨trivial,⟨trivial,⟨xN,trivial,trivial⟩,trivial⟩,trivial⟩,⟨trivial,⟨trivial,⟨trivial,⟨yJ,trivial,trivial⟩,trivial⟩,trivial⟩,trivial⟩⟩,⟨Aci,⟨trivial,trivial,⟨trivial,⟨xU,trivial,trivial⟩,trivial⟩⟩,⟨Acp,⟨trivial,⟨xR,trivial,trivial⟩,trivial⟩,trivial⟩⟩⟩,⟨trivial,⟨Acg,⟨Acl,⟨trivial,trivial,⟨trivial,⟨yS,trivial,trivial⟩,trivial⟩⟩,trivial⟩,⟨Acn,trivial,⟨trivial,trivial,⟨yD,trivial,trivial⟩⟩⟩⟩,⟨trivial,⟨trivial,⟨trivial,⟨trivial,⟨yH,trivial,trivial⟩,trivial⟩,trivial⟩,trivial⟩,trivial⟩⟩⟩⟩⟩
theorem Acw:Abr.All (Ar Tryz.prog [0,1]):=⟨trivial,⟨trivial,⟨AbQ,⟨trivial,⟨AbR,⟨trivial,⟨trivial,⟨vB,⟨wS,trivial,trivial⟩,trivial⟩,trivial⟩,⟨trivial,⟨vG,trivial,trivial⟩,trivial⟩⟩,⟨jA,⟨trivial,⟨trivial,⟨xG,trivial,trivial⟩,trivial⟩,trivial⟩,⟨UV,trivial,trivial⟩⟩⟩,⟨trivial,⟨trivial,⟨Ab9,⟨trivial,⟨wV,trivial,trivial⟩,trivial⟩,⟨vT,trivial,trivial⟩⟩,⟨trivial,⟨vM,trivial,trivial⟩,⟨VM,trivial,trivial⟩⟩⟩,⟨trivial,trivial,⟨trivial,trivial,⟨wM,trivial,trivial⟩⟩⟩⟩⟩,⟨iV,⟨trivial,⟨trivial,⟨Ab8,trivial,trivial⟩,⟨trivial,⟨UY,trivial,trivial⟩,⟨wC,trivial,trivial⟩⟩⟩,⟨jE,⟨trivial,⟨trivial,⟨xK,trivial,trivial⟩,trivial⟩,trivial⟩,⟨trivial,⟨vP,trivial,trivial⟩,trivial⟩⟩⟩,⟨trivial,⟨trivial,⟨trivial,⟨trivial,⟨xB,trivial,trivial⟩,trivial⟩,⟨vW,trivial,trivial⟩⟩,⟨UQ,trivial,trivial⟩⟩,⟨trivial,trivial,⟨uZ,trivial,⟨wQ,trivial,trivial⟩⟩⟩⟩⟩⟩,⟨trivial,⟨trivial,⟨trivial,⟨trivial,⟨trivial,⟨vD,⟨wU,trivial,trivial⟩,trivial⟩,trivial⟩,⟨trivial,⟨vI,trivial,trivial⟩,⟨vZ,trivial,trivial⟩⟩⟩,⟨jD,⟨trivial,⟨trivial,⟨xI,trivial,trivial⟩,trivial⟩,trivial⟩,⟨trivial,⟨vN,trivial,trivial⟩,trivial⟩⟩⟩,⟨trivial,⟨trivial,⟨Acb,⟨trivial,⟨wZ,trivial,trivial⟩,trivial⟩,⟨VL,trivial,trivial⟩⟩,⟨UN,trivial,trivial⟩⟩,⟨trivial,⟨trivial,trivial,⟨vX,trivial,trivial⟩⟩,⟨trivial,trivial,⟨wO,trivial,trivial⟩⟩⟩⟩⟩,⟨iX,⟨trivial,⟨trivial,⟨trivial,trivial,⟨U0,trivial,trivial⟩⟩,⟨trivial,⟨UZ,trivial,trivial⟩,trivial⟩⟩,⟨trivial,⟨trivial,⟨trivial,⟨xM,trivial,trivial⟩,trivial⟩,trivial⟩,⟨trivial,trivial,⟨wK,trivial,trivial⟩⟩⟩⟩,⟨trivial,⟨iY,⟨Acd,⟨trivial,⟨xD,trivial,trivial⟩,trivial⟩,trivial⟩,⟨UU,trivial,trivial⟩⟩,⟨trivial,⟨trivial,⟨UW,trivial,trivial⟩,trivial⟩,⟨trivial,trivial,⟨wR,trivial,trivial⟩⟩⟩⟩⟩⟩⟩,⟨trivial,⟨trivial,⟨trivial,⟨trivial,⟨trivial,⟨trivial,⟨vC,⟨wT,trivial,trivial⟩,trivial⟩,trivial⟩,⟨Acf,⟨vH,trivial,trivial⟩,trivial⟩⟩,⟨jC,⟨jJ,⟨trivial,⟨xH,trivial,trivial⟩,trivial⟩,trivial⟩,⟨uY,trivial,trivial⟩⟩⟩,⟨trivial,⟨trivial,⟨Aca,⟨trivial,⟨wW,trivial,trivial⟩,trivial⟩,⟨vU,trivial,trivial⟩⟩,⟨UM,trivial,trivial⟩⟩,⟨trivial,trivial,⟨trivial,trivial,⟨wN,trivial,trivial⟩⟩⟩⟩⟩,⟨iW,⟨trivial,⟨trivial,trivial,⟨uW,⟨vK,trivial,trivial⟩,trivial⟩⟩,⟨trivial,⟨Ace,⟨trivial,⟨xL,trivial,trivial⟩,trivial⟩,trivial⟩,⟨trivial,trivial,⟨wJ,trivial,trivial⟩⟩⟩⟩,⟨trivial,⟨trivial,⟨Acc,⟨trivial,⟨xC,trivial,trivial⟩,trivial⟩,trivial⟩,⟨UT,trivial,trivial⟩⟩,⟨trivial,trivial,⟨trivial,trivial,⟨VU,trivial,trivial⟩⟩⟩⟩⟩⟩,⟨trivial,⟨iU,⟨trivial,⟨trivial,⟨Ab4,trivial,trivial⟩,⟨trivial,⟨vJ,trivial,trivial⟩,⟨wB,trivial,trivial⟩⟩⟩,⟨Ab0,⟨trivial,⟨vF,⟨xJ,trivial,trivial⟩,trivial⟩,trivial⟩,⟨trivial,⟨vO,trivial,trivial⟩,trivial⟩⟩⟩,⟨trivial,⟨trivial,⟨trivial,⟨vE,⟨xA,trivial,trivial⟩,trivial⟩,⟨vV,trivial,trivial⟩⟩,⟨UO,trivial,trivial⟩⟩,⟨trivial,⟨jK,trivial,trivial⟩,⟨trivial,⟨vQ,trivial,trivial⟩,⟨wP,trivial,trivial⟩⟩⟩⟩⟩,⟨UL,⟨AbS,⟨trivial,⟨trivial,trivial,⟨vS,trivial,trivial⟩⟩,⟨trivial,⟨vL,trivial,trivial⟩,⟨wI,trivial,trivial⟩⟩⟩,⟨trivial,trivial,⟨trivial,trivial,⟨wL,trivial,trivial⟩⟩⟩⟩,⟨trivial,⟨iZ,⟨trivial,⟨trivial,⟨xE,trivial,trivial⟩,trivial⟩,trivial⟩,⟨uX,trivial,trivial⟩⟩,⟨trivial,⟨trivial,⟨UX,trivial,trivial⟩,⟨vY,trivial,trivial⟩⟩,⟨trivial,⟨vR,trivial,trivial⟩,trivial⟩⟩⟩⟩⟩⟩⟩
theorem Jd (f:FuncId) (r:Xq) (h:Gt f=some r):Ar Tryz.prog [0,1] f r:=Acw.get h
end Go.Proofs.YtflonlkiajhhjaaGreatDoor.TpD
set_option maxRecDepth 100000
namespace Go.Proofs.YtflonlkiajhhjaaGreatDoor.TpD
open Go Go.Sp Go.TpDM Go.TpD
noncomputable section
theorem fk3:Ar Tryz.prog (List.range tabs.length) 3 ⟨85,Qw,[.tmp 4]⟩:=by
 have h:c3=Qw:=by kernel_rfl
 rw[←h];exact AbQ
theorem Acx:Ar Tryz.prog (List.range tabs.length) 10 ⟨54,Nf,[.tmp 4]⟩:=by
 have h:c10=Nf:=by kernel_rfl
 rw[←h];exact iU
theorem Acy:Ar Tryz.prog (List.range tabs.length) 11 ⟨143,Ng,[.tmp 2,.tmp 3]⟩:=by
 have h:c11=Ng:=by kernel_rfl
 rw[←h];exact iV
theorem Acz:Ar Tryz.prog (List.range tabs.length) 13 ⟨12,Nh,[.tmp 2,.tmp 3]⟩:=by
 have h:c13=Nh:=by kernel_rfl
 rw[←h];exact iX
theorem AcA:Ar Tryz.prog (List.range tabs.length) 45 ⟨13,Ni,[.tmp 2]⟩:=by
 have h:c45=Ni:=by kernel_rfl
 rw[←h];exact iY
theorem AcB:Ar Tryz.prog (List.range tabs.length) 47 ⟨73,Oi,[.tmp 2]⟩:=by
 have h:c47=Oi:=by kernel_rfl
 rw[←h];exact jA
theorem AcC:Ar Tryz.prog (List.range tabs.length) 48 ⟨49,Ov,[.tmp 2]⟩:=by
 have h:c48=Ov:=by kernel_rfl
 rw[←h];exact jC
theorem AcD:Ar Tryz.prog (List.range tabs.length) 49 ⟨13,Qz,[.tmp 2]⟩:=by
 have h:c49=Qz:=by kernel_rfl
 rw[←h];exact jD
theorem AcE:Ar Tryz.prog (List.range tabs.length) 80 ⟨15,QA,[.tmp 6]⟩:=by
 have h:c80=QA:=by kernel_rfl
 rw[←h];exact jJ
theorem AcF:Ar Tryz.prog (List.range tabs.length) 90 ⟨15,QB,[.tmp 2]⟩:=by
 have h:c90=QB:=by kernel_rfl
 rw[←h];exact jK
theorem jL:Ar Tryz.prog (List.range tabs.length) 104 ⟨30,Jw,[.tmp 2]⟩:=by
 have h:Ua=Jw:=by kernel_rfl
 rw[←h];exact UM
theorem kQ:Ar Tryz.prog (List.range tabs.length) 105 ⟨15,Ow,[.tmp 6]⟩:=by
 have h:Ub=Ow:=by kernel_rfl
 rw[←h];exact UN
theorem kR:Ar Tryz.prog (List.range tabs.length) 106 ⟨27,JN,[.tmp 2]⟩:=by
 have h:Ud=JN:=by kernel_rfl
 rw[←h];exact UO
theorem kS:Ar Tryz.prog (List.range tabs.length) 107 ⟨11,Oy,[.tmp 2]⟩:=by
 have h:Ue=Oy:=by kernel_rfl
 rw[←h];exact UQ
theorem kT:Ar Tryz.prog (List.range tabs.length) 157 ⟨16,JO,[.tmp 2]⟩:=by
 have h:Uh=JO:=by kernel_rfl
 rw[←h];exact UW
theorem kU:Ar Tryz.prog (List.range tabs.length) 158 ⟨38,JP,[.tmp 4]⟩:=by
 have h:Ui=JP:=by kernel_rfl
 rw[←h];exact UX
theorem kV:Ar Tryz.prog (List.range tabs.length) 197 ⟨10,Oz,[.tmp 4]⟩:=by
 have h:Uj=Oz:=by kernel_rfl
 rw[←h];exact U0
theorem AcG:Ar Tryz.prog (List.range tabs.length) 12 ⟨44,KS,[.tmp 2,.tmp 3]⟩:=by
 have h:c12=KS:=by kernel_rfl
 rw[←h];exact iW
theorem AcH:Ar Tryz.prog (List.range tabs.length) 46 ⟨25,KT,[.tmp 2]⟩:=by
 have h:c46=KT:=by kernel_rfl
 rw[←h];exact iZ
theorem kW:Ar Tryz.prog (List.range tabs.length) 108 ⟨8,KU,[.tmp 2]⟩:=by
 have h:Uf=KU:=by kernel_rfl
 rw[←h];exact UT
theorem kX:Ar Tryz.prog (List.range tabs.length) 109 ⟨52,HY,[.tmp 4]⟩:=by
 have h:Ug=HY:=by kernel_rfl
 rw[←h];exact UU
theorem kY:Ar Tryz.prog (List.range tabs.length) 252 ⟨32,Iq,[]⟩:=by
 have h:Uk=Iq:=by kernel_rfl
 rw[←h];exact VU
theorem Cs:∀ t∈tabs,t≠[]:=by intro t ht;simp[tabs] at ht;rcases ht with rfl | rfl <;> (intro h;cases h)
theorem VZ:tabs.all (fun t=>t.all BR)=true:=by kernel_rfl
theorem CY:∀ t∈tabs,∀ x∈t,BR x=true:=fun t ht x hx=>List.all_eq_true.1 (List.all_eq_true.1 VZ t ht) x hx
theorem Qp (hm:Tryz.prog.follows .mixedOrders=true) {pu:Af} (h0:BA Tryz.prog tabs 204 (pu 204)) (h1:Cn Tryz.prog tabs 1 0 12 (pu 10120)) (h2:Cn Tryz.prog tabs 1 1 46 (pu 10460)) (h3:Cn Tryz.prog tabs 1 0 108 (pu 11080)) (h4:Cn Tryz.prog tabs 2 2 109 (pu 11090)) (h5:Cn Tryz.prog tabs 2 4 252 (pu 12520)):CO Tryz.prog (List.range tabs.length) (inl pu):=fun g args H v H' h=>by
 replace h:bb (Nat.beq g 204) (Hr tabs 1 (pu 204) args H) (bb (Nat.beq g 12) (Gs tabs [[none,some 1,some 1]] 1 [] [] (pu 10120) args H) (bb (Nat.beq g 46) (Gs tabs [[none]] 1 [.tmp 0 false] [false] (pu 10460) args H) (bb (Nat.beq g 108) (Gs tabs [[none,some 1,some 1]] 1 [] [true,false] (pu 11080) args H) (bb (Nat.beq g 109) (Gs tabs [[none],[none]] 2 [.tmp 0 true,.cell 2 3 false] [true,false] (pu 11090) args H) (bb (Nat.beq g 252) (Gs tabs [[none],[none]] 2 [.tmp 0 true,.tmp 1 false,.cell 2 1 false,.cell 2 2 false] [true,false,false,false] (pu 12520) args H) (none))))))=some (v,H'):=h
 have hq:=Ag h;clear h;rcases hq with⟨e,h⟩ | ⟨_,h⟩
 ·obtain rfl:=Nat.eq_of_beq_eq_true e
  exact Og Cs CY h0 h
 have hq:=Ag h;clear h;rcases hq with⟨e,h⟩ | ⟨_,h⟩
 ·obtain rfl:=Nat.eq_of_beq_eq_true e
  exact Hz (rs:=[]) Cs CY h1 h
 have hq:=Ag h;clear h;rcases hq with⟨e,h⟩ | ⟨_,h⟩
 ·obtain rfl:=Nat.eq_of_beq_eq_true e
  exact Hz (rs:=[.tmp 0 false]) Cs CY h2 h
 have hq:=Ag h;clear h;rcases hq with⟨e,h⟩ | ⟨_,h⟩
 ·obtain rfl:=Nat.eq_of_beq_eq_true e
  exact Hz (rs:=[]) Cs CY h3 h
 have hq:=Ag h;clear h;rcases hq with⟨e,h⟩ | ⟨_,h⟩
 ·obtain rfl:=Nat.eq_of_beq_eq_true e
  exact Hz (rs:=[.tmp 0 true,.cell 2 3 false]) Cs CY h4 h
 have hq:=Ag h;clear h;rcases hq with⟨e,h⟩ | ⟨_,h⟩
 ·obtain rfl:=Nat.eq_of_beq_eq_true e
  exact Hz (rs:=[.tmp 0 true,.tmp 1 false,.cell 2 1 false,.cell 2 2 false]) Cs CY h5 h
 cases h
theorem bS (hm:Tryz.prog.follows .mixedOrders=true) (hw:BA Tryz.prog tabs 165 OA∧BA Tryz.prog tabs 204 OB∧BA Tryz.prog tabs 14 QL) {pu:Af} (hall:(∀ g,isP g=true→BA Tryz.prog tabs g (pu g))∧BA Tryz.prog tabs 204 (pu 204)∧Cn Tryz.prog tabs 1 0 12 (pu 10120)∧Cn Tryz.prog tabs 1 1 46 (pu 10460)∧Cn Tryz.prog tabs 1 0 108 (pu 11080)∧Cn Tryz.prog tabs 2 2 109 (pu 11090)∧Cn Tryz.prog tabs 2 4 252 (pu 12520)):(∀ g,isP g=true→BA Tryz.prog tabs g (Pg pu g))∧BA Tryz.prog tabs 204 (Pg pu 204)∧Cn Tryz.prog tabs 1 0 12 (Pg pu 10120)∧Cn Tryz.prog tabs 1 1 46 (Pg pu 10460)∧Cn Tryz.prog tabs 1 0 108 (Pg pu 11080)∧Cn Tryz.prog tabs 2 2 109 (Pg pu 11090)∧Cn Tryz.prog tabs 2 4 252 (Pg pu 12520):=by
 obtain⟨hpu,h0,h4,h5,h6,h7,h8⟩:=hall
 have hcall:=TG (P:=Tryz.prog) (tabs:=tabs) Cs CY (Qp hm h0 h4 h5 h6 h7 h8) hpu
 refine⟨fun g hg=>?_,?_,?_,?_,?_,?_,?_⟩
 ·have hg:g∈O9:=CS.1 hg
  simp only[O9,List.mem_cons,List.not_mem_nil,or_false] at hg
  rcases hg with rfl | rfl | rfl | rfl | rfl | rfl | rfl | rfl | rfl | rfl | rfl | rfl | rfl | rfl | rfl | rfl | rfl | rfl | rfl
  ·exact Aw (tabs:=tabs) (f:=m3 pu L) DL hm hcall fk3 fun args v h hc=>r3 pu L rfl h hc
  ·exact Aw (tabs:=tabs) (f:=m10 pu L) DL hm hcall Acx fun args v h hc=>r10 pu L rfl h hc
  ·exact Aw (tabs:=tabs) (f:=m11 pu L) DL hm hcall Acy fun args v h hc=>r11 pu L rfl h hc
  ·exact Aw (tabs:=tabs) (f:=m13 pu L) DL hm hcall Acz fun args v h hc=>r13 pu L rfl h hc
  ·exact hw.2.2
  ·exact Aw (tabs:=tabs) (f:=m45 pu L) DL hm hcall AcA fun args v h hc=>r45 pu L rfl h hc
  ·exact Aw (tabs:=tabs) (f:=m47 pu L) DL hm hcall AcB fun args v h hc=>r47 pu L rfl h hc
  ·exact Aw (tabs:=tabs) (f:=m48 pu L) DL hm hcall AcC fun args v h hc=>r48 pu L rfl h hc
  ·exact Aw (tabs:=tabs) (f:=m49 pu L) DL hm hcall AcD fun args v h hc=>r49 pu L rfl h hc
  ·exact Aw (tabs:=tabs) (f:=m80 pu L) DL hm hcall AcE fun args v h hc=>r80 pu L rfl h hc
  ·exact Aw (tabs:=tabs) (f:=m90 pu L) DL hm hcall AcF fun args v h hc=>r90 pu L rfl h hc
  ·exact Aw (tabs:=tabs) (f:=bJ pu L) DL hm hcall jL fun args v h hc=>AdK pu L rfl h hc
  ·exact Aw (tabs:=tabs) (f:=bM pu L) DL hm hcall kQ fun args v h hc=>AdL pu L rfl h hc
  ·exact Aw (tabs:=tabs) (f:=bN pu L) DL hm hcall kR fun args v h hc=>AdM pu L rfl h hc
  ·exact Aw (tabs:=tabs) (f:=bO pu L) DL hm hcall kS fun args v h hc=>AdN pu L rfl h hc
  ·exact Aw (tabs:=tabs) (f:=bP pu L) DL hm hcall kT fun args v h hc=>AdO pu L rfl h hc
  ·exact Aw (tabs:=tabs) (f:=bQ pu L) DL hm hcall kU fun args v h hc=>AdP pu L rfl h hc
  ·exact hw.1
  ·exact Aw (tabs:=tabs) (f:=bR pu L) DL hm hcall kV fun args v h hc=>AdQ pu L rfl h hc
 ·exact hw.2.1
 ·exact Dx (tabs:=tabs) (f:=K3 pu L) DL hm hcall AcG fun args os z h1 h2 h3 h=>uN pu L rfl h1 h2 h3 h
 ·exact Dx (tabs:=tabs) (f:=K6 pu L) DL hm hcall AcH fun args os z h1 h2 h3 h=>uP pu L rfl h1 h2 h3 h
 ·exact Dx (tabs:=tabs) (f:=K7 pu L) DL hm hcall kW fun args os z h1 h2 h3 h=>uR pu L rfl h1 h2 h3 h
 ·exact Dx (tabs:=tabs) (f:=LJ pu L) DL hm hcall kX fun args os z h1 h2 h3 h=>uT pu L rfl h1 h2 h3 h
 ·exact Dx (tabs:=tabs) (f:=LQ pu L) DL hm hcall kY fun args os z h1 h2 h3 h=>uV pu L rfl h1 h2 h3 h
theorem Qq (hm:Tryz.prog.follows .mixedOrders=true) (hw:BA Tryz.prog tabs 165 OA∧BA Tryz.prog tabs 204 OB∧BA Tryz.prog tabs 14 QL):∀ n,(∀ g,isP g=true→BA Tryz.prog tabs g (OQ n g))∧BA Tryz.prog tabs 204 (OQ n 204)∧Cn Tryz.prog tabs 1 0 12 (OQ n 10120)∧Cn Tryz.prog tabs 1 1 46 (OQ n 10460)∧Cn Tryz.prog tabs 1 0 108 (OQ n 11080)∧Cn Tryz.prog tabs 2 2 109 (OQ n 11090)∧Cn Tryz.prog tabs 2 4 252 (OQ n 12520):=fun n=>by
 induction n with
 | zero =>
  refine⟨fun g hg=>?_,?_,?_,?_,?_,?_,?_⟩
  ·have hg:g∈O9:=CS.1 hg
   simp only[O9,List.mem_cons,List.not_mem_nil,or_false] at hg
   rcases hg with rfl | rfl | rfl | rfl | rfl | rfl | rfl | rfl | rfl | rfl | rfl | rfl | rfl | rfl | rfl | rfl | rfl | rfl | rfl
   ·exact⟨A9 fk3,fun args v h=>by cases h⟩
   ·exact⟨A9 Acx,fun args v h=>by cases h⟩
   ·exact⟨A9 Acy,fun args v h=>by cases h⟩
   ·exact⟨A9 Acz,fun args v h=>by cases h⟩
   ·exact⟨(hw.2.2).1,fun args v h=>by cases h⟩
   ·exact⟨A9 AcA,fun args v h=>by cases h⟩
   ·exact⟨A9 AcB,fun args v h=>by cases h⟩
   ·exact⟨A9 AcC,fun args v h=>by cases h⟩
   ·exact⟨A9 AcD,fun args v h=>by cases h⟩
   ·exact⟨A9 AcE,fun args v h=>by cases h⟩
   ·exact⟨A9 AcF,fun args v h=>by cases h⟩
   ·exact⟨A9 jL,fun args v h=>by cases h⟩
   ·exact⟨A9 kQ,fun args v h=>by cases h⟩
   ·exact⟨A9 kR,fun args v h=>by cases h⟩
   ·exact⟨A9 kS,fun args v h=>by cases h⟩
   ·exact⟨A9 kT,fun args v h=>by cases h⟩
   ·exact⟨A9 kU,fun args v h=>by cases h⟩
   ·exact⟨(hw.1).1,fun args v h=>by cases h⟩
   ·exact⟨A9 kV,fun args v h=>by cases h⟩
  ·exact⟨(hw.2.1).1,fun args v h=>by cases h⟩
  ·exact⟨A9 AcG,fun args os z h1 h2 h3 h=>by cases h⟩
  ·exact⟨A9 AcH,fun args os z h1 h2 h3 h=>by cases h⟩
  ·exact⟨A9 kW,fun args os z h1 h2 h3 h=>by cases h⟩
  ·exact⟨A9 kX,fun args os z h1 h2 h3 h=>by cases h⟩
  ·exact⟨A9 kY,fun args os z h1 h2 h3 h=>by cases h⟩
 | succ n ih=>exact bS hm hw ih
end
end Go.Proofs.YtflonlkiajhhjaaGreatDoor.TpD
