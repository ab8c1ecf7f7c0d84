/- Made from wip. -/
import Derived.Test.YtflonlkiajhhjaaProg
import Derived.Test.YtflonlkiajhhjaaSpObjx
import Derived.Test.YtflonlkiajhhjaaTpACode
import Derived.Test.YtflonlkiajhhjaaTpAPux

set_option maxRecDepth 100000
namespace Go.Proofs.Ytflonlkiajhhjaa.TpA
open Go Go.Sp Go.TpA
theorem b3:(match Try.f3.body with | some c=>BF c c3 | none=>none)=some c3:=by kernel_rfl
theorem p3:(match Try.f3.body with | some c=>AU [] c | none=>false)=true:=by kernel_rfl
theorem Adm:Ar Try.prog [] 3 ⟨103,c3,[.tmp 2]⟩:=Ar.by Try.func3 b3 p3 Try.ntmps3 (by rw[Try.results3]) (by kernel_rfl)
theorem b5:(match Try.f5.body with | some c=>BF c c5 | none=>none)=some c5:=by kernel_rfl
theorem p5:(match Try.f5.body with | some c=>AU [] c | none=>false)=true:=by kernel_rfl
theorem Adn:Ar Try.prog [] 5 ⟨4,c5,[.tmp 2]⟩:=Ar.by Try.func5 b5 p5 Try.ntmps5 (by rw[Try.results5]) (by kernel_rfl)
theorem b6:(match Try.f6.body with | some c=>BF c c6 | none=>none)=some c6:=by kernel_rfl
theorem p6:(match Try.f6.body with | some c=>AU [] c | none=>false)=true:=by kernel_rfl
theorem Ado:Ar Try.prog [] 6 ⟨21,c6,[.tmp 4,.tmp 5]⟩:=Ar.by Try.func6 b6 p6 Try.ntmps6 (by rw[Try.results6]) (by kernel_rfl)
theorem b7:(match Try.f7.body with | some c=>BF c c7 | none=>none)=some c7:=by kernel_rfl
theorem p7:(match Try.f7.body with | some c=>AU [] c | none=>false)=true:=by kernel_rfl
theorem Adp:Ar Try.prog [] 7 ⟨43,c7,[.tmp 4,.tmp 5]⟩:=Ar.by Try.func7 b7 p7 Try.ntmps7 (by rw[Try.results7]) (by kernel_rfl)
theorem b8:(match Try.f8.body with | some c=>BF c c8 | none=>none)=some c8:=by kernel_rfl
theorem p8:(match Try.f8.body with | some c=>AU [] c | none=>false)=true:=by kernel_rfl
theorem Adq:Ar Try.prog [] 8 ⟨18,c8,[.tmp 2,.tmp 3]⟩:=Ar.by Try.func8 b8 p8 Try.ntmps8 (by rw[Try.results8]) (by kernel_rfl)
theorem b9:(match Try.f9.body with | some c=>BF c c9 | none=>none)=some c9:=by kernel_rfl
theorem p9:(match Try.f9.body with | some c=>AU [] c | none=>false)=true:=by kernel_rfl
theorem uN:Ar Try.prog [] 9 ⟨35,c9,[.tmp 0]⟩:=Ar.by Try.func9 b9 p9 Try.ntmps9 (by rw[Try.results9]) (by kernel_rfl)
theorem b17:(match Try.f17.body with | some c=>BF c c17 | none=>none)=some c17:=by kernel_rfl
theorem p17:(match Try.f17.body with | some c=>AU [] c | none=>false)=true:=by kernel_rfl
theorem Adr:Ar Try.prog [] 17 ⟨26,c17,[.tmp 4]⟩:=Ar.by Try.func17 b17 p17 Try.ntmps17 (by rw[Try.results17]) (by kernel_rfl)
theorem b19:(match Try.f19.body with | some c=>BF c c19 | none=>none)=some c19:=by kernel_rfl
theorem p19:(match Try.f19.body with | some c=>AU [] c | none=>false)=true:=by kernel_rfl
theorem Zt:Ar Try.prog [] 19 ⟨33,c19,[.tmp 4,.tmp 5]⟩:=Ar.by Try.func19 b19 p19 Try.ntmps19 (by rw[Try.results19]) (by kernel_rfl)
theorem b20:(match Try.f20.body with | some c=>BF c c20 | none=>none)=some c20:=by kernel_rfl
theorem p20:(match Try.f20.body with | some c=>AU [] c | none=>false)=true:=by kernel_rfl
theorem Zu:Ar Try.prog [] 20 ⟨28,c20,[.tmp 4]⟩:=Ar.by Try.func20 b20 p20 Try.ntmps20 (by rw[Try.results20]) (by kernel_rfl)
theorem b21:(match Try.f21.body with | some c=>BF c c21 | none=>none)=some c21:=by kernel_rfl
theorem p21:(match Try.f21.body with | some c=>AU [] c | none=>false)=true:=by kernel_rfl
theorem Zv:Ar Try.prog [] 21 ⟨38,c21,[.tmp 6]⟩:=Ar.by Try.func21 b21 p21 Try.ntmps21 (by rw[Try.results21]) (by kernel_rfl)
theorem b22:(match Try.f22.body with | some c=>BF c c22 | none=>none)=some c22:=by kernel_rfl
theorem p22:(match Try.f22.body with | some c=>AU [] c | none=>false)=true:=by kernel_rfl
theorem Zw:Ar Try.prog [] 22 ⟨18,c22,[.tmp 2]⟩:=Ar.by Try.func22 b22 p22 Try.ntmps22 (by rw[Try.results22]) (by kernel_rfl)
theorem b23:(match Try.f23.body with | some c=>BF c c23 | none=>none)=some c23:=by kernel_rfl
theorem p23:(match Try.f23.body with | some c=>AU [] c | none=>false)=true:=by kernel_rfl
theorem Zx:Ar Try.prog [] 23 ⟨15,c23,[.tmp 4]⟩:=Ar.by Try.func23 b23 p23 Try.ntmps23 (by rw[Try.results23]) (by kernel_rfl)
theorem b24:(match Try.f24.body with | some c=>BF c c24 | none=>none)=some c24:=by kernel_rfl
theorem p24:(match Try.f24.body with | some c=>AU [] c | none=>false)=true:=by kernel_rfl
theorem Zy:Ar Try.prog [] 24 ⟨39,c24,[.cell 2 67]⟩:=Ar.by Try.func24 b24 p24 Try.ntmps24 (by rw[Try.results24]) (by kernel_rfl)
theorem b25:(match Try.f25.body with | some c=>BF c c25 | none=>none)=some c25:=by kernel_rfl
theorem p25:(match Try.f25.body with | some c=>AU [] c | none=>false)=true:=by kernel_rfl
theorem Ads:Ar Try.prog [] 25 ⟨39,c25,[.tmp 2,.tmp 3]⟩:=Ar.by Try.func25 b25 p25 Try.ntmps25 (by rw[Try.results25]) (by kernel_rfl)
theorem b26:(match Try.f26.body with | some c=>BF c c26 | none=>none)=some c26:=by kernel_rfl
theorem p26:(match Try.f26.body with | some c=>AU [] c | none=>false)=true:=by kernel_rfl
theorem Zz:Ar Try.prog [] 26 ⟨35,c26,[.tmp 0]⟩:=Ar.by Try.func26 b26 p26 Try.ntmps26 (by rw[Try.results26]) (by kernel_rfl)
theorem b27:(match Try.f27.body with | some c=>BF c c27 | none=>none)=some c27:=by kernel_rfl
theorem p27:(match Try.f27.body with | some c=>AU [] c | none=>false)=true:=by kernel_rfl
theorem Adt:Ar Try.prog [] 27 ⟨35,c27,[.cell 2 74,.tmp 3]⟩:=Ar.by Try.func27 b27 p27 Try.ntmps27 (by rw[Try.results27]) (by kernel_rfl)
theorem b28:(match Try.f28.body with | some c=>BF c c28 | none=>none)=some c28:=by kernel_rfl
theorem p28:(match Try.f28.body with | some c=>AU [] c | none=>false)=true:=by kernel_rfl
theorem Adu:Ar Try.prog [] 28 ⟨55,c28,[]⟩:=Ar.by Try.func28 b28 p28 Try.ntmps28 (by rw[Try.results28]) (by kernel_rfl)
theorem b30:(match Try.f30.body with | some c=>BF c c30 | none=>none)=some c30:=by kernel_rfl
theorem p30:(match Try.f30.body with | some c=>AU [] c | none=>false)=true:=by kernel_rfl
theorem Adv:Ar Try.prog [] 30 ⟨15,c30,[.tmp 6]⟩:=Ar.by Try.func30 b30 p30 Try.ntmps30 (by rw[Try.results30]) (by kernel_rfl)
theorem b31:(match Try.f31.body with | some c=>BF c c31 | none=>none)=some c31:=by kernel_rfl
theorem p31:(match Try.f31.body with | some c=>AU [] c | none=>false)=true:=by kernel_rfl
theorem Adw:Ar Try.prog [] 31 ⟨29,c31,[.tmp 2]⟩:=Ar.by Try.func31 b31 p31 Try.ntmps31 (by rw[Try.results31]) (by kernel_rfl)
theorem b34:(match Try.f34.body with | some c=>BF c c34 | none=>none)=some c34:=by kernel_rfl
theorem p34:(match Try.f34.body with | some c=>AU [] c | none=>false)=true:=by kernel_rfl
theorem Adx:Ar Try.prog [] 34 ⟨16,c34,[.tmp 2,.tmp 3]⟩:=Ar.by Try.func34 b34 p34 Try.ntmps34 (by rw[Try.results34]) (by kernel_rfl)
theorem b37:(match Try.f37.body with | some c=>BF c c37 | none=>none)=some c37:=by kernel_rfl
theorem p37:(match Try.f37.body with | some c=>AU [] c | none=>false)=true:=by kernel_rfl
theorem ZA:Ar Try.prog [] 37 ⟨35,c37,[.tmp 6]⟩:=Ar.by Try.func37 b37 p37 Try.ntmps37 (by rw[Try.results37]) (by kernel_rfl)
theorem b38:(match Try.f38.body with | some c=>BF c c38 | none=>none)=some c38:=by kernel_rfl
theorem p38:(match Try.f38.body with | some c=>AU [] c | none=>false)=true:=by kernel_rfl
theorem Ady:Ar Try.prog [] 38 ⟨15,c38,[.tmp 4,.tmp 5]⟩:=Ar.by Try.func38 b38 p38 Try.ntmps38 (by rw[Try.results38]) (by kernel_rfl)
theorem b39:(match Try.f39.body with | some c=>BF c c39 | none=>none)=some c39:=by kernel_rfl
theorem p39:(match Try.f39.body with | some c=>AU [] c | none=>false)=true:=by kernel_rfl
theorem Adz:Ar Try.prog [] 39 ⟨63,c39,[.tmp 6,.tmp 7]⟩:=Ar.by Try.func39 b39 p39 Try.ntmps39 (by rw[Try.results39]) (by kernel_rfl)
theorem b42:(match Try.f42.body with | some c=>BF c c42 | none=>none)=some c42:=by kernel_rfl
theorem p42:(match Try.f42.body with | some c=>AU [] c | none=>false)=true:=by kernel_rfl
theorem ZB:Ar Try.prog [] 42 ⟨110,c42,[.tmp 2,.tmp 3]⟩:=Ar.by Try.func42 b42 p42 Try.ntmps42 (by rw[Try.results42]) (by kernel_rfl)
theorem b43:(match Try.f43.body with | some c=>BF c c43 | none=>none)=some c43:=by kernel_rfl
theorem p43:(match Try.f43.body with | some c=>AU [] c | none=>false)=true:=by kernel_rfl
theorem ZC:Ar Try.prog [] 43 ⟨34,c43,[.tmp 4]⟩:=Ar.by Try.func43 b43 p43 Try.ntmps43 (by rw[Try.results43]) (by kernel_rfl)
end Go.Proofs.Ytflonlkiajhhjaa.TpA
set_option maxRecDepth 100000
namespace Go.Proofs.Ytflonlkiajhhjaa.TpA
open Go Go.Sp Go.TpA
theorem b44:(match Try.f44.body with | some c=>BF c c44 | none=>none)=some c44:=by kernel_rfl
theorem p44:(match Try.f44.body with | some c=>AU [] c | none=>false)=true:=by kernel_rfl
theorem ZE:Ar Try.prog [] 44 ⟨14,c44,[]⟩:=Ar.by Try.func44 b44 p44 Try.ntmps44 (by rw[Try.results44]) (by kernel_rfl)
theorem b45:(match Try.f45.body with | some c=>BF c c45 | none=>none)=some c45:=by kernel_rfl
theorem p45:(match Try.f45.body with | some c=>AU [] c | none=>false)=true:=by kernel_rfl
theorem ZF:Ar Try.prog [] 45 ⟨36,c45,[.tmp 4]⟩:=Ar.by Try.func45 b45 p45 Try.ntmps45 (by rw[Try.results45]) (by kernel_rfl)
theorem b46:(match Try.f46.body with | some c=>BF c c46 | none=>none)=some c46:=by kernel_rfl
theorem p46:(match Try.f46.body with | some c=>AU [] c | none=>false)=true:=by kernel_rfl
theorem ZG:Ar Try.prog [] 46 ⟨66,c46,[.tmp 4]⟩:=Ar.by Try.func46 b46 p46 Try.ntmps46 (by rw[Try.results46]) (by kernel_rfl)
theorem b47:(match Try.f47.body with | some c=>BF c c47 | none=>none)=some c47:=by kernel_rfl
theorem p47:(match Try.f47.body with | some c=>AU [] c | none=>false)=true:=by kernel_rfl
theorem ZH:Ar Try.prog [] 47 ⟨26,c47,[.tmp 4]⟩:=Ar.by Try.func47 b47 p47 Try.ntmps47 (by rw[Try.results47]) (by kernel_rfl)
theorem b48:(match Try.f48.body with | some c=>BF c c48 | none=>none)=some c48:=by kernel_rfl
theorem p48:(match Try.f48.body with | some c=>AU [] c | none=>false)=true:=by kernel_rfl
theorem ZI:Ar Try.prog [] 48 ⟨9,c48,[.tmp 4]⟩:=Ar.by Try.func48 b48 p48 Try.ntmps48 (by rw[Try.results48]) (by kernel_rfl)
theorem b49:(match Try.f49.body with | some c=>BF c c49 | none=>none)=some c49:=by kernel_rfl
theorem p49:(match Try.f49.body with | some c=>AU [] c | none=>false)=true:=by kernel_rfl
theorem ZJ:Ar Try.prog [] 49 ⟨9,c49,[.tmp 2]⟩:=Ar.by Try.func49 b49 p49 Try.ntmps49 (by rw[Try.results49]) (by kernel_rfl)
theorem b50:(match Try.f50.body with | some c=>BF c c50 | none=>none)=some c50:=by kernel_rfl
theorem p50:(match Try.f50.body with | some c=>AU [] c | none=>false)=true:=by kernel_rfl
theorem ZK:Ar Try.prog [] 50 ⟨25,c50,[.tmp 2]⟩:=Ar.by Try.func50 b50 p50 Try.ntmps50 (by rw[Try.results50]) (by kernel_rfl)
theorem b51:(match Try.f51.body with | some c=>BF c c51 | none=>none)=some c51:=by kernel_rfl
theorem p51:(match Try.f51.body with | some c=>AU [] c | none=>false)=true:=by kernel_rfl
theorem ZL:Ar Try.prog [] 51 ⟨44,c51,[.tmp 6]⟩:=Ar.by Try.func51 b51 p51 Try.ntmps51 (by rw[Try.results51]) (by kernel_rfl)
theorem b52:(match Try.f52.body with | some c=>BF c c52 | none=>none)=some c52:=by kernel_rfl
theorem p52:(match Try.f52.body with | some c=>AU [] c | none=>false)=true:=by kernel_rfl
theorem AdA:Ar Try.prog [] 52 ⟨27,c52,[.tmp 4]⟩:=Ar.by Try.func52 b52 p52 Try.ntmps52 (by rw[Try.results52]) (by kernel_rfl)
theorem b53:(match Try.f53.body with | some c=>BF c c53 | none=>none)=some c53:=by kernel_rfl
theorem p53:(match Try.f53.body with | some c=>AU [] c | none=>false)=true:=by kernel_rfl
theorem AdB:Ar Try.prog [] 53 ⟨20,c53,[.tmp 2,.tmp 3]⟩:=Ar.by Try.func53 b53 p53 Try.ntmps53 (by rw[Try.results53]) (by kernel_rfl)
theorem b54:(match Try.f54.body with | some c=>BF c c54 | none=>none)=some c54:=by kernel_rfl
theorem p54:(match Try.f54.body with | some c=>AU [] c | none=>false)=true:=by kernel_rfl
theorem AdC:Ar Try.prog [] 54 ⟨22,c54,[.tmp 6]⟩:=Ar.by Try.func54 b54 p54 Try.ntmps54 (by rw[Try.results54]) (by kernel_rfl)
theorem b55:(match Try.f55.body with | some c=>BF c c55 | none=>none)=some c55:=by kernel_rfl
theorem p55:(match Try.f55.body with | some c=>AU [] c | none=>false)=true:=by kernel_rfl
theorem AdD:Ar Try.prog [] 55 ⟨24,c55,[.tmp 4,.tmp 5]⟩:=Ar.by Try.func55 b55 p55 Try.ntmps55 (by rw[Try.results55]) (by kernel_rfl)
theorem b56:(match Try.f56.body with | some c=>BF c c56 | none=>none)=some c56:=by kernel_rfl
theorem p56:(match Try.f56.body with | some c=>AU [] c | none=>false)=true:=by kernel_rfl
theorem AdE:Ar Try.prog [] 56 ⟨26,c56,[.tmp 6]⟩:=Ar.by Try.func56 b56 p56 Try.ntmps56 (by rw[Try.results56]) (by kernel_rfl)
theorem b57:(match Try.f57.body with | some c=>BF c c57 | none=>none)=some c57:=by kernel_rfl
theorem p57:(match Try.f57.body with | some c=>AU [] c | none=>false)=true:=by kernel_rfl
theorem AdF:Ar Try.prog [] 57 ⟨10,c57,[.tmp 3]⟩:=Ar.by Try.func57 b57 p57 Try.ntmps57 (by rw[Try.results57]) (by kernel_rfl)
theorem b58:(match Try.f58.body with | some c=>BF c c58 | none=>none)=some c58:=by kernel_rfl
theorem p58:(match Try.f58.body with | some c=>AU [] c | none=>false)=true:=by kernel_rfl
theorem AdG:Ar Try.prog [] 58 ⟨14,c58,[.tmp 7]⟩:=Ar.by Try.func58 b58 p58 Try.ntmps58 (by rw[Try.results58]) (by kernel_rfl)
theorem b59:(match Try.f59.body with | some c=>BF c c59 | none=>none)=some c59:=by kernel_rfl
theorem p59:(match Try.f59.body with | some c=>AU [] c | none=>false)=true:=by kernel_rfl
theorem AdH:Ar Try.prog [] 59 ⟨7,c59,[.tmp 2]⟩:=Ar.by Try.func59 b59 p59 Try.ntmps59 (by rw[Try.results59]) (by kernel_rfl)
theorem b62:(match Try.f62.body with | some c=>BF c c62 | none=>none)=some c62:=by kernel_rfl
theorem p62:(match Try.f62.body with | some c=>AU [] c | none=>false)=true:=by kernel_rfl
theorem ZM:Ar Try.prog [] 62 ⟨15,c62,[.tmp 6]⟩:=Ar.by Try.func62 b62 p62 Try.ntmps62 (by rw[Try.results62]) (by kernel_rfl)
theorem b63:(match Try.f63.body with | some c=>BF c c63 | none=>none)=some c63:=by kernel_rfl
theorem p63:(match Try.f63.body with | some c=>AU [] c | none=>false)=true:=by kernel_rfl
theorem ZN:Ar Try.prog [] 63 ⟨18,c63,[.cell 2 122]⟩:=Ar.by Try.func63 b63 p63 Try.ntmps63 (by rw[Try.results63]) (by kernel_rfl)
theorem b64:(match Try.f64.body with | some c=>BF c c64 | none=>none)=some c64:=by kernel_rfl
theorem p64:(match Try.f64.body with | some c=>AU [] c | none=>false)=true:=by kernel_rfl
theorem ZO:Ar Try.prog [] 64 ⟨47,c64,[.tmp 4]⟩:=Ar.by Try.func64 b64 p64 Try.ntmps64 (by rw[Try.results64]) (by kernel_rfl)
theorem b65:(match Try.f65.body with | some c=>BF c c65 | none=>none)=some c65:=by kernel_rfl
theorem p65:(match Try.f65.body with | some c=>AU [] c | none=>false)=true:=by kernel_rfl
theorem ZP:Ar Try.prog [] 65 ⟨22,c65,[.cell 4 122]⟩:=Ar.by Try.func65 b65 p65 Try.ntmps65 (by rw[Try.results65]) (by kernel_rfl)
theorem b66:(match Try.f66.body with | some c=>BF c c66 | none=>none)=some c66:=by kernel_rfl
theorem p66:(match Try.f66.body with | some c=>AU [] c | none=>false)=true:=by kernel_rfl
theorem ZQ:Ar Try.prog [] 66 ⟨22,c66,[.tmp 2]⟩:=Ar.by Try.func66 b66 p66 Try.ntmps66 (by rw[Try.results66]) (by kernel_rfl)
theorem b67:(match Try.f67.body with | some c=>BF c c67 | none=>none)=some c67:=by kernel_rfl
theorem p67:(match Try.f67.body with | some c=>AU [] c | none=>false)=true:=by kernel_rfl
theorem ZR:Ar Try.prog [] 67 ⟨25,c67,[.tmp 2]⟩:=Ar.by Try.func67 b67 p67 Try.ntmps67 (by rw[Try.results67]) (by kernel_rfl)
theorem b68:(match Try.f68.body with | some c=>BF c c68 | none=>none)=some c68:=by kernel_rfl
theorem p68:(match Try.f68.body with | some c=>AU [] c | none=>false)=true:=by kernel_rfl
theorem ZT:Ar Try.prog [] 68 ⟨148,c68,[]⟩:=Ar.by Try.func68 b68 p68 Try.ntmps68 (by rw[Try.results68]) (by kernel_rfl)
theorem b69:(match Try.f69.body with | some c=>BF c c69 | none=>none)=some c69:=by kernel_rfl
theorem p69:(match Try.f69.body with | some c=>AU [] c | none=>false)=true:=by kernel_rfl
theorem bI:Ar Try.prog [] 69 ⟨8,c69,[.tmp 2]⟩:=Ar.by Try.func69 b69 p69 Try.ntmps69 (by rw[Try.results69]) (by kernel_rfl)
theorem b70:(match Try.f70.body with | some c=>BF c c70 | none=>none)=some c70:=by kernel_rfl
theorem p70:(match Try.f70.body with | some c=>AU [] c | none=>false)=true:=by kernel_rfl
theorem bJ:Ar Try.prog [] 70 ⟨20,c70,[.tmp 4]⟩:=Ar.by Try.func70 b70 p70 Try.ntmps70 (by rw[Try.results70]) (by kernel_rfl)
end Go.Proofs.Ytflonlkiajhhjaa.TpA
set_option maxRecDepth 100000
namespace Go.Proofs.Ytflonlkiajhhjaa.TpA
open Go Go.Sp Go.TpA
theorem b71:(match Try.f71.body with | some c=>BF c c71 | none=>none)=some c71:=by kernel_rfl
theorem p71:(match Try.f71.body with | some c=>AU [] c | none=>false)=true:=by kernel_rfl
theorem bM:Ar Try.prog [] 71 ⟨19,c71,[.tmp 4]⟩:=Ar.by Try.func71 b71 p71 Try.ntmps71 (by rw[Try.results71]) (by kernel_rfl)
theorem b72:(match Try.f72.body with | some c=>BF c c72 | none=>none)=some c72:=by kernel_rfl
theorem p72:(match Try.f72.body with | some c=>AU [] c | none=>false)=true:=by kernel_rfl
theorem bN:Ar Try.prog [] 72 ⟨12,c72,[.tmp 2]⟩:=Ar.by Try.func72 b72 p72 Try.ntmps72 (by rw[Try.results72]) (by kernel_rfl)
theorem b73:(match Try.f73.body with | some c=>BF c c73 | none=>none)=some c73:=by kernel_rfl
theorem p73:(match Try.f73.body with | some c=>AU [] c | none=>false)=true:=by kernel_rfl
theorem bO:Ar Try.prog [] 73 ⟨11,c73,[.tmp 2]⟩:=Ar.by Try.func73 b73 p73 Try.ntmps73 (by rw[Try.results73]) (by kernel_rfl)
theorem b74:(match Try.f74.body with | some c=>BF c c74 | none=>none)=some c74:=by kernel_rfl
theorem p74:(match Try.f74.body with | some c=>AU [] c | none=>false)=true:=by kernel_rfl
theorem bP:Ar Try.prog [] 74 ⟨137,c74,[.tmp 6]⟩:=Ar.by Try.func74 b74 p74 Try.ntmps74 (by rw[Try.results74]) (by kernel_rfl)
theorem b75:(match Try.f75.body with | some c=>BF c c75 | none=>none)=some c75:=by kernel_rfl
theorem p75:(match Try.f75.body with | some c=>AU [] c | none=>false)=true:=by kernel_rfl
theorem AdI:Ar Try.prog [] 75 ⟨50,c75,[.cell 4 134]⟩:=Ar.by Try.func75 b75 p75 Try.ntmps75 (by rw[Try.results75]) (by kernel_rfl)
theorem b76:(match Try.f76.body with | some c=>BF c c76 | none=>none)=some c76:=by kernel_rfl
theorem p76:(match Try.f76.body with | some c=>AU [] c | none=>false)=true:=by kernel_rfl
theorem AdJ:Ar Try.prog [] 76 ⟨80,c76,[.tmp 2,.tmp 3]⟩:=Ar.by Try.func76 b76 p76 Try.ntmps76 (by rw[Try.results76]) (by kernel_rfl)
theorem b77:(match Try.f77.body with | some c=>BF c c77 | none=>none)=some c77:=by kernel_rfl
theorem p77:(match Try.f77.body with | some c=>AU [] c | none=>false)=true:=by kernel_rfl
theorem AdK:Ar Try.prog [] 77 ⟨20,c77,[]⟩:=Ar.by Try.func77 b77 p77 Try.ntmps77 (by rw[Try.results77]) (by kernel_rfl)
theorem b78:(match Try.f78.body with | some c=>BF c c78 | none=>none)=some c78:=by kernel_rfl
theorem p78:(match Try.f78.body with | some c=>AU [] c | none=>false)=true:=by kernel_rfl
theorem AdL:Ar Try.prog [] 78 ⟨62,c78,[.tmp 2]⟩:=Ar.by Try.func78 b78 p78 Try.ntmps78 (by rw[Try.results78]) (by kernel_rfl)
theorem b79:(match Try.f79.body with | some c=>BF c c79 | none=>none)=some c79:=by kernel_rfl
theorem p79:(match Try.f79.body with | some c=>AU [] c | none=>false)=true:=by kernel_rfl
theorem AdM:Ar Try.prog [] 79 ⟨15,c79,[.tmp 6]⟩:=Ar.by Try.func79 b79 p79 Try.ntmps79 (by rw[Try.results79]) (by kernel_rfl)
theorem b80:(match Try.f80.body with | some c=>BF c c80 | none=>none)=some c80:=by kernel_rfl
theorem p80:(match Try.f80.body with | some c=>AU [] c | none=>false)=true:=by kernel_rfl
theorem AdN:Ar Try.prog [] 80 ⟨47,c80,[]⟩:=Ar.by Try.func80 b80 p80 Try.ntmps80 (by rw[Try.results80]) (by kernel_rfl)
theorem b83:(match Try.f83.body with | some c=>BF c c83 | none=>none)=some c83:=by kernel_rfl
theorem p83:(match Try.f83.body with | some c=>AU [] c | none=>false)=true:=by kernel_rfl
theorem AdO:Ar Try.prog [] 83 ⟨28,c83,[]⟩:=Ar.by Try.func83 b83 p83 Try.ntmps83 (by rw[Try.results83]) (by kernel_rfl)
theorem b84:(match Try.f84.body with | some c=>BF c c84 | none=>none)=some c84:=by kernel_rfl
theorem p84:(match Try.f84.body with | some c=>AU [] c | none=>false)=true:=by kernel_rfl
theorem AdP:Ar Try.prog [] 84 ⟨34,c84,[.tmp 4]⟩:=Ar.by Try.func84 b84 p84 Try.ntmps84 (by rw[Try.results84]) (by kernel_rfl)
theorem b86:(match Try.f86.body with | some c=>BF c c86 | none=>none)=some c86:=by kernel_rfl
theorem p86:(match Try.f86.body with | some c=>AU [] c | none=>false)=true:=by kernel_rfl
theorem bQ:Ar Try.prog [] 86 ⟨53,c86,[]⟩:=Ar.by Try.func86 b86 p86 Try.ntmps86 (by rw[Try.results86]) (by kernel_rfl)
theorem b87:(match Try.f87.body with | some c=>BF c c87 | none=>none)=some c87:=by kernel_rfl
theorem p87:(match Try.f87.body with | some c=>AU [] c | none=>false)=true:=by kernel_rfl
theorem AdQ:Ar Try.prog [] 87 ⟨60,c87,[]⟩:=Ar.by Try.func87 b87 p87 Try.ntmps87 (by rw[Try.results87]) (by kernel_rfl)
theorem b88:(match Try.f88.body with | some c=>BF c c88 | none=>none)=some c88:=by kernel_rfl
theorem p88:(match Try.f88.body with | some c=>AU [] c | none=>false)=true:=by kernel_rfl
theorem AdR:Ar Try.prog [] 88 ⟨67,c88,[]⟩:=Ar.by Try.func88 b88 p88 Try.ntmps88 (by rw[Try.results88]) (by kernel_rfl)
theorem b89:(match Try.f89.body with | some c=>BF c c89 | none=>none)=some c89:=by kernel_rfl
theorem p89:(match Try.f89.body with | some c=>AU [] c | none=>false)=true:=by kernel_rfl
theorem AdS:Ar Try.prog [] 89 ⟨63,c89,[.tmp 8,.tmp 9]⟩:=Ar.by Try.func89 b89 p89 Try.ntmps89 (by rw[Try.results89]) (by kernel_rfl)
theorem b90:(match Try.f90.body with | some c=>BF c c90 | none=>none)=some c90:=by kernel_rfl
theorem p90:(match Try.f90.body with | some c=>AU [] c | none=>false)=true:=by kernel_rfl
theorem AdT:Ar Try.prog [] 90 ⟨34,c90,[]⟩:=Ar.by Try.func90 b90 p90 Try.ntmps90 (by rw[Try.results90]) (by kernel_rfl)
theorem b91:(match Try.f91.body with | some c=>BF c c91 | none=>none)=some c91:=by kernel_rfl
theorem p91:(match Try.f91.body with | some c=>AU [] c | none=>false)=true:=by kernel_rfl
theorem AdU:Ar Try.prog [] 91 ⟨141,c91,[.tmp 8]⟩:=Ar.by Try.func91 b91 p91 Try.ntmps91 (by rw[Try.results91]) (by kernel_rfl)
theorem b92:(match Try.f92.body with | some c=>BF c c92 | none=>none)=some c92:=by kernel_rfl
theorem p92:(match Try.f92.body with | some c=>AU [] c | none=>false)=true:=by kernel_rfl
theorem AdV:Ar Try.prog [] 92 ⟨90,c92,[.tmp 10]⟩:=Ar.by Try.func92 b92 p92 Try.ntmps92 (by rw[Try.results92]) (by kernel_rfl)
theorem b93:(match Try.f93.body with | some c=>BF c c93 | none=>none)=some c93:=by kernel_rfl
theorem p93:(match Try.f93.body with | some c=>AU [] c | none=>false)=true:=by kernel_rfl
theorem AdW:Ar Try.prog [] 93 ⟨178,c93,[.tmp 10,.tmp 11]⟩:=Ar.by Try.func93 b93 p93 Try.ntmps93 (by rw[Try.results93]) (by kernel_rfl)
theorem b94:(match Try.f94.body with | some c=>BF c c94 | none=>none)=some c94:=by kernel_rfl
theorem p94:(match Try.f94.body with | some c=>AU [] c | none=>false)=true:=by kernel_rfl
theorem AdX:Ar Try.prog [] 94 ⟨19,c94,[.tmp 2]⟩:=Ar.by Try.func94 b94 p94 Try.ntmps94 (by rw[Try.results94]) (by kernel_rfl)
theorem b95:(match Try.f95.body with | some c=>BF c c95 | none=>none)=some c95:=by kernel_rfl
theorem p95:(match Try.f95.body with | some c=>AU [] c | none=>false)=true:=by kernel_rfl
theorem bR:Ar Try.prog [] 95 ⟨25,c95,[.tmp 2]⟩:=Ar.by Try.func95 b95 p95 Try.ntmps95 (by rw[Try.results95]) (by kernel_rfl)
theorem b96:(match Try.f96.body with | some c=>BF c c96 | none=>none)=some c96:=by kernel_rfl
theorem p96:(match Try.f96.body with | some c=>AU [] c | none=>false)=true:=by kernel_rfl
theorem bS:Ar Try.prog [] 96 ⟨6,c96,[.tmp 2]⟩:=Ar.by Try.func96 b96 p96 Try.ntmps96 (by rw[Try.results96]) (by kernel_rfl)
theorem b97:(match Try.f97.body with | some c=>BF c c97 | none=>none)=some c97:=by kernel_rfl
theorem p97:(match Try.f97.body with | some c=>AU [] c | none=>false)=true:=by kernel_rfl
theorem bT:Ar Try.prog [] 97 ⟨30,c97,[.cell 8 67]⟩:=Ar.by Try.func97 b97 p97 Try.ntmps97 (by rw[Try.results97]) (by kernel_rfl)
theorem b98:(match Try.f98.body with | some c=>BF c c98 | none=>none)=some c98:=by kernel_rfl
theorem p98:(match Try.f98.body with | some c=>AU [] c | none=>false)=true:=by kernel_rfl
theorem AdY:Ar Try.prog [] 98 ⟨3,c98,[.tmp 2]⟩:=Ar.by Try.func98 b98 p98 Try.ntmps98 (by rw[Try.results98]) (by kernel_rfl)
end Go.Proofs.Ytflonlkiajhhjaa.TpA
set_option maxRecDepth 100000
namespace Go.Proofs.Ytflonlkiajhhjaa.TpA
open Go Go.Sp Go.TpA
theorem b99:(match Try.f99.body with | some c=>BF c UA | none=>none)=some UA:=by kernel_rfl
theorem p99:(match Try.f99.body with | some c=>AU [] c | none=>false)=true:=by kernel_rfl
theorem AdZ:Ar Try.prog [] 99 ⟨53,UA,[.tmp 2]⟩:=Ar.by Try.func99 b99 p99 Try.ntmps99 (by rw[Try.results99]) (by kernel_rfl)
theorem Agv:(match Try.f100.body with | some c=>BF c WZ | none=>none)=some WZ:=by kernel_rfl
theorem Agw:(match Try.f100.body with | some c=>AU [] c | none=>false)=true:=by kernel_rfl
theorem uO:Ar Try.prog [] 100 ⟨5,WZ,[.tmp 2]⟩:=Ar.by Try.func100 Agv Agw Try.ntmps100 (by rw[Try.results100]) (by kernel_rfl)
theorem Agx:(match Try.f101.body with | some c=>BF c W9 | none=>none)=some W9:=by kernel_rfl
theorem Agy:(match Try.f101.body with | some c=>AU [] c | none=>false)=true:=by kernel_rfl
theorem uP:Ar Try.prog [] 101 ⟨115,W9,[.tmp 8]⟩:=Ar.by Try.func101 Agx Agy Try.ntmps101 (by rw[Try.results101]) (by kernel_rfl)
theorem Agz:(match Try.f102.body with | some c=>BF c UZ | none=>none)=some UZ:=by kernel_rfl
theorem AgA:(match Try.f102.body with | some c=>AU [] c | none=>false)=true:=by kernel_rfl
theorem WN:Ar Try.prog [] 102 ⟨32,UZ,[]⟩:=Ar.by Try.func102 Agz AgA Try.ntmps102 (by rw[Try.results102]) (by kernel_rfl)
theorem AgB:(match Try.f103.body with | some c=>BF c Xa | none=>none)=some Xa:=by kernel_rfl
theorem AgC:(match Try.f103.body with | some c=>AU [] c | none=>false)=true:=by kernel_rfl
theorem uQ:Ar Try.prog [] 103 ⟨7,Xa,[.tmp 3]⟩:=Ar.by Try.func103 AgB AgC Try.ntmps103 (by rw[Try.results103]) (by kernel_rfl)
theorem AgD:(match Try.f104.body with | some c=>BF c Xb | none=>none)=some Xb:=by kernel_rfl
theorem AgE:(match Try.f104.body with | some c=>AU [] c | none=>false)=true:=by kernel_rfl
theorem uR:Ar Try.prog [] 104 ⟨13,Xb,[.tmp 4]⟩:=Ar.by Try.func104 AgD AgE Try.ntmps104 (by rw[Try.results104]) (by kernel_rfl)
theorem AgF:(match Try.f106.body with | some c=>BF c Xc | none=>none)=some Xc:=by kernel_rfl
theorem AgG:(match Try.f106.body with | some c=>AU [] c | none=>false)=true:=by kernel_rfl
theorem uS:Ar Try.prog [] 106 ⟨8,Xc,[.tmp 2]⟩:=Ar.by Try.func106 AgF AgG Try.ntmps106 (by rw[Try.results106]) (by kernel_rfl)
theorem AgH:(match Try.f108.body with | some c=>BF c Xd | none=>none)=some Xd:=by kernel_rfl
theorem AgI:(match Try.f108.body with | some c=>AU [] c | none=>false)=true:=by kernel_rfl
theorem uT:Ar Try.prog [] 108 ⟨82,Xd,[]⟩:=Ar.by Try.func108 AgH AgI Try.ntmps108 (by rw[Try.results108]) (by kernel_rfl)
theorem AgJ:(match Try.f109.body with | some c=>BF c Xe | none=>none)=some Xe:=by kernel_rfl
theorem AgK:(match Try.f109.body with | some c=>AU [] c | none=>false)=true:=by kernel_rfl
theorem uU:Ar Try.prog [] 109 ⟨7,Xe,[.tmp 2]⟩:=Ar.by Try.func109 AgJ AgK Try.ntmps109 (by rw[Try.results109]) (by kernel_rfl)
theorem AgL:(match Try.f110.body with | some c=>BF c Xf | none=>none)=some Xf:=by kernel_rfl
theorem AgM:(match Try.f110.body with | some c=>AU [] c | none=>false)=true:=by kernel_rfl
theorem uV:Ar Try.prog [] 110 ⟨33,Xf,[.tmp 2]⟩:=Ar.by Try.func110 AgL AgM Try.ntmps110 (by rw[Try.results110]) (by kernel_rfl)
theorem AgN:(match Try.f111.body with | some c=>BF c XL | none=>none)=some XL:=by kernel_rfl
theorem AgO:(match Try.f111.body with | some c=>AU [] c | none=>false)=true:=by kernel_rfl
theorem uW:Ar Try.prog [] 111 ⟨18,XL,[.tmp 8]⟩:=Ar.by Try.func111 AgN AgO Try.ntmps111 (by rw[Try.results111]) (by kernel_rfl)
theorem AgP:(match Try.f112.body with | some c=>BF c XM | none=>none)=some XM:=by kernel_rfl
theorem AgQ:(match Try.f112.body with | some c=>AU [] c | none=>false)=true:=by kernel_rfl
theorem uX:Ar Try.prog [] 112 ⟨41,XM,[.tmp 12]⟩:=Ar.by Try.func112 AgP AgQ Try.ntmps112 (by rw[Try.results112]) (by kernel_rfl)
theorem AgR:(match Try.f113.body with | some c=>BF c XN | none=>none)=some XN:=by kernel_rfl
theorem AgS:(match Try.f113.body with | some c=>AU [] c | none=>false)=true:=by kernel_rfl
theorem uY:Ar Try.prog [] 113 ⟨29,XN,[]⟩:=Ar.by Try.func113 AgR AgS Try.ntmps113 (by rw[Try.results113]) (by kernel_rfl)
theorem AgT:(match Try.f115.body with | some c=>BF c XO | none=>none)=some XO:=by kernel_rfl
theorem AgU:(match Try.f115.body with | some c=>AU [] c | none=>false)=true:=by kernel_rfl
theorem uZ:Ar Try.prog [] 115 ⟨32,XO,[.tmp 10,.tmp 11]⟩:=Ar.by Try.func115 AgT AgU Try.ntmps115 (by rw[Try.results115]) (by kernel_rfl)
end Go.Proofs.Ytflonlkiajhhjaa.TpA
set_option maxRecDepth 100000
namespace Go.Proofs.Ytflonlkiajhhjaa.TpA
open Go Go.Sp Go.TpA
theorem AgV:Cu Try.prog 3 ti3:=Cu.by Try.underlying3 (inf:=Try.t3) (by kernel_rfl) (by kernel_rfl) (by kernel_rfl) (by kernel_rfl) (by kernel_rfl) (fun h=>by cases h)
theorem AgW:Cu Try.prog 4 ti4:=Cu.by Try.underlying4 (inf:=Try.t4) (by kernel_rfl) (by kernel_rfl) (by kernel_rfl) (by kernel_rfl) (by kernel_rfl) (fun h=>by cases h)
theorem AgX:Cu Try.prog 5 ti5:=Cu.by Try.underlying5 (inf:=Try.t5) (by kernel_rfl) (by kernel_rfl) (by kernel_rfl) (by kernel_rfl) (by kernel_rfl) (fun h=>by cases h)
theorem AgY:Cu Try.prog 9 ti9:=Cu.by Try.underlying9 (inf:=Try.t9) (by kernel_rfl) (by kernel_rfl) (by kernel_rfl) (by kernel_rfl) (by kernel_rfl) (fun h=>by cases h)
theorem Ad0:Cu Try.prog 22 AbS:=Cu.by Try.underlying22 (inf:=Try.t22) (by kernel_rfl) (by kernel_rfl) (by kernel_rfl) (by kernel_rfl) (by kernel_rfl) (fun _=>⟨_,rfl,Fl.ok (d:=8) (⟨by kernel_rfl,.inr (.inr (.inr (.inl ⟨4,5,[(.int .u8 0)],Try.underlying22,⟨by kernel_rfl,.inl ⟨⟨_,Try.underlying5⟩,_,_,rfl⟩⟩,by kernel_rfl⟩)))⟩) (by decide) ⟨_,Try.underlying22,rfl⟩ (by kernel_rfl)⟩)
theorem Ad1:Cu Try.prog 23 Ab0:=Cu.by Try.underlying23 (inf:=Try.t23) (by kernel_rfl) (by kernel_rfl) (by kernel_rfl) (by kernel_rfl) (by kernel_rfl) (fun h=>by cases h)
theorem Ad2:Cu Try.prog 26 Ab4:=Cu.by Try.underlying26 (inf:=Try.t26) (by kernel_rfl) (by kernel_rfl) (by kernel_rfl) (by kernel_rfl) (by kernel_rfl) (fun h=>by cases h)
theorem Ad3:Cu Try.prog 27 Ab8:=Cu.by Try.underlying27 (inf:=Try.t27) (by kernel_rfl) (by kernel_rfl) (by kernel_rfl) (by kernel_rfl) (by kernel_rfl) (fun h=>by cases h)
theorem Ad4:Cu Try.prog 28 Ab9:=Cu.by Try.underlying28 (inf:=Try.t28) (by kernel_rfl) (by kernel_rfl) (by kernel_rfl) (by kernel_rfl) (by kernel_rfl) (fun h=>by cases h)
theorem Ad5:Cu Try.prog 38 Aca:=Cu.by Try.underlying38 (inf:=Try.t38) (by kernel_rfl) (by kernel_rfl) (by kernel_rfl) (by kernel_rfl) (by kernel_rfl) (fun _=>⟨_,rfl,Fl.ok (d:=8) (⟨by kernel_rfl,.inr (.inr (.inr (.inr ⟨_,Try.underlying38,by kernel_rfl,⟨by decide,rfl,[(.int .i64 0)],[(.int .i64 0),(.int .i64 0),(.int .i64 0)],rfl,⟨by kernel_rfl,.inl ⟨⟨_,Try.underlying3⟩,_,_,rfl⟩⟩,⟨by decide,rfl,[(.int .i64 0)],[(.int .i64 0),(.int .i64 0)],rfl,⟨by kernel_rfl,.inl ⟨⟨_,Try.underlying3⟩,_,_,rfl⟩⟩,⟨by decide,rfl,[(.int .i64 0)],[(.int .i64 0)],rfl,⟨by kernel_rfl,.inl ⟨⟨_,Try.underlying3⟩,_,_,rfl⟩⟩,⟨by decide,rfl,[(.int .i64 0)],[],rfl,⟨by kernel_rfl,.inl ⟨⟨_,Try.underlying3⟩,_,_,rfl⟩⟩,rfl⟩⟩⟩⟩⟩)))⟩) (by decide) ⟨_,Try.underlying38,rfl⟩ (by kernel_rfl)⟩)
theorem Ad6:Cu Try.prog 46 Acb:=Cu.by Try.underlying46 (inf:=Try.t46) (by kernel_rfl) (by kernel_rfl) (by kernel_rfl) (by kernel_rfl) (by kernel_rfl) (fun _=>⟨_,rfl,Fl.ok (d:=8) (⟨by kernel_rfl,.inr (.inr (.inr (.inr ⟨_,Try.underlying46,by kernel_rfl,⟨by decide,rfl,[(.int .i64 0)],[(.int .i64 0),(.bool false)],rfl,⟨by kernel_rfl,.inl ⟨⟨_,Try.underlying3⟩,_,_,rfl⟩⟩,⟨by decide,rfl,[(.int .i64 0)],[(.bool false)],rfl,⟨by kernel_rfl,.inl ⟨⟨_,Try.underlying3⟩,_,_,rfl⟩⟩,⟨by decide,rfl,[(.bool false)],[],rfl,⟨by kernel_rfl,.inr (.inl ⟨Try.underlying4,_,rfl⟩)⟩,rfl⟩⟩⟩⟩)))⟩) (by decide) ⟨_,Try.underlying46,rfl⟩ (by kernel_rfl)⟩)
theorem Ad7:Cu Try.prog 50 Acc:=Cu.by Try.underlying50 (inf:=Try.t50) (by kernel_rfl) (by kernel_rfl) (by kernel_rfl) (by kernel_rfl) (by kernel_rfl) (fun h=>by cases h)
theorem Ad8:Cu Try.prog 54 Acd:=Cu.by Try.underlying54 (inf:=Try.t54) (by kernel_rfl) (by kernel_rfl) (by kernel_rfl) (by kernel_rfl) (by kernel_rfl) (fun h=>by cases h)
theorem Ad9:Cu Try.prog 59 Ace:=Cu.by Try.underlying59 (inf:=Try.t59) (by kernel_rfl) (by kernel_rfl) (by kernel_rfl) (by kernel_rfl) (by kernel_rfl) (fun h=>by cases h)
theorem Aea:Cu Try.prog 60 Acf:=Cu.by Try.underlying60 (inf:=Try.t60) (by kernel_rfl) (by kernel_rfl) (by kernel_rfl) (by kernel_rfl) (by kernel_rfl) (fun h=>by cases h)
theorem Aeb:Cu Try.prog 64 Acg:=Cu.by Try.underlying64 (inf:=Try.t64) (by kernel_rfl) (by kernel_rfl) (by kernel_rfl) (by kernel_rfl) (by kernel_rfl) (fun h=>by cases h)
theorem Aec:Cu Try.prog 67 Ach:=Cu.by Try.underlying67 (inf:=Try.t67) (by kernel_rfl) (by kernel_rfl) (by kernel_rfl) (by kernel_rfl) (by kernel_rfl) (fun _=>⟨_,rfl,Fl.ok (d:=8) (⟨by kernel_rfl,.inr (.inr (.inr (.inr ⟨_,Try.underlying67,by kernel_rfl,⟨by decide,rfl,[(.int .i64 0)],[(.int .i64 0),(.int .i64 0),(.int .i64 0)],rfl,⟨by kernel_rfl,.inl ⟨⟨_,Try.underlying3⟩,_,_,rfl⟩⟩,⟨by decide,rfl,[(.int .i64 0)],[(.int .i64 0),(.int .i64 0)],rfl,⟨by kernel_rfl,.inl ⟨⟨_,Try.underlying3⟩,_,_,rfl⟩⟩,⟨by decide,rfl,[(.int .i64 0)],[(.int .i64 0)],rfl,⟨by kernel_rfl,.inl ⟨⟨_,Try.underlying3⟩,_,_,rfl⟩⟩,⟨by decide,rfl,[(.int .i64 0)],[],rfl,⟨by kernel_rfl,.inl ⟨⟨_,Try.underlying3⟩,_,_,rfl⟩⟩,rfl⟩⟩⟩⟩⟩)))⟩) (by decide) ⟨_,Try.underlying67,rfl⟩ (by kernel_rfl)⟩)
theorem Aed:Cu Try.prog 70 Aci:=Cu.by Try.underlying70 (inf:=Try.t70) (by kernel_rfl) (by kernel_rfl) (by kernel_rfl) (by kernel_rfl) (by kernel_rfl) (fun h=>by cases h)
theorem Aee:Cu Try.prog 71 Acj:=Cu.by Try.underlying71 (inf:=Try.t71) (by kernel_rfl) (by kernel_rfl) (by kernel_rfl) (by kernel_rfl) (by kernel_rfl) (fun h=>by cases h)
theorem Aef:Cu Try.prog 72 Ack:=Cu.by Try.underlying72 (inf:=Try.t72) (by kernel_rfl) (by kernel_rfl) (by kernel_rfl) (by kernel_rfl) (by kernel_rfl) (fun _=>⟨_,rfl,Fl.ok (d:=8) (⟨by kernel_rfl,.inr (.inr (.inr (.inl ⟨2,71,[(.int .u64 0)],Try.underlying72,⟨by kernel_rfl,.inl ⟨⟨_,Try.underlying71⟩,_,_,rfl⟩⟩,by kernel_rfl⟩)))⟩) (by decide) ⟨_,Try.underlying72,rfl⟩ (by kernel_rfl)⟩)
theorem Aeg:Cu Try.prog 74 Acl:=Cu.by Try.underlying74 (inf:=Try.t74) (by kernel_rfl) (by kernel_rfl) (by kernel_rfl) (by kernel_rfl) (by kernel_rfl) (fun _=>⟨_,rfl,Fl.ok (d:=8) (⟨by kernel_rfl,.inr (.inr (.inr (.inr ⟨_,Try.underlying74,by kernel_rfl,⟨by decide,rfl,[(.int .i64 0),(.int .i64 0),(.int .i64 0),(.int .i64 0)],[(.int .u64 0),(.int .u64 0),(.int .u64 0)],rfl,⟨by kernel_rfl,.inr (.inr (.inr (.inr ⟨_,Try.underlying38,by kernel_rfl,⟨by decide,rfl,[(.int .i64 0)],[(.int .i64 0),(.int .i64 0),(.int .i64 0)],rfl,⟨by kernel_rfl,.inl ⟨⟨_,Try.underlying3⟩,_,_,rfl⟩⟩,⟨by decide,rfl,[(.int .i64 0)],[(.int .i64 0),(.int .i64 0)],rfl,⟨by kernel_rfl,.inl ⟨⟨_,Try.underlying3⟩,_,_,rfl⟩⟩,⟨by decide,rfl,[(.int .i64 0)],[(.int .i64 0)],rfl,⟨by kernel_rfl,.inl ⟨⟨_,Try.underlying3⟩,_,_,rfl⟩⟩,⟨by decide,rfl,[(.int .i64 0)],[],rfl,⟨by kernel_rfl,.inl ⟨⟨_,Try.underlying3⟩,_,_,rfl⟩⟩,rfl⟩⟩⟩⟩⟩)))⟩,⟨by decide,rfl,[(.int .u64 0),(.int .u64 0)],[(.int .u64 0)],rfl,⟨by kernel_rfl,.inr (.inr (.inr (.inl ⟨2,71,[(.int .u64 0)],Try.underlying72,⟨by kernel_rfl,.inl ⟨⟨_,Try.underlying71⟩,_,_,rfl⟩⟩,by kernel_rfl⟩)))⟩,⟨by decide,rfl,[(.int .u64 0)],[],rfl,⟨by kernel_rfl,.inl ⟨⟨_,Try.underlying71⟩,_,_,rfl⟩⟩,rfl⟩⟩⟩⟩)))⟩) (by decide) ⟨_,Try.underlying74,rfl⟩ (by kernel_rfl)⟩)
theorem Aeh:Cu Try.prog 77 Acm:=Cu.by Try.underlying77 (inf:=Try.t77) (by kernel_rfl) (by kernel_rfl) (by kernel_rfl) (by kernel_rfl) (by kernel_rfl) (fun h=>by cases h)
theorem Aei:Cu Try.prog 79 Acn:=Cu.by Try.underlying79 (inf:=Try.t79) (by kernel_rfl) (by kernel_rfl) (by kernel_rfl) (by kernel_rfl) (by kernel_rfl) (fun h=>by cases h)
theorem Aej:Cu Try.prog 82 Aco:=Cu.by Try.underlying82 (inf:=Try.t82) (by kernel_rfl) (by kernel_rfl) (by kernel_rfl) (by kernel_rfl) (by kernel_rfl) (fun h=>by cases h)
theorem Aek:Cu Try.prog 84 Acp:=Cu.by Try.underlying84 (inf:=Try.t84) (by kernel_rfl) (by kernel_rfl) (by kernel_rfl) (by kernel_rfl) (by kernel_rfl) (fun h=>by cases h)
theorem Ael:Cu Try.prog 89 Acr:=Cu.by Try.underlying89 (inf:=Try.t89) (by kernel_rfl) (by kernel_rfl) (by kernel_rfl) (by kernel_rfl) (by kernel_rfl) (fun _=>⟨_,rfl,Fl.ok (d:=8) (⟨by kernel_rfl,.inr (.inr (.inr (.inr ⟨_,Try.underlying89,by kernel_rfl,⟨by decide,rfl,[(.int .i64 0)],[(.int .i64 0),(.int .i64 0),(.int .i64 0)],rfl,⟨by kernel_rfl,.inl ⟨⟨_,Try.underlying3⟩,_,_,rfl⟩⟩,⟨by decide,rfl,[(.int .i64 0)],[(.int .i64 0),(.int .i64 0)],rfl,⟨by kernel_rfl,.inl ⟨⟨_,Try.underlying3⟩,_,_,rfl⟩⟩,⟨by decide,rfl,[(.int .i64 0)],[(.int .i64 0)],rfl,⟨by kernel_rfl,.inl ⟨⟨_,Try.underlying3⟩,_,_,rfl⟩⟩,⟨by decide,rfl,[(.int .i64 0)],[],rfl,⟨by kernel_rfl,.inl ⟨⟨_,Try.underlying3⟩,_,_,rfl⟩⟩,rfl⟩⟩⟩⟩⟩)))⟩) (by decide) ⟨_,Try.underlying89,rfl⟩ (by kernel_rfl)⟩)
theorem Aem:Cu Try.prog 90 Acs:=Cu.by Try.underlying90 (inf:=Try.t90) (by kernel_rfl) (by kernel_rfl) (by kernel_rfl) (by kernel_rfl) (by kernel_rfl) (fun h=>by cases h)
theorem Aen:Cu Try.prog 92 Acu:=Cu.by Try.underlying92 (inf:=Try.t92) (by kernel_rfl) (by kernel_rfl) (by kernel_rfl) (by kernel_rfl) (by kernel_rfl) (fun h=>by cases h)
theorem vB:Cu Try.prog 104 Yl:=Cu.by Try.underlying104 (inf:=Try.t104) (by kernel_rfl) (by kernel_rfl) (by kernel_rfl) (by kernel_rfl) (by kernel_rfl) (fun h=>by cases h)
theorem vC:Cu Try.prog 113 Ym:=Cu.by Try.underlying113 (inf:=Try.t113) (by kernel_rfl) (by kernel_rfl) (by kernel_rfl) (by kernel_rfl) (by kernel_rfl) (fun h=>by cases h)
theorem vD:Cu Try.prog 115 Yn:=Cu.by Try.underlying115 (inf:=Try.t115) (by kernel_rfl) (by kernel_rfl) (by kernel_rfl) (by kernel_rfl) (by kernel_rfl) (fun h=>by cases h)
theorem vE:Cu Try.prog 116 Yo:=Cu.by Try.underlying116 (inf:=Try.t116) (by kernel_rfl) (by kernel_rfl) (by kernel_rfl) (by kernel_rfl) (by kernel_rfl) (fun h=>by cases h)
theorem vF:Cu Try.prog 122 Yp:=Cu.by Try.underlying122 (inf:=Try.t122) (by kernel_rfl) (by kernel_rfl) (by kernel_rfl) (by kernel_rfl) (by kernel_rfl) (fun _=>⟨_,rfl,Fl.ok (d:=8) (⟨by kernel_rfl,.inr (.inr (.inr (.inr ⟨_,Try.underlying122,by kernel_rfl,⟨by decide,rfl,[(.int .i64 0)],[(.bool false)],rfl,⟨by kernel_rfl,.inl ⟨⟨_,Try.underlying3⟩,_,_,rfl⟩⟩,⟨by decide,rfl,[(.bool false)],[],rfl,⟨by kernel_rfl,.inr (.inl ⟨Try.underlying4,_,rfl⟩)⟩,rfl⟩⟩⟩)))⟩) (by decide) ⟨_,Try.underlying122,rfl⟩ (by kernel_rfl)⟩)
theorem vG:Cu Try.prog 128 Yq:=Cu.by Try.underlying128 (inf:=Try.t128) (by kernel_rfl) (by kernel_rfl) (by kernel_rfl) (by kernel_rfl) (by kernel_rfl) (fun h=>by cases h)
theorem vH:Cu Try.prog 133 Yr:=Cu.by Try.underlying133 (inf:=Try.t133) (by kernel_rfl) (by kernel_rfl) (by kernel_rfl) (by kernel_rfl) (by kernel_rfl) (fun _=>⟨_,rfl,Fl.ok (d:=8) (⟨by kernel_rfl,.inr (.inr (.inr (.inr ⟨_,Try.underlying133,by kernel_rfl,⟨by decide,rfl,[(.int .i64 0),(.int .i64 0),(.int .i64 0),(.int .i64 0)],[(.int .i64 0)],rfl,⟨by kernel_rfl,.inr (.inr (.inr (.inr ⟨_,Try.underlying67,by kernel_rfl,⟨by decide,rfl,[(.int .i64 0)],[(.int .i64 0),(.int .i64 0),(.int .i64 0)],rfl,⟨by kernel_rfl,.inl ⟨⟨_,Try.underlying3⟩,_,_,rfl⟩⟩,⟨by decide,rfl,[(.int .i64 0)],[(.int .i64 0),(.int .i64 0)],rfl,⟨by kernel_rfl,.inl ⟨⟨_,Try.underlying3⟩,_,_,rfl⟩⟩,⟨by decide,rfl,[(.int .i64 0)],[(.int .i64 0)],rfl,⟨by kernel_rfl,.inl ⟨⟨_,Try.underlying3⟩,_,_,rfl⟩⟩,⟨by decide,rfl,[(.int .i64 0)],[],rfl,⟨by kernel_rfl,.inl ⟨⟨_,Try.underlying3⟩,_,_,rfl⟩⟩,rfl⟩⟩⟩⟩⟩)))⟩,⟨by decide,rfl,[(.int .i64 0)],[],rfl,⟨by kernel_rfl,.inl ⟨⟨_,Try.underlying3⟩,_,_,rfl⟩⟩,rfl⟩⟩⟩)))⟩) (by decide) ⟨_,Try.underlying133,rfl⟩ (by kernel_rfl)⟩)
theorem vI:Cu Try.prog 134 Yt:=Cu.by Try.underlying134 (inf:=Try.t134) (by kernel_rfl) (by kernel_rfl) (by kernel_rfl) (by kernel_rfl) (by kernel_rfl) (fun _=>⟨_,rfl,Fl.ok (d:=8) (⟨by kernel_rfl,.inr (.inr (.inr (.inl ⟨17,3,[(.int .i64 0)],Try.underlying134,⟨by kernel_rfl,.inl ⟨⟨_,Try.underlying3⟩,_,_,rfl⟩⟩,by kernel_rfl⟩)))⟩) (by decide) ⟨_,Try.underlying134,rfl⟩ (by kernel_rfl)⟩)
theorem vJ:Cu Try.prog 139 Yu:=Cu.by Try.underlying139 (inf:=Try.t139) (by kernel_rfl) (by kernel_rfl) (by kernel_rfl) (by kernel_rfl) (by kernel_rfl) (fun h=>by cases h)
theorem vK:Cu Try.prog 145 Yv:=Cu.by Try.underlying145 (inf:=Try.t145) (by kernel_rfl) (by kernel_rfl) (by kernel_rfl) (by kernel_rfl) (by kernel_rfl) (fun h=>by cases h)
theorem vL:Cu Try.prog 152 Yw:=Cu.by Try.underlying152 (inf:=Try.t152) (by kernel_rfl) (by kernel_rfl) (by kernel_rfl) (by kernel_rfl) (by kernel_rfl) (fun h=>by cases h)
theorem vM:Cu Try.prog 156 Yy:=Cu.by Try.underlying156 (inf:=Try.t156) (by kernel_rfl) (by kernel_rfl) (by kernel_rfl) (by kernel_rfl) (by kernel_rfl) (fun h=>by cases h)
theorem vN:Cu Try.prog 163 Yz:=Cu.by Try.underlying163 (inf:=Try.t163) (by kernel_rfl) (by kernel_rfl) (by kernel_rfl) (by kernel_rfl) (by kernel_rfl) (fun h=>by cases h)
theorem vO:Cu Try.prog 167 YA:=Cu.by Try.underlying167 (inf:=Try.t167) (by kernel_rfl) (by kernel_rfl) (by kernel_rfl) (by kernel_rfl) (by kernel_rfl) (fun h=>by cases h)
theorem vP:Cu Try.prog 170 YB:=Cu.by Try.underlying170 (inf:=Try.t170) (by kernel_rfl) (by kernel_rfl) (by kernel_rfl) (by kernel_rfl) (by kernel_rfl) (fun _=>⟨_,rfl,Fl.ok (d:=8) (⟨by kernel_rfl,.inr (.inr (.inr (.inr ⟨_,Try.underlying170,by kernel_rfl,⟨by decide,rfl,[(.int .i64 0)],[(.int .i64 0),(.bool false)],rfl,⟨by kernel_rfl,.inl ⟨⟨_,Try.underlying3⟩,_,_,rfl⟩⟩,⟨by decide,rfl,[(.int .i64 0)],[(.bool false)],rfl,⟨by kernel_rfl,.inl ⟨⟨_,Try.underlying3⟩,_,_,rfl⟩⟩,⟨by decide,rfl,[(.bool false)],[],rfl,⟨by kernel_rfl,.inr (.inl ⟨Try.underlying4,_,rfl⟩)⟩,rfl⟩⟩⟩⟩)))⟩) (by decide) ⟨_,Try.underlying170,rfl⟩ (by kernel_rfl)⟩)
theorem vQ:Cu Try.prog 171 YC:=Cu.by Try.underlying171 (inf:=Try.t171) (by kernel_rfl) (by kernel_rfl) (by kernel_rfl) (by kernel_rfl) (by kernel_rfl) (fun h=>by cases h)
theorem FD:Jm Try.prog tt:=Jm.of_all (t:=Acv) ⟨trivial,⟨trivial,⟨AgV,⟨trivial,⟨trivial,trivial,⟨trivial,⟨Aei,trivial,trivial⟩,trivial⟩⟩,⟨Ad1,⟨trivial,⟨Aee,trivial,trivial⟩,⟨trivial,⟨vO,trivial,trivial⟩,trivial⟩⟩,trivial⟩⟩,⟨trivial,⟨trivial,⟨trivial,⟨Aec,trivial,trivial⟩,⟨trivial,⟨vN,trivial,trivial⟩,trivial⟩⟩,⟨trivial,trivial,⟨vD,trivial,trivial⟩⟩⟩,⟨Ad3,⟨trivial,⟨trivial,⟨vJ,trivial,trivial⟩,trivial⟩,⟨trivial,⟨vQ,trivial,trivial⟩,trivial⟩⟩,⟨Ad9,trivial,trivial⟩⟩⟩⟩,⟨AgX,⟨AgY,⟨trivial,trivial,⟨trivial,⟨trivial,⟨vK,trivial,trivial⟩,trivial⟩,⟨vC,trivial,trivial⟩⟩⟩,⟨trivial,trivial,⟨trivial,⟨Ael,trivial,trivial⟩,trivial⟩⟩⟩,⟨trivial,⟨trivial,⟨trivial,⟨trivial,⟨vH,trivial,trivial⟩,trivial⟩,trivial⟩,trivial⟩,⟨trivial,⟨trivial,⟨Aeh,trivial,trivial⟩,trivial⟩,trivial⟩⟩⟩⟩,⟨trivial,⟨AgW,⟨trivial,⟨trivial,⟨trivial,⟨Aeb,⟨vG,trivial,trivial⟩,trivial⟩,trivial⟩,trivial⟩,⟨trivial,⟨trivial,⟨Aef,trivial,trivial⟩,⟨vB,trivial,trivial⟩⟩,⟨trivial,⟨trivial,⟨vL,trivial,trivial⟩,trivial⟩,trivial⟩⟩⟩,⟨trivial,⟨trivial,trivial,⟨trivial,⟨Aek,trivial,trivial⟩,⟨vE,trivial,trivial⟩⟩⟩,⟨Ad4,trivial,⟨Aea,⟨Aen,⟨vM,trivial,trivial⟩,trivial⟩,trivial⟩⟩⟩⟩,⟨trivial,⟨trivial,⟨trivial,trivial,⟨Ad7,⟨Aej,trivial,trivial⟩,trivial⟩⟩,⟨Ad2,⟨trivial,⟨Aeg,trivial,trivial⟩,⟨trivial,⟨vP,trivial,trivial⟩,trivial⟩⟩,⟨trivial,⟨Aem,trivial,trivial⟩,⟨vF,trivial,trivial⟩⟩⟩⟩,⟨trivial,⟨Ad0,⟨Ad5,⟨Aed,⟨vI,trivial,trivial⟩,trivial⟩,trivial⟩,⟨Ad8,trivial,trivial⟩⟩,⟨trivial,⟨Ad6,trivial,trivial⟩,trivial⟩⟩⟩⟩⟩
theorem Aeo:Acw.All (Ar Try.prog []):=⟨trivial,⟨trivial,⟨Adm,⟨Adp,⟨trivial,⟨Adw,⟨ZN,trivial,trivial⟩,⟨bR,trivial,trivial⟩⟩,⟨ZH,⟨AdM,trivial,trivial⟩,⟨uW,trivial,trivial⟩⟩⟩,⟨Zx,⟨Adz,⟨bM,trivial,trivial⟩,⟨uQ,trivial,trivial⟩⟩,⟨AdD,⟨AdQ,trivial,trivial⟩,trivial⟩⟩⟩,⟨trivial,⟨Zt,⟨trivial,⟨ZR,trivial,trivial⟩,⟨AdZ,trivial,trivial⟩⟩,⟨ZL,⟨AdO,trivial,trivial⟩,⟨uZ,trivial,trivial⟩⟩⟩,⟨Adt,⟨ZC,⟨AdI,trivial,trivial⟩,trivial⟩,⟨AdH,⟨AdU,trivial,trivial⟩,trivial⟩⟩⟩⟩,⟨Adn,⟨uN,⟨Adr,⟨trivial,⟨ZP,trivial,trivial⟩,⟨bT,trivial,trivial⟩⟩,⟨ZJ,trivial,⟨uY,trivial,trivial⟩⟩⟩,⟨Ads,⟨trivial,⟨bO,trivial,trivial⟩,trivial⟩,⟨AdF,⟨AdS,trivial,trivial⟩,trivial⟩⟩⟩,⟨trivial,⟨Zv,⟨ZA,⟨bI,trivial,trivial⟩,⟨uP,trivial,trivial⟩⟩,⟨AdB,trivial,trivial⟩⟩,⟨trivial,⟨ZF,⟨AdK,trivial,trivial⟩,⟨uU,trivial,trivial⟩⟩,⟨trivial,⟨AdW,trivial,trivial⟩,trivial⟩⟩⟩⟩⟩,⟨trivial,⟨trivial,⟨Adq,⟨trivial,⟨trivial,⟨ZO,trivial,trivial⟩,⟨bS,trivial,trivial⟩⟩,⟨ZI,⟨AdN,trivial,trivial⟩,⟨uX,trivial,trivial⟩⟩⟩,⟨Zy,⟨trivial,⟨bN,trivial,trivial⟩,⟨uR,trivial,trivial⟩⟩,⟨AdE,⟨AdR,trivial,trivial⟩,trivial⟩⟩⟩,⟨trivial,⟨Zu,⟨trivial,⟨ZT,trivial,trivial⟩,⟨uO,trivial,trivial⟩⟩,⟨AdA,⟨AdP,trivial,trivial⟩,trivial⟩⟩,⟨Adu,⟨ZE,⟨AdJ,trivial,trivial⟩,⟨uT,trivial,trivial⟩⟩,⟨trivial,⟨AdV,trivial,trivial⟩,trivial⟩⟩⟩⟩,⟨Ado,⟨trivial,⟨trivial,⟨Adx,⟨ZQ,trivial,trivial⟩,⟨AdY,trivial,trivial⟩⟩,⟨ZK,trivial,trivial⟩⟩,⟨Zz,⟨ZB,⟨bP,trivial,trivial⟩,⟨uS,trivial,trivial⟩⟩,⟨AdG,⟨AdT,trivial,trivial⟩,trivial⟩⟩⟩,⟨trivial,⟨Zw,⟨Ady,⟨bJ,trivial,trivial⟩,⟨WN,trivial,trivial⟩⟩,⟨AdC,⟨bQ,trivial,trivial⟩,trivial⟩⟩,⟨Adv,⟨ZG,⟨AdL,trivial,trivial⟩,⟨uV,trivial,trivial⟩⟩,⟨ZM,⟨AdX,trivial,trivial⟩,trivial⟩⟩⟩⟩⟩⟩
theorem QS (f:FuncId) (r:Xq) (h:HV f=some r):Ar Try.prog [] f r:=Aeo.get h
end Go.Proofs.Ytflonlkiajhhjaa.TpA
set_option maxRecDepth 100000
namespace Go.Proofs.Ytflonlkiajhhjaa.TpA
open Go Go.Sp Go.TpAM Go.TpA
noncomputable section
theorem fk3:Ar Try.prog (List.range tabs.length) 3 ⟨103,R7,[.tmp 2]⟩:=by
 have h:c3=R7:=by kernel_rfl
 rw[←h];exact Adm
theorem fk6:Ar Try.prog (List.range tabs.length) 6 ⟨21,R8,[.tmp 4,.tmp 5]⟩:=by
 have h:c6=R8:=by kernel_rfl
 rw[←h];exact Ado
theorem fk7:Ar Try.prog (List.range tabs.length) 7 ⟨43,R9,[.tmp 4,.tmp 5]⟩:=by
 have h:c7=R9:=by kernel_rfl
 rw[←h];exact Adp
theorem fk8:Ar Try.prog (List.range tabs.length) 8 ⟨18,Sa,[.tmp 2,.tmp 3]⟩:=by
 have h:c8=Sa:=by kernel_rfl
 rw[←h];exact Adq
theorem Aep:Ar Try.prog (List.range tabs.length) 19 ⟨33,Pe,[.tmp 4,.tmp 5]⟩:=by
 have h:c19=Pe:=by kernel_rfl
 rw[←h];exact Zt
theorem Aeq:Ar Try.prog (List.range tabs.length) 20 ⟨28,Pf,[.tmp 4]⟩:=by
 have h:c20=Pf:=by kernel_rfl
 rw[←h];exact Zu
theorem Aer:Ar Try.prog (List.range tabs.length) 21 ⟨38,Pg,[.tmp 6]⟩:=by
 have h:c21=Pg:=by kernel_rfl
 rw[←h];exact Zv
theorem Aes:Ar Try.prog (List.range tabs.length) 22 ⟨18,Ph,[.tmp 2]⟩:=by
 have h:c22=Ph:=by kernel_rfl
 rw[←h];exact Zw
theorem Aet:Ar Try.prog (List.range tabs.length) 24 ⟨39,Pi,[.cell 2 67]⟩:=by
 have h:c24=Pi:=by kernel_rfl
 rw[←h];exact Zy
theorem Aeu:Ar Try.prog (List.range tabs.length) 37 ⟨35,Pj,[.tmp 6]⟩:=by
 have h:c37=Pj:=by kernel_rfl
 rw[←h];exact ZA
theorem Aev:Ar Try.prog (List.range tabs.length) 42 ⟨110,Pk,[.tmp 2,.tmp 3]⟩:=by
 have h:c42=Pk:=by kernel_rfl
 rw[←h];exact ZB
theorem Aew:Ar Try.prog (List.range tabs.length) 43 ⟨34,Pm,[.tmp 4]⟩:=by
 have h:c43=Pm:=by kernel_rfl
 rw[←h];exact ZC
theorem Aey:Ar Try.prog (List.range tabs.length) 45 ⟨36,Pn,[.tmp 4]⟩:=by
 have h:c45=Pn:=by kernel_rfl
 rw[←h];exact ZF
theorem Aez:Ar Try.prog (List.range tabs.length) 47 ⟨26,Po,[.tmp 4]⟩:=by
 have h:c47=Po:=by kernel_rfl
 rw[←h];exact ZH
theorem AeA:Ar Try.prog (List.range tabs.length) 49 ⟨9,Sb,[.tmp 2]⟩:=by
 have h:c49=Sb:=by kernel_rfl
 rw[←h];exact ZJ
theorem AeB:Ar Try.prog (List.range tabs.length) 50 ⟨25,Pp,[.tmp 2]⟩:=by
 have h:c50=Pp:=by kernel_rfl
 rw[←h];exact ZK
theorem AeC:Ar Try.prog (List.range tabs.length) 62 ⟨15,Sc,[.tmp 6]⟩:=by
 have h:c62=Sc:=by kernel_rfl
 rw[←h];exact ZM
theorem AeD:Ar Try.prog (List.range tabs.length) 63 ⟨18,Pq,[.cell 2 122]⟩:=by
 have h:c63=Pq:=by kernel_rfl
 rw[←h];exact ZN
theorem AeE:Ar Try.prog (List.range tabs.length) 65 ⟨22,Sd,[.cell 4 122]⟩:=by
 have h:c65=Sd:=by kernel_rfl
 rw[←h];exact ZP
theorem AeF:Ar Try.prog (List.range tabs.length) 66 ⟨22,Ps,[.tmp 2]⟩:=by
 have h:c66=Ps:=by kernel_rfl
 rw[←h];exact ZQ
theorem AeG:Ar Try.prog (List.range tabs.length) 67 ⟨25,Pt,[.tmp 2]⟩:=by
 have h:c67=Pt:=by kernel_rfl
 rw[←h];exact ZR
theorem AeH:Ar Try.prog (List.range tabs.length) 69 ⟨8,Sg,[.tmp 2]⟩:=by
 have h:c69=Sg:=by kernel_rfl
 rw[←h];exact bI
theorem AeI:Ar Try.prog (List.range tabs.length) 70 ⟨20,PI,[.tmp 4]⟩:=by
 have h:c70=PI:=by kernel_rfl
 rw[←h];exact bJ
theorem AeJ:Ar Try.prog (List.range tabs.length) 72 ⟨12,Si,[.tmp 2]⟩:=by
 have h:c72=Si:=by kernel_rfl
 rw[←h];exact bN
theorem AeK:Ar Try.prog (List.range tabs.length) 73 ⟨11,PK,[.tmp 2]⟩:=by
 have h:c73=PK:=by kernel_rfl
 rw[←h];exact bO
theorem AeL:Ar Try.prog (List.range tabs.length) 95 ⟨25,PL,[.tmp 2]⟩:=by
 have h:c95=PL:=by kernel_rfl
 rw[←h];exact bR
theorem AeM:Ar Try.prog (List.range tabs.length) 96 ⟨6,Sj,[.tmp 2]⟩:=by
 have h:c96=Sj:=by kernel_rfl
 rw[←h];exact bS
theorem AeN:Ar Try.prog (List.range tabs.length) 97 ⟨30,Sk,[.cell 8 67]⟩:=by
 have h:c97=Sk:=by kernel_rfl
 rw[←h];exact bT
theorem fk5:Ar Try.prog (List.range tabs.length) 5 ⟨4,UU,[.tmp 2]⟩:=by
 have h:c5=UU:=by kernel_rfl
 rw[←h];exact Adn
theorem AeO:Ar Try.prog (List.range tabs.length) 23 ⟨15,K9,[.tmp 4]⟩:=by
 have h:c23=K9:=by kernel_rfl
 rw[←h];exact Zx
theorem AeP:Ar Try.prog (List.range tabs.length) 51 ⟨44,LJ,[.tmp 6]⟩:=by
 have h:c51=LJ:=by kernel_rfl
 rw[←h];exact ZL
theorem AeQ:Ar Try.prog (List.range tabs.length) 74 ⟨137,LK,[.tmp 6]⟩:=by
 have h:c74=LK:=by kernel_rfl
 rw[←h];exact bP
theorem AeR:Ar Try.prog (List.range tabs.length) 44 ⟨14,Qv,[]⟩:=by
 have h:c44=Qv:=by kernel_rfl
 rw[←h];exact ZE
theorem AeS:Ar Try.prog (List.range tabs.length) 68 ⟨148,LM,[]⟩:=by
 have h:c68=LM:=by kernel_rfl
 rw[←h];exact ZT
theorem AeT:Ar Try.prog (List.range tabs.length) 86 ⟨53,LQ,[]⟩:=by
 have h:c86=LQ:=by kernel_rfl
 rw[←h];exact bQ
theorem AeU:Ar Try.prog (List.range tabs.length) 46 ⟨66,LU,[.tmp 4]⟩:=by
 have h:c46=LU:=by kernel_rfl
 rw[←h];exact ZG
theorem AeV:Ar Try.prog (List.range tabs.length) 48 ⟨9,Qw,[.tmp 4]⟩:=by
 have h:c48=Qw:=by kernel_rfl
 rw[←h];exact ZI
theorem AeW:Ar Try.prog (List.range tabs.length) 71 ⟨19,LW,[.tmp 4]⟩:=by
 have h:c71=LW:=by kernel_rfl
 rw[←h];exact bM
theorem bU:Ar Try.prog (List.range tabs.length) 102 ⟨32,I8,[]⟩:=by
 have h:UZ=I8:=by kernel_rfl
 rw[←h];exact WN
theorem Fb:∀ t∈tabs,t≠[]:=by intro t ht;cases ht
theorem Fh:∀ t∈tabs,∀ x∈t,BR x=true:=by intro t ht;cases ht
theorem RY (hm:Try.prog.follows .mixedOrders=true) {pu:Af} (hg85:BA Try.prog tabs 85 (pu 85)) (hg19:BA Try.prog tabs 19 (pu 19)) (h0:Cn Try.prog tabs 1 0 5 (pu 10050)) (h1:Cn Try.prog tabs 2 1 23 (pu 10230)) (h2:Cn Try.prog tabs 3 1 51 (pu 10510)) (h3:Cn Try.prog tabs 3 1 74 (pu 10740)) (h4:Cn Try.prog tabs 2 1 44 (pu 10440)) (h5:Cn Try.prog tabs 5 1 68 (pu 10680)) (h6:Cn Try.prog tabs 4 1 86 (pu 10860)) (h7:Cn Try.prog tabs 2 1 46 (pu 10460)) (h8:Cn Try.prog tabs 2 0 48 (pu 10480)) (h9:Cn Try.prog tabs 2 0 71 (pu 10710)) (h10:Cn Try.prog tabs 2 4 102 (pu 11020)):CO Try.prog (List.range tabs.length) (inl pu):=fun g args H v H' h=>by
 replace h:bb (Nat.beq g 85) (Hr tabs 1 (pu 85) args H) (bb (Nat.beq g 19) (Hr tabs 1 (pu 19) args H) (bb (Nat.beq g 5) (Fp tabs [[some 1]] 1 [] [] (pu 10050) args H) (bb (Nat.beq g 23) (Fp tabs [[none],[none,none,none,none]] 2 [.tmp 0 false] [false] (pu 10230) args H) (bb (Nat.beq g 51) (Fp tabs [[none],[none,none,none,none],[none]] 3 [.tmp 0 false] [false] (pu 10510) args H) (bb (Nat.beq g 74) (Fp tabs [[none],[none,none,none,none],[none]] 3 [.tmp 0 false] [false] (pu 10740) args H) (bb (Nat.beq g 44) (Fp tabs [[none],[none]] 2 [.tmp 0 false] [false] (pu 10440) args H) (bb (Nat.beq g 68) (Fp tabs [[none],[none],[none],[none],[none]] 5 [.tmp 0 false] [false] (pu 10680) args H) (bb (Nat.beq g 86) (Fp tabs [[none],[none],[none],[none]] 4 [.tmp 0 false] [false] (pu 10860) args H) (bb (Nat.beq g 46) (Fp tabs [[none],[none]] 2 [.tmp 0 false] [false] (pu 10460) args H) (bb (Nat.beq g 48) (Fp tabs [[some 1],[none]] 2 [] [] (pu 10480) args H) (bb (Nat.beq g 71) (Fp tabs [[some 1],[none]] 2 [] [] (pu 10710) args H) (bb (Nat.beq g 102) (Fp tabs [[none],[none]] 2 [.tmp 0 true,.tmp 1 false,.cell 0 1 false,.cell 0 2 false] [true,false,false,false] (pu 11020) args H) (none)))))))))))))=some (v,H'):=h
 have hq:=Ag h;clear h;rcases hq with⟨e,h⟩ | ⟨_,h⟩
 ·obtain rfl:=Nat.eq_of_beq_eq_true e
  exact Og Fb Fh hg85 h
 have hq:=Ag h;clear h;rcases hq with⟨e,h⟩ | ⟨_,h⟩
 ·obtain rfl:=Nat.eq_of_beq_eq_true e
  exact Og Fb Fh hg19 h
 have hq:=Ag h;clear h;rcases hq with⟨e,h⟩ | ⟨_,h⟩
 ·obtain rfl:=Nat.eq_of_beq_eq_true e
  exact Gs (rs:=[]) Fb Fh h0 h
 have hq:=Ag h;clear h;rcases hq with⟨e,h⟩ | ⟨_,h⟩
 ·obtain rfl:=Nat.eq_of_beq_eq_true e
  exact Gs (rs:=[.tmp 0 false]) Fb Fh h1 h
 have hq:=Ag h;clear h;rcases hq with⟨e,h⟩ | ⟨_,h⟩
 ·obtain rfl:=Nat.eq_of_beq_eq_true e
  exact Gs (rs:=[.tmp 0 false]) Fb Fh h2 h
 have hq:=Ag h;clear h;rcases hq with⟨e,h⟩ | ⟨_,h⟩
 ·obtain rfl:=Nat.eq_of_beq_eq_true e
  exact Gs (rs:=[.tmp 0 false]) Fb Fh h3 h
 have hq:=Ag h;clear h;rcases hq with⟨e,h⟩ | ⟨_,h⟩
 ·obtain rfl:=Nat.eq_of_beq_eq_true e
  exact Gs (rs:=[.tmp 0 false]) Fb Fh h4 h
 have hq:=Ag h;clear h;rcases hq with⟨e,h⟩ | ⟨_,h⟩
 ·obtain rfl:=Nat.eq_of_beq_eq_true e
  exact Gs (rs:=[.tmp 0 false]) Fb Fh h5 h
 have hq:=Ag h;clear h;rcases hq with⟨e,h⟩ | ⟨_,h⟩
 ·obtain rfl:=Nat.eq_of_beq_eq_true e
  exact Gs (rs:=[.tmp 0 false]) Fb Fh h6 h
 have hq:=Ag h;clear h;rcases hq with⟨e,h⟩ | ⟨_,h⟩
 ·obtain rfl:=Nat.eq_of_beq_eq_true e
  exact Gs (rs:=[.tmp 0 false]) Fb Fh h7 h
 have hq:=Ag h;clear h;rcases hq with⟨e,h⟩ | ⟨_,h⟩
 ·obtain rfl:=Nat.eq_of_beq_eq_true e
  exact Gs (rs:=[]) Fb Fh h8 h
 have hq:=Ag h;clear h;rcases hq with⟨e,h⟩ | ⟨_,h⟩
 ·obtain rfl:=Nat.eq_of_beq_eq_true e
  exact Gs (rs:=[]) Fb Fh h9 h
 have hq:=Ag h;clear h;rcases hq with⟨e,h⟩ | ⟨_,h⟩
 ·obtain rfl:=Nat.eq_of_beq_eq_true e
  exact Gs (rs:=[.tmp 0 true,.tmp 1 false,.cell 0 1 false,.cell 0 2 false]) Fb Fh h10 h
 cases h
theorem Yc (hm:Try.prog.follows .mixedOrders=true) (hw:BA Try.prog tabs 64 Sq∧BA Try.prog tabs 85 Sz∧BA Try.prog tabs 9 X3) {pu:Af} (hall:(∀ g,isP g=true→BA Try.prog tabs g (pu g))∧BA Try.prog tabs 85 (pu 85)∧BA Try.prog tabs 19 (pu 19)∧Cn Try.prog tabs 1 0 5 (pu 10050)∧Cn Try.prog tabs 2 1 23 (pu 10230)∧Cn Try.prog tabs 3 1 51 (pu 10510)∧Cn Try.prog tabs 3 1 74 (pu 10740)∧Cn Try.prog tabs 2 1 44 (pu 10440)∧Cn Try.prog tabs 5 1 68 (pu 10680)∧Cn Try.prog tabs 4 1 86 (pu 10860)∧Cn Try.prog tabs 2 1 46 (pu 10460)∧Cn Try.prog tabs 2 0 48 (pu 10480)∧Cn Try.prog tabs 2 0 71 (pu 10710)∧Cn Try.prog tabs 2 4 102 (pu 11020)):(∀ g,isP g=true→BA Try.prog tabs g (IB pu g))∧BA Try.prog tabs 85 (IB pu 85)∧BA Try.prog tabs 19 (IB pu 19)∧Cn Try.prog tabs 1 0 5 (IB pu 10050)∧Cn Try.prog tabs 2 1 23 (IB pu 10230)∧Cn Try.prog tabs 3 1 51 (IB pu 10510)∧Cn Try.prog tabs 3 1 74 (IB pu 10740)∧Cn Try.prog tabs 2 1 44 (IB pu 10440)∧Cn Try.prog tabs 5 1 68 (IB pu 10680)∧Cn Try.prog tabs 4 1 86 (IB pu 10860)∧Cn Try.prog tabs 2 1 46 (IB pu 10460)∧Cn Try.prog tabs 2 0 48 (IB pu 10480)∧Cn Try.prog tabs 2 0 71 (IB pu 10710)∧Cn Try.prog tabs 2 4 102 (IB pu 11020):=by
 obtain⟨hpu,hg85,hg19,h0,h4,h5,h6,h7,h8,h9,h10,h11,h12,h13⟩:=hall
 have hcall:=TG (P:=Try.prog) (tabs:=tabs) Fb Fh (RY hm hg85 hg19 h0 h4 h5 h6 h7 h8 h9 h10 h11 h12 h13) hpu
 refine⟨fun g hg=>?_,?_,?_,?_,?_,?_,?_,?_,?_,?_,?_,?_,?_,?_⟩
 ·have hg:g∈QG:=CS.1 hg
  simp only[QG,List.mem_cons,List.not_mem_nil,or_false] at hg
  rcases hg with rfl | rfl | rfl | rfl | rfl | rfl | rfl | rfl | rfl | rfl | rfl | rfl | rfl | rfl | rfl | rfl | rfl | rfl | rfl | rfl | rfl | rfl | rfl | rfl | rfl | rfl | rfl | rfl | rfl
  ·exact Aw (tabs:=tabs) (f:=m3 pu L) FD hm hcall fk3 fun args v h hc=>r3 pu L rfl h hc
  ·exact Aw (tabs:=tabs) (f:=m6 pu L) FD hm hcall fk6 fun args v h hc=>r6 pu L rfl h hc
  ·exact Aw (tabs:=tabs) (f:=m7 pu L) FD hm hcall fk7 fun args v h hc=>r7 pu L rfl h hc
  ·exact Aw (tabs:=tabs) (f:=m8 pu L) FD hm hcall fk8 fun args v h hc=>r8 pu L rfl h hc
  ·exact hw.2.2
  ·exact Aw (tabs:=tabs) (f:=m20 pu L) FD hm hcall Aeq fun args v h hc=>r20 pu L rfl h hc
  ·exact Aw (tabs:=tabs) (f:=m21 pu L) FD hm hcall Aer fun args v h hc=>r21 pu L rfl h hc
  ·exact Aw (tabs:=tabs) (f:=m22 pu L) FD hm hcall Aes fun args v h hc=>r22 pu L rfl h hc
  ·exact Aw (tabs:=tabs) (f:=m24 pu L) FD hm hcall Aet fun args v h hc=>r24 pu L rfl h hc
  ·exact Aw (tabs:=tabs) (f:=m37 pu L) FD hm hcall Aeu fun args v h hc=>r37 pu L rfl h hc
  ·exact Aw (tabs:=tabs) (f:=m42 pu L) FD hm hcall Aev fun args v h hc=>r42 pu L rfl h hc
  ·exact Aw (tabs:=tabs) (f:=m43 pu L) FD hm hcall Aew fun args v h hc=>r43 pu L rfl h hc
  ·exact Aw (tabs:=tabs) (f:=m45 pu L) FD hm hcall Aey fun args v h hc=>r45 pu L rfl h hc
  ·exact Aw (tabs:=tabs) (f:=m47 pu L) FD hm hcall Aez fun args v h hc=>r47 pu L rfl h hc
  ·exact Aw (tabs:=tabs) (f:=m49 pu L) FD hm hcall AeA fun args v h hc=>r49 pu L rfl h hc
  ·exact Aw (tabs:=tabs) (f:=m50 pu L) FD hm hcall AeB fun args v h hc=>r50 pu L rfl h hc
  ·exact Aw (tabs:=tabs) (f:=m62 pu L) FD hm hcall AeC fun args v h hc=>r62 pu L rfl h hc
  ·exact Aw (tabs:=tabs) (f:=m63 pu L) FD hm hcall AeD fun args v h hc=>r63 pu L rfl h hc
  ·exact hw.1
  ·exact Aw (tabs:=tabs) (f:=m65 pu L) FD hm hcall AeE fun args v h hc=>r65 pu L rfl h hc
  ·exact Aw (tabs:=tabs) (f:=m66 pu L) FD hm hcall AeF fun args v h hc=>r66 pu L rfl h hc
  ·exact Aw (tabs:=tabs) (f:=m67 pu L) FD hm hcall AeG fun args v h hc=>r67 pu L rfl h hc
  ·exact Aw (tabs:=tabs) (f:=m69 pu L) FD hm hcall AeH fun args v h hc=>r69 pu L rfl h hc
  ·exact Aw (tabs:=tabs) (f:=m70 pu L) FD hm hcall AeI fun args v h hc=>r70 pu L rfl h hc
  ·exact Aw (tabs:=tabs) (f:=m72 pu L) FD hm hcall AeJ fun args v h hc=>r72 pu L rfl h hc
  ·exact Aw (tabs:=tabs) (f:=m73 pu L) FD hm hcall AeK fun args v h hc=>r73 pu L rfl h hc
  ·exact Aw (tabs:=tabs) (f:=m95 pu L) FD hm hcall AeL fun args v h hc=>r95 pu L rfl h hc
  ·exact Aw (tabs:=tabs) (f:=m96 pu L) FD hm hcall AeM fun args v h hc=>r96 pu L rfl h hc
  ·exact Aw (tabs:=tabs) (f:=m97 pu L) FD hm hcall AeN fun args v h hc=>r97 pu L rfl h hc
 ·exact hw.2.1
 ·exact Aw (tabs:=tabs) (f:=m19 pu L) FD hm hcall Aep fun args v h hc=>r19 pu L rfl h hc
 ·exact Dy (tabs:=tabs) (f:=MF pu L) FD hm hcall fk5 fun args os z h1 h2 h3 h=>tN pu L rfl h1 h2 h3 h
 ·exact Dy (tabs:=tabs) (f:=MR pu L) FD hm hcall AeO fun args os z h1 h2 h3 h=>tQ pu L rfl h1 h2 h3 h
 ·exact Dy (tabs:=tabs) (f:=MU pu L) FD hm hcall AeP fun args os z h1 h2 h3 h=>tV pu L rfl h1 h2 h3 h
 ·exact Dy (tabs:=tabs) (f:=Ow pu L) FD hm hcall AeQ fun args os z h1 h2 h3 h=>tY pu L rfl h1 h2 h3 h
 ·exact Dy (tabs:=tabs) (f:=Oy pu L) FD hm hcall AeR fun args os z h1 h2 h3 h=>uA pu L rfl h1 h2 h3 h
 ·exact Dy (tabs:=tabs) (f:=OB pu L) FD hm hcall AeS fun args os z h1 h2 h3 h=>uC pu L rfl h1 h2 h3 h
 ·exact Dy (tabs:=tabs) (f:=OG pu L) FD hm hcall AeT fun args os z h1 h2 h3 h=>uE pu L rfl h1 h2 h3 h
 ·exact Dy (tabs:=tabs) (f:=OO pu L) FD hm hcall AeU fun args os z h1 h2 h3 h=>uG pu L rfl h1 h2 h3 h
 ·exact Dy (tabs:=tabs) (f:=OP pu L) FD hm hcall AeV fun args os z h1 h2 h3 h=>uI pu L rfl h1 h2 h3 h
 ·exact Dy (tabs:=tabs) (f:=OU pu L) FD hm hcall AeW fun args os z h1 h2 h3 h=>uK pu L rfl h1 h2 h3 h
 ·exact Dy (tabs:=tabs) (f:=OZ pu L) FD hm hcall bU fun args os z h1 h2 h3 h=>uM pu L rfl h1 h2 h3 h
theorem RZ (hm:Try.prog.follows .mixedOrders=true) (hw:BA Try.prog tabs 64 Sq∧BA Try.prog tabs 85 Sz∧BA Try.prog tabs 9 X3):∀ n,(∀ g,isP g=true→BA Try.prog tabs g (RX n g))∧BA Try.prog tabs 85 (RX n 85)∧BA Try.prog tabs 19 (RX n 19)∧Cn Try.prog tabs 1 0 5 (RX n 10050)∧Cn Try.prog tabs 2 1 23 (RX n 10230)∧Cn Try.prog tabs 3 1 51 (RX n 10510)∧Cn Try.prog tabs 3 1 74 (RX n 10740)∧Cn Try.prog tabs 2 1 44 (RX n 10440)∧Cn Try.prog tabs 5 1 68 (RX n 10680)∧Cn Try.prog tabs 4 1 86 (RX n 10860)∧Cn Try.prog tabs 2 1 46 (RX n 10460)∧Cn Try.prog tabs 2 0 48 (RX n 10480)∧Cn Try.prog tabs 2 0 71 (RX n 10710)∧Cn Try.prog tabs 2 4 102 (RX n 11020):=fun n=>by
 induction n with
 | zero =>
  refine⟨fun g hg=>?_,?_,?_,?_,?_,?_,?_,?_,?_,?_,?_,?_,?_,?_⟩
  ·have hg:g∈QG:=CS.1 hg
   simp only[QG,List.mem_cons,List.not_mem_nil,or_false] at hg
   rcases hg with rfl | rfl | rfl | rfl | rfl | rfl | rfl | rfl | rfl | rfl | rfl | rfl | rfl | rfl | rfl | rfl | rfl | rfl | rfl | rfl | rfl | rfl | rfl | rfl | rfl | rfl | rfl | rfl | rfl
   ·exact⟨A9 fk3,fun args v h=>by cases h⟩
   ·exact⟨A9 fk6,fun args v h=>by cases h⟩
   ·exact⟨A9 fk7,fun args v h=>by cases h⟩
   ·exact⟨A9 fk8,fun args v h=>by cases h⟩
   ·exact⟨(hw.2.2).1,fun args v h=>by cases h⟩
   ·exact⟨A9 Aeq,fun args v h=>by cases h⟩
   ·exact⟨A9 Aer,fun args v h=>by cases h⟩
   ·exact⟨A9 Aes,fun args v h=>by cases h⟩
   ·exact⟨A9 Aet,fun args v h=>by cases h⟩
   ·exact⟨A9 Aeu,fun args v h=>by cases h⟩
   ·exact⟨A9 Aev,fun args v h=>by cases h⟩
   ·exact⟨A9 Aew,fun args v h=>by cases h⟩
   ·exact⟨A9 Aey,fun args v h=>by cases h⟩
   ·exact⟨A9 Aez,fun args v h=>by cases h⟩
   ·exact⟨A9 AeA,fun args v h=>by cases h⟩
   ·exact⟨A9 AeB,fun args v h=>by cases h⟩
   ·exact⟨A9 AeC,fun args v h=>by cases h⟩
   ·exact⟨A9 AeD,fun args v h=>by cases h⟩
   ·exact⟨(hw.1).1,fun args v h=>by cases h⟩
   ·exact⟨A9 AeE,fun args v h=>by cases h⟩
   ·exact⟨A9 AeF,fun args v h=>by cases h⟩
   ·exact⟨A9 AeG,fun args v h=>by cases h⟩
   ·exact⟨A9 AeH,fun args v h=>by cases h⟩
   ·exact⟨A9 AeI,fun args v h=>by cases h⟩
   ·exact⟨A9 AeJ,fun args v h=>by cases h⟩
   ·exact⟨A9 AeK,fun args v h=>by cases h⟩
   ·exact⟨A9 AeL,fun args v h=>by cases h⟩
   ·exact⟨A9 AeM,fun args v h=>by cases h⟩
   ·exact⟨A9 AeN,fun args v h=>by cases h⟩
  ·exact⟨(hw.2.1).1,fun args v h=>by cases h⟩
  ·exact⟨A9 Aep,fun args v h=>by cases h⟩
  ·exact⟨A9 fk5,fun args os z h1 h2 h3 h=>by cases h⟩
  ·exact⟨A9 AeO,fun args os z h1 h2 h3 h=>by cases h⟩
  ·exact⟨A9 AeP,fun args os z h1 h2 h3 h=>by cases h⟩
  ·exact⟨A9 AeQ,fun args os z h1 h2 h3 h=>by cases h⟩
  ·exact⟨A9 AeR,fun args os z h1 h2 h3 h=>by cases h⟩
  ·exact⟨A9 AeS,fun args os z h1 h2 h3 h=>by cases h⟩
  ·exact⟨A9 AeT,fun args os z h1 h2 h3 h=>by cases h⟩
  ·exact⟨A9 AeU,fun args os z h1 h2 h3 h=>by cases h⟩
  ·exact⟨A9 AeV,fun args os z h1 h2 h3 h=>by cases h⟩
  ·exact⟨A9 AeW,fun args os z h1 h2 h3 h=>by cases h⟩
  ·exact⟨A9 bU,fun args os z h1 h2 h3 h=>by cases h⟩
 | succ n ih=>exact Yc hm hw ih
end
end Go.Proofs.Ytflonlkiajhhjaa.TpA
