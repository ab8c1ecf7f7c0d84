/- Made from wip. -/
import Derived.Test.YtkhedoaiejjcfaaProg
import Derived.Test.YtkhedoaiejjcfaaSpLawx
import Derived.Test.YtkhedoaiejjcfaaHvRCode
import Derived.Test.YtkhedoaiejjcfaaHvRPux
import Derived.Test.YtkhedoaiejjcfaaSpSortKx

set_option maxRecDepth 100000
namespace Go.Proofs.Ytkhedoaiejjcfaa.HvR
open Go Go.Sp Go.HvR
theorem b3:(match Try.f3.body with | some c=>rcOf c c3 | none=>none) = some c3:=by kernel_rfl
theorem p3:(match Try.f3.body with | some c=>codeB [] c | none=>false) = true:=by kernel_rfl
theorem fok3:FnOk Try.prog [] 3 ⟨105,c3,[.tmp 4]⟩:=FnOk.by Try.func3 b3 p3 Try.ntmps3 (by rw [Try.results3]) (by kernel_rfl)
theorem b4:(match Try.f4.body with | some c=>rcOf c c4 | none=>none) = some c4:=by kernel_rfl
theorem p4:(match Try.f4.body with | some c=>codeB [] c | none=>false) = true:=by kernel_rfl
theorem fok4:FnOk Try.prog [] 4 ⟨6,c4,[.tmp 2]⟩:=FnOk.by Try.func4 b4 p4 Try.ntmps4 (by rw [Try.results4]) (by kernel_rfl)
theorem b5:(match Try.f5.body with | some c=>rcOf c c5 | none=>none) = some c5:=by kernel_rfl
theorem p5:(match Try.f5.body with | some c=>codeB [] c | none=>false) = true:=by kernel_rfl
theorem fok5:FnOk Try.prog [] 5 ⟨234,c5,[.tmp 0]⟩:=FnOk.by Try.func5 b5 p5 Try.ntmps5 (by rw [Try.results5]) (by kernel_rfl)
theorem b6:(match Try.f6.body with | some c=>rcOf c c6 | none=>none) = some c6:=by kernel_rfl
theorem p6:(match Try.f6.body with | some c=>codeB [] c | none=>false) = true:=by kernel_rfl
theorem fok6:FnOk Try.prog [] 6 ⟨65,c6,[.tmp 2,.tmp 3]⟩:=FnOk.by Try.func6 b6 p6 Try.ntmps6 (by rw [Try.results6]) (by kernel_rfl)
theorem b7:(match Try.f7.body with | some c=>rcOf c c7 | none=>none) = some c7:=by kernel_rfl
theorem p7:(match Try.f7.body with | some c=>codeB [] c | none=>false) = true:=by kernel_rfl
theorem fok7:FnOk Try.prog [] 7 ⟨39,c7,[.tmp 2,.tmp 3]⟩:=FnOk.by Try.func7 b7 p7 Try.ntmps7 (by rw [Try.results7]) (by kernel_rfl)
theorem b8:(match Try.f8.body with | some c=>rcOf c c8 | none=>none) = some c8:=by kernel_rfl
theorem p8:(match Try.f8.body with | some c=>codeB [] c | none=>false) = true:=by kernel_rfl
theorem fok8:FnOk Try.prog [] 8 ⟨23,c8,[.tmp 2,.tmp 3]⟩:=FnOk.by Try.func8 b8 p8 Try.ntmps8 (by rw [Try.results8]) (by kernel_rfl)
theorem b9:(match Try.f9.body with | some c=>rcOf c c9 | none=>none) = some c9:=by kernel_rfl
theorem p9:(match Try.f9.body with | some c=>codeB [] c | none=>false) = true:=by kernel_rfl
theorem fok9:FnOk Try.prog [] 9 ⟨46,c9,[.tmp 2,.tmp 3]⟩:=FnOk.by Try.func9 b9 p9 Try.ntmps9 (by rw [Try.results9]) (by kernel_rfl)
theorem b10:(match Try.f10.body with | some c=>rcOf c c10 | none=>none) = some c10:=by kernel_rfl
theorem p10:(match Try.f10.body with | some c=>codeB [] c | none=>false) = true:=by kernel_rfl
theorem fok10:FnOk Try.prog [] 10 ⟨27,c10,[.tmp 4]⟩:=FnOk.by Try.func10 b10 p10 Try.ntmps10 (by rw [Try.results10]) (by kernel_rfl)
theorem b11:(match Try.f11.body with | some c=>rcOf c c11 | none=>none) = some c11:=by kernel_rfl
theorem p11:(match Try.f11.body with | some c=>codeB [] c | none=>false) = true:=by kernel_rfl
theorem fok11:FnOk Try.prog [] 11 ⟨14,c11,[.tmp 2,.tmp 3]⟩:=FnOk.by Try.func11 b11 p11 Try.ntmps11 (by rw [Try.results11]) (by kernel_rfl)
theorem b12:(match Try.f12.body with | some c=>rcOf c c12 | none=>none) = some c12:=by kernel_rfl
theorem p12:(match Try.f12.body with | some c=>codeB [] c | none=>false) = true:=by kernel_rfl
theorem fok12:FnOk Try.prog [] 12 ⟨4,c12,[.tmp 2]⟩:=FnOk.by Try.func12 b12 p12 Try.ntmps12 (by rw [Try.results12]) (by kernel_rfl)
theorem b13:(match Try.f13.body with | some c=>rcOf c c13 | none=>none) = some c13:=by kernel_rfl
theorem p13:(match Try.f13.body with | some c=>codeB [] c | none=>false) = true:=by kernel_rfl
theorem fok13:FnOk Try.prog [] 13 ⟨44,c13,[.tmp 4,.tmp 5]⟩:=FnOk.by Try.func13 b13 p13 Try.ntmps13 (by rw [Try.results13]) (by kernel_rfl)
theorem b14:(match Try.f14.body with | some c=>rcOf c c14 | none=>none) = some c14:=by kernel_rfl
theorem p14:(match Try.f14.body with | some c=>codeB [] c | none=>false) = true:=by kernel_rfl
theorem fok14:FnOk Try.prog [] 14 ⟨13,c14,[.tmp 2,.tmp 3]⟩:=FnOk.by Try.func14 b14 p14 Try.ntmps14 (by rw [Try.results14]) (by kernel_rfl)
theorem b15:(match Try.f15.body with | some c=>rcOf c c15 | none=>none) = some c15:=by kernel_rfl
theorem p15:(match Try.f15.body with | some c=>codeB [] c | none=>false) = true:=by kernel_rfl
theorem fok15:FnOk Try.prog [] 15 ⟨13,c15,[.tmp 2,.tmp 3]⟩:=FnOk.by Try.func15 b15 p15 Try.ntmps15 (by rw [Try.results15]) (by kernel_rfl)
theorem b16:(match Try.f16.body with | some c=>rcOf c c16 | none=>none) = some c16:=by kernel_rfl
theorem p16:(match Try.f16.body with | some c=>codeB [] c | none=>false) = true:=by kernel_rfl
theorem fok16:FnOk Try.prog [] 16 ⟨19,c16,[.tmp 2,.tmp 3]⟩:=FnOk.by Try.func16 b16 p16 Try.ntmps16 (by rw [Try.results16]) (by kernel_rfl)
theorem b17:(match Try.f17.body with | some c=>rcOf c c17 | none=>none) = some c17:=by kernel_rfl
theorem p17:(match Try.f17.body with | some c=>codeB [] c | none=>false) = true:=by kernel_rfl
theorem fok17:FnOk Try.prog [] 17 ⟨13,c17,[.tmp 2,.tmp 3]⟩:=FnOk.by Try.func17 b17 p17 Try.ntmps17 (by rw [Try.results17]) (by kernel_rfl)
theorem b18:(match Try.f18.body with | some c=>rcOf c c18 | none=>none) = some c18:=by kernel_rfl
theorem p18:(match Try.f18.body with | some c=>codeB [] c | none=>false) = true:=by kernel_rfl
theorem fok18:FnOk Try.prog [] 18 ⟨12,c18,[.tmp 2,.tmp 3]⟩:=FnOk.by Try.func18 b18 p18 Try.ntmps18 (by rw [Try.results18]) (by kernel_rfl)
theorem b19:(match Try.f19.body with | some c=>rcOf c c19 | none=>none) = some c19:=by kernel_rfl
theorem p19:(match Try.f19.body with | some c=>codeB [] c | none=>false) = true:=by kernel_rfl
theorem fok19:FnOk Try.prog [] 19 ⟨15,c19,[.tmp 2,.tmp 3,.tmp 4]⟩:=FnOk.by Try.func19 b19 p19 Try.ntmps19 (by rw [Try.results19]) (by kernel_rfl)
theorem b20:(match Try.f20.body with | some c=>rcOf c c20 | none=>none) = some c20:=by kernel_rfl
theorem p20:(match Try.f20.body with | some c=>codeB [] c | none=>false) = true:=by kernel_rfl
theorem fok20:FnOk Try.prog [] 20 ⟨37,c20,[.tmp 2,.tmp 3]⟩:=FnOk.by Try.func20 b20 p20 Try.ntmps20 (by rw [Try.results20]) (by kernel_rfl)
theorem b21:(match Try.f21.body with | some c=>rcOf c c21 | none=>none) = some c21:=by kernel_rfl
theorem p21:(match Try.f21.body with | some c=>codeB [] c | none=>false) = true:=by kernel_rfl
theorem fok21:FnOk Try.prog [] 21 ⟨26,c21,[.tmp 4]⟩:=FnOk.by Try.func21 b21 p21 Try.ntmps21 (by rw [Try.results21]) (by kernel_rfl)
theorem b22:(match Try.f22.body with | some c=>rcOf c c22 | none=>none) = some c22:=by kernel_rfl
theorem p22:(match Try.f22.body with | some c=>codeB [] c | none=>false) = true:=by kernel_rfl
theorem fok22:FnOk Try.prog [] 22 ⟨4,c22,[.tmp 2]⟩:=FnOk.by Try.func22 b22 p22 Try.ntmps22 (by rw [Try.results22]) (by kernel_rfl)
theorem b23:(match Try.f23.body with | some c=>rcOf c c23 | none=>none) = some c23:=by kernel_rfl
theorem p23:(match Try.f23.body with | some c=>codeB [] c | none=>false) = true:=by kernel_rfl
theorem fok23:FnOk Try.prog [] 23 ⟨32,c23,[.tmp 2]⟩:=FnOk.by Try.func23 b23 p23 Try.ntmps23 (by rw [Try.results23]) (by kernel_rfl)
theorem b24:(match Try.f24.body with | some c=>rcOf c c24 | none=>none) = some c24:=by kernel_rfl
theorem p24:(match Try.f24.body with | some c=>codeB [] c | none=>false) = true:=by kernel_rfl
theorem fok24:FnOk Try.prog [] 24 ⟨19,c24,[.cell 2 51]⟩:=FnOk.by Try.func24 b24 p24 Try.ntmps24 (by rw [Try.results24]) (by kernel_rfl)
theorem b25:(match Try.f25.body with | some c=>rcOf c c25 | none=>none) = some c25:=by kernel_rfl
theorem p25:(match Try.f25.body with | some c=>codeB [] c | none=>false) = true:=by kernel_rfl
theorem fok25:FnOk Try.prog [] 25 ⟨51,c25,[.tmp 2]⟩:=FnOk.by Try.func25 b25 p25 Try.ntmps25 (by rw [Try.results25]) (by kernel_rfl)
theorem b26:(match Try.f26.body with | some c=>rcOf c c26 | none=>none) = some c26:=by kernel_rfl
theorem p26:(match Try.f26.body with | some c=>codeB [] c | none=>false) = true:=by kernel_rfl
theorem fok26:FnOk Try.prog [] 26 ⟨42,c26,[.tmp 2]⟩:=FnOk.by Try.func26 b26 p26 Try.ntmps26 (by rw [Try.results26]) (by kernel_rfl)
theorem b27:(match Try.f27.body with | some c=>rcOf c c27 | none=>none) = some c27:=by kernel_rfl
theorem p27:(match Try.f27.body with | some c=>codeB [] c | none=>false) = true:=by kernel_rfl
theorem fok27:FnOk Try.prog [] 27 ⟨49,c27,[.tmp 2]⟩:=FnOk.by Try.func27 b27 p27 Try.ntmps27 (by rw [Try.results27]) (by kernel_rfl)
end Go.Proofs.Ytkhedoaiejjcfaa.HvR
set_option maxRecDepth 100000
namespace Go.Proofs.Ytkhedoaiejjcfaa.HvR
open Go Go.Sp Go.HvR
theorem b28:(match Try.f28.body with | some c=>rcOf c c28 | none=>none) = some c28:=by kernel_rfl
theorem p28:(match Try.f28.body with | some c=>codeB [] c | none=>false) = true:=by kernel_rfl
theorem fok28:FnOk Try.prog [] 28 ⟨42,c28,[.tmp 2]⟩:=FnOk.by Try.func28 b28 p28 Try.ntmps28 (by rw [Try.results28]) (by kernel_rfl)
theorem b29:(match Try.f29.body with | some c=>rcOf c c29 | none=>none) = some c29:=by kernel_rfl
theorem p29:(match Try.f29.body with | some c=>codeB [] c | none=>false) = true:=by kernel_rfl
theorem fok29:FnOk Try.prog [] 29 ⟨44,c29,[.tmp 4]⟩:=FnOk.by Try.func29 b29 p29 Try.ntmps29 (by rw [Try.results29]) (by kernel_rfl)
theorem b30:(match Try.f30.body with | some c=>rcOf c c30 | none=>none) = some c30:=by kernel_rfl
theorem p30:(match Try.f30.body with | some c=>codeB [] c | none=>false) = true:=by kernel_rfl
theorem fok30:FnOk Try.prog [] 30 ⟨18,c30,[.tmp 2]⟩:=FnOk.by Try.func30 b30 p30 Try.ntmps30 (by rw [Try.results30]) (by kernel_rfl)
theorem b31:(match Try.f31.body with | some c=>rcOf c c31 | none=>none) = some c31:=by kernel_rfl
theorem p31:(match Try.f31.body with | some c=>codeB [] c | none=>false) = true:=by kernel_rfl
theorem fok31:FnOk Try.prog [] 31 ⟨26,c31,[.tmp 4]⟩:=FnOk.by Try.func31 b31 p31 Try.ntmps31 (by rw [Try.results31]) (by kernel_rfl)
theorem b32:(match Try.f32.body with | some c=>rcOf c c32 | none=>none) = some c32:=by kernel_rfl
theorem p32:(match Try.f32.body with | some c=>codeB [] c | none=>false) = true:=by kernel_rfl
theorem fok32:FnOk Try.prog [] 32 ⟨15,c32,[.tmp 6]⟩:=FnOk.by Try.func32 b32 p32 Try.ntmps32 (by rw [Try.results32]) (by kernel_rfl)
theorem b33:(match Try.f33.body with | some c=>rcOf c c33 | none=>none) = some c33:=by kernel_rfl
theorem p33:(match Try.f33.body with | some c=>codeB [] c | none=>false) = true:=by kernel_rfl
theorem fok33:FnOk Try.prog [] 33 ⟨15,c33,[.tmp 2,.tmp 3]⟩:=FnOk.by Try.func33 b33 p33 Try.ntmps33 (by rw [Try.results33]) (by kernel_rfl)
theorem b34:(match Try.f34.body with | some c=>rcOf c c34 | none=>none) = some c34:=by kernel_rfl
theorem p34:(match Try.f34.body with | some c=>codeB [] c | none=>false) = true:=by kernel_rfl
theorem fok34:FnOk Try.prog [] 34 ⟨58,c34,[]⟩:=FnOk.by Try.func34 b34 p34 Try.ntmps34 (by rw [Try.results34]) (by kernel_rfl)
theorem b35:(match Try.f35.body with | some c=>rcOf c c35 | none=>none) = some c35:=by kernel_rfl
theorem p35:(match Try.f35.body with | some c=>codeB [] c | none=>false) = true:=by kernel_rfl
theorem fok35:FnOk Try.prog [] 35 ⟨42,c35,[.tmp 4]⟩:=FnOk.by Try.func35 b35 p35 Try.ntmps35 (by rw [Try.results35]) (by kernel_rfl)
theorem b36:(match Try.f36.body with | some c=>rcOf c c36 | none=>none) = some c36:=by kernel_rfl
theorem p36:(match Try.f36.body with | some c=>codeB [] c | none=>false) = true:=by kernel_rfl
theorem fok36:FnOk Try.prog [] 36 ⟨8,c36,[.tmp 2]⟩:=FnOk.by Try.func36 b36 p36 Try.ntmps36 (by rw [Try.results36]) (by kernel_rfl)
theorem b37:(match Try.f37.body with | some c=>rcOf c c37 | none=>none) = some c37:=by kernel_rfl
theorem p37:(match Try.f37.body with | some c=>codeB [] c | none=>false) = true:=by kernel_rfl
theorem fok37:FnOk Try.prog [] 37 ⟨5,c37,[.tmp 2]⟩:=FnOk.by Try.func37 b37 p37 Try.ntmps37 (by rw [Try.results37]) (by kernel_rfl)
theorem b38:(match Try.f38.body with | some c=>rcOf c c38 | none=>none) = some c38:=by kernel_rfl
theorem p38:(match Try.f38.body with | some c=>codeB [] c | none=>false) = true:=by kernel_rfl
theorem fok38:FnOk Try.prog [] 38 ⟨26,c38,[.tmp 4]⟩:=FnOk.by Try.func38 b38 p38 Try.ntmps38 (by rw [Try.results38]) (by kernel_rfl)
theorem b39:(match Try.f39.body with | some c=>rcOf c c39 | none=>none) = some c39:=by kernel_rfl
theorem p39:(match Try.f39.body with | some c=>codeB [] c | none=>false) = true:=by kernel_rfl
theorem fok39:FnOk Try.prog [] 39 ⟨9,c39,[.tmp 2]⟩:=FnOk.by Try.func39 b39 p39 Try.ntmps39 (by rw [Try.results39]) (by kernel_rfl)
theorem b40:(match Try.f40.body with | some c=>rcOf c c40 | none=>none) = some c40:=by kernel_rfl
theorem p40:(match Try.f40.body with | some c=>codeB [] c | none=>false) = true:=by kernel_rfl
theorem fok40:FnOk Try.prog [] 40 ⟨14,c40,[]⟩:=FnOk.by Try.func40 b40 p40 Try.ntmps40 (by rw [Try.results40]) (by kernel_rfl)
theorem b41:(match Try.f41.body with | some c=>rcOf c c41 | none=>none) = some c41:=by kernel_rfl
theorem p41:(match Try.f41.body with | some c=>codeB [] c | none=>false) = true:=by kernel_rfl
theorem fok41:FnOk Try.prog [] 41 ⟨12,c41,[.tmp 4]⟩:=FnOk.by Try.func41 b41 p41 Try.ntmps41 (by rw [Try.results41]) (by kernel_rfl)
theorem b42:(match Try.f42.body with | some c=>rcOf c c42 | none=>none) = some c42:=by kernel_rfl
theorem p42:(match Try.f42.body with | some c=>codeB [] c | none=>false) = true:=by kernel_rfl
theorem fok42:FnOk Try.prog [] 42 ⟨36,c42,[.tmp 4]⟩:=FnOk.by Try.func42 b42 p42 Try.ntmps42 (by rw [Try.results42]) (by kernel_rfl)
theorem b43:(match Try.f43.body with | some c=>rcOf c c43 | none=>none) = some c43:=by kernel_rfl
theorem p43:(match Try.f43.body with | some c=>codeB [] c | none=>false) = true:=by kernel_rfl
theorem fok43:FnOk Try.prog [] 43 ⟨15,c43,[.tmp 6]⟩:=FnOk.by Try.func43 b43 p43 Try.ntmps43 (by rw [Try.results43]) (by kernel_rfl)
theorem b44:(match Try.f44.body with | some c=>rcOf c c44 | none=>none) = some c44:=by kernel_rfl
theorem p44:(match Try.f44.body with | some c=>codeB [] c | none=>false) = true:=by kernel_rfl
theorem fok44:FnOk Try.prog [] 44 ⟨15,c44,[.tmp 2]⟩:=FnOk.by Try.func44 b44 p44 Try.ntmps44 (by rw [Try.results44]) (by kernel_rfl)
theorem b45:(match Try.f45.body with | some c=>rcOf c c45 | none=>none) = some c45:=by kernel_rfl
theorem p45:(match Try.f45.body with | some c=>codeB [] c | none=>false) = true:=by kernel_rfl
theorem fok45:FnOk Try.prog [] 45 ⟨15,c45,[.cell 2 51]⟩:=FnOk.by Try.func45 b45 p45 Try.ntmps45 (by rw [Try.results45]) (by kernel_rfl)
theorem b46:(match Try.f46.body with | some c=>rcOf c c46 | none=>none) = some c46:=by kernel_rfl
theorem p46:(match Try.f46.body with | some c=>codeB [] c | none=>false) = true:=by kernel_rfl
theorem fok46:FnOk Try.prog [] 46 ⟨18,c46,[.tmp 2]⟩:=FnOk.by Try.func46 b46 p46 Try.ntmps46 (by rw [Try.results46]) (by kernel_rfl)
theorem b47:(match Try.f47.body with | some c=>rcOf c c47 | none=>none) = some c47:=by kernel_rfl
theorem p47:(match Try.f47.body with | some c=>codeB [] c | none=>false) = true:=by kernel_rfl
theorem fok47:FnOk Try.prog [] 47 ⟨45,c47,[.tmp 2]⟩:=FnOk.by Try.func47 b47 p47 Try.ntmps47 (by rw [Try.results47]) (by kernel_rfl)
theorem b48:(match Try.f48.body with | some c=>rcOf c c48 | none=>none) = some c48:=by kernel_rfl
theorem p48:(match Try.f48.body with | some c=>codeB [] c | none=>false) = true:=by kernel_rfl
theorem fok48:FnOk Try.prog [] 48 ⟨18,c48,[.tmp 2]⟩:=FnOk.by Try.func48 b48 p48 Try.ntmps48 (by rw [Try.results48]) (by kernel_rfl)
theorem b49:(match Try.f49.body with | some c=>rcOf c c49 | none=>none) = some c49:=by kernel_rfl
theorem p49:(match Try.f49.body with | some c=>codeB [] c | none=>false) = true:=by kernel_rfl
theorem fok49:FnOk Try.prog [] 49 ⟨14,c49,[.tmp 2,.cell 3 51]⟩:=FnOk.by Try.func49 b49 p49 Try.ntmps49 (by rw [Try.results49]) (by kernel_rfl)
theorem b50:(match Try.f50.body with | some c=>rcOf c c50 | none=>none) = some c50:=by kernel_rfl
theorem p50:(match Try.f50.body with | some c=>codeB [] c | none=>false) = true:=by kernel_rfl
theorem fok50:FnOk Try.prog [] 50 ⟨10,c50,[]⟩:=FnOk.by Try.func50 b50 p50 Try.ntmps50 (by rw [Try.results50]) (by kernel_rfl)
theorem b51:(match Try.f51.body with | some c=>rcOf c c51 | none=>none) = some c51:=by kernel_rfl
theorem p51:(match Try.f51.body with | some c=>codeB [] c | none=>false) = true:=by kernel_rfl
theorem fok51:FnOk Try.prog [] 51 ⟨10,c51,[]⟩:=FnOk.by Try.func51 b51 p51 Try.ntmps51 (by rw [Try.results51]) (by kernel_rfl)
theorem b52:(match Try.f52.body with | some c=>rcOf c c52 | none=>none) = some c52:=by kernel_rfl
theorem p52:(match Try.f52.body with | some c=>codeB [] c | none=>false) = true:=by kernel_rfl
theorem fok52:FnOk Try.prog [] 52 ⟨17,c52,[]⟩:=FnOk.by Try.func52 b52 p52 Try.ntmps52 (by rw [Try.results52]) (by kernel_rfl)
end Go.Proofs.Ytkhedoaiejjcfaa.HvR
set_option maxRecDepth 100000
namespace Go.Proofs.Ytkhedoaiejjcfaa.HvR
open Go Go.Sp Go.HvR
theorem b53:(match Try.f53.body with | some c=>rcOf c c53 | none=>none) = some c53:=by kernel_rfl
theorem p53:(match Try.f53.body with | some c=>codeB [] c | none=>false) = true:=by kernel_rfl
theorem fok53:FnOk Try.prog [] 53 ⟨36,c53,[.tmp 2]⟩:=FnOk.by Try.func53 b53 p53 Try.ntmps53 (by rw [Try.results53]) (by kernel_rfl)
theorem b54:(match Try.f54.body with | some c=>rcOf c c54 | none=>none) = some c54:=by kernel_rfl
theorem p54:(match Try.f54.body with | some c=>codeB [] c | none=>false) = true:=by kernel_rfl
theorem fok54:FnOk Try.prog [] 54 ⟨17,c54,[.tmp 2]⟩:=FnOk.by Try.func54 b54 p54 Try.ntmps54 (by rw [Try.results54]) (by kernel_rfl)
theorem b55:(match Try.f55.body with | some c=>rcOf c c55 | none=>none) = some c55:=by kernel_rfl
theorem p55:(match Try.f55.body with | some c=>codeB [] c | none=>false) = true:=by kernel_rfl
theorem fok55:FnOk Try.prog [] 55 ⟨14,c55,[]⟩:=FnOk.by Try.func55 b55 p55 Try.ntmps55 (by rw [Try.results55]) (by kernel_rfl)
theorem b56:(match Try.f56.body with | some c=>rcOf c c56 | none=>none) = some c56:=by kernel_rfl
theorem p56:(match Try.f56.body with | some c=>codeB [] c | none=>false) = true:=by kernel_rfl
theorem fok56:FnOk Try.prog [] 56 ⟨14,c56,[.tmp 2,.tmp 3]⟩:=FnOk.by Try.func56 b56 p56 Try.ntmps56 (by rw [Try.results56]) (by kernel_rfl)
theorem b57:(match Try.f57.body with | some c=>rcOf c c57 | none=>none) = some c57:=by kernel_rfl
theorem p57:(match Try.f57.body with | some c=>codeB [] c | none=>false) = true:=by kernel_rfl
theorem fok57:FnOk Try.prog [] 57 ⟨50,c57,[.tmp 2]⟩:=FnOk.by Try.func57 b57 p57 Try.ntmps57 (by rw [Try.results57]) (by kernel_rfl)
theorem b58:(match Try.f58.body with | some c=>rcOf c c58 | none=>none) = some c58:=by kernel_rfl
theorem p58:(match Try.f58.body with | some c=>codeB [] c | none=>false) = true:=by kernel_rfl
theorem fok58:FnOk Try.prog [] 58 ⟨41,c58,[.tmp 4]⟩:=FnOk.by Try.func58 b58 p58 Try.ntmps58 (by rw [Try.results58]) (by kernel_rfl)
theorem b59:(match Try.f59.body with | some c=>rcOf c c59 | none=>none) = some c59:=by kernel_rfl
theorem p59:(match Try.f59.body with | some c=>codeB [] c | none=>false) = true:=by kernel_rfl
theorem fok59:FnOk Try.prog [] 59 ⟨19,c59,[.tmp 4]⟩:=FnOk.by Try.func59 b59 p59 Try.ntmps59 (by rw [Try.results59]) (by kernel_rfl)
theorem b60:(match Try.f60.body with | some c=>rcOf c c60 | none=>none) = some c60:=by kernel_rfl
theorem p60:(match Try.f60.body with | some c=>codeB [] c | none=>false) = true:=by kernel_rfl
theorem fok60:FnOk Try.prog [] 60 ⟨148,c60,[]⟩:=FnOk.by Try.func60 b60 p60 Try.ntmps60 (by rw [Try.results60]) (by kernel_rfl)
theorem b61:(match Try.f61.body with | some c=>rcOf c c61 | none=>none) = some c61:=by kernel_rfl
theorem p61:(match Try.f61.body with | some c=>codeB [] c | none=>false) = true:=by kernel_rfl
theorem fok61:FnOk Try.prog [] 61 ⟨8,c61,[.tmp 2]⟩:=FnOk.by Try.func61 b61 p61 Try.ntmps61 (by rw [Try.results61]) (by kernel_rfl)
theorem b62:(match Try.f62.body with | some c=>rcOf c c62 | none=>none) = some c62:=by kernel_rfl
theorem p62:(match Try.f62.body with | some c=>codeB [] c | none=>false) = true:=by kernel_rfl
theorem fok62:FnOk Try.prog [] 62 ⟨20,c62,[.tmp 4]⟩:=FnOk.by Try.func62 b62 p62 Try.ntmps62 (by rw [Try.results62]) (by kernel_rfl)
theorem b63:(match Try.f63.body with | some c=>rcOf c c63 | none=>none) = some c63:=by kernel_rfl
theorem p63:(match Try.f63.body with | some c=>codeB [] c | none=>false) = true:=by kernel_rfl
theorem fok63:FnOk Try.prog [] 63 ⟨48,c63,[.tmp 4]⟩:=FnOk.by Try.func63 b63 p63 Try.ntmps63 (by rw [Try.results63]) (by kernel_rfl)
theorem b64:(match Try.f64.body with | some c=>rcOf c c64 | none=>none) = some c64:=by kernel_rfl
theorem p64:(match Try.f64.body with | some c=>codeB [] c | none=>false) = true:=by kernel_rfl
theorem fok64:FnOk Try.prog [] 64 ⟨32,c64,[]⟩:=FnOk.by Try.func64 b64 p64 Try.ntmps64 (by rw [Try.results64]) (by kernel_rfl)
theorem b65:(match Try.f65.body with | some c=>rcOf c c65 | none=>none) = some c65:=by kernel_rfl
theorem p65:(match Try.f65.body with | some c=>codeB [] c | none=>false) = true:=by kernel_rfl
theorem fok65:FnOk Try.prog [] 65 ⟨27,c65,[.tmp 4]⟩:=FnOk.by Try.func65 b65 p65 Try.ntmps65 (by rw [Try.results65]) (by kernel_rfl)
theorem b66:(match Try.f66.body with | some c=>rcOf c c66 | none=>none) = some c66:=by kernel_rfl
theorem p66:(match Try.f66.body with | some c=>codeB [] c | none=>false) = true:=by kernel_rfl
theorem fok66:FnOk Try.prog [] 66 ⟨148,c66,[]⟩:=FnOk.by Try.func66 b66 p66 Try.ntmps66 (by rw [Try.results66]) (by kernel_rfl)
theorem b67:(match Try.f67.body with | some c=>rcOf c c67 | none=>none) = some c67:=by kernel_rfl
theorem p67:(match Try.f67.body with | some c=>codeB [] c | none=>false) = true:=by kernel_rfl
theorem fok67:FnOk Try.prog [] 67 ⟨53,c67,[]⟩:=FnOk.by Try.func67 b67 p67 Try.ntmps67 (by rw [Try.results67]) (by kernel_rfl)
theorem b68:(match Try.f68.body with | some c=>rcOf c c68 | none=>none) = some c68:=by kernel_rfl
theorem p68:(match Try.f68.body with | some c=>codeB [] c | none=>false) = true:=by kernel_rfl
theorem fok68:FnOk Try.prog [] 68 ⟨60,c68,[]⟩:=FnOk.by Try.func68 b68 p68 Try.ntmps68 (by rw [Try.results68]) (by kernel_rfl)
theorem b69:(match Try.f69.body with | some c=>rcOf c c69 | none=>none) = some c69:=by kernel_rfl
theorem p69:(match Try.f69.body with | some c=>codeB [] c | none=>false) = true:=by kernel_rfl
theorem fok69:FnOk Try.prog [] 69 ⟨67,c69,[]⟩:=FnOk.by Try.func69 b69 p69 Try.ntmps69 (by rw [Try.results69]) (by kernel_rfl)
theorem b70:(match Try.f70.body with | some c=>rcOf c c70 | none=>none) = some c70:=by kernel_rfl
theorem p70:(match Try.f70.body with | some c=>codeB [] c | none=>false) = true:=by kernel_rfl
theorem fok70:FnOk Try.prog [] 70 ⟨63,c70,[.tmp 8,.tmp 9]⟩:=FnOk.by Try.func70 b70 p70 Try.ntmps70 (by rw [Try.results70]) (by kernel_rfl)
theorem b71:(match Try.f71.body with | some c=>rcOf c c71 | none=>none) = some c71:=by kernel_rfl
theorem p71:(match Try.f71.body with | some c=>codeB [] c | none=>false) = true:=by kernel_rfl
theorem fok71:FnOk Try.prog [] 71 ⟨34,c71,[]⟩:=FnOk.by Try.func71 b71 p71 Try.ntmps71 (by rw [Try.results71]) (by kernel_rfl)
theorem b72:(match Try.f72.body with | some c=>rcOf c c72 | none=>none) = some c72:=by kernel_rfl
theorem p72:(match Try.f72.body with | some c=>codeB [] c | none=>false) = true:=by kernel_rfl
theorem fok72:FnOk Try.prog [] 72 ⟨141,c72,[.tmp 8]⟩:=FnOk.by Try.func72 b72 p72 Try.ntmps72 (by rw [Try.results72]) (by kernel_rfl)
theorem b73:(match Try.f73.body with | some c=>rcOf c c73 | none=>none) = some c73:=by kernel_rfl
theorem p73:(match Try.f73.body with | some c=>codeB [] c | none=>false) = true:=by kernel_rfl
theorem fok73:FnOk Try.prog [] 73 ⟨90,c73,[.tmp 10]⟩:=FnOk.by Try.func73 b73 p73 Try.ntmps73 (by rw [Try.results73]) (by kernel_rfl)
theorem b74:(match Try.f74.body with | some c=>rcOf c c74 | none=>none) = some c74:=by kernel_rfl
theorem p74:(match Try.f74.body with | some c=>codeB [] c | none=>false) = true:=by kernel_rfl
theorem fok74:FnOk Try.prog [] 74 ⟨178,c74,[.tmp 10,.tmp 11]⟩:=FnOk.by Try.func74 b74 p74 Try.ntmps74 (by rw [Try.results74]) (by kernel_rfl)
theorem b75:(match Try.f75.body with | some c=>rcOf c c75 | none=>none) = some c75:=by kernel_rfl
theorem p75:(match Try.f75.body with | some c=>codeB [] c | none=>false) = true:=by kernel_rfl
theorem fok75:FnOk Try.prog [] 75 ⟨19,c75,[.tmp 2]⟩:=FnOk.by Try.func75 b75 p75 Try.ntmps75 (by rw [Try.results75]) (by kernel_rfl)
theorem b76:(match Try.f76.body with | some c=>rcOf c c76 | none=>none) = some c76:=by kernel_rfl
theorem p76:(match Try.f76.body with | some c=>codeB [] c | none=>false) = true:=by kernel_rfl
theorem fok76:FnOk Try.prog [] 76 ⟨25,c76,[.tmp 2]⟩:=FnOk.by Try.func76 b76 p76 Try.ntmps76 (by rw [Try.results76]) (by kernel_rfl)
theorem b77:(match Try.f77.body with | some c=>rcOf c c77 | none=>none) = some c77:=by kernel_rfl
theorem p77:(match Try.f77.body with | some c=>codeB [] c | none=>false) = true:=by kernel_rfl
theorem fok77:FnOk Try.prog [] 77 ⟨6,c77,[.tmp 2]⟩:=FnOk.by Try.func77 b77 p77 Try.ntmps77 (by rw [Try.results77]) (by kernel_rfl)
end Go.Proofs.Ytkhedoaiejjcfaa.HvR
set_option maxRecDepth 100000
namespace Go.Proofs.Ytkhedoaiejjcfaa.HvR
open Go Go.Sp Go.HvR
theorem b78:(match Try.f78.body with | some c=>rcOf c c78 | none=>none) = some c78:=by kernel_rfl
theorem p78:(match Try.f78.body with | some c=>codeB [] c | none=>false) = true:=by kernel_rfl
theorem fok78:FnOk Try.prog [] 78 ⟨30,c78,[.tmp 4,.tmp 5]⟩:=FnOk.by Try.func78 b78 p78 Try.ntmps78 (by rw [Try.results78]) (by kernel_rfl)
theorem b79:(match Try.f79.body with | some c=>rcOf c c79 | none=>none) = some c79:=by kernel_rfl
theorem p79:(match Try.f79.body with | some c=>codeB [] c | none=>false) = true:=by kernel_rfl
theorem fok79:FnOk Try.prog [] 79 ⟨53,c79,[]⟩:=FnOk.by Try.func79 b79 p79 Try.ntmps79 (by rw [Try.results79]) (by kernel_rfl)
theorem b80:(match Try.f80.body with | some c=>rcOf c c80 | none=>none) = some c80:=by kernel_rfl
theorem p80:(match Try.f80.body with | some c=>codeB [] c | none=>false) = true:=by kernel_rfl
theorem fok80:FnOk Try.prog [] 80 ⟨60,c80,[]⟩:=FnOk.by Try.func80 b80 p80 Try.ntmps80 (by rw [Try.results80]) (by kernel_rfl)
theorem b81:(match Try.f81.body with | some c=>rcOf c c81 | none=>none) = some c81:=by kernel_rfl
theorem p81:(match Try.f81.body with | some c=>codeB [] c | none=>false) = true:=by kernel_rfl
theorem fok81:FnOk Try.prog [] 81 ⟨67,c81,[]⟩:=FnOk.by Try.func81 b81 p81 Try.ntmps81 (by rw [Try.results81]) (by kernel_rfl)
theorem b82:(match Try.f82.body with | some c=>rcOf c c82 | none=>none) = some c82:=by kernel_rfl
theorem p82:(match Try.f82.body with | some c=>codeB [] c | none=>false) = true:=by kernel_rfl
theorem fok82:FnOk Try.prog [] 82 ⟨63,c82,[.tmp 8,.tmp 9]⟩:=FnOk.by Try.func82 b82 p82 Try.ntmps82 (by rw [Try.results82]) (by kernel_rfl)
theorem b83:(match Try.f83.body with | some c=>rcOf c c83 | none=>none) = some c83:=by kernel_rfl
theorem p83:(match Try.f83.body with | some c=>codeB [] c | none=>false) = true:=by kernel_rfl
theorem fok83:FnOk Try.prog [] 83 ⟨34,c83,[]⟩:=FnOk.by Try.func83 b83 p83 Try.ntmps83 (by rw [Try.results83]) (by kernel_rfl)
theorem b84:(match Try.f84.body with | some c=>rcOf c c84 | none=>none) = some c84:=by kernel_rfl
theorem p84:(match Try.f84.body with | some c=>codeB [] c | none=>false) = true:=by kernel_rfl
theorem fok84:FnOk Try.prog [] 84 ⟨141,c84,[.tmp 8]⟩:=FnOk.by Try.func84 b84 p84 Try.ntmps84 (by rw [Try.results84]) (by kernel_rfl)
theorem b85:(match Try.f85.body with | some c=>rcOf c c85 | none=>none) = some c85:=by kernel_rfl
theorem p85:(match Try.f85.body with | some c=>codeB [] c | none=>false) = true:=by kernel_rfl
theorem fok85:FnOk Try.prog [] 85 ⟨90,c85,[.tmp 10]⟩:=FnOk.by Try.func85 b85 p85 Try.ntmps85 (by rw [Try.results85]) (by kernel_rfl)
theorem b86:(match Try.f86.body with | some c=>rcOf c c86 | none=>none) = some c86:=by kernel_rfl
theorem p86:(match Try.f86.body with | some c=>codeB [] c | none=>false) = true:=by kernel_rfl
theorem fok86:FnOk Try.prog [] 86 ⟨178,c86,[.tmp 10,.tmp 11]⟩:=FnOk.by Try.func86 b86 p86 Try.ntmps86 (by rw [Try.results86]) (by kernel_rfl)
theorem b87:(match Try.f87.body with | some c=>rcOf c c87 | none=>none) = some c87:=by kernel_rfl
theorem p87:(match Try.f87.body with | some c=>codeB [] c | none=>false) = true:=by kernel_rfl
theorem fok87:FnOk Try.prog [] 87 ⟨82,c87,[]⟩:=FnOk.by Try.func87 b87 p87 Try.ntmps87 (by rw [Try.results87]) (by kernel_rfl)
theorem b88:(match Try.f88.body with | some c=>rcOf c c88 | none=>none) = some c88:=by kernel_rfl
theorem p88:(match Try.f88.body with | some c=>codeB [] c | none=>false) = true:=by kernel_rfl
theorem fok88:FnOk Try.prog [] 88 ⟨7,c88,[.tmp 2]⟩:=FnOk.by Try.func88 b88 p88 Try.ntmps88 (by rw [Try.results88]) (by kernel_rfl)
theorem b89:(match Try.f89.body with | some c=>rcOf c c89 | none=>none) = some c89:=by kernel_rfl
theorem p89:(match Try.f89.body with | some c=>codeB [] c | none=>false) = true:=by kernel_rfl
theorem fok89:FnOk Try.prog [] 89 ⟨33,c89,[.tmp 2]⟩:=FnOk.by Try.func89 b89 p89 Try.ntmps89 (by rw [Try.results89]) (by kernel_rfl)
theorem b90:(match Try.f90.body with | some c=>rcOf c c90 | none=>none) = some c90:=by kernel_rfl
theorem p90:(match Try.f90.body with | some c=>codeB [] c | none=>false) = true:=by kernel_rfl
theorem fok90:FnOk Try.prog [] 90 ⟨18,c90,[.tmp 8]⟩:=FnOk.by Try.func90 b90 p90 Try.ntmps90 (by rw [Try.results90]) (by kernel_rfl)
theorem b91:(match Try.f91.body with | some c=>rcOf c c91 | none=>none) = some c91:=by kernel_rfl
theorem p91:(match Try.f91.body with | some c=>codeB [] c | none=>false) = true:=by kernel_rfl
theorem fok91:FnOk Try.prog [] 91 ⟨41,c91,[.tmp 12]⟩:=FnOk.by Try.func91 b91 p91 Try.ntmps91 (by rw [Try.results91]) (by kernel_rfl)
theorem b92:(match Try.f92.body with | some c=>rcOf c c92 | none=>none) = some c92:=by kernel_rfl
theorem p92:(match Try.f92.body with | some c=>codeB [] c | none=>false) = true:=by kernel_rfl
theorem fok92:FnOk Try.prog [] 92 ⟨17,c92,[.tmp 4,.tmp 5]⟩:=FnOk.by Try.func92 b92 p92 Try.ntmps92 (by rw [Try.results92]) (by kernel_rfl)
theorem b93:(match Try.f93.body with | some c=>rcOf c c93 | none=>none) = some c93:=by kernel_rfl
theorem p93:(match Try.f93.body with | some c=>codeB [] c | none=>false) = true:=by kernel_rfl
theorem fok93:FnOk Try.prog [] 93 ⟨51,c93,[.tmp 4,.tmp 5]⟩:=FnOk.by Try.func93 b93 p93 Try.ntmps93 (by rw [Try.results93]) (by kernel_rfl)
theorem b94:(match Try.f94.body with | some c=>rcOf c c94 | none=>none) = some c94:=by kernel_rfl
theorem p94:(match Try.f94.body with | some c=>codeB [] c | none=>false) = true:=by kernel_rfl
theorem fok94:FnOk Try.prog [] 94 ⟨82,c94,[]⟩:=FnOk.by Try.func94 b94 p94 Try.ntmps94 (by rw [Try.results94]) (by kernel_rfl)
theorem b95:(match Try.f95.body with | some c=>rcOf c c95 | none=>none) = some c95:=by kernel_rfl
theorem p95:(match Try.f95.body with | some c=>codeB [] c | none=>false) = true:=by kernel_rfl
theorem fok95:FnOk Try.prog [] 95 ⟨18,c95,[.tmp 8]⟩:=FnOk.by Try.func95 b95 p95 Try.ntmps95 (by rw [Try.results95]) (by kernel_rfl)
theorem b96:(match Try.f96.body with | some c=>rcOf c c96 | none=>none) = some c96:=by kernel_rfl
theorem p96:(match Try.f96.body with | some c=>codeB [] c | none=>false) = true:=by kernel_rfl
theorem fok96:FnOk Try.prog [] 96 ⟨41,c96,[.tmp 12]⟩:=FnOk.by Try.func96 b96 p96 Try.ntmps96 (by rw [Try.results96]) (by kernel_rfl)
theorem b97:(match Try.f97.body with | some c=>rcOf c c97 | none=>none) = some c97:=by kernel_rfl
theorem p97:(match Try.f97.body with | some c=>codeB [] c | none=>false) = true:=by kernel_rfl
theorem fok97:FnOk Try.prog [] 97 ⟨32,c97,[.tmp 10,.tmp 11]⟩:=FnOk.by Try.func97 b97 p97 Try.ntmps97 (by rw [Try.results97]) (by kernel_rfl)
theorem b98:(match Try.f98.body with | some c=>rcOf c c98 | none=>none) = some c98:=by kernel_rfl
theorem p98:(match Try.f98.body with | some c=>codeB [] c | none=>false) = true:=by kernel_rfl
theorem fok98:FnOk Try.prog [] 98 ⟨32,c98,[.tmp 10,.tmp 11]⟩:=FnOk.by Try.func98 b98 p98 Try.ntmps98 (by rw [Try.results98]) (by kernel_rfl)
end Go.Proofs.Ytkhedoaiejjcfaa.HvR
set_option maxRecDepth 100000
namespace Go.Proofs.Ytkhedoaiejjcfaa.HvR
open Go Go.Sp Go.HvR
theorem tok3:TyOk Try.prog 3 ti3:=TyOk.by Try.underlying3 (inf:=Try.t3) (by kernel_rfl) (by kernel_rfl) (by kernel_rfl) (by kernel_rfl) (by kernel_rfl) (fun h=>by cases h)
theorem tok4:TyOk Try.prog 4 ti4:=TyOk.by Try.underlying4 (inf:=Try.t4) (by kernel_rfl) (by kernel_rfl) (by kernel_rfl) (by kernel_rfl) (by kernel_rfl) (fun h=>by cases h)
theorem tok5:TyOk Try.prog 5 ti5:=TyOk.by Try.underlying5 (inf:=Try.t5) (by kernel_rfl) (by kernel_rfl) (by kernel_rfl) (by kernel_rfl) (by kernel_rfl) (fun h=>by cases h)
theorem tok9:TyOk Try.prog 9 ti9:=TyOk.by Try.underlying9 (inf:=Try.t9) (by kernel_rfl) (by kernel_rfl) (by kernel_rfl) (by kernel_rfl) (by kernel_rfl) (fun h=>by cases h)
theorem tok22:TyOk Try.prog 22 ti22:=TyOk.by Try.underlying22 (inf:=Try.t22) (by kernel_rfl) (by kernel_rfl) (by kernel_rfl) (by kernel_rfl) (by kernel_rfl) (fun h=>by cases h)
theorem tok25:TyOk Try.prog 25 ti25:=TyOk.by Try.underlying25 (inf:=Try.t25) (by kernel_rfl) (by kernel_rfl) (by kernel_rfl) (by kernel_rfl) (by kernel_rfl) (fun h=>by cases h)
theorem tok28:TyOk Try.prog 28 ti28:=TyOk.by Try.underlying28 (inf:=Try.t28) (by kernel_rfl) (by kernel_rfl) (by kernel_rfl) (by kernel_rfl) (by kernel_rfl) (fun h=>by cases h)
theorem tok32:TyOk Try.prog 32 ti32:=TyOk.by Try.underlying32 (inf:=Try.t32) (by kernel_rfl) (by kernel_rfl) (by kernel_rfl) (by kernel_rfl) (by kernel_rfl) (fun h=>by cases h)
theorem tok48:TyOk Try.prog 48 ti48:=TyOk.by Try.underlying48 (inf:=Try.t48) (by kernel_rfl) (by kernel_rfl) (by kernel_rfl) (by kernel_rfl) (by kernel_rfl) (fun h=>by cases h)
theorem tok49:TyOk Try.prog 49 ti49:=TyOk.by Try.underlying49 (inf:=Try.t49) (by kernel_rfl) (by kernel_rfl) (by kernel_rfl) (by kernel_rfl) (by kernel_rfl) (fun h=>by cases h)
theorem tok51:TyOk Try.prog 51 ti51:=TyOk.by Try.underlying51 (inf:=Try.t51) (by kernel_rfl) (by kernel_rfl) (by kernel_rfl) (by kernel_rfl) (by kernel_rfl) (fun _=>⟨_,rfl,Fl.ok (d:=8) (⟨by kernel_rfl,.inr (.inr (.inr (.inl ⟨22,3,[(.int .i64 0)],Try.underlying51,⟨by kernel_rfl,.inl ⟨⟨_,Try.underlying3⟩,_,_,rfl⟩⟩,by kernel_rfl⟩)))⟩) (by decide) ⟨_,Try.underlying51,rfl⟩ (by kernel_rfl)⟩)
theorem tok60:TyOk Try.prog 60 ti60:=TyOk.by Try.underlying60 (inf:=Try.t60) (by kernel_rfl) (by kernel_rfl) (by kernel_rfl) (by kernel_rfl) (by kernel_rfl) (fun h=>by cases h)
theorem tok63:TyOk Try.prog 63 ti63:=TyOk.by Try.underlying63 (inf:=Try.t63) (by kernel_rfl) (by kernel_rfl) (by kernel_rfl) (by kernel_rfl) (by kernel_rfl) (fun h=>by cases h)
theorem tok65:TyOk Try.prog 65 ti65:=TyOk.by Try.underlying65 (inf:=Try.t65) (by kernel_rfl) (by kernel_rfl) (by kernel_rfl) (by kernel_rfl) (by kernel_rfl) (fun h=>by cases h)
theorem tok66:TyOk Try.prog 66 ti66:=TyOk.by Try.underlying66 (inf:=Try.t66) (by kernel_rfl) (by kernel_rfl) (by kernel_rfl) (by kernel_rfl) (by kernel_rfl) (fun h=>by cases h)
theorem tok73:TyOk Try.prog 73 ti73:=TyOk.by Try.underlying73 (inf:=Try.t73) (by kernel_rfl) (by kernel_rfl) (by kernel_rfl) (by kernel_rfl) (by kernel_rfl) (fun h=>by cases h)
theorem tok81:TyOk Try.prog 81 ti81:=TyOk.by Try.underlying81 (inf:=Try.t81) (by kernel_rfl) (by kernel_rfl) (by kernel_rfl) (by kernel_rfl) (by kernel_rfl) (fun h=>by cases h)
theorem tok87:TyOk Try.prog 87 ti87:=TyOk.by Try.underlying87 (inf:=Try.t87) (by kernel_rfl) (by kernel_rfl) (by kernel_rfl) (by kernel_rfl) (by kernel_rfl) (fun h=>by cases h)
theorem tok95:TyOk Try.prog 95 ti95:=TyOk.by Try.underlying95 (inf:=Try.t95) (by kernel_rfl) (by kernel_rfl) (by kernel_rfl) (by kernel_rfl) (by kernel_rfl) (fun h=>by cases h)
theorem tok97:TyOk Try.prog 97 ti97:=TyOk.by Try.underlying97 (inf:=Try.t97) (by kernel_rfl) (by kernel_rfl) (by kernel_rfl) (by kernel_rfl) (by kernel_rfl) (fun h=>by cases h)
theorem tok105:TyOk Try.prog 105 ti105:=TyOk.by Try.underlying105 (inf:=Try.t105) (by kernel_rfl) (by kernel_rfl) (by kernel_rfl) (by kernel_rfl) (by kernel_rfl) (fun h=>by cases h)
theorem tok109:TyOk Try.prog 109 ti109:=TyOk.by Try.underlying109 (inf:=Try.t109) (by kernel_rfl) (by kernel_rfl) (by kernel_rfl) (by kernel_rfl) (by kernel_rfl) (fun h=>by cases h)
theorem ttOk:TOk Try.prog tt:=TOk.of_all (t:=ttTr) ⟨trivial,⟨trivial,⟨tok3,⟨trivial,⟨trivial,⟨trivial,⟨tok63,trivial,trivial⟩,⟨tok95,trivial,trivial⟩⟩,trivial⟩,⟨trivial,trivial,⟨trivial,⟨tok87,trivial,trivial⟩,trivial⟩⟩⟩,⟨trivial,⟨trivial,trivial,⟨tok51,trivial,trivial⟩⟩,trivial⟩⟩,⟨tok5,⟨tok9,⟨trivial,⟨trivial,⟨tok65,trivial,trivial⟩,⟨tok97,trivial,trivial⟩⟩,⟨tok49,⟨tok81,trivial,trivial⟩,trivial⟩⟩,⟨tok25,⟨trivial,⟨tok73,trivial,trivial⟩,⟨tok105,trivial,trivial⟩⟩,trivial⟩⟩,⟨trivial,trivial,⟨trivial,⟨trivial,trivial,⟨tok109,trivial,trivial⟩⟩,trivial⟩⟩⟩⟩,⟨trivial,⟨tok4,⟨trivial,⟨trivial,⟨tok32,trivial,trivial⟩,⟨tok48,trivial,trivial⟩⟩,trivial⟩,⟨trivial,trivial,⟨tok28,trivial,⟨tok60,trivial,trivial⟩⟩⟩⟩,⟨trivial,⟨trivial,⟨trivial,⟨trivial,⟨tok66,trivial,trivial⟩,trivial⟩,trivial⟩,trivial⟩,⟨trivial,⟨tok22,trivial,trivial⟩,trivial⟩⟩⟩⟩
theorem fnAll:fnTr.All (FnOk Try.prog []):=⟨trivial,⟨trivial,⟨fok3,⟨fok7,⟨fok15,⟨fok31,⟨fok63,trivial,trivial⟩,⟨fok95,trivial,trivial⟩⟩,⟨fok47,⟨fok79,trivial,trivial⟩,trivial⟩⟩,⟨fok23,⟨fok39,⟨fok71,trivial,trivial⟩,trivial⟩,⟨fok55,⟨fok87,trivial,trivial⟩,trivial⟩⟩⟩,⟨fok11,⟨fok19,⟨fok35,⟨fok67,trivial,trivial⟩,trivial⟩,⟨fok51,⟨fok83,trivial,trivial⟩,trivial⟩⟩,⟨fok27,⟨fok43,⟨fok75,trivial,trivial⟩,trivial⟩,⟨fok59,⟨fok91,trivial,trivial⟩,trivial⟩⟩⟩⟩,⟨fok5,⟨fok9,⟨fok17,⟨fok33,⟨fok65,trivial,trivial⟩,⟨fok97,trivial,trivial⟩⟩,⟨fok49,⟨fok81,trivial,trivial⟩,trivial⟩⟩,⟨fok25,⟨fok41,⟨fok73,trivial,trivial⟩,trivial⟩,⟨fok57,⟨fok89,trivial,trivial⟩,trivial⟩⟩⟩,⟨fok13,⟨fok21,⟨fok37,⟨fok69,trivial,trivial⟩,trivial⟩,⟨fok53,⟨fok85,trivial,trivial⟩,trivial⟩⟩,⟨fok29,⟨fok45,⟨fok77,trivial,trivial⟩,trivial⟩,⟨fok61,⟨fok93,trivial,trivial⟩,trivial⟩⟩⟩⟩⟩,⟨trivial,⟨fok4,⟨fok8,⟨fok16,⟨fok32,⟨fok64,trivial,trivial⟩,⟨fok96,trivial,trivial⟩⟩,⟨fok48,⟨fok80,trivial,trivial⟩,trivial⟩⟩,⟨fok24,⟨fok40,⟨fok72,trivial,trivial⟩,trivial⟩,⟨fok56,⟨fok88,trivial,trivial⟩,trivial⟩⟩⟩,⟨fok12,⟨fok20,⟨fok36,⟨fok68,trivial,trivial⟩,trivial⟩,⟨fok52,⟨fok84,trivial,trivial⟩,trivial⟩⟩,⟨fok28,⟨fok44,⟨fok76,trivial,trivial⟩,trivial⟩,⟨fok60,⟨fok92,trivial,trivial⟩,trivial⟩⟩⟩⟩,⟨fok6,⟨fok10,⟨fok18,⟨fok34,⟨fok66,trivial,trivial⟩,⟨fok98,trivial,trivial⟩⟩,⟨fok50,⟨fok82,trivial,trivial⟩,trivial⟩⟩,⟨fok26,⟨fok42,⟨fok74,trivial,trivial⟩,trivial⟩,⟨fok58,⟨fok90,trivial,trivial⟩,trivial⟩⟩⟩,⟨fok14,⟨fok22,⟨fok38,⟨fok70,trivial,trivial⟩,trivial⟩,⟨fok54,⟨fok86,trivial,trivial⟩,trivial⟩⟩,⟨fok30,⟨fok46,⟨fok78,trivial,trivial⟩,trivial⟩,⟨fok62,⟨fok94,trivial,trivial⟩,trivial⟩⟩⟩⟩⟩⟩
theorem fnsOk (f:FuncId) (r:RFn) (h:fns f = some r):FnOk Try.prog [] f r:=fnAll.get h
end Go.Proofs.Ytkhedoaiejjcfaa.HvR
set_option maxRecDepth 100000
namespace Go.Proofs.Ytkhedoaiejjcfaa.HvR
open Go Go.Sp Go.HvRM Go.HvR
noncomputable section
theorem fk3:FnOk Try.prog (List.range tabs.length) 3 ⟨105,c3_61,[.tmp 4]⟩:=by
 have h:c3 = c3_61:=by kernel_rfl
 rw [←h];exact fok3
theorem fk4:FnOk Try.prog (List.range tabs.length) 4 ⟨6,c4_3,[.tmp 2]⟩:=by
 have h:c4 = c4_3:=by kernel_rfl
 rw [←h];exact fok4
theorem fk6:FnOk Try.prog (List.range tabs.length) 6 ⟨65,c6_65,[.tmp 2,.tmp 3]⟩:=by
 have h:c6 = c6_65:=by kernel_rfl
 rw [←h];exact fok6
theorem fk7:FnOk Try.prog (List.range tabs.length) 7 ⟨39,c7_33,[.tmp 2,.tmp 3]⟩:=by
 have h:c7 = c7_33:=by kernel_rfl
 rw [←h];exact fok7
theorem fk9:FnOk Try.prog (List.range tabs.length) 9 ⟨46,c9_29,[.tmp 2,.tmp 3]⟩:=by
 have h:c9 = c9_29:=by kernel_rfl
 rw [←h];exact fok9
theorem fk10:FnOk Try.prog (List.range tabs.length) 10 ⟨27,c10_26,[.tmp 4]⟩:=by
 have h:c10 = c10_26:=by kernel_rfl
 rw [←h];exact fok10
theorem fk21:FnOk Try.prog (List.range tabs.length) 21 ⟨26,c21_26,[.tmp 4]⟩:=by
 have h:c21 = c21_26:=by kernel_rfl
 rw [←h];exact fok21
theorem fk23:FnOk Try.prog (List.range tabs.length) 23 ⟨32,c23_46,[.tmp 2]⟩:=by
 have h:c23 = c23_46:=by kernel_rfl
 rw [←h];exact fok23
theorem fk24:FnOk Try.prog (List.range tabs.length) 24 ⟨19,c24_20,[.cell 2 51]⟩:=by
 have h:c24 = c24_20:=by kernel_rfl
 rw [←h];exact fok24
theorem fk25:FnOk Try.prog (List.range tabs.length) 25 ⟨51,c25_31,[.tmp 2]⟩:=by
 have h:c25 = c25_31:=by kernel_rfl
 rw [←h];exact fok25
theorem fk27:FnOk Try.prog (List.range tabs.length) 27 ⟨49,c27_53,[.tmp 2]⟩:=by
 have h:c27 = c27_53:=by kernel_rfl
 rw [←h];exact fok27
theorem fk28:FnOk Try.prog (List.range tabs.length) 28 ⟨42,c28_38,[.tmp 2]⟩:=by
 have h:c28 = c28_38:=by kernel_rfl
 rw [←h];exact fok28
theorem fk29:FnOk Try.prog (List.range tabs.length) 29 ⟨44,c29_37,[.tmp 4]⟩:=by
 have h:c29 = c29_37:=by kernel_rfl
 rw [←h];exact fok29
theorem fk30:FnOk Try.prog (List.range tabs.length) 30 ⟨18,c30_18,[.tmp 2]⟩:=by
 have h:c30 = c30_18:=by kernel_rfl
 rw [←h];exact fok30
theorem fk31:FnOk Try.prog (List.range tabs.length) 31 ⟨26,c31_26,[.tmp 4]⟩:=by
 have h:c31 = c31_26:=by kernel_rfl
 rw [←h];exact fok31
theorem fk32:FnOk Try.prog (List.range tabs.length) 32 ⟨15,c32_3,[.tmp 6]⟩:=by
 have h:c32 = c32_3:=by kernel_rfl
 rw [←h];exact fok32
theorem fk33:FnOk Try.prog (List.range tabs.length) 33 ⟨15,c33_16,[.tmp 2,.tmp 3]⟩:=by
 have h:c33 = c33_16:=by kernel_rfl
 rw [←h];exact fok33
theorem fk42:FnOk Try.prog (List.range tabs.length) 42 ⟨36,c42_38,[.tmp 4]⟩:=by
 have h:c42 = c42_38:=by kernel_rfl
 rw [←h];exact fok42
theorem fk43:FnOk Try.prog (List.range tabs.length) 43 ⟨15,c43_3,[.tmp 6]⟩:=by
 have h:c43 = c43_3:=by kernel_rfl
 rw [←h];exact fok43
theorem fk44:FnOk Try.prog (List.range tabs.length) 44 ⟨15,c44_24,[.tmp 2]⟩:=by
 have h:c44 = c44_24:=by kernel_rfl
 rw [←h];exact fok44
theorem fk45:FnOk Try.prog (List.range tabs.length) 45 ⟨15,c45_11,[.cell 2 51]⟩:=by
 have h:c45 = c45_11:=by kernel_rfl
 rw [←h];exact fok45
theorem fk46:FnOk Try.prog (List.range tabs.length) 46 ⟨18,c46_18,[.tmp 2]⟩:=by
 have h:c46 = c46_18:=by kernel_rfl
 rw [←h];exact fok46
theorem fk47:FnOk Try.prog (List.range tabs.length) 47 ⟨45,c47_32,[.tmp 2]⟩:=by
 have h:c47 = c47_32:=by kernel_rfl
 rw [←h];exact fok47
theorem fk48:FnOk Try.prog (List.range tabs.length) 48 ⟨18,c48_20,[.tmp 2]⟩:=by
 have h:c48 = c48_20:=by kernel_rfl
 rw [←h];exact fok48
theorem fk49:FnOk Try.prog (List.range tabs.length) 49 ⟨14,c49_26,[.tmp 2,.cell 3 51]⟩:=by
 have h:c49 = c49_26:=by kernel_rfl
 rw [←h];exact fok49
theorem fk54:FnOk Try.prog (List.range tabs.length) 54 ⟨17,c54_20,[.tmp 2]⟩:=by
 have h:c54 = c54_20:=by kernel_rfl
 rw [←h];exact fok54
theorem fk56:FnOk Try.prog (List.range tabs.length) 56 ⟨14,c56_16,[.tmp 2,.tmp 3]⟩:=by
 have h:c56 = c56_16:=by kernel_rfl
 rw [←h];exact fok56
theorem fk57:FnOk Try.prog (List.range tabs.length) 57 ⟨50,c57_35,[.tmp 2]⟩:=by
 have h:c57 = c57_35:=by kernel_rfl
 rw [←h];exact fok57
theorem fk58:FnOk Try.prog (List.range tabs.length) 58 ⟨41,c58_20,[.tmp 4]⟩:=by
 have h:c58 = c58_20:=by kernel_rfl
 rw [←h];exact fok58
theorem fk62:FnOk Try.prog (List.range tabs.length) 62 ⟨20,c62_37,[.tmp 4]⟩:=by
 have h:c62 = c62_37:=by kernel_rfl
 rw [←h];exact fok62
theorem fk77:FnOk Try.prog (List.range tabs.length) 77 ⟨6,c77_3,[.tmp 2]⟩:=by
 have h:c77 = c77_3:=by kernel_rfl
 rw [←h];exact fok77
theorem tabs_ne:∀ t ∈ tabs,t ≠ []:=by intro t ht;cases ht
theorem tabs_pl:∀ t ∈ tabs,∀ x ∈ t,plain1 x = true:=by intro t ht;cases ht
theorem inl_ok (hm:Try.prog.follows .mixedOrders = true) {pu:PureF} (hl46:LiveOk Try.prog tabs 46 1 (pu 46)) (hg53:PureOk Try.prog tabs 53 (pu 53)) (hg63:PureOk Try.prog tabs 63 (pu 63)):CallOk Try.prog (List.range tabs.length) (inl pu):=fun g args H v H' h=>by
 replace h:bb (Nat.beq g 12) (identF args H) (bb (Nat.beq g 46) (liveF tabs 1 (pu 46) args H) (bb (Nat.beq g 53) (giveF tabs 1 (pu 53) args H) (bb (Nat.beq g 63) (giveF tabs 1 (pu 63) args H) (none)))) = some (v,H'):=h
 have hq:=bb_cases h;clear h;rcases hq with ⟨e,h⟩ | ⟨_,h⟩
 ·obtain rfl := Nat.eq_of_beq_eq_true e
  exact ident12_ok ttOk fnsOk hm h
 have hq:=bb_cases h;clear h;rcases hq with ⟨e,h⟩ | ⟨_,h⟩
 ·obtain rfl := Nat.eq_of_beq_eq_true e
  exact liveF_ok tabs_ne tabs_pl hl46 h
 have hq:=bb_cases h;clear h;rcases hq with ⟨e,h⟩ | ⟨_,h⟩
 ·obtain rfl := Nat.eq_of_beq_eq_true e
  exact giveF_ok tabs_ne tabs_pl hg53 h
 have hq:=bb_cases h;clear h;rcases hq with ⟨e,h⟩ | ⟨_,h⟩
 ·obtain rfl := Nat.eq_of_beq_eq_true e
  exact giveF_ok tabs_ne tabs_pl hg63 h
 cases h
theorem disp_ok (hm:Try.prog.follows .mixedOrders = true) (hw:PureOk Try.prog tabs 5 orc5∧PureOk Try.prog tabs 8 orc8∧PureOk Try.prog tabs 26 orc26∧PureOk Try.prog tabs 53 orc53∧PureOk Try.prog tabs 63 orc63) {pu:PureF} (hall:(∀ g,isP g = true→PureOk Try.prog tabs g (pu g))∧LiveOk Try.prog tabs 46 1 (pu 46)∧PureOk Try.prog tabs 53 (pu 53)∧PureOk Try.prog tabs 63 (pu 63)):(∀ g,isP g = true→PureOk Try.prog tabs g (disp pu g))∧LiveOk Try.prog tabs 46 1 (disp pu 46)∧PureOk Try.prog tabs 53 (disp pu 53)∧PureOk Try.prog tabs 63 (disp pu 63):=by
 obtain ⟨hpu,hl46,hg53,hg63⟩:=hall
 have hcall:=callP_ok (P:=Try.prog) (tabs:=tabs) tabs_ne tabs_pl (inl_ok hm hl46 hg53 hg63) hpu
 refine ⟨fun g hg=>?_,?_,?_,?_⟩
 ·have hg : g ∈ plist := memN_iff.1 hg
  simp only [plist,List.mem_cons,List.not_mem_nil,or_false] at hg
  rcases hg with rfl | rfl | rfl | rfl | rfl | rfl | rfl | rfl | rfl | rfl | rfl | rfl | rfl | rfl | rfl | rfl | rfl | rfl | rfl | rfl | rfl | rfl | rfl | rfl | rfl | rfl | rfl | rfl | rfl | rfl | rfl | rfl | rfl
  ·exact pureOk_of_run (tabs:=tabs) (f:=m3 pu L) ttOk hm hcall fk3 fun args v h hc=>r3 pu L rfl h hc
  ·exact pureOk_of_run (tabs:=tabs) (f:=m4 pu L) ttOk hm hcall fk4 fun args v h hc=>r4 pu L rfl h hc
  ·exact hw.1
  ·exact pureOk_of_run (tabs:=tabs) (f:=m6 pu L) ttOk hm hcall fk6 fun args v h hc=>r6 pu L rfl h hc
  ·exact pureOk_of_run (tabs:=tabs) (f:=m7 pu L) ttOk hm hcall fk7 fun args v h hc=>r7 pu L rfl h hc
  ·exact hw.2.1
  ·exact pureOk_of_run (tabs:=tabs) (f:=m9 pu L) ttOk hm hcall fk9 fun args v h hc=>r9 pu L rfl h hc
  ·exact pureOk_of_run (tabs:=tabs) (f:=m10 pu L) ttOk hm hcall fk10 fun args v h hc=>r10 pu L rfl h hc
  ·exact pureOk_of_run (tabs:=tabs) (f:=m21 pu L) ttOk hm hcall fk21 fun args v h hc=>r21 pu L rfl h hc
  ·exact pureOk_of_run (tabs:=tabs) (f:=m23 pu L) ttOk hm hcall fk23 fun args v h hc=>r23 pu L rfl h hc
  ·exact pureOk_of_run (tabs:=tabs) (f:=m24 pu L) ttOk hm hcall fk24 fun args v h hc=>r24 pu L rfl h hc
  ·exact pureOk_of_run (tabs:=tabs) (f:=m25 pu L) ttOk hm hcall fk25 fun args v h hc=>r25 pu L rfl h hc
  ·exact hw.2.2.1
  ·exact pureOk_of_run (tabs:=tabs) (f:=m27 pu L) ttOk hm hcall fk27 fun args v h hc=>r27 pu L rfl h hc
  ·exact pureOk_of_run (tabs:=tabs) (f:=m28 pu L) ttOk hm hcall fk28 fun args v h hc=>r28 pu L rfl h hc
  ·exact pureOk_of_run (tabs:=tabs) (f:=m29 pu L) ttOk hm hcall fk29 fun args v h hc=>r29 pu L rfl h hc
  ·exact pureOk_of_run (tabs:=tabs) (f:=m30 pu L) ttOk hm hcall fk30 fun args v h hc=>r30 pu L rfl h hc
  ·exact pureOk_of_run (tabs:=tabs) (f:=m31 pu L) ttOk hm hcall fk31 fun args v h hc=>r31 pu L rfl h hc
  ·exact pureOk_of_run (tabs:=tabs) (f:=m32 pu L) ttOk hm hcall fk32 fun args v h hc=>r32 pu L rfl h hc
  ·exact pureOk_of_run (tabs:=tabs) (f:=m33 pu L) ttOk hm hcall fk33 fun args v h hc=>r33 pu L rfl h hc
  ·exact pureOk_of_run (tabs:=tabs) (f:=m42 pu L) ttOk hm hcall fk42 fun args v h hc=>r42 pu L rfl h hc
  ·exact pureOk_of_run (tabs:=tabs) (f:=m43 pu L) ttOk hm hcall fk43 fun args v h hc=>r43 pu L rfl h hc
  ·exact pureOk_of_run (tabs:=tabs) (f:=m44 pu L) ttOk hm hcall fk44 fun args v h hc=>r44 pu L rfl h hc
  ·exact pureOk_of_run (tabs:=tabs) (f:=m45 pu L) ttOk hm hcall fk45 fun args v h hc=>r45 pu L rfl h hc
  ·exact pureOk_of_run (tabs:=tabs) (f:=m47 pu L) ttOk hm hcall fk47 fun args v h hc=>r47 pu L rfl h hc
  ·exact pureOk_of_run (tabs:=tabs) (f:=m48 pu L) ttOk hm hcall fk48 fun args v h hc=>r48 pu L rfl h hc
  ·exact pureOk_of_run (tabs:=tabs) (f:=m49 pu L) ttOk hm hcall fk49 fun args v h hc=>r49 pu L rfl h hc
  ·exact pureOk_of_run (tabs:=tabs) (f:=m54 pu L) ttOk hm hcall fk54 fun args v h hc=>r54 pu L rfl h hc
  ·exact pureOk_of_run (tabs:=tabs) (f:=m56 pu L) ttOk hm hcall fk56 fun args v h hc=>r56 pu L rfl h hc
  ·exact pureOk_of_run (tabs:=tabs) (f:=m57 pu L) ttOk hm hcall fk57 fun args v h hc=>r57 pu L rfl h hc
  ·exact pureOk_of_run (tabs:=tabs) (f:=m58 pu L) ttOk hm hcall fk58 fun args v h hc=>r58 pu L rfl h hc
  ·exact pureOk_of_run (tabs:=tabs) (f:=m62 pu L) ttOk hm hcall fk62 fun args v h hc=>r62 pu L rfl h hc
  ·exact pureOk_of_run (tabs:=tabs) (f:=m77 pu L) ttOk hm hcall fk77 fun args v h hc=>r77 pu L rfl h hc
 ·exact liveOk_of_run (tabs:=tabs) (f:=m46 pu L) ttOk hm hcall fk46 fun args v h hc=>r46 pu L rfl h hc
 ·exact hw.2.2.2.1
 ·exact hw.2.2.2.2
theorem all_ok (hm:Try.prog.follows .mixedOrders = true) (hw:PureOk Try.prog tabs 5 orc5∧PureOk Try.prog tabs 8 orc8∧PureOk Try.prog tabs 26 orc26∧PureOk Try.prog tabs 53 orc53∧PureOk Try.prog tabs 63 orc63):∀ n,(∀ g,isP g = true→PureOk Try.prog tabs g (puN n g))∧LiveOk Try.prog tabs 46 1 (puN n 46)∧PureOk Try.prog tabs 53 (puN n 53)∧PureOk Try.prog tabs 63 (puN n 63):=fun n=>by
 induction n with
 | zero =>
  refine ⟨fun g hg=>?_,?_,?_,?_⟩
  ·have hg : g ∈ plist := memN_iff.1 hg
   simp only [plist,List.mem_cons,List.not_mem_nil,or_false] at hg
   rcases hg with rfl | rfl | rfl | rfl | rfl | rfl | rfl | rfl | rfl | rfl | rfl | rfl | rfl | rfl | rfl | rfl | rfl | rfl | rfl | rfl | rfl | rfl | rfl | rfl | rfl | rfl | rfl | rfl | rfl | rfl | rfl | rfl | rfl
   ·exact ⟨enter_ok fk3,fun args v h=>by cases h⟩
   ·exact ⟨enter_ok fk4,fun args v h=>by cases h⟩
   ·exact ⟨(hw.1).1,fun args v h=>by cases h⟩
   ·exact ⟨enter_ok fk6,fun args v h=>by cases h⟩
   ·exact ⟨enter_ok fk7,fun args v h=>by cases h⟩
   ·exact ⟨(hw.2.1).1,fun args v h=>by cases h⟩
   ·exact ⟨enter_ok fk9,fun args v h=>by cases h⟩
   ·exact ⟨enter_ok fk10,fun args v h=>by cases h⟩
   ·exact ⟨enter_ok fk21,fun args v h=>by cases h⟩
   ·exact ⟨enter_ok fk23,fun args v h=>by cases h⟩
   ·exact ⟨enter_ok fk24,fun args v h=>by cases h⟩
   ·exact ⟨enter_ok fk25,fun args v h=>by cases h⟩
   ·exact ⟨(hw.2.2.1).1,fun args v h=>by cases h⟩
   ·exact ⟨enter_ok fk27,fun args v h=>by cases h⟩
   ·exact ⟨enter_ok fk28,fun args v h=>by cases h⟩
   ·exact ⟨enter_ok fk29,fun args v h=>by cases h⟩
   ·exact ⟨enter_ok fk30,fun args v h=>by cases h⟩
   ·exact ⟨enter_ok fk31,fun args v h=>by cases h⟩
   ·exact ⟨enter_ok fk32,fun args v h=>by cases h⟩
   ·exact ⟨enter_ok fk33,fun args v h=>by cases h⟩
   ·exact ⟨enter_ok fk42,fun args v h=>by cases h⟩
   ·exact ⟨enter_ok fk43,fun args v h=>by cases h⟩
   ·exact ⟨enter_ok fk44,fun args v h=>by cases h⟩
   ·exact ⟨enter_ok fk45,fun args v h=>by cases h⟩
   ·exact ⟨enter_ok fk47,fun args v h=>by cases h⟩
   ·exact ⟨enter_ok fk48,fun args v h=>by cases h⟩
   ·exact ⟨enter_ok fk49,fun args v h=>by cases h⟩
   ·exact ⟨enter_ok fk54,fun args v h=>by cases h⟩
   ·exact ⟨enter_ok fk56,fun args v h=>by cases h⟩
   ·exact ⟨enter_ok fk57,fun args v h=>by cases h⟩
   ·exact ⟨enter_ok fk58,fun args v h=>by cases h⟩
   ·exact ⟨enter_ok fk62,fun args v h=>by cases h⟩
   ·exact ⟨enter_ok fk77,fun args v h=>by cases h⟩
  ·exact ⟨enter_ok fk46,fun args v h=>by cases h⟩
  ·exact ⟨(hw.2.2.2.1).1,fun args v h=>by cases h⟩
  ·exact ⟨(hw.2.2.2.2).1,fun args v h=>by cases h⟩
 | succ n ih=>exact disp_ok hm hw ih
end
end Go.Proofs.Ytkhedoaiejjcfaa.HvR
set_option maxRecDepth 100000
namespace Go.Proofs.Ytkhedoaiejjcfaa.HvR
open Go Go.Sp Go.HvRM Go.HvR
theorem no_ok {P:Program} {gl:List Nat}:CallOk P gl (fun _ _ _=>none):=fun g args H v H' h=>by cases h
noncomputable def runR (fl k:Nat) (y:Int):Option Value:=frzR 0 (evFnP [] (fun _=>false) (fun _ _=>none) (fun _ _ _=>none) tt fns 60 63 [Sl.v 1 ⟨1,fl,[.int .i64 y]⟩,.int .i64 (.ofNat k)] (pureHeap []))
theorem rep_run (fl : Nat) (y : Int) : ∀ k, k ≤ 21 → runR fl k y = some (Sl.v 1 ⟨k, 0, zeroRow [.int .i64 y] k⟩)
 | 0,_=>by kernel_rfl
 | 1,_=>by kernel_rfl
 | 2,_=>by kernel_rfl
 | 3,_=>by kernel_rfl
 | 4,_=>by kernel_rfl
 | 5,_=>by kernel_rfl
 | 6,_=>by kernel_rfl
 | 7,_=>by kernel_rfl
 | 8,_=>by kernel_rfl
 | 9,_=>by kernel_rfl
 | 10,_=>by kernel_rfl
 | 11,_=>by kernel_rfl
 | 12,_=>by kernel_rfl
 | 13,_=>by kernel_rfl
 | 14,_=>by kernel_rfl
 | 15,_=>by kernel_rfl
 | 16,_=>by kernel_rfl
 | 17,_=>by kernel_rfl
 | 18,_=>by kernel_rfl
 | 19,_=>by kernel_rfl
 | 20,_=>by kernel_rfl
 | 21,_=>by kernel_rfl
 | k + 22,h=>by omega
theorem orc63_ok (hm:Try.prog.follows .mixedOrders = true):PureOk Try.prog tabs 63 orc63:=by
 refine pureOk_closedP (tabs:=tabs) (n:=60) (g:=63) (H:=pureHeap tabs) (isP:=fun _=>false) (pu:=fun _ _=>none) (inl:=fun _ _ _=>none) ttOk tabs_ne tabs_pl fnsOk hm (fun g h=>by cases h) no_ok (fun _=>rfl) rfl (enter_ok fok63) fun args v h=>?_
 replace h:=ll_uncons h;obtain ⟨a,r,rfl,h⟩:=h
 replace h:=ll_uncons h;obtain ⟨b,r,rfl,h⟩:=h
 replace h:=ll_end h;obtain ⟨rfl,h⟩:=h
 replace h:=oo_inv h;obtain ⟨s,hs,h⟩:=h
 replace h:=oo_inv h;obtain ⟨z,hz,h⟩:=h
 replace h:=oo_inv h;obtain ⟨k,hk,h⟩:=h
 obtain rfl:=toN_some hk
 obtain rfl:=toSl_some hs
 obtain rfl:=toI_some hz
 obtain ⟨n,fl,cs⟩:=s
 replace h:=ll_uncons h;obtain ⟨x,r,hcs,h⟩:=h
 have hcs:cs = x :: r:=hcs
 replace h:=ll_end h;obtain ⟨rfl,h⟩:=h
 replace h:=oo_inv h;obtain ⟨y,hy,h⟩:=h
 obtain rfl:=toI_some hy
 subst hcs
 replace h:=bb_inv h;obtain ⟨hc,h⟩:=h
 obtain ⟨h1,h2⟩:=an_inv hc
 have h1:n = 1:=Nat.eq_of_beq_eq_true h1
 subst h1
 injection h with h;subst h
 refine ⟨rfl,.inr ?_⟩
 exact rep_run fl y k (Nat.le_of_ble_eq_true h2)
noncomputable def runC (xs ys:List Value):Option Value:=frzR 0 (evFnP [] (fun _=>false) (fun _ _=>none) (fun _ _ _=>none) tt fns 60 53 [Sl.v 1 ⟨2,0,[Sl.v 1 ⟨len xs,0,xs⟩,Sl.v 1 ⟨len ys,0,ys⟩]⟩] (pureHeap []))
theorem cat_1_0 (k0 f0:Nat) (c0:List Value):runC [Sl.v 1 ⟨k0,f0,c0⟩] [] = some (Sl.v 1 ⟨1,0,[Sl.v 1 ⟨k0,f0,c0⟩]⟩):=by kernel_rfl
theorem cat_1_1 (k0 f0 k1 f1:Nat) (c0 c1:List Value):runC [Sl.v 1 ⟨k0,f0,c0⟩] [Sl.v 1 ⟨k1,f1,c1⟩] = some (Sl.v 1 ⟨2,0,[Sl.v 1 ⟨k0,f0,c0⟩,Sl.v 1 ⟨k1,f1,c1⟩]⟩):=by kernel_rfl
theorem cat_1_2 (k0 f0 k1 f1 k2 f2:Nat) (c0 c1 c2:List Value):runC [Sl.v 1 ⟨k0,f0,c0⟩] [Sl.v 1 ⟨k1,f1,c1⟩,Sl.v 1 ⟨k2,f2,c2⟩] = some (Sl.v 1 ⟨3,0,[Sl.v 1 ⟨k0,f0,c0⟩,Sl.v 1 ⟨k1,f1,c1⟩,Sl.v 1 ⟨k2,f2,c2⟩]⟩):=by kernel_rfl
theorem cat_1_3 (k0 f0 k1 f1 k2 f2 k3 f3:Nat) (c0 c1 c2 c3:List Value):runC [Sl.v 1 ⟨k0,f0,c0⟩] [Sl.v 1 ⟨k1,f1,c1⟩,Sl.v 1 ⟨k2,f2,c2⟩,Sl.v 1 ⟨k3,f3,c3⟩] = some (Sl.v 1 ⟨4,0,[Sl.v 1 ⟨k0,f0,c0⟩,Sl.v 1 ⟨k1,f1,c1⟩,Sl.v 1 ⟨k2,f2,c2⟩,Sl.v 1 ⟨k3,f3,c3⟩]⟩):=by kernel_rfl
theorem cat_1_4 (k0 f0 k1 f1 k2 f2 k3 f3 k4 f4:Nat) (c0 c1 c2 c3 c4:List Value):runC [Sl.v 1 ⟨k0,f0,c0⟩] [Sl.v 1 ⟨k1,f1,c1⟩,Sl.v 1 ⟨k2,f2,c2⟩,Sl.v 1 ⟨k3,f3,c3⟩,Sl.v 1 ⟨k4,f4,c4⟩] = some (Sl.v 1 ⟨5,0,[Sl.v 1 ⟨k0,f0,c0⟩,Sl.v 1 ⟨k1,f1,c1⟩,Sl.v 1 ⟨k2,f2,c2⟩,Sl.v 1 ⟨k3,f3,c3⟩,Sl.v 1 ⟨k4,f4,c4⟩]⟩):=by kernel_rfl
theorem cat_1_5 (k0 f0 k1 f1 k2 f2 k3 f3 k4 f4 k5 f5:Nat) (c0 c1 c2 c3 c4 c5:List Value):runC [Sl.v 1 ⟨k0,f0,c0⟩] [Sl.v 1 ⟨k1,f1,c1⟩,Sl.v 1 ⟨k2,f2,c2⟩,Sl.v 1 ⟨k3,f3,c3⟩,Sl.v 1 ⟨k4,f4,c4⟩,Sl.v 1 ⟨k5,f5,c5⟩] = some (Sl.v 1 ⟨6,0,[Sl.v 1 ⟨k0,f0,c0⟩,Sl.v 1 ⟨k1,f1,c1⟩,Sl.v 1 ⟨k2,f2,c2⟩,Sl.v 1 ⟨k3,f3,c3⟩,Sl.v 1 ⟨k4,f4,c4⟩,Sl.v 1 ⟨k5,f5,c5⟩]⟩):=by kernel_rfl
theorem cat_1_6 (k0 f0 k1 f1 k2 f2 k3 f3 k4 f4 k5 f5 k6 f6:Nat) (c0 c1 c2 c3 c4 c5 c6:List Value):runC [Sl.v 1 ⟨k0,f0,c0⟩] [Sl.v 1 ⟨k1,f1,c1⟩,Sl.v 1 ⟨k2,f2,c2⟩,Sl.v 1 ⟨k3,f3,c3⟩,Sl.v 1 ⟨k4,f4,c4⟩,Sl.v 1 ⟨k5,f5,c5⟩,Sl.v 1 ⟨k6,f6,c6⟩] = some (Sl.v 1 ⟨7,0,[Sl.v 1 ⟨k0,f0,c0⟩,Sl.v 1 ⟨k1,f1,c1⟩,Sl.v 1 ⟨k2,f2,c2⟩,Sl.v 1 ⟨k3,f3,c3⟩,Sl.v 1 ⟨k4,f4,c4⟩,Sl.v 1 ⟨k5,f5,c5⟩,Sl.v 1 ⟨k6,f6,c6⟩]⟩):=by kernel_rfl
theorem cat_2_0 (k0 f0 k1 f1:Nat) (c0 c1:List Value):runC [Sl.v 1 ⟨k0,f0,c0⟩,Sl.v 1 ⟨k1,f1,c1⟩] [] = some (Sl.v 1 ⟨2,0,[Sl.v 1 ⟨k0,f0,c0⟩,Sl.v 1 ⟨k1,f1,c1⟩]⟩):=by kernel_rfl
theorem cat_2_1 (k0 f0 k1 f1 k2 f2:Nat) (c0 c1 c2:List Value):runC [Sl.v 1 ⟨k0,f0,c0⟩,Sl.v 1 ⟨k1,f1,c1⟩] [Sl.v 1 ⟨k2,f2,c2⟩] = some (Sl.v 1 ⟨3,0,[Sl.v 1 ⟨k0,f0,c0⟩,Sl.v 1 ⟨k1,f1,c1⟩,Sl.v 1 ⟨k2,f2,c2⟩]⟩):=by kernel_rfl
theorem cat_2_2 (k0 f0 k1 f1 k2 f2 k3 f3:Nat) (c0 c1 c2 c3:List Value):runC [Sl.v 1 ⟨k0,f0,c0⟩,Sl.v 1 ⟨k1,f1,c1⟩] [Sl.v 1 ⟨k2,f2,c2⟩,Sl.v 1 ⟨k3,f3,c3⟩] = some (Sl.v 1 ⟨4,0,[Sl.v 1 ⟨k0,f0,c0⟩,Sl.v 1 ⟨k1,f1,c1⟩,Sl.v 1 ⟨k2,f2,c2⟩,Sl.v 1 ⟨k3,f3,c3⟩]⟩):=by kernel_rfl
theorem cat_2_3 (k0 f0 k1 f1 k2 f2 k3 f3 k4 f4:Nat) (c0 c1 c2 c3 c4:List Value):runC [Sl.v 1 ⟨k0,f0,c0⟩,Sl.v 1 ⟨k1,f1,c1⟩] [Sl.v 1 ⟨k2,f2,c2⟩,Sl.v 1 ⟨k3,f3,c3⟩,Sl.v 1 ⟨k4,f4,c4⟩] = some (Sl.v 1 ⟨5,0,[Sl.v 1 ⟨k0,f0,c0⟩,Sl.v 1 ⟨k1,f1,c1⟩,Sl.v 1 ⟨k2,f2,c2⟩,Sl.v 1 ⟨k3,f3,c3⟩,Sl.v 1 ⟨k4,f4,c4⟩]⟩):=by kernel_rfl
theorem cat_2_4 (k0 f0 k1 f1 k2 f2 k3 f3 k4 f4 k5 f5:Nat) (c0 c1 c2 c3 c4 c5:List Value):runC [Sl.v 1 ⟨k0,f0,c0⟩,Sl.v 1 ⟨k1,f1,c1⟩] [Sl.v 1 ⟨k2,f2,c2⟩,Sl.v 1 ⟨k3,f3,c3⟩,Sl.v 1 ⟨k4,f4,c4⟩,Sl.v 1 ⟨k5,f5,c5⟩] = some (Sl.v 1 ⟨6,0,[Sl.v 1 ⟨k0,f0,c0⟩,Sl.v 1 ⟨k1,f1,c1⟩,Sl.v 1 ⟨k2,f2,c2⟩,Sl.v 1 ⟨k3,f3,c3⟩,Sl.v 1 ⟨k4,f4,c4⟩,Sl.v 1 ⟨k5,f5,c5⟩]⟩):=by kernel_rfl
theorem cat_2_5 (k0 f0 k1 f1 k2 f2 k3 f3 k4 f4 k5 f5 k6 f6:Nat) (c0 c1 c2 c3 c4 c5 c6:List Value):runC [Sl.v 1 ⟨k0,f0,c0⟩,Sl.v 1 ⟨k1,f1,c1⟩] [Sl.v 1 ⟨k2,f2,c2⟩,Sl.v 1 ⟨k3,f3,c3⟩,Sl.v 1 ⟨k4,f4,c4⟩,Sl.v 1 ⟨k5,f5,c5⟩,Sl.v 1 ⟨k6,f6,c6⟩] = some (Sl.v 1 ⟨7,0,[Sl.v 1 ⟨k0,f0,c0⟩,Sl.v 1 ⟨k1,f1,c1⟩,Sl.v 1 ⟨k2,f2,c2⟩,Sl.v 1 ⟨k3,f3,c3⟩,Sl.v 1 ⟨k4,f4,c4⟩,Sl.v 1 ⟨k5,f5,c5⟩,Sl.v 1 ⟨k6,f6,c6⟩]⟩):=by kernel_rfl
theorem cat_3_0 (k0 f0 k1 f1 k2 f2:Nat) (c0 c1 c2:List Value):runC [Sl.v 1 ⟨k0,f0,c0⟩,Sl.v 1 ⟨k1,f1,c1⟩,Sl.v 1 ⟨k2,f2,c2⟩] [] = some (Sl.v 1 ⟨3,0,[Sl.v 1 ⟨k0,f0,c0⟩,Sl.v 1 ⟨k1,f1,c1⟩,Sl.v 1 ⟨k2,f2,c2⟩]⟩):=by kernel_rfl
theorem cat_3_1 (k0 f0 k1 f1 k2 f2 k3 f3:Nat) (c0 c1 c2 c3:List Value):runC [Sl.v 1 ⟨k0,f0,c0⟩,Sl.v 1 ⟨k1,f1,c1⟩,Sl.v 1 ⟨k2,f2,c2⟩] [Sl.v 1 ⟨k3,f3,c3⟩] = some (Sl.v 1 ⟨4,0,[Sl.v 1 ⟨k0,f0,c0⟩,Sl.v 1 ⟨k1,f1,c1⟩,Sl.v 1 ⟨k2,f2,c2⟩,Sl.v 1 ⟨k3,f3,c3⟩]⟩):=by kernel_rfl
theorem cat_3_2 (k0 f0 k1 f1 k2 f2 k3 f3 k4 f4:Nat) (c0 c1 c2 c3 c4:List Value):runC [Sl.v 1 ⟨k0,f0,c0⟩,Sl.v 1 ⟨k1,f1,c1⟩,Sl.v 1 ⟨k2,f2,c2⟩] [Sl.v 1 ⟨k3,f3,c3⟩,Sl.v 1 ⟨k4,f4,c4⟩] = some (Sl.v 1 ⟨5,0,[Sl.v 1 ⟨k0,f0,c0⟩,Sl.v 1 ⟨k1,f1,c1⟩,Sl.v 1 ⟨k2,f2,c2⟩,Sl.v 1 ⟨k3,f3,c3⟩,Sl.v 1 ⟨k4,f4,c4⟩]⟩):=by kernel_rfl
theorem cat_3_3 (k0 f0 k1 f1 k2 f2 k3 f3 k4 f4 k5 f5:Nat) (c0 c1 c2 c3 c4 c5:List Value):runC [Sl.v 1 ⟨k0,f0,c0⟩,Sl.v 1 ⟨k1,f1,c1⟩,Sl.v 1 ⟨k2,f2,c2⟩] [Sl.v 1 ⟨k3,f3,c3⟩,Sl.v 1 ⟨k4,f4,c4⟩,Sl.v 1 ⟨k5,f5,c5⟩] = some (Sl.v 1 ⟨6,0,[Sl.v 1 ⟨k0,f0,c0⟩,Sl.v 1 ⟨k1,f1,c1⟩,Sl.v 1 ⟨k2,f2,c2⟩,Sl.v 1 ⟨k3,f3,c3⟩,Sl.v 1 ⟨k4,f4,c4⟩,Sl.v 1 ⟨k5,f5,c5⟩]⟩):=by kernel_rfl
theorem cat_3_4 (k0 f0 k1 f1 k2 f2 k3 f3 k4 f4 k5 f5 k6 f6:Nat) (c0 c1 c2 c3 c4 c5 c6:List Value):runC [Sl.v 1 ⟨k0,f0,c0⟩,Sl.v 1 ⟨k1,f1,c1⟩,Sl.v 1 ⟨k2,f2,c2⟩] [Sl.v 1 ⟨k3,f3,c3⟩,Sl.v 1 ⟨k4,f4,c4⟩,Sl.v 1 ⟨k5,f5,c5⟩,Sl.v 1 ⟨k6,f6,c6⟩] = some (Sl.v 1 ⟨7,0,[Sl.v 1 ⟨k0,f0,c0⟩,Sl.v 1 ⟨k1,f1,c1⟩,Sl.v 1 ⟨k2,f2,c2⟩,Sl.v 1 ⟨k3,f3,c3⟩,Sl.v 1 ⟨k4,f4,c4⟩,Sl.v 1 ⟨k5,f5,c5⟩,Sl.v 1 ⟨k6,f6,c6⟩]⟩):=by kernel_rfl
theorem cat_4_0 (k0 f0 k1 f1 k2 f2 k3 f3:Nat) (c0 c1 c2 c3:List Value):runC [Sl.v 1 ⟨k0,f0,c0⟩,Sl.v 1 ⟨k1,f1,c1⟩,Sl.v 1 ⟨k2,f2,c2⟩,Sl.v 1 ⟨k3,f3,c3⟩] [] = some (Sl.v 1 ⟨4,0,[Sl.v 1 ⟨k0,f0,c0⟩,Sl.v 1 ⟨k1,f1,c1⟩,Sl.v 1 ⟨k2,f2,c2⟩,Sl.v 1 ⟨k3,f3,c3⟩]⟩):=by kernel_rfl
theorem cat_4_1 (k0 f0 k1 f1 k2 f2 k3 f3 k4 f4:Nat) (c0 c1 c2 c3 c4:List Value):runC [Sl.v 1 ⟨k0,f0,c0⟩,Sl.v 1 ⟨k1,f1,c1⟩,Sl.v 1 ⟨k2,f2,c2⟩,Sl.v 1 ⟨k3,f3,c3⟩] [Sl.v 1 ⟨k4,f4,c4⟩] = some (Sl.v 1 ⟨5,0,[Sl.v 1 ⟨k0,f0,c0⟩,Sl.v 1 ⟨k1,f1,c1⟩,Sl.v 1 ⟨k2,f2,c2⟩,Sl.v 1 ⟨k3,f3,c3⟩,Sl.v 1 ⟨k4,f4,c4⟩]⟩):=by kernel_rfl
theorem cat_4_2 (k0 f0 k1 f1 k2 f2 k3 f3 k4 f4 k5 f5:Nat) (c0 c1 c2 c3 c4 c5:List Value):runC [Sl.v 1 ⟨k0,f0,c0⟩,Sl.v 1 ⟨k1,f1,c1⟩,Sl.v 1 ⟨k2,f2,c2⟩,Sl.v 1 ⟨k3,f3,c3⟩] [Sl.v 1 ⟨k4,f4,c4⟩,Sl.v 1 ⟨k5,f5,c5⟩] = some (Sl.v 1 ⟨6,0,[Sl.v 1 ⟨k0,f0,c0⟩,Sl.v 1 ⟨k1,f1,c1⟩,Sl.v 1 ⟨k2,f2,c2⟩,Sl.v 1 ⟨k3,f3,c3⟩,Sl.v 1 ⟨k4,f4,c4⟩,Sl.v 1 ⟨k5,f5,c5⟩]⟩):=by kernel_rfl
theorem cat_4_3 (k0 f0 k1 f1 k2 f2 k3 f3 k4 f4 k5 f5 k6 f6:Nat) (c0 c1 c2 c3 c4 c5 c6:List Value):runC [Sl.v 1 ⟨k0,f0,c0⟩,Sl.v 1 ⟨k1,f1,c1⟩,Sl.v 1 ⟨k2,f2,c2⟩,Sl.v 1 ⟨k3,f3,c3⟩] [Sl.v 1 ⟨k4,f4,c4⟩,Sl.v 1 ⟨k5,f5,c5⟩,Sl.v 1 ⟨k6,f6,c6⟩] = some (Sl.v 1 ⟨7,0,[Sl.v 1 ⟨k0,f0,c0⟩,Sl.v 1 ⟨k1,f1,c1⟩,Sl.v 1 ⟨k2,f2,c2⟩,Sl.v 1 ⟨k3,f3,c3⟩,Sl.v 1 ⟨k4,f4,c4⟩,Sl.v 1 ⟨k5,f5,c5⟩,Sl.v 1 ⟨k6,f6,c6⟩]⟩):=by kernel_rfl
theorem cat_5_0 (k0 f0 k1 f1 k2 f2 k3 f3 k4 f4:Nat) (c0 c1 c2 c3 c4:List Value):runC [Sl.v 1 ⟨k0,f0,c0⟩,Sl.v 1 ⟨k1,f1,c1⟩,Sl.v 1 ⟨k2,f2,c2⟩,Sl.v 1 ⟨k3,f3,c3⟩,Sl.v 1 ⟨k4,f4,c4⟩] [] = some (Sl.v 1 ⟨5,0,[Sl.v 1 ⟨k0,f0,c0⟩,Sl.v 1 ⟨k1,f1,c1⟩,Sl.v 1 ⟨k2,f2,c2⟩,Sl.v 1 ⟨k3,f3,c3⟩,Sl.v 1 ⟨k4,f4,c4⟩]⟩):=by kernel_rfl
theorem cat_5_1 (k0 f0 k1 f1 k2 f2 k3 f3 k4 f4 k5 f5:Nat) (c0 c1 c2 c3 c4 c5:List Value):runC [Sl.v 1 ⟨k0,f0,c0⟩,Sl.v 1 ⟨k1,f1,c1⟩,Sl.v 1 ⟨k2,f2,c2⟩,Sl.v 1 ⟨k3,f3,c3⟩,Sl.v 1 ⟨k4,f4,c4⟩] [Sl.v 1 ⟨k5,f5,c5⟩] = some (Sl.v 1 ⟨6,0,[Sl.v 1 ⟨k0,f0,c0⟩,Sl.v 1 ⟨k1,f1,c1⟩,Sl.v 1 ⟨k2,f2,c2⟩,Sl.v 1 ⟨k3,f3,c3⟩,Sl.v 1 ⟨k4,f4,c4⟩,Sl.v 1 ⟨k5,f5,c5⟩]⟩):=by kernel_rfl
theorem cat_5_2 (k0 f0 k1 f1 k2 f2 k3 f3 k4 f4 k5 f5 k6 f6:Nat) (c0 c1 c2 c3 c4 c5 c6:List Value):runC [Sl.v 1 ⟨k0,f0,c0⟩,Sl.v 1 ⟨k1,f1,c1⟩,Sl.v 1 ⟨k2,f2,c2⟩,Sl.v 1 ⟨k3,f3,c3⟩,Sl.v 1 ⟨k4,f4,c4⟩] [Sl.v 1 ⟨k5,f5,c5⟩,Sl.v 1 ⟨k6,f6,c6⟩] = some (Sl.v 1 ⟨7,0,[Sl.v 1 ⟨k0,f0,c0⟩,Sl.v 1 ⟨k1,f1,c1⟩,Sl.v 1 ⟨k2,f2,c2⟩,Sl.v 1 ⟨k3,f3,c3⟩,Sl.v 1 ⟨k4,f4,c4⟩,Sl.v 1 ⟨k5,f5,c5⟩,Sl.v 1 ⟨k6,f6,c6⟩]⟩):=by kernel_rfl
theorem cat_6_0 (k0 f0 k1 f1 k2 f2 k3 f3 k4 f4 k5 f5:Nat) (c0 c1 c2 c3 c4 c5:List Value):runC [Sl.v 1 ⟨k0,f0,c0⟩,Sl.v 1 ⟨k1,f1,c1⟩,Sl.v 1 ⟨k2,f2,c2⟩,Sl.v 1 ⟨k3,f3,c3⟩,Sl.v 1 ⟨k4,f4,c4⟩,Sl.v 1 ⟨k5,f5,c5⟩] [] = some (Sl.v 1 ⟨6,0,[Sl.v 1 ⟨k0,f0,c0⟩,Sl.v 1 ⟨k1,f1,c1⟩,Sl.v 1 ⟨k2,f2,c2⟩,Sl.v 1 ⟨k3,f3,c3⟩,Sl.v 1 ⟨k4,f4,c4⟩,Sl.v 1 ⟨k5,f5,c5⟩]⟩):=by kernel_rfl
theorem cat_6_1 (k0 f0 k1 f1 k2 f2 k3 f3 k4 f4 k5 f5 k6 f6:Nat) (c0 c1 c2 c3 c4 c5 c6:List Value):runC [Sl.v 1 ⟨k0,f0,c0⟩,Sl.v 1 ⟨k1,f1,c1⟩,Sl.v 1 ⟨k2,f2,c2⟩,Sl.v 1 ⟨k3,f3,c3⟩,Sl.v 1 ⟨k4,f4,c4⟩,Sl.v 1 ⟨k5,f5,c5⟩] [Sl.v 1 ⟨k6,f6,c6⟩] = some (Sl.v 1 ⟨7,0,[Sl.v 1 ⟨k0,f0,c0⟩,Sl.v 1 ⟨k1,f1,c1⟩,Sl.v 1 ⟨k2,f2,c2⟩,Sl.v 1 ⟨k3,f3,c3⟩,Sl.v 1 ⟨k4,f4,c4⟩,Sl.v 1 ⟨k5,f5,c5⟩,Sl.v 1 ⟨k6,f6,c6⟩]⟩):=by kernel_rfl
theorem cat_7_0 (k0 f0 k1 f1 k2 f2 k3 f3 k4 f4 k5 f5 k6 f6:Nat) (c0 c1 c2 c3 c4 c5 c6:List Value):runC [Sl.v 1 ⟨k0,f0,c0⟩,Sl.v 1 ⟨k1,f1,c1⟩,Sl.v 1 ⟨k2,f2,c2⟩,Sl.v 1 ⟨k3,f3,c3⟩,Sl.v 1 ⟨k4,f4,c4⟩,Sl.v 1 ⟨k5,f5,c5⟩,Sl.v 1 ⟨k6,f6,c6⟩] [] = some (Sl.v 1 ⟨7,0,[Sl.v 1 ⟨k0,f0,c0⟩,Sl.v 1 ⟨k1,f1,c1⟩,Sl.v 1 ⟨k2,f2,c2⟩,Sl.v 1 ⟨k3,f3,c3⟩,Sl.v 1 ⟨k4,f4,c4⟩,Sl.v 1 ⟨k5,f5,c5⟩,Sl.v 1 ⟨k6,f6,c6⟩]⟩):=by kernel_rfl
theorem mapO_sl : ∀ (l : List Value) (r : List Sl), mapO (toSl 1) l = some r → l = r.map (Sl.v 1)
 | [], r, h => by
  injection (show some [] = some r from h) with h
  subst h;rfl
 | a :: l, r, h => by
  obtain ⟨b,hb,h⟩:=oo_inv (show oo (toSl 1 a) none (fun b=>oo (mapO (toSl 1) l) none fun r=>some (b :: r)) = some r from h)
  obtain ⟨r',hr,h⟩:=oo_inv h
  injection h with h
  subst h
  rw [toSl_some hb,mapO_sl l r' hr];rfl
theorem cat_all : ∀ (us vs : List Sl), 1 ≤ us.length → us.length + vs.length ≤ 7 → runC (us.map (Sl.v 1)) (vs.map (Sl.v 1)) = some (Sl.v 1 ⟨us.length + vs.length, 0, us.map (Sl.v 1) ++ vs.map (Sl.v 1)⟩)
 | [⟨k0,f0,c0⟩],[],_,_=>cat_1_0 k0 f0 c0
 | [⟨k0,f0,c0⟩],[⟨k1,f1,c1⟩],_,_=>cat_1_1 k0 f0 k1 f1 c0 c1
 | [⟨k0,f0,c0⟩],[⟨k1,f1,c1⟩,⟨k2,f2,c2⟩],_,_=>cat_1_2 k0 f0 k1 f1 k2 f2 c0 c1 c2
 | [⟨k0,f0,c0⟩],[⟨k1,f1,c1⟩,⟨k2,f2,c2⟩,⟨k3,f3,c3⟩],_,_=>cat_1_3 k0 f0 k1 f1 k2 f2 k3 f3 c0 c1 c2 c3
 | [⟨k0,f0,c0⟩],[⟨k1,f1,c1⟩,⟨k2,f2,c2⟩,⟨k3,f3,c3⟩,⟨k4,f4,c4⟩],_,_=>cat_1_4 k0 f0 k1 f1 k2 f2 k3 f3 k4 f4 c0 c1 c2 c3 c4
 | [⟨k0,f0,c0⟩],[⟨k1,f1,c1⟩,⟨k2,f2,c2⟩,⟨k3,f3,c3⟩,⟨k4,f4,c4⟩,⟨k5,f5,c5⟩],_,_=>cat_1_5 k0 f0 k1 f1 k2 f2 k3 f3 k4 f4 k5 f5 c0 c1 c2 c3 c4 c5
 | [⟨k0,f0,c0⟩],[⟨k1,f1,c1⟩,⟨k2,f2,c2⟩,⟨k3,f3,c3⟩,⟨k4,f4,c4⟩,⟨k5,f5,c5⟩,⟨k6,f6,c6⟩],_,_=>cat_1_6 k0 f0 k1 f1 k2 f2 k3 f3 k4 f4 k5 f5 k6 f6 c0 c1 c2 c3 c4 c5 c6
 | [⟨k0,f0,c0⟩,⟨k1,f1,c1⟩],[],_,_=>cat_2_0 k0 f0 k1 f1 c0 c1
 | [⟨k0,f0,c0⟩,⟨k1,f1,c1⟩],[⟨k2,f2,c2⟩],_,_=>cat_2_1 k0 f0 k1 f1 k2 f2 c0 c1 c2
 | [⟨k0,f0,c0⟩,⟨k1,f1,c1⟩],[⟨k2,f2,c2⟩,⟨k3,f3,c3⟩],_,_=>cat_2_2 k0 f0 k1 f1 k2 f2 k3 f3 c0 c1 c2 c3
 | [⟨k0,f0,c0⟩,⟨k1,f1,c1⟩],[⟨k2,f2,c2⟩,⟨k3,f3,c3⟩,⟨k4,f4,c4⟩],_,_=>cat_2_3 k0 f0 k1 f1 k2 f2 k3 f3 k4 f4 c0 c1 c2 c3 c4
 | [⟨k0,f0,c0⟩,⟨k1,f1,c1⟩],[⟨k2,f2,c2⟩,⟨k3,f3,c3⟩,⟨k4,f4,c4⟩,⟨k5,f5,c5⟩],_,_=>cat_2_4 k0 f0 k1 f1 k2 f2 k3 f3 k4 f4 k5 f5 c0 c1 c2 c3 c4 c5
 | [⟨k0,f0,c0⟩,⟨k1,f1,c1⟩],[⟨k2,f2,c2⟩,⟨k3,f3,c3⟩,⟨k4,f4,c4⟩,⟨k5,f5,c5⟩,⟨k6,f6,c6⟩],_,_=>cat_2_5 k0 f0 k1 f1 k2 f2 k3 f3 k4 f4 k5 f5 k6 f6 c0 c1 c2 c3 c4 c5 c6
 | [⟨k0,f0,c0⟩,⟨k1,f1,c1⟩,⟨k2,f2,c2⟩],[],_,_=>cat_3_0 k0 f0 k1 f1 k2 f2 c0 c1 c2
 | [⟨k0,f0,c0⟩,⟨k1,f1,c1⟩,⟨k2,f2,c2⟩],[⟨k3,f3,c3⟩],_,_=>cat_3_1 k0 f0 k1 f1 k2 f2 k3 f3 c0 c1 c2 c3
 | [⟨k0,f0,c0⟩,⟨k1,f1,c1⟩,⟨k2,f2,c2⟩],[⟨k3,f3,c3⟩,⟨k4,f4,c4⟩],_,_=>cat_3_2 k0 f0 k1 f1 k2 f2 k3 f3 k4 f4 c0 c1 c2 c3 c4
 | [⟨k0,f0,c0⟩,⟨k1,f1,c1⟩,⟨k2,f2,c2⟩],[⟨k3,f3,c3⟩,⟨k4,f4,c4⟩,⟨k5,f5,c5⟩],_,_=>cat_3_3 k0 f0 k1 f1 k2 f2 k3 f3 k4 f4 k5 f5 c0 c1 c2 c3 c4 c5
 | [⟨k0,f0,c0⟩,⟨k1,f1,c1⟩,⟨k2,f2,c2⟩],[⟨k3,f3,c3⟩,⟨k4,f4,c4⟩,⟨k5,f5,c5⟩,⟨k6,f6,c6⟩],_,_=>cat_3_4 k0 f0 k1 f1 k2 f2 k3 f3 k4 f4 k5 f5 k6 f6 c0 c1 c2 c3 c4 c5 c6
 | [⟨k0,f0,c0⟩,⟨k1,f1,c1⟩,⟨k2,f2,c2⟩,⟨k3,f3,c3⟩],[],_,_=>cat_4_0 k0 f0 k1 f1 k2 f2 k3 f3 c0 c1 c2 c3
 | [⟨k0,f0,c0⟩,⟨k1,f1,c1⟩,⟨k2,f2,c2⟩,⟨k3,f3,c3⟩],[⟨k4,f4,c4⟩],_,_=>cat_4_1 k0 f0 k1 f1 k2 f2 k3 f3 k4 f4 c0 c1 c2 c3 c4
 | [⟨k0,f0,c0⟩,⟨k1,f1,c1⟩,⟨k2,f2,c2⟩,⟨k3,f3,c3⟩],[⟨k4,f4,c4⟩,⟨k5,f5,c5⟩],_,_=>cat_4_2 k0 f0 k1 f1 k2 f2 k3 f3 k4 f4 k5 f5 c0 c1 c2 c3 c4 c5
 | [⟨k0,f0,c0⟩,⟨k1,f1,c1⟩,⟨k2,f2,c2⟩,⟨k3,f3,c3⟩],[⟨k4,f4,c4⟩,⟨k5,f5,c5⟩,⟨k6,f6,c6⟩],_,_=>cat_4_3 k0 f0 k1 f1 k2 f2 k3 f3 k4 f4 k5 f5 k6 f6 c0 c1 c2 c3 c4 c5 c6
 | [⟨k0,f0,c0⟩,⟨k1,f1,c1⟩,⟨k2,f2,c2⟩,⟨k3,f3,c3⟩,⟨k4,f4,c4⟩],[],_,_=>cat_5_0 k0 f0 k1 f1 k2 f2 k3 f3 k4 f4 c0 c1 c2 c3 c4
 | [⟨k0,f0,c0⟩,⟨k1,f1,c1⟩,⟨k2,f2,c2⟩,⟨k3,f3,c3⟩,⟨k4,f4,c4⟩],[⟨k5,f5,c5⟩],_,_=>cat_5_1 k0 f0 k1 f1 k2 f2 k3 f3 k4 f4 k5 f5 c0 c1 c2 c3 c4 c5
 | [⟨k0,f0,c0⟩,⟨k1,f1,c1⟩,⟨k2,f2,c2⟩,⟨k3,f3,c3⟩,⟨k4,f4,c4⟩],[⟨k5,f5,c5⟩,⟨k6,f6,c6⟩],_,_=>cat_5_2 k0 f0 k1 f1 k2 f2 k3 f3 k4 f4 k5 f5 k6 f6 c0 c1 c2 c3 c4 c5 c6
 | [⟨k0,f0,c0⟩,⟨k1,f1,c1⟩,⟨k2,f2,c2⟩,⟨k3,f3,c3⟩,⟨k4,f4,c4⟩,⟨k5,f5,c5⟩],[],_,_=>cat_6_0 k0 f0 k1 f1 k2 f2 k3 f3 k4 f4 k5 f5 c0 c1 c2 c3 c4 c5
 | [⟨k0,f0,c0⟩,⟨k1,f1,c1⟩,⟨k2,f2,c2⟩,⟨k3,f3,c3⟩,⟨k4,f4,c4⟩,⟨k5,f5,c5⟩],[⟨k6,f6,c6⟩],_,_=>cat_6_1 k0 f0 k1 f1 k2 f2 k3 f3 k4 f4 k5 f5 k6 f6 c0 c1 c2 c3 c4 c5 c6
 | [⟨k0,f0,c0⟩,⟨k1,f1,c1⟩,⟨k2,f2,c2⟩,⟨k3,f3,c3⟩,⟨k4,f4,c4⟩,⟨k5,f5,c5⟩,⟨k6,f6,c6⟩],[],_,_=>cat_7_0 k0 f0 k1 f1 k2 f2 k3 f3 k4 f4 k5 f5 k6 f6 c0 c1 c2 c3 c4 c5 c6
 | [],_,h,_=>absurd h (by decide)
 | _ :: [],_ :: _ :: _ :: _ :: _ :: _ :: _ :: _,_,h=>by simp at h;omega
 | _ :: _ :: [],_ :: _ :: _ :: _ :: _ :: _ :: _,_,h=>by simp at h;omega
 | _ :: _ :: _ :: [],_ :: _ :: _ :: _ :: _ :: _,_,h=>by simp at h;omega
 | _ :: _ :: _ :: _ :: [],_ :: _ :: _ :: _ :: _,_,h=>by simp at h;omega
 | _ :: _ :: _ :: _ :: _ :: [],_ :: _ :: _ :: _,_,h=>by simp at h;omega
 | _ :: _ :: _ :: _ :: _ :: _ :: [],_ :: _ :: _,_,h=>by simp at h;omega
 | _ :: _ :: _ :: _ :: _ :: _ :: _ :: [],_ :: _,_,h=>by simp at h;omega
 | _ :: _ :: _ :: _ :: _ :: _ :: _ :: _ :: _,_,_,h=>by simp at h;omega
theorem orc53_ok (hm:Try.prog.follows .mixedOrders = true):PureOk Try.prog tabs 53 orc53:=by
 refine pureOk_closedP (tabs:=tabs) (n:=60) (g:=53) (H:=pureHeap tabs) (isP:=fun _=>false) (pu:=fun _ _=>none) (inl:=fun _ _ _=>none) ttOk tabs_ne tabs_pl fnsOk hm (fun g h=>by cases h) no_ok (fun i=>rfl) rfl (enter_ok fok53) fun args v h=>?_
 replace h:=ll_uncons h;obtain ⟨a,r,rfl,h⟩:=h
 replace h:=ll_end h;obtain ⟨rfl,h⟩:=h
 replace h:=oo_inv h;obtain ⟨s,hs,h⟩:=h
 obtain rfl:=toSl_some hs
 obtain ⟨n,fl,cs⟩:=s
 replace h:=ll_uncons h;obtain ⟨x,r,hcs,h⟩:=h
 replace h:=ll_uncons h;obtain ⟨y,r2,hr,h⟩:=h
 replace h:=ll_end h;obtain ⟨rfl,h⟩:=h
 have hcs:cs = x :: r:=hcs
 subst hr;subst hcs
 replace h:=oo_inv h;obtain ⟨u,hu,h⟩:=h
 replace h:=oo_inv h;obtain ⟨w,hw,h⟩:=h
 obtain rfl:=toSl_some hu
 obtain rfl:=toSl_some hw
 replace h:=oo_inv h;obtain ⟨us,hus,h⟩:=h
 replace h:=oo_inv h;obtain ⟨vs,hvs,h⟩:=h
 replace h:=bb_inv h;obtain ⟨hc,h⟩:=h
 obtain ⟨g1,hc⟩:=an_inv hc
 obtain ⟨g2,hc⟩:=an_inv hc
 obtain ⟨g3,hc⟩:=an_inv hc
 obtain ⟨g4,hc⟩:=an_inv hc
 obtain ⟨g5,hc⟩:=an_inv hc
 obtain ⟨g6,hc⟩:=an_inv hc
 obtain ⟨g7,g8⟩:=an_inv hc
 obtain ⟨n1,f1,c1⟩:=u
 obtain ⟨n2,f2,c2⟩:=w
 have k1:n = 2:=Nat.eq_of_beq_eq_true g1
 have k2:fl = 0:=Nat.eq_of_beq_eq_true g2
 have k3:f1 = 0:=Nat.eq_of_beq_eq_true g3
 have k4:f2 = 0:=Nat.eq_of_beq_eq_true g4
 have k5:n1 = len us:=Nat.eq_of_beq_eq_true g5
 have k6:n2 = len vs:=Nat.eq_of_beq_eq_true g6
 have g7:=Nat.le_of_ble_eq_true g7
 have g8:=Nat.le_of_ble_eq_true g8
 have j1:c1 = us.map (Sl.v 1):=mapO_sl _ _ hus
 have j2:c2 = vs.map (Sl.v 1):=mapO_sl _ _ hvs
 subst k1;subst k2;subst k3;subst k4;subst k5;subst k6;clear hus hvs
 subst j1;subst j2
 injection h with h
 rw [len_eq] at g7 g8
 rw [len_eq] at g8
 have e:=cat_all us vs g7 g8
 unfold runC at e
 rw [len_eq,len_eq,List.length_map,List.length_map] at e
 subst h
 refine ⟨rfl,.inr ?_⟩
 ·rw [len_eq, len_eq]
  show _ = some (Sl.v 1 ⟨us.length + vs.length,0,appL (us.map (Sl.v 1)) (vs.map (Sl.v 1))⟩)
  rw [appL_eq]
  exact e
end Go.Proofs.Ytkhedoaiejjcfaa.HvR
