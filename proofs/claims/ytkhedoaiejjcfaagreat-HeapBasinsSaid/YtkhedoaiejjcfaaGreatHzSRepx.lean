/- Made from wip. -/
import Derived.Test.YtkhedoaiejjcfaaGreatProg
import Derived.Test.YtkhedoaiejjcfaaGreatSpLawx
import Derived.Test.YtkhedoaiejjcfaaGreatHzSCode
import Derived.Shelf.Sort.Plain
import Derived.Ground.Names2Prog
import Derived.Ground.SlgnProg
import Derived.Test.YtkhedoaiejjcfaaGreatHzSPu
import Derived.Test.YtkhedoaiejjcfaaGreatSpObjx

set_option maxRecDepth 100000
namespace Go.Proofs.YtkhedoaiejjcfaaGreat.HzS
open Go Go.Sp Go.HzS
theorem b5:(match Tryz.f5.body with | some c=>rcOf c c5 | none=>none) = some c5:=by kernel_rfl
theorem p5:(match Tryz.f5.body with | some c=>codeB [] c | none=>false) = true:=by kernel_rfl
theorem fok5:FnOk Tryz.prog [] 5 ⟨91,c5,[.tmp 2]⟩:=FnOk.by Tryz.func5 b5 p5 Tryz.ntmps5 (by rw [Tryz.results5]) (by kernel_rfl)
theorem b8:(match Tryz.f8.body with | some c=>rcOf c c8 | none=>none) = some c8:=by kernel_rfl
theorem p8:(match Tryz.f8.body with | some c=>codeB [] c | none=>false) = true:=by kernel_rfl
theorem fok8:FnOk Tryz.prog [] 8 ⟨11,c8,[.tmp 2]⟩:=FnOk.by Tryz.func8 b8 p8 Tryz.ntmps8 (by rw [Tryz.results8]) (by kernel_rfl)
theorem b9:(match Tryz.f9.body with | some c=>rcOf c c9 | none=>none) = some c9:=by kernel_rfl
theorem p9:(match Tryz.f9.body with | some c=>codeB [] c | none=>false) = true:=by kernel_rfl
theorem fok9:FnOk Tryz.prog [] 9 ⟨13,c9,[.tmp 2,.tmp 3]⟩:=FnOk.by Tryz.func9 b9 p9 Tryz.ntmps9 (by rw [Tryz.results9]) (by kernel_rfl)
theorem b11:(match Tryz.f11.body with | some c=>rcOf c c11 | none=>none) = some c11:=by kernel_rfl
theorem p11:(match Tryz.f11.body with | some c=>codeB [] c | none=>false) = true:=by kernel_rfl
theorem fok11:FnOk Tryz.prog [] 11 ⟨23,c11,[.tmp 2,.tmp 3]⟩:=FnOk.by Tryz.func11 b11 p11 Tryz.ntmps11 (by rw [Tryz.results11]) (by kernel_rfl)
theorem b12:(match Tryz.f12.body with | some c=>rcOf c c12 | none=>none) = some c12:=by kernel_rfl
theorem p12:(match Tryz.f12.body with | some c=>codeB [] c | none=>false) = true:=by kernel_rfl
theorem fok12:FnOk Tryz.prog [] 12 ⟨36,c12,[.tmp 4]⟩:=FnOk.by Tryz.func12 b12 p12 Tryz.ntmps12 (by rw [Tryz.results12]) (by kernel_rfl)
theorem b13:(match Tryz.f13.body with | some c=>rcOf c c13 | none=>none) = some c13:=by kernel_rfl
theorem p13:(match Tryz.f13.body with | some c=>codeB [] c | none=>false) = true:=by kernel_rfl
theorem fok13:FnOk Tryz.prog [] 13 ⟨17,c13,[.tmp 2]⟩:=FnOk.by Tryz.func13 b13 p13 Tryz.ntmps13 (by rw [Tryz.results13]) (by kernel_rfl)
theorem b14:(match Tryz.f14.body with | some c=>rcOf c c14 | none=>none) = some c14:=by kernel_rfl
theorem p14:(match Tryz.f14.body with | some c=>codeB [] c | none=>false) = true:=by kernel_rfl
theorem fok14:FnOk Tryz.prog [] 14 ⟨26,c14,[.tmp 4]⟩:=FnOk.by Tryz.func14 b14 p14 Tryz.ntmps14 (by rw [Tryz.results14]) (by kernel_rfl)
theorem b15:(match Tryz.f15.body with | some c=>rcOf c c15 | none=>none) = some c15:=by kernel_rfl
theorem p15:(match Tryz.f15.body with | some c=>codeB [] c | none=>false) = true:=by kernel_rfl
theorem fok15:FnOk Tryz.prog [] 15 ⟨29,c15,[.tmp 2]⟩:=FnOk.by Tryz.func15 b15 p15 Tryz.ntmps15 (by rw [Tryz.results15]) (by kernel_rfl)
theorem b16:(match Tryz.f16.body with | some c=>rcOf c c16 | none=>none) = some c16:=by kernel_rfl
theorem p16:(match Tryz.f16.body with | some c=>codeB [] c | none=>false) = true:=by kernel_rfl
theorem fok16:FnOk Tryz.prog [] 16 ⟨234,c16,[.tmp 0]⟩:=FnOk.by Tryz.func16 b16 p16 Tryz.ntmps16 (by rw [Tryz.results16]) (by kernel_rfl)
theorem b17:(match Tryz.f17.body with | some c=>rcOf c c17 | none=>none) = some c17:=by kernel_rfl
theorem p17:(match Tryz.f17.body with | some c=>codeB [] c | none=>false) = true:=by kernel_rfl
theorem fok17:FnOk Tryz.prog [] 17 ⟨42,c17,[.tmp 4]⟩:=FnOk.by Tryz.func17 b17 p17 Tryz.ntmps17 (by rw [Tryz.results17]) (by kernel_rfl)
theorem b19:(match Tryz.f19.body with | some c=>rcOf c c19 | none=>none) = some c19:=by kernel_rfl
theorem p19:(match Tryz.f19.body with | some c=>codeB [] c | none=>false) = true:=by kernel_rfl
theorem fok19:FnOk Tryz.prog [] 19 ⟨13,c19,[.tmp 2,.tmp 3]⟩:=FnOk.by Tryz.func19 b19 p19 Tryz.ntmps19 (by rw [Tryz.results19]) (by kernel_rfl)
theorem b20:(match Tryz.f20.body with | some c=>rcOf c c20 | none=>none) = some c20:=by kernel_rfl
theorem p20:(match Tryz.f20.body with | some c=>codeB [] c | none=>false) = true:=by kernel_rfl
theorem fok20:FnOk Tryz.prog [] 20 ⟨12,c20,[.tmp 2,.tmp 3]⟩:=FnOk.by Tryz.func20 b20 p20 Tryz.ntmps20 (by rw [Tryz.results20]) (by kernel_rfl)
theorem b21:(match Tryz.f21.body with | some c=>rcOf c c21 | none=>none) = some c21:=by kernel_rfl
theorem p21:(match Tryz.f21.body with | some c=>codeB [] c | none=>false) = true:=by kernel_rfl
theorem fok21:FnOk Tryz.prog [] 21 ⟨27,c21,[.tmp 4]⟩:=FnOk.by Tryz.func21 b21 p21 Tryz.ntmps21 (by rw [Tryz.results21]) (by kernel_rfl)
theorem b22:(match Tryz.f22.body with | some c=>rcOf c c22 | none=>none) = some c22:=by kernel_rfl
theorem p22:(match Tryz.f22.body with | some c=>codeB [] c | none=>false) = true:=by kernel_rfl
theorem fok22:FnOk Tryz.prog [] 22 ⟨21,c22,[.tmp 2]⟩:=FnOk.by Tryz.func22 b22 p22 Tryz.ntmps22 (by rw [Tryz.results22]) (by kernel_rfl)
theorem b23:(match Tryz.f23.body with | some c=>rcOf c c23 | none=>none) = some c23:=by kernel_rfl
theorem p23:(match Tryz.f23.body with | some c=>codeB [] c | none=>false) = true:=by kernel_rfl
theorem fok23:FnOk Tryz.prog [] 23 ⟨65,c23,[.tmp 2,.tmp 3]⟩:=FnOk.by Tryz.func23 b23 p23 Tryz.ntmps23 (by rw [Tryz.results23]) (by kernel_rfl)
theorem b25:(match Tryz.f25.body with | some c=>rcOf c c25 | none=>none) = some c25:=by kernel_rfl
theorem p25:(match Tryz.f25.body with | some c=>codeB [] c | none=>false) = true:=by kernel_rfl
theorem fok25:FnOk Tryz.prog [] 25 ⟨15,c25,[.tmp 2,.tmp 3,.tmp 4]⟩:=FnOk.by Tryz.func25 b25 p25 Tryz.ntmps25 (by rw [Tryz.results25]) (by kernel_rfl)
theorem b26:(match Tryz.f26.body with | some c=>rcOf c c26 | none=>none) = some c26:=by kernel_rfl
theorem p26:(match Tryz.f26.body with | some c=>codeB [] c | none=>false) = true:=by kernel_rfl
theorem fok26:FnOk Tryz.prog [] 26 ⟨37,c26,[]⟩:=FnOk.by Tryz.func26 b26 p26 Tryz.ntmps26 (by rw [Tryz.results26]) (by kernel_rfl)
theorem b27:(match Tryz.f27.body with | some c=>rcOf c c27 | none=>none) = some c27:=by kernel_rfl
theorem p27:(match Tryz.f27.body with | some c=>codeB [] c | none=>false) = true:=by kernel_rfl
theorem fok27:FnOk Tryz.prog [] 27 ⟨32,c27,[.tmp 2]⟩:=FnOk.by Tryz.func27 b27 p27 Tryz.ntmps27 (by rw [Tryz.results27]) (by kernel_rfl)
theorem b28:(match Tryz.f28.body with | some c=>rcOf c c28 | none=>none) = some c28:=by kernel_rfl
theorem p28:(match Tryz.f28.body with | some c=>codeB [] c | none=>false) = true:=by kernel_rfl
theorem fok28:FnOk Tryz.prog [] 28 ⟨19,c28,[.cell 2 54]⟩:=FnOk.by Tryz.func28 b28 p28 Tryz.ntmps28 (by rw [Tryz.results28]) (by kernel_rfl)
theorem b29:(match Tryz.f29.body with | some c=>rcOf c c29 | none=>none) = some c29:=by kernel_rfl
theorem p29:(match Tryz.f29.body with | some c=>codeB [] c | none=>false) = true:=by kernel_rfl
theorem fok29:FnOk Tryz.prog [] 29 ⟨45,c29,[.tmp 2]⟩:=FnOk.by Tryz.func29 b29 p29 Tryz.ntmps29 (by rw [Tryz.results29]) (by kernel_rfl)
theorem b30:(match Tryz.f30.body with | some c=>rcOf c c30 | none=>none) = some c30:=by kernel_rfl
theorem p30:(match Tryz.f30.body with | some c=>codeB [] c | none=>false) = true:=by kernel_rfl
theorem fok30:FnOk Tryz.prog [] 30 ⟨15,c30,[.tmp 6]⟩:=FnOk.by Tryz.func30 b30 p30 Tryz.ntmps30 (by rw [Tryz.results30]) (by kernel_rfl)
theorem b31:(match Tryz.f31.body with | some c=>rcOf c c31 | none=>none) = some c31:=by kernel_rfl
theorem p31:(match Tryz.f31.body with | some c=>codeB [] c | none=>false) = true:=by kernel_rfl
theorem fok31:FnOk Tryz.prog [] 31 ⟨15,c31,[.tmp 2,.tmp 3]⟩:=FnOk.by Tryz.func31 b31 p31 Tryz.ntmps31 (by rw [Tryz.results31]) (by kernel_rfl)
theorem b32:(match Tryz.f32.body with | some c=>rcOf c c32 | none=>none) = some c32:=by kernel_rfl
theorem p32:(match Tryz.f32.body with | some c=>codeB [] c | none=>false) = true:=by kernel_rfl
theorem fok32:FnOk Tryz.prog [] 32 ⟨58,c32,[]⟩:=FnOk.by Tryz.func32 b32 p32 Tryz.ntmps32 (by rw [Tryz.results32]) (by kernel_rfl)
theorem b33:(match Tryz.f33.body with | some c=>rcOf c c33 | none=>none) = some c33:=by kernel_rfl
theorem p33:(match Tryz.f33.body with | some c=>codeB [] c | none=>false) = true:=by kernel_rfl
theorem fok33:FnOk Tryz.prog [] 33 ⟨42,c33,[.tmp 4]⟩:=FnOk.by Tryz.func33 b33 p33 Tryz.ntmps33 (by rw [Tryz.results33]) (by kernel_rfl)
theorem b34:(match Tryz.f34.body with | some c=>rcOf c c34 | none=>none) = some c34:=by kernel_rfl
theorem p34:(match Tryz.f34.body with | some c=>codeB [] c | none=>false) = true:=by kernel_rfl
theorem fok34:FnOk Tryz.prog [] 34 ⟨8,c34,[.tmp 2]⟩:=FnOk.by Tryz.func34 b34 p34 Tryz.ntmps34 (by rw [Tryz.results34]) (by kernel_rfl)
end Go.Proofs.YtkhedoaiejjcfaaGreat.HzS
set_option maxRecDepth 100000
namespace Go.Proofs.YtkhedoaiejjcfaaGreat.HzS
open Go Go.Sp Go.HzS
theorem b35:(match Tryz.f35.body with | some c=>rcOf c c35 | none=>none) = some c35:=by kernel_rfl
theorem p35:(match Tryz.f35.body with | some c=>codeB [] c | none=>false) = true:=by kernel_rfl
theorem fok35:FnOk Tryz.prog [] 35 ⟨5,c35,[.tmp 2]⟩:=FnOk.by Tryz.func35 b35 p35 Tryz.ntmps35 (by rw [Tryz.results35]) (by kernel_rfl)
theorem b36:(match Tryz.f36.body with | some c=>rcOf c c36 | none=>none) = some c36:=by kernel_rfl
theorem p36:(match Tryz.f36.body with | some c=>codeB [] c | none=>false) = true:=by kernel_rfl
theorem fok36:FnOk Tryz.prog [] 36 ⟨51,c36,[.tmp 2]⟩:=FnOk.by Tryz.func36 b36 p36 Tryz.ntmps36 (by rw [Tryz.results36]) (by kernel_rfl)
theorem b37:(match Tryz.f37.body with | some c=>rcOf c c37 | none=>none) = some c37:=by kernel_rfl
theorem p37:(match Tryz.f37.body with | some c=>codeB [] c | none=>false) = true:=by kernel_rfl
theorem fok37:FnOk Tryz.prog [] 37 ⟨26,c37,[.tmp 4]⟩:=FnOk.by Tryz.func37 b37 p37 Tryz.ntmps37 (by rw [Tryz.results37]) (by kernel_rfl)
theorem b38:(match Tryz.f38.body with | some c=>rcOf c c38 | none=>none) = some c38:=by kernel_rfl
theorem p38:(match Tryz.f38.body with | some c=>codeB [] c | none=>false) = true:=by kernel_rfl
theorem fok38:FnOk Tryz.prog [] 38 ⟨9,c38,[.tmp 2]⟩:=FnOk.by Tryz.func38 b38 p38 Tryz.ntmps38 (by rw [Tryz.results38]) (by kernel_rfl)
theorem b39:(match Tryz.f39.body with | some c=>rcOf c c39 | none=>none) = some c39:=by kernel_rfl
theorem p39:(match Tryz.f39.body with | some c=>codeB [] c | none=>false) = true:=by kernel_rfl
theorem fok39:FnOk Tryz.prog [] 39 ⟨14,c39,[]⟩:=FnOk.by Tryz.func39 b39 p39 Tryz.ntmps39 (by rw [Tryz.results39]) (by kernel_rfl)
theorem b40:(match Tryz.f40.body with | some c=>rcOf c c40 | none=>none) = some c40:=by kernel_rfl
theorem p40:(match Tryz.f40.body with | some c=>codeB [] c | none=>false) = true:=by kernel_rfl
theorem fok40:FnOk Tryz.prog [] 40 ⟨12,c40,[.tmp 4]⟩:=FnOk.by Tryz.func40 b40 p40 Tryz.ntmps40 (by rw [Tryz.results40]) (by kernel_rfl)
theorem b41:(match Tryz.f41.body with | some c=>rcOf c c41 | none=>none) = some c41:=by kernel_rfl
theorem p41:(match Tryz.f41.body with | some c=>codeB [] c | none=>false) = true:=by kernel_rfl
theorem fok41:FnOk Tryz.prog [] 41 ⟨20,c41,[.tmp 4]⟩:=FnOk.by Tryz.func41 b41 p41 Tryz.ntmps41 (by rw [Tryz.results41]) (by kernel_rfl)
theorem b42:(match Tryz.f42.body with | some c=>rcOf c c42 | none=>none) = some c42:=by kernel_rfl
theorem p42:(match Tryz.f42.body with | some c=>codeB [] c | none=>false) = true:=by kernel_rfl
theorem fok42:FnOk Tryz.prog [] 42 ⟨4,c42,[.tmp 2]⟩:=FnOk.by Tryz.func42 b42 p42 Tryz.ntmps42 (by rw [Tryz.results42]) (by kernel_rfl)
theorem b43:(match Tryz.f43.body with | some c=>rcOf c c43 | none=>none) = some c43:=by kernel_rfl
theorem p43:(match Tryz.f43.body with | some c=>codeB [] c | none=>false) = true:=by kernel_rfl
theorem fok43:FnOk Tryz.prog [] 43 ⟨11,c43,[]⟩:=FnOk.by Tryz.func43 b43 p43 Tryz.ntmps43 (by rw [Tryz.results43]) (by kernel_rfl)
theorem b44:(match Tryz.f44.body with | some c=>rcOf c c44 | none=>none) = some c44:=by kernel_rfl
theorem p44:(match Tryz.f44.body with | some c=>codeB [] c | none=>false) = true:=by kernel_rfl
theorem fok44:FnOk Tryz.prog [] 44 ⟨28,c44,[]⟩:=FnOk.by Tryz.func44 b44 p44 Tryz.ntmps44 (by rw [Tryz.results44]) (by kernel_rfl)
theorem b45:(match Tryz.f45.body with | some c=>rcOf c c45 | none=>none) = some c45:=by kernel_rfl
theorem p45:(match Tryz.f45.body with | some c=>codeB [] c | none=>false) = true:=by kernel_rfl
theorem fok45:FnOk Tryz.prog [] 45 ⟨14,c45,[.tmp 2,.tmp 3]⟩:=FnOk.by Tryz.func45 b45 p45 Tryz.ntmps45 (by rw [Tryz.results45]) (by kernel_rfl)
theorem b46:(match Tryz.f46.body with | some c=>rcOf c c46 | none=>none) = some c46:=by kernel_rfl
theorem p46:(match Tryz.f46.body with | some c=>codeB [] c | none=>false) = true:=by kernel_rfl
theorem fok46:FnOk Tryz.prog [] 46 ⟨44,c46,[.tmp 4,.tmp 5]⟩:=FnOk.by Tryz.func46 b46 p46 Tryz.ntmps46 (by rw [Tryz.results46]) (by kernel_rfl)
theorem b47:(match Tryz.f47.body with | some c=>rcOf c c47 | none=>none) = some c47:=by kernel_rfl
theorem p47:(match Tryz.f47.body with | some c=>codeB [] c | none=>false) = true:=by kernel_rfl
theorem fok47:FnOk Tryz.prog [] 47 ⟨19,c47,[.tmp 2,.tmp 3]⟩:=FnOk.by Tryz.func47 b47 p47 Tryz.ntmps47 (by rw [Tryz.results47]) (by kernel_rfl)
theorem b48:(match Tryz.f48.body with | some c=>rcOf c c48 | none=>none) = some c48:=by kernel_rfl
theorem p48:(match Tryz.f48.body with | some c=>codeB [] c | none=>false) = true:=by kernel_rfl
theorem fok48:FnOk Tryz.prog [] 48 ⟨13,c48,[.tmp 2,.tmp 3]⟩:=FnOk.by Tryz.func48 b48 p48 Tryz.ntmps48 (by rw [Tryz.results48]) (by kernel_rfl)
theorem b49:(match Tryz.f49.body with | some c=>rcOf c c49 | none=>none) = some c49:=by kernel_rfl
theorem p49:(match Tryz.f49.body with | some c=>codeB [] c | none=>false) = true:=by kernel_rfl
theorem fok49:FnOk Tryz.prog [] 49 ⟨37,c49,[.tmp 2,.tmp 3]⟩:=FnOk.by Tryz.func49 b49 p49 Tryz.ntmps49 (by rw [Tryz.results49]) (by kernel_rfl)
theorem b50:(match Tryz.f50.body with | some c=>rcOf c c50 | none=>none) = some c50:=by kernel_rfl
theorem p50:(match Tryz.f50.body with | some c=>codeB [] c | none=>false) = true:=by kernel_rfl
theorem fok50:FnOk Tryz.prog [] 50 ⟨4,c50,[.tmp 2]⟩:=FnOk.by Tryz.func50 b50 p50 Tryz.ntmps50 (by rw [Tryz.results50]) (by kernel_rfl)
theorem b51:(match Tryz.f51.body with | some c=>rcOf c c51 | none=>none) = some c51:=by kernel_rfl
theorem p51:(match Tryz.f51.body with | some c=>codeB [] c | none=>false) = true:=by kernel_rfl
theorem fok51:FnOk Tryz.prog [] 51 ⟨42,c51,[.tmp 2]⟩:=FnOk.by Tryz.func51 b51 p51 Tryz.ntmps51 (by rw [Tryz.results51]) (by kernel_rfl)
theorem b52:(match Tryz.f52.body with | some c=>rcOf c c52 | none=>none) = some c52:=by kernel_rfl
theorem p52:(match Tryz.f52.body with | some c=>codeB [] c | none=>false) = true:=by kernel_rfl
theorem fok52:FnOk Tryz.prog [] 52 ⟨10,c52,[]⟩:=FnOk.by Tryz.func52 b52 p52 Tryz.ntmps52 (by rw [Tryz.results52]) (by kernel_rfl)
theorem b53:(match Tryz.f53.body with | some c=>rcOf c c53 | none=>none) = some c53:=by kernel_rfl
theorem p53:(match Tryz.f53.body with | some c=>codeB [] c | none=>false) = true:=by kernel_rfl
theorem fok53:FnOk Tryz.prog [] 53 ⟨10,c53,[]⟩:=FnOk.by Tryz.func53 b53 p53 Tryz.ntmps53 (by rw [Tryz.results53]) (by kernel_rfl)
theorem b54:(match Tryz.f54.body with | some c=>rcOf c c54 | none=>none) = some c54:=by kernel_rfl
theorem p54:(match Tryz.f54.body with | some c=>codeB [] c | none=>false) = true:=by kernel_rfl
theorem fok54:FnOk Tryz.prog [] 54 ⟨17,c54,[]⟩:=FnOk.by Tryz.func54 b54 p54 Tryz.ntmps54 (by rw [Tryz.results54]) (by kernel_rfl)
theorem b55:(match Tryz.f55.body with | some c=>rcOf c c55 | none=>none) = some c55:=by kernel_rfl
theorem p55:(match Tryz.f55.body with | some c=>codeB [] c | none=>false) = true:=by kernel_rfl
theorem fok55:FnOk Tryz.prog [] 55 ⟨14,c55,[.tmp 2,.cell 3 54]⟩:=FnOk.by Tryz.func55 b55 p55 Tryz.ntmps55 (by rw [Tryz.results55]) (by kernel_rfl)
theorem b56:(match Tryz.f56.body with | some c=>rcOf c c56 | none=>none) = some c56:=by kernel_rfl
theorem p56:(match Tryz.f56.body with | some c=>codeB [] c | none=>false) = true:=by kernel_rfl
theorem fok56:FnOk Tryz.prog [] 56 ⟨18,c56,[.tmp 2]⟩:=FnOk.by Tryz.func56 b56 p56 Tryz.ntmps56 (by rw [Tryz.results56]) (by kernel_rfl)
theorem b57:(match Tryz.f57.body with | some c=>rcOf c c57 | none=>none) = some c57:=by kernel_rfl
theorem p57:(match Tryz.f57.body with | some c=>codeB [] c | none=>false) = true:=by kernel_rfl
theorem fok57:FnOk Tryz.prog [] 57 ⟨18,c57,[.tmp 2]⟩:=FnOk.by Tryz.func57 b57 p57 Tryz.ntmps57 (by rw [Tryz.results57]) (by kernel_rfl)
theorem b58:(match Tryz.f58.body with | some c=>rcOf c c58 | none=>none) = some c58:=by kernel_rfl
theorem p58:(match Tryz.f58.body with | some c=>codeB [] c | none=>false) = true:=by kernel_rfl
theorem fok58:FnOk Tryz.prog [] 58 ⟨19,c58,[.tmp 4]⟩:=FnOk.by Tryz.func58 b58 p58 Tryz.ntmps58 (by rw [Tryz.results58]) (by kernel_rfl)
theorem b59:(match Tryz.f59.body with | some c=>rcOf c c59 | none=>none) = some c59:=by kernel_rfl
theorem p59:(match Tryz.f59.body with | some c=>codeB [] c | none=>false) = true:=by kernel_rfl
theorem fok59:FnOk Tryz.prog [] 59 ⟨15,c59,[.cell 2 54]⟩:=FnOk.by Tryz.func59 b59 p59 Tryz.ntmps59 (by rw [Tryz.results59]) (by kernel_rfl)
end Go.Proofs.YtkhedoaiejjcfaaGreat.HzS
set_option maxRecDepth 100000
namespace Go.Proofs.YtkhedoaiejjcfaaGreat.HzS
open Go Go.Sp Go.HzS
theorem b60:(match Tryz.f60.body with | some c=>rcOf c c60 | none=>none) = some c60:=by kernel_rfl
theorem p60:(match Tryz.f60.body with | some c=>codeB [] c | none=>false) = true:=by kernel_rfl
theorem fok60:FnOk Tryz.prog [] 60 ⟨36,c60,[.tmp 2]⟩:=FnOk.by Tryz.func60 b60 p60 Tryz.ntmps60 (by rw [Tryz.results60]) (by kernel_rfl)
theorem b61:(match Tryz.f61.body with | some c=>rcOf c c61 | none=>none) = some c61:=by kernel_rfl
theorem p61:(match Tryz.f61.body with | some c=>codeB [] c | none=>false) = true:=by kernel_rfl
theorem fok61:FnOk Tryz.prog [] 61 ⟨148,c61,[]⟩:=FnOk.by Tryz.func61 b61 p61 Tryz.ntmps61 (by rw [Tryz.results61]) (by kernel_rfl)
theorem b62:(match Tryz.f62.body with | some c=>rcOf c c62 | none=>none) = some c62:=by kernel_rfl
theorem p62:(match Tryz.f62.body with | some c=>codeB [] c | none=>false) = true:=by kernel_rfl
theorem fok62:FnOk Tryz.prog [] 62 ⟨8,c62,[.tmp 2]⟩:=FnOk.by Tryz.func62 b62 p62 Tryz.ntmps62 (by rw [Tryz.results62]) (by kernel_rfl)
theorem b63:(match Tryz.f63.body with | some c=>rcOf c c63 | none=>none) = some c63:=by kernel_rfl
theorem p63:(match Tryz.f63.body with | some c=>codeB [] c | none=>false) = true:=by kernel_rfl
theorem fok63:FnOk Tryz.prog [] 63 ⟨6,c63,[.tmp 2]⟩:=FnOk.by Tryz.func63 b63 p63 Tryz.ntmps63 (by rw [Tryz.results63]) (by kernel_rfl)
theorem b64:(match Tryz.f64.body with | some c=>rcOf c c64 | none=>none) = some c64:=by kernel_rfl
theorem p64:(match Tryz.f64.body with | some c=>codeB [] c | none=>false) = true:=by kernel_rfl
theorem fok64:FnOk Tryz.prog [] 64 ⟨134,c64,[]⟩:=FnOk.by Tryz.func64 b64 p64 Tryz.ntmps64 (by rw [Tryz.results64]) (by kernel_rfl)
theorem b65:(match Tryz.f65.body with | some c=>rcOf c c65 | none=>none) = some c65:=by kernel_rfl
theorem p65:(match Tryz.f65.body with | some c=>codeB [] c | none=>false) = true:=by kernel_rfl
theorem fok65:FnOk Tryz.prog [] 65 ⟨17,c65,[.tmp 2]⟩:=FnOk.by Tryz.func65 b65 p65 Tryz.ntmps65 (by rw [Tryz.results65]) (by kernel_rfl)
theorem b66:(match Tryz.f66.body with | some c=>rcOf c c66 | none=>none) = some c66:=by kernel_rfl
theorem p66:(match Tryz.f66.body with | some c=>codeB [] c | none=>false) = true:=by kernel_rfl
theorem fok66:FnOk Tryz.prog [] 66 ⟨14,c66,[]⟩:=FnOk.by Tryz.func66 b66 p66 Tryz.ntmps66 (by rw [Tryz.results66]) (by kernel_rfl)
theorem b67:(match Tryz.f67.body with | some c=>rcOf c c67 | none=>none) = some c67:=by kernel_rfl
theorem p67:(match Tryz.f67.body with | some c=>codeB [] c | none=>false) = true:=by kernel_rfl
theorem fok67:FnOk Tryz.prog [] 67 ⟨32,c67,[]⟩:=FnOk.by Tryz.func67 b67 p67 Tryz.ntmps67 (by rw [Tryz.results67]) (by kernel_rfl)
theorem b68:(match Tryz.f68.body with | some c=>rcOf c c68 | none=>none) = some c68:=by kernel_rfl
theorem p68:(match Tryz.f68.body with | some c=>codeB [] c | none=>false) = true:=by kernel_rfl
theorem fok68:FnOk Tryz.prog [] 68 ⟨48,c68,[.tmp 4]⟩:=FnOk.by Tryz.func68 b68 p68 Tryz.ntmps68 (by rw [Tryz.results68]) (by kernel_rfl)
theorem b69:(match Tryz.f69.body with | some c=>rcOf c c69 | none=>none) = some c69:=by kernel_rfl
theorem p69:(match Tryz.f69.body with | some c=>codeB [] c | none=>false) = true:=by kernel_rfl
theorem fok69:FnOk Tryz.prog [] 69 ⟨27,c69,[.tmp 4]⟩:=FnOk.by Tryz.func69 b69 p69 Tryz.ntmps69 (by rw [Tryz.results69]) (by kernel_rfl)
theorem b70:(match Tryz.f70.body with | some c=>rcOf c c70 | none=>none) = some c70:=by kernel_rfl
theorem p70:(match Tryz.f70.body with | some c=>codeB [] c | none=>false) = true:=by kernel_rfl
theorem fok70:FnOk Tryz.prog [] 70 ⟨53,c70,[]⟩:=FnOk.by Tryz.func70 b70 p70 Tryz.ntmps70 (by rw [Tryz.results70]) (by kernel_rfl)
theorem b71:(match Tryz.f71.body with | some c=>rcOf c c71 | none=>none) = some c71:=by kernel_rfl
theorem p71:(match Tryz.f71.body with | some c=>codeB [] c | none=>false) = true:=by kernel_rfl
theorem fok71:FnOk Tryz.prog [] 71 ⟨60,c71,[]⟩:=FnOk.by Tryz.func71 b71 p71 Tryz.ntmps71 (by rw [Tryz.results71]) (by kernel_rfl)
theorem b72:(match Tryz.f72.body with | some c=>rcOf c c72 | none=>none) = some c72:=by kernel_rfl
theorem p72:(match Tryz.f72.body with | some c=>codeB [] c | none=>false) = true:=by kernel_rfl
theorem fok72:FnOk Tryz.prog [] 72 ⟨67,c72,[]⟩:=FnOk.by Tryz.func72 b72 p72 Tryz.ntmps72 (by rw [Tryz.results72]) (by kernel_rfl)
theorem b73:(match Tryz.f73.body with | some c=>rcOf c c73 | none=>none) = some c73:=by kernel_rfl
theorem p73:(match Tryz.f73.body with | some c=>codeB [] c | none=>false) = true:=by kernel_rfl
theorem fok73:FnOk Tryz.prog [] 73 ⟨63,c73,[.tmp 8,.tmp 9]⟩:=FnOk.by Tryz.func73 b73 p73 Tryz.ntmps73 (by rw [Tryz.results73]) (by kernel_rfl)
theorem b74:(match Tryz.f74.body with | some c=>rcOf c c74 | none=>none) = some c74:=by kernel_rfl
theorem p74:(match Tryz.f74.body with | some c=>codeB [] c | none=>false) = true:=by kernel_rfl
theorem fok74:FnOk Tryz.prog [] 74 ⟨34,c74,[]⟩:=FnOk.by Tryz.func74 b74 p74 Tryz.ntmps74 (by rw [Tryz.results74]) (by kernel_rfl)
theorem b75:(match Tryz.f75.body with | some c=>rcOf c c75 | none=>none) = some c75:=by kernel_rfl
theorem p75:(match Tryz.f75.body with | some c=>codeB [] c | none=>false) = true:=by kernel_rfl
theorem fok75:FnOk Tryz.prog [] 75 ⟨141,c75,[.tmp 8]⟩:=FnOk.by Tryz.func75 b75 p75 Tryz.ntmps75 (by rw [Tryz.results75]) (by kernel_rfl)
theorem b76:(match Tryz.f76.body with | some c=>rcOf c c76 | none=>none) = some c76:=by kernel_rfl
theorem p76:(match Tryz.f76.body with | some c=>codeB [] c | none=>false) = true:=by kernel_rfl
theorem fok76:FnOk Tryz.prog [] 76 ⟨90,c76,[.tmp 10]⟩:=FnOk.by Tryz.func76 b76 p76 Tryz.ntmps76 (by rw [Tryz.results76]) (by kernel_rfl)
theorem b77:(match Tryz.f77.body with | some c=>rcOf c c77 | none=>none) = some c77:=by kernel_rfl
theorem p77:(match Tryz.f77.body with | some c=>codeB [] c | none=>false) = true:=by kernel_rfl
theorem fok77:FnOk Tryz.prog [] 77 ⟨178,c77,[.tmp 10,.tmp 11]⟩:=FnOk.by Tryz.func77 b77 p77 Tryz.ntmps77 (by rw [Tryz.results77]) (by kernel_rfl)
theorem b78:(match Tryz.f78.body with | some c=>rcOf c c78 | none=>none) = some c78:=by kernel_rfl
theorem p78:(match Tryz.f78.body with | some c=>codeB [] c | none=>false) = true:=by kernel_rfl
theorem fok78:FnOk Tryz.prog [] 78 ⟨19,c78,[.tmp 2]⟩:=FnOk.by Tryz.func78 b78 p78 Tryz.ntmps78 (by rw [Tryz.results78]) (by kernel_rfl)
theorem b79:(match Tryz.f79.body with | some c=>rcOf c c79 | none=>none) = some c79:=by kernel_rfl
theorem p79:(match Tryz.f79.body with | some c=>codeB [] c | none=>false) = true:=by kernel_rfl
theorem fok79:FnOk Tryz.prog [] 79 ⟨25,c79,[.tmp 2]⟩:=FnOk.by Tryz.func79 b79 p79 Tryz.ntmps79 (by rw [Tryz.results79]) (by kernel_rfl)
theorem b80:(match Tryz.f80.body with | some c=>rcOf c c80 | none=>none) = some c80:=by kernel_rfl
theorem p80:(match Tryz.f80.body with | some c=>codeB [] c | none=>false) = true:=by kernel_rfl
theorem fok80:FnOk Tryz.prog [] 80 ⟨49,c80,[]⟩:=FnOk.by Tryz.func80 b80 p80 Tryz.ntmps80 (by rw [Tryz.results80]) (by kernel_rfl)
theorem b81:(match Tryz.f81.body with | some c=>rcOf c c81 | none=>none) = some c81:=by kernel_rfl
theorem p81:(match Tryz.f81.body with | some c=>codeB [] c | none=>false) = true:=by kernel_rfl
theorem fok81:FnOk Tryz.prog [] 81 ⟨56,c81,[]⟩:=FnOk.by Tryz.func81 b81 p81 Tryz.ntmps81 (by rw [Tryz.results81]) (by kernel_rfl)
theorem b82:(match Tryz.f82.body with | some c=>rcOf c c82 | none=>none) = some c82:=by kernel_rfl
theorem p82:(match Tryz.f82.body with | some c=>codeB [] c | none=>false) = true:=by kernel_rfl
theorem fok82:FnOk Tryz.prog [] 82 ⟨65,c82,[]⟩:=FnOk.by Tryz.func82 b82 p82 Tryz.ntmps82 (by rw [Tryz.results82]) (by kernel_rfl)
theorem b83:(match Tryz.f83.body with | some c=>rcOf c c83 | none=>none) = some c83:=by kernel_rfl
theorem p83:(match Tryz.f83.body with | some c=>codeB [] c | none=>false) = true:=by kernel_rfl
theorem fok83:FnOk Tryz.prog [] 83 ⟨57,c83,[.tmp 6,.tmp 7]⟩:=FnOk.by Tryz.func83 b83 p83 Tryz.ntmps83 (by rw [Tryz.results83]) (by kernel_rfl)
theorem b84:(match Tryz.f84.body with | some c=>rcOf c c84 | none=>none) = some c84:=by kernel_rfl
theorem p84:(match Tryz.f84.body with | some c=>codeB [] c | none=>false) = true:=by kernel_rfl
theorem fok84:FnOk Tryz.prog [] 84 ⟨32,c84,[]⟩:=FnOk.by Tryz.func84 b84 p84 Tryz.ntmps84 (by rw [Tryz.results84]) (by kernel_rfl)
end Go.Proofs.YtkhedoaiejjcfaaGreat.HzS
set_option maxRecDepth 100000
namespace Go.Proofs.YtkhedoaiejjcfaaGreat.HzS
open Go Go.Sp Go.HzS
theorem b85:(match Tryz.f85.body with | some c=>rcOf c c85 | none=>none) = some c85:=by kernel_rfl
theorem p85:(match Tryz.f85.body with | some c=>codeB [] c | none=>false) = true:=by kernel_rfl
theorem fok85:FnOk Tryz.prog [] 85 ⟨133,c85,[.tmp 6]⟩:=FnOk.by Tryz.func85 b85 p85 Tryz.ntmps85 (by rw [Tryz.results85]) (by kernel_rfl)
theorem b86:(match Tryz.f86.body with | some c=>rcOf c c86 | none=>none) = some c86:=by kernel_rfl
theorem p86:(match Tryz.f86.body with | some c=>codeB [] c | none=>false) = true:=by kernel_rfl
theorem fok86:FnOk Tryz.prog [] 86 ⟨17,c86,[.tmp 4]⟩:=FnOk.by Tryz.func86 b86 p86 Tryz.ntmps86 (by rw [Tryz.results86]) (by kernel_rfl)
theorem b87:(match Tryz.f87.body with | some c=>rcOf c c87 | none=>none) = some c87:=by kernel_rfl
theorem p87:(match Tryz.f87.body with | some c=>codeB [] c | none=>false) = true:=by kernel_rfl
theorem fok87:FnOk Tryz.prog [] 87 ⟨84,c87,[.tmp 8]⟩:=FnOk.by Tryz.func87 b87 p87 Tryz.ntmps87 (by rw [Tryz.results87]) (by kernel_rfl)
theorem b88:(match Tryz.f88.body with | some c=>rcOf c c88 | none=>none) = some c88:=by kernel_rfl
theorem p88:(match Tryz.f88.body with | some c=>codeB [] c | none=>false) = true:=by kernel_rfl
theorem fok88:FnOk Tryz.prog [] 88 ⟨168,c88,[.tmp 8,.tmp 9]⟩:=FnOk.by Tryz.func88 b88 p88 Tryz.ntmps88 (by rw [Tryz.results88]) (by kernel_rfl)
theorem b89:(match Tryz.f89.body with | some c=>rcOf c c89 | none=>none) = some c89:=by kernel_rfl
theorem p89:(match Tryz.f89.body with | some c=>codeB [] c | none=>false) = true:=by kernel_rfl
theorem fok89:FnOk Tryz.prog [] 89 ⟨148,c89,[]⟩:=FnOk.by Tryz.func89 b89 p89 Tryz.ntmps89 (by rw [Tryz.results89]) (by kernel_rfl)
theorem b90:(match Tryz.f90.body with | some c=>rcOf c c90 | none=>none) = some c90:=by kernel_rfl
theorem p90:(match Tryz.f90.body with | some c=>codeB [] c | none=>false) = true:=by kernel_rfl
theorem fok90:FnOk Tryz.prog [] 90 ⟨30,c90,[.tmp 4,.tmp 5]⟩:=FnOk.by Tryz.func90 b90 p90 Tryz.ntmps90 (by rw [Tryz.results90]) (by kernel_rfl)
theorem b91:(match Tryz.f91.body with | some c=>rcOf c c91 | none=>none) = some c91:=by kernel_rfl
theorem p91:(match Tryz.f91.body with | some c=>codeB [] c | none=>false) = true:=by kernel_rfl
theorem fok91:FnOk Tryz.prog [] 91 ⟨82,c91,[]⟩:=FnOk.by Tryz.func91 b91 p91 Tryz.ntmps91 (by rw [Tryz.results91]) (by kernel_rfl)
theorem b92:(match Tryz.f92.body with | some c=>rcOf c c92 | none=>none) = some c92:=by kernel_rfl
theorem p92:(match Tryz.f92.body with | some c=>codeB [] c | none=>false) = true:=by kernel_rfl
theorem fok92:FnOk Tryz.prog [] 92 ⟨7,c92,[.tmp 2]⟩:=FnOk.by Tryz.func92 b92 p92 Tryz.ntmps92 (by rw [Tryz.results92]) (by kernel_rfl)
theorem b93:(match Tryz.f93.body with | some c=>rcOf c c93 | none=>none) = some c93:=by kernel_rfl
theorem p93:(match Tryz.f93.body with | some c=>codeB [] c | none=>false) = true:=by kernel_rfl
theorem fok93:FnOk Tryz.prog [] 93 ⟨33,c93,[.tmp 2]⟩:=FnOk.by Tryz.func93 b93 p93 Tryz.ntmps93 (by rw [Tryz.results93]) (by kernel_rfl)
theorem b94:(match Tryz.f94.body with | some c=>rcOf c c94 | none=>none) = some c94:=by kernel_rfl
theorem p94:(match Tryz.f94.body with | some c=>codeB [] c | none=>false) = true:=by kernel_rfl
theorem fok94:FnOk Tryz.prog [] 94 ⟨18,c94,[.tmp 8]⟩:=FnOk.by Tryz.func94 b94 p94 Tryz.ntmps94 (by rw [Tryz.results94]) (by kernel_rfl)
theorem b95:(match Tryz.f95.body with | some c=>rcOf c c95 | none=>none) = some c95:=by kernel_rfl
theorem p95:(match Tryz.f95.body with | some c=>codeB [] c | none=>false) = true:=by kernel_rfl
theorem fok95:FnOk Tryz.prog [] 95 ⟨41,c95,[.tmp 12]⟩:=FnOk.by Tryz.func95 b95 p95 Tryz.ntmps95 (by rw [Tryz.results95]) (by kernel_rfl)
theorem b96:(match Tryz.f96.body with | some c=>rcOf c c96 | none=>none) = some c96:=by kernel_rfl
theorem p96:(match Tryz.f96.body with | some c=>codeB [] c | none=>false) = true:=by kernel_rfl
theorem fok96:FnOk Tryz.prog [] 96 ⟨76,c96,[]⟩:=FnOk.by Tryz.func96 b96 p96 Tryz.ntmps96 (by rw [Tryz.results96]) (by kernel_rfl)
theorem b97:(match Tryz.f97.body with | some c=>rcOf c c97 | none=>none) = some c97:=by kernel_rfl
theorem p97:(match Tryz.f97.body with | some c=>codeB [] c | none=>false) = true:=by kernel_rfl
theorem fok97:FnOk Tryz.prog [] 97 ⟨15,c97,[.tmp 6]⟩:=FnOk.by Tryz.func97 b97 p97 Tryz.ntmps97 (by rw [Tryz.results97]) (by kernel_rfl)
theorem b98:(match Tryz.f98.body with | some c=>rcOf c c98 | none=>none) = some c98:=by kernel_rfl
theorem p98:(match Tryz.f98.body with | some c=>codeB [] c | none=>false) = true:=by kernel_rfl
theorem fok98:FnOk Tryz.prog [] 98 ⟨36,c98,[.tmp 10]⟩:=FnOk.by Tryz.func98 b98 p98 Tryz.ntmps98 (by rw [Tryz.results98]) (by kernel_rfl)
theorem b99:(match Tryz.f99.body with | some c=>rcOf c c99 | none=>none) = some c99:=by kernel_rfl
theorem p99:(match Tryz.f99.body with | some c=>codeB [] c | none=>false) = true:=by kernel_rfl
theorem fok99:FnOk Tryz.prog [] 99 ⟨53,c99,[]⟩:=FnOk.by Tryz.func99 b99 p99 Tryz.ntmps99 (by rw [Tryz.results99]) (by kernel_rfl)
theorem b100:(match Tryz.f100.body with | some c=>rcOf c c100 | none=>none) = some c100:=by kernel_rfl
theorem p100:(match Tryz.f100.body with | some c=>codeB [] c | none=>false) = true:=by kernel_rfl
theorem fok100:FnOk Tryz.prog [] 100 ⟨60,c100,[]⟩:=FnOk.by Tryz.func100 b100 p100 Tryz.ntmps100 (by rw [Tryz.results100]) (by kernel_rfl)
theorem b101:(match Tryz.f101.body with | some c=>rcOf c c101 | none=>none) = some c101:=by kernel_rfl
theorem p101:(match Tryz.f101.body with | some c=>codeB [] c | none=>false) = true:=by kernel_rfl
theorem fok101:FnOk Tryz.prog [] 101 ⟨67,c101,[]⟩:=FnOk.by Tryz.func101 b101 p101 Tryz.ntmps101 (by rw [Tryz.results101]) (by kernel_rfl)
theorem b102:(match Tryz.f102.body with | some c=>rcOf c c102 | none=>none) = some c102:=by kernel_rfl
theorem p102:(match Tryz.f102.body with | some c=>codeB [] c | none=>false) = true:=by kernel_rfl
theorem fok102:FnOk Tryz.prog [] 102 ⟨63,c102,[.tmp 8,.tmp 9]⟩:=FnOk.by Tryz.func102 b102 p102 Tryz.ntmps102 (by rw [Tryz.results102]) (by kernel_rfl)
theorem b103:(match Tryz.f103.body with | some c=>rcOf c c103 | none=>none) = some c103:=by kernel_rfl
theorem p103:(match Tryz.f103.body with | some c=>codeB [] c | none=>false) = true:=by kernel_rfl
theorem fok103:FnOk Tryz.prog [] 103 ⟨34,c103,[]⟩:=FnOk.by Tryz.func103 b103 p103 Tryz.ntmps103 (by rw [Tryz.results103]) (by kernel_rfl)
theorem b104:(match Tryz.f104.body with | some c=>rcOf c c104 | none=>none) = some c104:=by kernel_rfl
theorem p104:(match Tryz.f104.body with | some c=>codeB [] c | none=>false) = true:=by kernel_rfl
theorem fok104:FnOk Tryz.prog [] 104 ⟨141,c104,[.tmp 8]⟩:=FnOk.by Tryz.func104 b104 p104 Tryz.ntmps104 (by rw [Tryz.results104]) (by kernel_rfl)
theorem b105:(match Tryz.f105.body with | some c=>rcOf c c105 | none=>none) = some c105:=by kernel_rfl
theorem p105:(match Tryz.f105.body with | some c=>codeB [] c | none=>false) = true:=by kernel_rfl
theorem fok105:FnOk Tryz.prog [] 105 ⟨90,c105,[.tmp 10]⟩:=FnOk.by Tryz.func105 b105 p105 Tryz.ntmps105 (by rw [Tryz.results105]) (by kernel_rfl)
theorem b106:(match Tryz.f106.body with | some c=>rcOf c c106 | none=>none) = some c106:=by kernel_rfl
theorem p106:(match Tryz.f106.body with | some c=>codeB [] c | none=>false) = true:=by kernel_rfl
theorem fok106:FnOk Tryz.prog [] 106 ⟨178,c106,[.tmp 10,.tmp 11]⟩:=FnOk.by Tryz.func106 b106 p106 Tryz.ntmps106 (by rw [Tryz.results106]) (by kernel_rfl)
theorem b107:(match Tryz.f107.body with | some c=>rcOf c c107 | none=>none) = some c107:=by kernel_rfl
theorem p107:(match Tryz.f107.body with | some c=>codeB [] c | none=>false) = true:=by kernel_rfl
theorem fok107:FnOk Tryz.prog [] 107 ⟨17,c107,[.tmp 4,.tmp 5]⟩:=FnOk.by Tryz.func107 b107 p107 Tryz.ntmps107 (by rw [Tryz.results107]) (by kernel_rfl)
theorem b108:(match Tryz.f108.body with | some c=>rcOf c c108 | none=>none) = some c108:=by kernel_rfl
theorem p108:(match Tryz.f108.body with | some c=>codeB [] c | none=>false) = true:=by kernel_rfl
theorem fok108:FnOk Tryz.prog [] 108 ⟨51,c108,[.tmp 4,.tmp 5]⟩:=FnOk.by Tryz.func108 b108 p108 Tryz.ntmps108 (by rw [Tryz.results108]) (by kernel_rfl)
theorem b109:(match Tryz.f109.body with | some c=>rcOf c c109 | none=>none) = some c109:=by kernel_rfl
theorem p109:(match Tryz.f109.body with | some c=>codeB [] c | none=>false) = true:=by kernel_rfl
theorem fok109:FnOk Tryz.prog [] 109 ⟨32,c109,[.tmp 10,.tmp 11]⟩:=FnOk.by Tryz.func109 b109 p109 Tryz.ntmps109 (by rw [Tryz.results109]) (by kernel_rfl)
end Go.Proofs.YtkhedoaiejjcfaaGreat.HzS
set_option maxRecDepth 100000
namespace Go.Proofs.YtkhedoaiejjcfaaGreat.HzS
open Go Go.Sp Go.HzS
theorem b110:(match Tryz.f110.body with | some c=>rcOf c c110 | none=>none) = some c110:=by kernel_rfl
theorem p110:(match Tryz.f110.body with | some c=>codeB [] c | none=>false) = true:=by kernel_rfl
theorem fok110:FnOk Tryz.prog [] 110 ⟨28,c110,[.tmp 8,.tmp 9]⟩:=FnOk.by Tryz.func110 b110 p110 Tryz.ntmps110 (by rw [Tryz.results110]) (by kernel_rfl)
theorem b111:(match Tryz.f111.body with | some c=>rcOf c c111 | none=>none) = some c111:=by kernel_rfl
theorem p111:(match Tryz.f111.body with | some c=>codeB [] c | none=>false) = true:=by kernel_rfl
theorem fok111:FnOk Tryz.prog [] 111 ⟨82,c111,[]⟩:=FnOk.by Tryz.func111 b111 p111 Tryz.ntmps111 (by rw [Tryz.results111]) (by kernel_rfl)
theorem b112:(match Tryz.f112.body with | some c=>rcOf c c112 | none=>none) = some c112:=by kernel_rfl
theorem p112:(match Tryz.f112.body with | some c=>codeB [] c | none=>false) = true:=by kernel_rfl
theorem fok112:FnOk Tryz.prog [] 112 ⟨18,c112,[.tmp 8]⟩:=FnOk.by Tryz.func112 b112 p112 Tryz.ntmps112 (by rw [Tryz.results112]) (by kernel_rfl)
theorem b113:(match Tryz.f113.body with | some c=>rcOf c c113 | none=>none) = some c113:=by kernel_rfl
theorem p113:(match Tryz.f113.body with | some c=>codeB [] c | none=>false) = true:=by kernel_rfl
theorem fok113:FnOk Tryz.prog [] 113 ⟨41,c113,[.tmp 12]⟩:=FnOk.by Tryz.func113 b113 p113 Tryz.ntmps113 (by rw [Tryz.results113]) (by kernel_rfl)
theorem b114:(match Tryz.f114.body with | some c=>rcOf c c114 | none=>none) = some c114:=by kernel_rfl
theorem p114:(match Tryz.f114.body with | some c=>codeB [] c | none=>false) = true:=by kernel_rfl
theorem fok114:FnOk Tryz.prog [] 114 ⟨32,c114,[.tmp 10,.tmp 11]⟩:=FnOk.by Tryz.func114 b114 p114 Tryz.ntmps114 (by rw [Tryz.results114]) (by kernel_rfl)
end Go.Proofs.YtkhedoaiejjcfaaGreat.HzS
set_option maxRecDepth 100000
namespace Go.Proofs.YtkhedoaiejjcfaaGreat.HzS
open Go Go.Sp Go.HzS
theorem tok3:TyOk Tryz.prog 3 ti3:=TyOk.by Tryz.underlying3 (inf:=Tryz.t3) (by kernel_rfl) (by kernel_rfl) (by kernel_rfl) (by kernel_rfl) (by kernel_rfl) (fun h=>by cases h)
theorem tok4:TyOk Tryz.prog 4 ti4:=TyOk.by Tryz.underlying4 (inf:=Tryz.t4) (by kernel_rfl) (by kernel_rfl) (by kernel_rfl) (by kernel_rfl) (by kernel_rfl) (fun h=>by cases h)
theorem tok5:TyOk Tryz.prog 5 ti5:=TyOk.by Tryz.underlying5 (inf:=Tryz.t5) (by kernel_rfl) (by kernel_rfl) (by kernel_rfl) (by kernel_rfl) (by kernel_rfl) (fun h=>by cases h)
theorem tok9:TyOk Tryz.prog 9 ti9:=TyOk.by Tryz.underlying9 (inf:=Tryz.t9) (by kernel_rfl) (by kernel_rfl) (by kernel_rfl) (by kernel_rfl) (by kernel_rfl) (fun h=>by cases h)
theorem tok23:TyOk Tryz.prog 23 ti23:=TyOk.by Tryz.underlying23 (inf:=Tryz.t23) (by kernel_rfl) (by kernel_rfl) (by kernel_rfl) (by kernel_rfl) (by kernel_rfl) (fun h=>by cases h)
theorem tok25:TyOk Tryz.prog 25 ti25:=TyOk.by Tryz.underlying25 (inf:=Tryz.t25) (by kernel_rfl) (by kernel_rfl) (by kernel_rfl) (by kernel_rfl) (by kernel_rfl) (fun h=>by cases h)
theorem tok26:TyOk Tryz.prog 26 ti26:=TyOk.by Tryz.underlying26 (inf:=Tryz.t26) (by kernel_rfl) (by kernel_rfl) (by kernel_rfl) (by kernel_rfl) (by kernel_rfl) (fun h=>by cases h)
theorem tok30:TyOk Tryz.prog 30 ti30:=TyOk.by Tryz.underlying30 (inf:=Tryz.t30) (by kernel_rfl) (by kernel_rfl) (by kernel_rfl) (by kernel_rfl) (by kernel_rfl) (fun h=>by cases h)
theorem tok33:TyOk Tryz.prog 33 ti33:=TyOk.by Tryz.underlying33 (inf:=Tryz.t33) (by kernel_rfl) (by kernel_rfl) (by kernel_rfl) (by kernel_rfl) (by kernel_rfl) (fun h=>by cases h)
theorem tok39:TyOk Tryz.prog 39 ti39:=TyOk.by Tryz.underlying39 (inf:=Tryz.t39) (by kernel_rfl) (by kernel_rfl) (by kernel_rfl) (by kernel_rfl) (by kernel_rfl) (fun h=>by cases h)
theorem tok51:TyOk Tryz.prog 51 ti51:=TyOk.by Tryz.underlying51 (inf:=Tryz.t51) (by kernel_rfl) (by kernel_rfl) (by kernel_rfl) (by kernel_rfl) (by kernel_rfl) (fun h=>by cases h)
theorem tok54:TyOk Tryz.prog 54 ti54:=TyOk.by Tryz.underlying54 (inf:=Tryz.t54) (by kernel_rfl) (by kernel_rfl) (by kernel_rfl) (by kernel_rfl) (by kernel_rfl) (fun _=>⟨_,rfl,Fl.ok (d:=8) (⟨by kernel_rfl,.inr (.inr (.inr (.inl ⟨22,3,[(.int .i64 0)],Tryz.underlying54,⟨by kernel_rfl,.inl ⟨⟨_,Tryz.underlying3⟩,_,_,rfl⟩⟩,by kernel_rfl⟩)))⟩) (by decide) ⟨_,Tryz.underlying54,rfl⟩ (by kernel_rfl)⟩)
theorem tok60:TyOk Tryz.prog 60 ti60:=TyOk.by Tryz.underlying60 (inf:=Tryz.t60) (by kernel_rfl) (by kernel_rfl) (by kernel_rfl) (by kernel_rfl) (by kernel_rfl) (fun h=>by cases h)
theorem tok63:TyOk Tryz.prog 63 ti63:=TyOk.by Tryz.underlying63 (inf:=Tryz.t63) (by kernel_rfl) (by kernel_rfl) (by kernel_rfl) (by kernel_rfl) (by kernel_rfl) (fun h=>by cases h)
theorem tok66:TyOk Tryz.prog 66 ti66:=TyOk.by Tryz.underlying66 (inf:=Tryz.t66) (by kernel_rfl) (by kernel_rfl) (by kernel_rfl) (by kernel_rfl) (by kernel_rfl) (fun h=>by cases h)
theorem tok72:TyOk Tryz.prog 72 ti72:=TyOk.by Tryz.underlying72 (inf:=Tryz.t72) (by kernel_rfl) (by kernel_rfl) (by kernel_rfl) (by kernel_rfl) (by kernel_rfl) (fun h=>by cases h)
theorem tok73:TyOk Tryz.prog 73 ti73:=TyOk.by Tryz.underlying73 (inf:=Tryz.t73) (by kernel_rfl) (by kernel_rfl) (by kernel_rfl) (by kernel_rfl) (by kernel_rfl) (fun h=>by cases h)
theorem tok83:TyOk Tryz.prog 83 ti83:=TyOk.by Tryz.underlying83 (inf:=Tryz.t83) (by kernel_rfl) (by kernel_rfl) (by kernel_rfl) (by kernel_rfl) (by kernel_rfl) (fun h=>by cases h)
theorem tok89:TyOk Tryz.prog 89 ti89:=TyOk.by Tryz.underlying89 (inf:=Tryz.t89) (by kernel_rfl) (by kernel_rfl) (by kernel_rfl) (by kernel_rfl) (by kernel_rfl) (fun h=>by cases h)
theorem tok97:TyOk Tryz.prog 97 ti97:=TyOk.by Tryz.underlying97 (inf:=Tryz.t97) (by kernel_rfl) (by kernel_rfl) (by kernel_rfl) (by kernel_rfl) (by kernel_rfl) (fun h=>by cases h)
theorem tok99:TyOk Tryz.prog 99 ti99:=TyOk.by Tryz.underlying99 (inf:=Tryz.t99) (by kernel_rfl) (by kernel_rfl) (by kernel_rfl) (by kernel_rfl) (by kernel_rfl) (fun h=>by cases h)
theorem tok108:TyOk Tryz.prog 108 ti108:=TyOk.by Tryz.underlying108 (inf:=Tryz.t108) (by kernel_rfl) (by kernel_rfl) (by kernel_rfl) (by kernel_rfl) (by kernel_rfl) (fun h=>by cases h)
theorem tok112:TyOk Tryz.prog 112 ti112:=TyOk.by Tryz.underlying112 (inf:=Tryz.t112) (by kernel_rfl) (by kernel_rfl) (by kernel_rfl) (by kernel_rfl) (by kernel_rfl) (fun h=>by cases h)
theorem ttOk:TOk Tryz.prog tt:=TOk.of_all (t:=ttTr) ⟨trivial,⟨trivial,⟨tok3,⟨trivial,⟨trivial,⟨trivial,⟨tok63,trivial,trivial⟩,trivial⟩,trivial⟩,⟨tok23,⟨tok39,trivial,trivial⟩,trivial⟩⟩,⟨trivial,⟨trivial,⟨trivial,trivial,⟨tok99,trivial,trivial⟩⟩,⟨tok51,⟨tok83,trivial,trivial⟩,trivial⟩⟩,trivial⟩⟩,⟨tok5,⟨tok9,⟨trivial,⟨tok33,trivial,⟨tok97,trivial,trivial⟩⟩,trivial⟩,⟨tok25,⟨trivial,⟨tok73,trivial,trivial⟩,trivial⟩,⟨trivial,⟨tok89,trivial,trivial⟩,trivial⟩⟩⟩,trivial⟩⟩,⟨trivial,⟨tok4,⟨trivial,⟨trivial,trivial,⟨trivial,trivial,⟨tok112,trivial,trivial⟩⟩⟩,⟨trivial,⟨trivial,⟨tok72,trivial,trivial⟩,trivial⟩,trivial⟩⟩,⟨trivial,trivial,⟨trivial,⟨trivial,trivial,⟨tok108,trivial,trivial⟩⟩,⟨tok60,trivial,trivial⟩⟩⟩⟩,⟨trivial,⟨trivial,⟨trivial,⟨trivial,⟨tok66,trivial,trivial⟩,trivial⟩,trivial⟩,⟨tok26,trivial,trivial⟩⟩,⟨trivial,⟨trivial,trivial,⟨tok54,trivial,trivial⟩⟩,⟨tok30,trivial,trivial⟩⟩⟩⟩⟩
theorem fnAll:fnTr.All (FnOk Tryz.prog []):=⟨trivial,⟨trivial,⟨trivial,⟨trivial,⟨fok15,⟨fok31,⟨fok63,trivial,trivial⟩,⟨fok95,trivial,trivial⟩⟩,⟨fok47,⟨fok79,trivial,trivial⟩,⟨fok111,trivial,trivial⟩⟩⟩,⟨fok23,⟨fok39,⟨fok71,trivial,trivial⟩,⟨fok103,trivial,trivial⟩⟩,⟨fok55,⟨fok87,trivial,trivial⟩,trivial⟩⟩⟩,⟨fok11,⟨fok19,⟨fok35,⟨fok67,trivial,trivial⟩,⟨fok99,trivial,trivial⟩⟩,⟨fok51,⟨fok83,trivial,trivial⟩,trivial⟩⟩,⟨fok27,⟨fok43,⟨fok75,trivial,trivial⟩,⟨fok107,trivial,trivial⟩⟩,⟨fok59,⟨fok91,trivial,trivial⟩,trivial⟩⟩⟩⟩,⟨fok5,⟨fok9,⟨fok17,⟨fok33,⟨fok65,trivial,trivial⟩,⟨fok97,trivial,trivial⟩⟩,⟨fok49,⟨fok81,trivial,trivial⟩,⟨fok113,trivial,trivial⟩⟩⟩,⟨fok25,⟨fok41,⟨fok73,trivial,trivial⟩,⟨fok105,trivial,trivial⟩⟩,⟨fok57,⟨fok89,trivial,trivial⟩,trivial⟩⟩⟩,⟨fok13,⟨fok21,⟨fok37,⟨fok69,trivial,trivial⟩,⟨fok101,trivial,trivial⟩⟩,⟨fok53,⟨fok85,trivial,trivial⟩,trivial⟩⟩,⟨fok29,⟨fok45,⟨fok77,trivial,trivial⟩,⟨fok109,trivial,trivial⟩⟩,⟨fok61,⟨fok93,trivial,trivial⟩,trivial⟩⟩⟩⟩⟩,⟨trivial,⟨trivial,⟨fok8,⟨fok16,⟨fok32,⟨fok64,trivial,trivial⟩,⟨fok96,trivial,trivial⟩⟩,⟨fok48,⟨fok80,trivial,trivial⟩,⟨fok112,trivial,trivial⟩⟩⟩,⟨trivial,⟨fok40,⟨fok72,trivial,trivial⟩,⟨fok104,trivial,trivial⟩⟩,⟨fok56,⟨fok88,trivial,trivial⟩,trivial⟩⟩⟩,⟨fok12,⟨fok20,⟨fok36,⟨fok68,trivial,trivial⟩,⟨fok100,trivial,trivial⟩⟩,⟨fok52,⟨fok84,trivial,trivial⟩,trivial⟩⟩,⟨fok28,⟨fok44,⟨fok76,trivial,trivial⟩,⟨fok108,trivial,trivial⟩⟩,⟨fok60,⟨fok92,trivial,trivial⟩,trivial⟩⟩⟩⟩,⟨trivial,⟨trivial,⟨trivial,⟨fok34,⟨fok66,trivial,trivial⟩,⟨fok98,trivial,trivial⟩⟩,⟨fok50,⟨fok82,trivial,trivial⟩,⟨fok114,trivial,trivial⟩⟩⟩,⟨fok26,⟨fok42,⟨fok74,trivial,trivial⟩,⟨fok106,trivial,trivial⟩⟩,⟨fok58,⟨fok90,trivial,trivial⟩,trivial⟩⟩⟩,⟨fok14,⟨fok22,⟨fok38,⟨fok70,trivial,trivial⟩,⟨fok102,trivial,trivial⟩⟩,⟨fok54,⟨fok86,trivial,trivial⟩,trivial⟩⟩,⟨fok30,⟨fok46,⟨fok78,trivial,trivial⟩,⟨fok110,trivial,trivial⟩⟩,⟨fok62,⟨fok94,trivial,trivial⟩,trivial⟩⟩⟩⟩⟩⟩
theorem fnsOk (f:FuncId) (r:RFn) (h:fns f = some r):FnOk Tryz.prog [] f r:=fnAll.get h
end Go.Proofs.YtkhedoaiejjcfaaGreat.HzS
namespace Go.Proofs
open Go.Shelf
def Tryz.lays189_ren:Go.Shelf.Ren:=⟨fun | 189=>43 | 125=>62 | 257=>64 | 128=>78 | 129=>79 | 294=>80 | 295=>81 | 296=>82 | 297=>83 | 298=>84 | 299=>85 | 216=>86 | 300=>87 | 301=>88 | 328=>96 | 329=>92 | 330=>93 | 331=>97 | 332=>98 | 215=>63 | 343=>110 | n=>n,fun | 28=>25 | 3=>3 | 46=>83 | 0=>0 | 51=>97 | 53=>99 | 4=>4 | 183=>90 | 182=>89 | 131=>94 | 5=>5 | 9=>9 | 218=>108 | 222=>112 | 228=>125 | 229=>57 | n=>n,fun | n=>n⟩
theorem Tryz.lays189 : Go.Proofs.Lays.n189 Tryz.prog Tryz.lays189_ren := {
 mixed:=by kernel_rfl
 f125:=Tryz.func62.trans (congrArg some (by kernel_rfl))
 f128:=Tryz.func78.trans (congrArg some (by kernel_rfl))
 f129:=Tryz.func79.trans (congrArg some (by kernel_rfl))
 f189:=Tryz.func43.trans (congrArg some (by kernel_rfl))
 f215:=Tryz.func63.trans (congrArg some (by kernel_rfl))
 f216:=Tryz.func86.trans (congrArg some (by kernel_rfl))
 f257:=Tryz.func64.trans (congrArg some (by kernel_rfl))
 f294:=Tryz.func80.trans (congrArg some (by kernel_rfl))
 f295:=Tryz.func81.trans (congrArg some (by kernel_rfl))
 f296:=Tryz.func82.trans (congrArg some (by kernel_rfl))
 f297:=Tryz.func83.trans (congrArg some (by kernel_rfl))
 f298:=Tryz.func84.trans (congrArg some (by kernel_rfl))
 f299:=Tryz.func85.trans (congrArg some (by kernel_rfl))
 f300:=Tryz.func87.trans (congrArg some (by kernel_rfl))
 f301:=Tryz.func88.trans (congrArg some (by kernel_rfl))
 f328:=Tryz.func96.trans (congrArg some (by kernel_rfl))
 f329:=Tryz.func92.trans (congrArg some (by kernel_rfl))
 f330:=Tryz.func93.trans (congrArg some (by kernel_rfl))
 f331:=Tryz.func97.trans (congrArg some (by kernel_rfl))
 f332:=Tryz.func98.trans (congrArg some (by kernel_rfl))
 f343:=Tryz.func110.trans (congrArg some (by kernel_rfl))
 t0:=Tryz.underlying0
 a0:=Tryz.isAgg0
 z0:=Tryz.sizeOf0
 v0:=Tryz.zeroValue0
 t3:=Tryz.underlying3
 a3:=Tryz.isAgg3
 z3:=Tryz.sizeOf3
 v3:=Tryz.zeroValue3
 t4:=Tryz.underlying4
 a4:=Tryz.isAgg4
 z4:=Tryz.sizeOf4
 v4:=Tryz.zeroValue4
 t5:=Tryz.underlying5
 a5:=Tryz.isAgg5
 z5:=Tryz.sizeOf5
 v5:=Tryz.zeroValue5
 t9:=Tryz.underlying9
 a9:=Tryz.isAgg9
 z9:=Tryz.sizeOf9
 v9:=Tryz.zeroValue9
 t28:=Tryz.underlying25
 a28:=Tryz.isAgg25
 z28:=Tryz.sizeOf25
 v28:=Tryz.zeroValue25
 t46:=Tryz.underlying83
 a46:=Tryz.isAgg83
 z46:=Tryz.sizeOf83
 v46:=Tryz.zeroValue83
 t51:=Tryz.underlying97
 a51:=Tryz.isAgg97
 z51:=Tryz.sizeOf97
 v51:=Tryz.zeroValue97
 t53:=Tryz.underlying99
 a53:=Tryz.isAgg99
 z53:=Tryz.sizeOf99
 v53:=Tryz.zeroValue99
 t131:=Tryz.underlying94
 a131:=Tryz.isAgg94
 z131:=Tryz.sizeOf94
 v131:=Tryz.zeroValue94
 t182:=Tryz.underlying89
 a182:=Tryz.isAgg89
 z182:=Tryz.sizeOf89
 v182:=Tryz.zeroValue89
 t183:=Tryz.underlying90
 a183:=Tryz.isAgg90
 z183:=Tryz.sizeOf90
 v183:=Tryz.zeroValue90
 t218:=Tryz.underlying108
 a218:=Tryz.isAgg108
 z218:=Tryz.sizeOf108
 v218:=Tryz.zeroValue108
 t222:=Tryz.underlying112
 a222:=Tryz.isAgg112
 z222:=Tryz.sizeOf112
 v222:=Tryz.zeroValue112
 t228:=Tryz.underlying125
 a228:=Tryz.isAgg125
 z228:=Tryz.sizeOf125
 v228:=Tryz.zeroValue125
 t229:=Tryz.underlying57
 a229:=Tryz.isAgg57
 z229:=Tryz.sizeOf57
 v229:=Tryz.zeroValue57 }
open Go.Sort Go.RowKit in
theorem Tryz.slices_Sort_int (blk off cap : Nat) (zs : List Int) (w : World) (hH : Holds (Value.int .i64) w blk off zs.toArray) (hblk : blk < w.heap.size) (hsz : zs.length < 4611686018427387904) :
 Calls Tryz.prog 43 #[.slice (some ⟨blk,off,none⟩) zs.length cap] w fun e w'=>
  e = .returned (.tuple #[])∧∃ n os,w' = grow (putRow (Value.int .i64) (Sort.ahead w n) blk off (zs.mergeSort fun x y=>decide (x≤y)).toArray) os:=Any.slices_Sort_int Tryz.lays189 blk off cap zs w hH hblk hsz
end Go.Proofs
set_option maxRecDepth 100000
namespace Go.Proofs.YtkhedoaiejjcfaaGreat.HzS
open Go Go.Sp Go.HzSM Go.HzS
noncomputable section
theorem fk5:FnOk Tryz.prog (List.range tabs.length) 5 ⟨91,c5_72,[.tmp 2]⟩:=by
 have h:c5 = c5_72:=by kernel_rfl
 rw [←h];exact fok5
theorem fk13:FnOk Tryz.prog (List.range tabs.length) 13 ⟨17,c13_20,[.tmp 2]⟩:=by
 have h:c13 = c13_20:=by kernel_rfl
 rw [←h];exact fok13
theorem fk14:FnOk Tryz.prog (List.range tabs.length) 14 ⟨26,c14_26,[.tmp 4]⟩:=by
 have h:c14 = c14_26:=by kernel_rfl
 rw [←h];exact fok14
theorem fk15:FnOk Tryz.prog (List.range tabs.length) 15 ⟨29,c15_27,[.tmp 2]⟩:=by
 have h:c15 = c15_27:=by kernel_rfl
 rw [←h];exact fok15
theorem fk17:FnOk Tryz.prog (List.range tabs.length) 17 ⟨42,c17_39,[.tmp 4]⟩:=by
 have h:c17 = c17_39:=by kernel_rfl
 rw [←h];exact fok17
theorem fk22:FnOk Tryz.prog (List.range tabs.length) 22 ⟨21,c22_36,[.tmp 2]⟩:=by
 have h:c22 = c22_36:=by kernel_rfl
 rw [←h];exact fok22
theorem fk23:FnOk Tryz.prog (List.range tabs.length) 23 ⟨65,c23_65,[.tmp 2,.tmp 3]⟩:=by
 have h:c23 = c23_65:=by kernel_rfl
 rw [←h];exact fok23
theorem fk28:FnOk Tryz.prog (List.range tabs.length) 28 ⟨19,c28_20,[.cell 2 54]⟩:=by
 have h:c28 = c28_20:=by kernel_rfl
 rw [←h];exact fok28
theorem fk29:FnOk Tryz.prog (List.range tabs.length) 29 ⟨45,c29_32,[.tmp 2]⟩:=by
 have h:c29 = c29_32:=by kernel_rfl
 rw [←h];exact fok29
theorem fk30:FnOk Tryz.prog (List.range tabs.length) 30 ⟨15,c30_3,[.tmp 6]⟩:=by
 have h:c30 = c30_3:=by kernel_rfl
 rw [←h];exact fok30
theorem fk31:FnOk Tryz.prog (List.range tabs.length) 31 ⟨15,c31_16,[.tmp 2,.tmp 3]⟩:=by
 have h:c31 = c31_16:=by kernel_rfl
 rw [←h];exact fok31
theorem fk36:FnOk Tryz.prog (List.range tabs.length) 36 ⟨51,c36_31,[.tmp 2]⟩:=by
 have h:c36 = c36_31:=by kernel_rfl
 rw [←h];exact fok36
theorem fk55:FnOk Tryz.prog (List.range tabs.length) 55 ⟨14,c55_26,[.tmp 2,.cell 3 54]⟩:=by
 have h:c55 = c55_26:=by kernel_rfl
 rw [←h];exact fok55
theorem fk56:FnOk Tryz.prog (List.range tabs.length) 56 ⟨18,c56_18,[.tmp 2]⟩:=by
 have h:c56 = c56_18:=by kernel_rfl
 rw [←h];exact fok56
theorem fk57:FnOk Tryz.prog (List.range tabs.length) 57 ⟨18,c57_20,[.tmp 2]⟩:=by
 have h:c57 = c57_20:=by kernel_rfl
 rw [←h];exact fok57
theorem fk59:FnOk Tryz.prog (List.range tabs.length) 59 ⟨15,c59_11,[.cell 2 54]⟩:=by
 have h:c59 = c59_11:=by kernel_rfl
 rw [←h];exact fok59
theorem fk65:FnOk Tryz.prog (List.range tabs.length) 65 ⟨17,c65_20,[.tmp 2]⟩:=by
 have h:c65 = c65_20:=by kernel_rfl
 rw [←h];exact fok65
theorem fk12:FnOk Tryz.prog (List.range tabs.length) 12 ⟨36,c12_38,[.tmp 4]⟩:=by
 have h:c12 = c12_38:=by kernel_rfl
 rw [←h];exact fok12
theorem fk41:FnOk Tryz.prog (List.range tabs.length) 41 ⟨20,c41_37,[.tmp 4]⟩:=by
 have h:c41 = c41_37:=by kernel_rfl
 rw [←h];exact fok41
theorem fk63:FnOk Tryz.prog (List.range tabs.length) 63 ⟨6,c63_3,[.tmp 2]⟩:=by
 have h:c63 = c63_3:=by kernel_rfl
 rw [←h];exact fok63
theorem fk27:FnOk Tryz.prog (List.range tabs.length) 27 ⟨32,c27_46,[.tmp 2]⟩:=by
 have h:c27 = c27_46:=by kernel_rfl
 rw [←h];exact fok27
theorem fk44:FnOk Tryz.prog (List.range tabs.length) 44 ⟨28,c44_11,[]⟩:=by
 have h:c44 = c44_11:=by kernel_rfl
 rw [←h];exact fok44
theorem tabs_ne:∀ t ∈ tabs,t ≠ []:=by intro t ht;cases ht
theorem tabs_pl:∀ t ∈ tabs,∀ x ∈ t,plain1 x = true:=by intro t ht;cases ht
theorem inl_ok (hm:Tryz.prog.follows .mixedOrders = true) {pu:PureF} (hl56:LiveOk Tryz.prog tabs 56 1 (pu 56)) (hg60:PureOk Tryz.prog tabs 60 (pu 60)) (hg68:PureOk Tryz.prog tabs 68 (pu 68)) (h0:ObjOk Tryz.prog tabs 1 1 44 (pu 10440)):CallOk Tryz.prog (List.range tabs.length) (inl pu):=fun g args H v H' h=>by
 replace h:bb (Nat.beq g 42) (identF args H) (bb (Nat.beq g 43) (sortF args H) (bb (Nat.beq g 56) (liveF tabs 1 (pu 56) args H) (bb (Nat.beq g 60) (giveF tabs 1 (pu 60) args H) (bb (Nat.beq g 68) (giveF tabs 1 (pu 68) args H) (bb (Nat.beq g 44) (objG tabs [[none]] 1 [.tmp 0 false] [false] (pu 10440) args H) (none)))))) = some (v,H'):=h
 have hq:=bb_cases h;clear h;rcases hq with ⟨e,h⟩ | ⟨_,h⟩
 ·obtain rfl := Nat.eq_of_beq_eq_true e
  exact ident42_ok ttOk fnsOk hm h
 have hq:=bb_cases h;clear h;rcases hq with ⟨e,h⟩ | ⟨_,h⟩
 ·obtain rfl := Nat.eq_of_beq_eq_true e
  exact ⟨enter_ok fok43,(sortF_ok (enter_ok fok43) (fun blk off cap zs w h1 h2 h3=>Go.Proofs.Tryz.slices_Sort_int blk off cap zs w h1 h2 h3) h).2 _⟩
 have hq:=bb_cases h;clear h;rcases hq with ⟨e,h⟩ | ⟨_,h⟩
 ·obtain rfl := Nat.eq_of_beq_eq_true e
  exact liveF_ok tabs_ne tabs_pl hl56 h
 have hq:=bb_cases h;clear h;rcases hq with ⟨e,h⟩ | ⟨_,h⟩
 ·obtain rfl := Nat.eq_of_beq_eq_true e
  exact giveF_ok tabs_ne tabs_pl hg60 h
 have hq:=bb_cases h;clear h;rcases hq with ⟨e,h⟩ | ⟨_,h⟩
 ·obtain rfl := Nat.eq_of_beq_eq_true e
  exact giveF_ok tabs_ne tabs_pl hg68 h
 have hq:=bb_cases h;clear h;rcases hq with ⟨e,h⟩ | ⟨_,h⟩
 ·obtain rfl := Nat.eq_of_beq_eq_true e
  exact objG_ok (rs:=[.tmp 0 false]) tabs_ne tabs_pl h0 h
 cases h
theorem disp_ok (hm:Tryz.prog.follows .mixedOrders = true) (hw:PureOk Tryz.prog tabs 16 orc16∧PureOk Tryz.prog tabs 60 orc60∧PureOk Tryz.prog tabs 68 orc68∧PureOk Tryz.prog tabs 8 orc8∧PureOk Tryz.prog tabs 11 orc11∧PureOk Tryz.prog tabs 51 orc51) {pu:PureF} (hall:(∀ g,isP g = true→PureOk Tryz.prog tabs g (pu g))∧LiveOk Tryz.prog tabs 56 1 (pu 56)∧PureOk Tryz.prog tabs 60 (pu 60)∧PureOk Tryz.prog tabs 68 (pu 68)∧ObjOk Tryz.prog tabs 1 1 44 (pu 10440)):(∀ g,isP g = true→PureOk Tryz.prog tabs g (disp pu g))∧LiveOk Tryz.prog tabs 56 1 (disp pu 56)∧PureOk Tryz.prog tabs 60 (disp pu 60)∧PureOk Tryz.prog tabs 68 (disp pu 68)∧ObjOk Tryz.prog tabs 1 1 44 (disp pu 10440):=by
 obtain ⟨hpu,hl56,hg60,hg68,h0⟩:=hall
 have hcall:=callP_ok (P:=Tryz.prog) (tabs:=tabs) tabs_ne tabs_pl (inl_ok hm hl56 hg60 hg68 h0) hpu
 refine ⟨fun g hg=>?_,?_,?_,?_,?_⟩
 ·have hg : g ∈ plist := memN_iff.1 hg
  simp only [plist,List.mem_cons,List.not_mem_nil,or_false] at hg
  rcases hg with rfl | rfl | rfl | rfl | rfl | rfl | rfl | rfl | rfl | rfl | rfl | rfl | rfl | rfl | rfl | rfl | rfl | rfl | rfl | rfl | rfl | rfl | rfl | rfl
  ·exact pureOk_of_run (tabs:=tabs) (f:=m5 pu L) ttOk hm hcall fk5 fun args v h hc=>r5 pu L rfl h hc
  ·exact hw.2.2.2.1
  ·exact hw.2.2.2.2.1
  ·exact pureOk_of_run (tabs:=tabs) (f:=m12 pu L) ttOk hm hcall fk12 fun args v h hc=>r12 pu L rfl h hc
  ·exact pureOk_of_run (tabs:=tabs) (f:=m13 pu L) ttOk hm hcall fk13 fun args v h hc=>r13 pu L rfl h hc
  ·exact pureOk_of_run (tabs:=tabs) (f:=m14 pu L) ttOk hm hcall fk14 fun args v h hc=>r14 pu L rfl h hc
  ·exact pureOk_of_run (tabs:=tabs) (f:=m15 pu L) ttOk hm hcall fk15 fun args v h hc=>r15 pu L rfl h hc
  ·exact hw.1
  ·exact pureOk_of_run (tabs:=tabs) (f:=m17 pu L) ttOk hm hcall fk17 fun args v h hc=>r17 pu L rfl h hc
  ·exact pureOk_of_run (tabs:=tabs) (f:=m22 pu L) ttOk hm hcall fk22 fun args v h hc=>r22 pu L rfl h hc
  ·exact pureOk_of_run (tabs:=tabs) (f:=m23 pu L) ttOk hm hcall fk23 fun args v h hc=>r23 pu L rfl h hc
  ·exact pureOk_of_run (tabs:=tabs) (f:=m27 pu L) ttOk hm hcall fk27 fun args v h hc=>r27 pu L rfl h hc
  ·exact pureOk_of_run (tabs:=tabs) (f:=m28 pu L) ttOk hm hcall fk28 fun args v h hc=>r28 pu L rfl h hc
  ·exact pureOk_of_run (tabs:=tabs) (f:=m29 pu L) ttOk hm hcall fk29 fun args v h hc=>r29 pu L rfl h hc
  ·exact pureOk_of_run (tabs:=tabs) (f:=m30 pu L) ttOk hm hcall fk30 fun args v h hc=>r30 pu L rfl h hc
  ·exact pureOk_of_run (tabs:=tabs) (f:=m31 pu L) ttOk hm hcall fk31 fun args v h hc=>r31 pu L rfl h hc
  ·exact pureOk_of_run (tabs:=tabs) (f:=m36 pu L) ttOk hm hcall fk36 fun args v h hc=>r36 pu L rfl h hc
  ·exact pureOk_of_run (tabs:=tabs) (f:=m41 pu L) ttOk hm hcall fk41 fun args v h hc=>r41 pu L rfl h hc
  ·exact hw.2.2.2.2.2
  ·exact pureOk_of_run (tabs:=tabs) (f:=m55 pu L) ttOk hm hcall fk55 fun args v h hc=>r55 pu L rfl h hc
  ·exact pureOk_of_run (tabs:=tabs) (f:=m57 pu L) ttOk hm hcall fk57 fun args v h hc=>r57 pu L rfl h hc
  ·exact pureOk_of_run (tabs:=tabs) (f:=m59 pu L) ttOk hm hcall fk59 fun args v h hc=>r59 pu L rfl h hc
  ·exact pureOk_of_run (tabs:=tabs) (f:=m63 pu L) ttOk hm hcall fk63 fun args v h hc=>r63 pu L rfl h hc
  ·exact pureOk_of_run (tabs:=tabs) (f:=m65 pu L) ttOk hm hcall fk65 fun args v h hc=>r65 pu L rfl h hc
 ·exact liveOk_of_run (tabs:=tabs) (f:=m56 pu L) ttOk hm hcall fk56 fun args v h hc=>r56 pu L rfl h hc
 ·exact hw.2.1
 ·exact hw.2.2.1
 ·exact objOk_of_run (tabs:=tabs) (f:=m10440 pu L) ttOk hm hcall fk44 fun args os z h1 h2 h3 h=>r10440 pu L rfl h1 h2 h3 h
theorem all_ok (hm:Tryz.prog.follows .mixedOrders = true) (hw:PureOk Tryz.prog tabs 16 orc16∧PureOk Tryz.prog tabs 60 orc60∧PureOk Tryz.prog tabs 68 orc68∧PureOk Tryz.prog tabs 8 orc8∧PureOk Tryz.prog tabs 11 orc11∧PureOk Tryz.prog tabs 51 orc51):∀ n,(∀ g,isP g = true→PureOk Tryz.prog tabs g (puN n g))∧LiveOk Tryz.prog tabs 56 1 (puN n 56)∧PureOk Tryz.prog tabs 60 (puN n 60)∧PureOk Tryz.prog tabs 68 (puN n 68)∧ObjOk Tryz.prog tabs 1 1 44 (puN n 10440):=fun n=>by
 induction n with
 | zero =>
  refine ⟨fun g hg=>?_,?_,?_,?_,?_⟩
  ·have hg : g ∈ plist := memN_iff.1 hg
   simp only [plist,List.mem_cons,List.not_mem_nil,or_false] at hg
   rcases hg with rfl | rfl | rfl | rfl | rfl | rfl | rfl | rfl | rfl | rfl | rfl | rfl | rfl | rfl | rfl | rfl | rfl | rfl | rfl | rfl | rfl | rfl | rfl | rfl
   ·exact ⟨enter_ok fk5,fun args v h=>by cases h⟩
   ·exact ⟨(hw.2.2.2.1).1,fun args v h=>by cases h⟩
   ·exact ⟨(hw.2.2.2.2.1).1,fun args v h=>by cases h⟩
   ·exact ⟨enter_ok fk12,fun args v h=>by cases h⟩
   ·exact ⟨enter_ok fk13,fun args v h=>by cases h⟩
   ·exact ⟨enter_ok fk14,fun args v h=>by cases h⟩
   ·exact ⟨enter_ok fk15,fun args v h=>by cases h⟩
   ·exact ⟨(hw.1).1,fun args v h=>by cases h⟩
   ·exact ⟨enter_ok fk17,fun args v h=>by cases h⟩
   ·exact ⟨enter_ok fk22,fun args v h=>by cases h⟩
   ·exact ⟨enter_ok fk23,fun args v h=>by cases h⟩
   ·exact ⟨enter_ok fk27,fun args v h=>by cases h⟩
   ·exact ⟨enter_ok fk28,fun args v h=>by cases h⟩
   ·exact ⟨enter_ok fk29,fun args v h=>by cases h⟩
   ·exact ⟨enter_ok fk30,fun args v h=>by cases h⟩
   ·exact ⟨enter_ok fk31,fun args v h=>by cases h⟩
   ·exact ⟨enter_ok fk36,fun args v h=>by cases h⟩
   ·exact ⟨enter_ok fk41,fun args v h=>by cases h⟩
   ·exact ⟨(hw.2.2.2.2.2).1,fun args v h=>by cases h⟩
   ·exact ⟨enter_ok fk55,fun args v h=>by cases h⟩
   ·exact ⟨enter_ok fk57,fun args v h=>by cases h⟩
   ·exact ⟨enter_ok fk59,fun args v h=>by cases h⟩
   ·exact ⟨enter_ok fk63,fun args v h=>by cases h⟩
   ·exact ⟨enter_ok fk65,fun args v h=>by cases h⟩
  ·exact ⟨enter_ok fk56,fun args v h=>by cases h⟩
  ·exact ⟨(hw.2.1).1,fun args v h=>by cases h⟩
  ·exact ⟨(hw.2.2.1).1,fun args v h=>by cases h⟩
  ·exact ⟨enter_ok fk44,fun args os z h1 h2 h3 h=>by cases h⟩
 | succ n ih=>exact disp_ok hm hw ih
end
end Go.Proofs.YtkhedoaiejjcfaaGreat.HzS
set_option maxRecDepth 100000
namespace Go.Proofs.YtkhedoaiejjcfaaGreat.HzS
open Go Go.Sp Go.HzSM Go.HzS
theorem no_ok {P:Program} {gl:List Nat}:CallOk P gl (fun _ _ _=>none):=fun g args H v H' h=>by cases h
noncomputable def runR (fl k:Nat) (y:Int):Option Value:=frzR 0 (evFnP [] (fun _=>false) (fun _ _=>none) (fun _ _ _=>none) tt fns 60 68 [Sl.v 1 ⟨1,fl,[.int .i64 y]⟩,.int .i64 (.ofNat k)] (pureHeap []))
theorem rep_run (fl : Nat) (y : Int) : ∀ k, k ≤ 21 → runR fl k y = some (Sl.v 1 ⟨k, 0, zeroRow [.int .i64 y] k⟩)
 | 0,_=>by kernel_rfl
 | 1,_=>by kernel_rfl
 | 2,_=>by kernel_rfl
 | 3,_=>by kernel_rfl
 | 4,_=>by kernel_rfl
 | 5,_=>by kernel_rfl
 | 6,_=>by kernel_rfl
 | 7,_=>by kernel_rfl
 | 8,_=>by kernel_rfl
 | 9,_=>by kernel_rfl
 | 10,_=>by kernel_rfl
 | 11,_=>by kernel_rfl
 | 12,_=>by kernel_rfl
 | 13,_=>by kernel_rfl
 | 14,_=>by kernel_rfl
 | 15,_=>by kernel_rfl
 | 16,_=>by kernel_rfl
 | 17,_=>by kernel_rfl
 | 18,_=>by kernel_rfl
 | 19,_=>by kernel_rfl
 | 20,_=>by kernel_rfl
 | 21,_=>by kernel_rfl
 | k + 22,h=>by omega
theorem orc68_ok (hm:Tryz.prog.follows .mixedOrders = true):PureOk Tryz.prog tabs 68 orc68:=by
 refine pureOk_closedP (tabs:=tabs) (n:=60) (g:=68) (H:=pureHeap tabs) (isP:=fun _=>false) (pu:=fun _ _=>none) (inl:=fun _ _ _=>none) ttOk tabs_ne tabs_pl fnsOk hm (fun g h=>by cases h) no_ok (fun _=>rfl) rfl (enter_ok fok68) fun args v h=>?_
 replace h:=ll_uncons h;obtain ⟨a,r,rfl,h⟩:=h
 replace h:=ll_uncons h;obtain ⟨b,r,rfl,h⟩:=h
 replace h:=ll_end h;obtain ⟨rfl,h⟩:=h
 replace h:=oo_inv h;obtain ⟨s,hs,h⟩:=h
 replace h:=oo_inv h;obtain ⟨z,hz,h⟩:=h
 replace h:=oo_inv h;obtain ⟨k,hk,h⟩:=h
 obtain rfl:=toN_some hk
 obtain rfl:=toSl_some hs
 obtain rfl:=toI_some hz
 obtain ⟨n,fl,cs⟩:=s
 replace h:=ll_uncons h;obtain ⟨x,r,hcs,h⟩:=h
 have hcs:cs = x :: r:=hcs
 replace h:=ll_end h;obtain ⟨rfl,h⟩:=h
 replace h:=oo_inv h;obtain ⟨y,hy,h⟩:=h
 obtain rfl:=toI_some hy
 subst hcs
 replace h:=bb_inv h;obtain ⟨hc,h⟩:=h
 obtain ⟨h1,h2⟩:=an_inv hc
 have h1:n = 1:=Nat.eq_of_beq_eq_true h1
 subst h1
 injection h with h;subst h
 refine ⟨rfl,.inr ?_⟩
 exact rep_run fl y k (Nat.le_of_ble_eq_true h2)
noncomputable def runC (xs ys:List Value):Option Value:=frzR 0 (evFnP [] (fun _=>false) (fun _ _=>none) (fun _ _ _=>none) tt fns 60 60 [Sl.v 1 ⟨2,0,[Sl.v 1 ⟨len xs,0,xs⟩,Sl.v 1 ⟨len ys,0,ys⟩]⟩] (pureHeap []))
theorem cat_1_0 (k0 f0:Nat) (c0:List Value):runC [Sl.v 1 ⟨k0,f0,c0⟩] [] = some (Sl.v 1 ⟨1,0,[Sl.v 1 ⟨k0,f0,c0⟩]⟩):=by kernel_rfl
theorem cat_1_1 (k0 f0 k1 f1:Nat) (c0 c1:List Value):runC [Sl.v 1 ⟨k0,f0,c0⟩] [Sl.v 1 ⟨k1,f1,c1⟩] = some (Sl.v 1 ⟨2,0,[Sl.v 1 ⟨k0,f0,c0⟩,Sl.v 1 ⟨k1,f1,c1⟩]⟩):=by kernel_rfl
theorem cat_1_2 (k0 f0 k1 f1 k2 f2:Nat) (c0 c1 c2:List Value):runC [Sl.v 1 ⟨k0,f0,c0⟩] [Sl.v 1 ⟨k1,f1,c1⟩,Sl.v 1 ⟨k2,f2,c2⟩] = some (Sl.v 1 ⟨3,0,[Sl.v 1 ⟨k0,f0,c0⟩,Sl.v 1 ⟨k1,f1,c1⟩,Sl.v 1 ⟨k2,f2,c2⟩]⟩):=by kernel_rfl
theorem cat_1_3 (k0 f0 k1 f1 k2 f2 k3 f3:Nat) (c0 c1 c2 c3:List Value):runC [Sl.v 1 ⟨k0,f0,c0⟩] [Sl.v 1 ⟨k1,f1,c1⟩,Sl.v 1 ⟨k2,f2,c2⟩,Sl.v 1 ⟨k3,f3,c3⟩] = some (Sl.v 1 ⟨4,0,[Sl.v 1 ⟨k0,f0,c0⟩,Sl.v 1 ⟨k1,f1,c1⟩,Sl.v 1 ⟨k2,f2,c2⟩,Sl.v 1 ⟨k3,f3,c3⟩]⟩):=by kernel_rfl
theorem cat_1_4 (k0 f0 k1 f1 k2 f2 k3 f3 k4 f4:Nat) (c0 c1 c2 c3 c4:List Value):runC [Sl.v 1 ⟨k0,f0,c0⟩] [Sl.v 1 ⟨k1,f1,c1⟩,Sl.v 1 ⟨k2,f2,c2⟩,Sl.v 1 ⟨k3,f3,c3⟩,Sl.v 1 ⟨k4,f4,c4⟩] = some (Sl.v 1 ⟨5,0,[Sl.v 1 ⟨k0,f0,c0⟩,Sl.v 1 ⟨k1,f1,c1⟩,Sl.v 1 ⟨k2,f2,c2⟩,Sl.v 1 ⟨k3,f3,c3⟩,Sl.v 1 ⟨k4,f4,c4⟩]⟩):=by kernel_rfl
theorem cat_1_5 (k0 f0 k1 f1 k2 f2 k3 f3 k4 f4 k5 f5:Nat) (c0 c1 c2 c3 c4 c5:List Value):runC [Sl.v 1 ⟨k0,f0,c0⟩] [Sl.v 1 ⟨k1,f1,c1⟩,Sl.v 1 ⟨k2,f2,c2⟩,Sl.v 1 ⟨k3,f3,c3⟩,Sl.v 1 ⟨k4,f4,c4⟩,Sl.v 1 ⟨k5,f5,c5⟩] = some (Sl.v 1 ⟨6,0,[Sl.v 1 ⟨k0,f0,c0⟩,Sl.v 1 ⟨k1,f1,c1⟩,Sl.v 1 ⟨k2,f2,c2⟩,Sl.v 1 ⟨k3,f3,c3⟩,Sl.v 1 ⟨k4,f4,c4⟩,Sl.v 1 ⟨k5,f5,c5⟩]⟩):=by kernel_rfl
theorem cat_1_6 (k0 f0 k1 f1 k2 f2 k3 f3 k4 f4 k5 f5 k6 f6:Nat) (c0 c1 c2 c3 c4 c5 c6:List Value):runC [Sl.v 1 ⟨k0,f0,c0⟩] [Sl.v 1 ⟨k1,f1,c1⟩,Sl.v 1 ⟨k2,f2,c2⟩,Sl.v 1 ⟨k3,f3,c3⟩,Sl.v 1 ⟨k4,f4,c4⟩,Sl.v 1 ⟨k5,f5,c5⟩,Sl.v 1 ⟨k6,f6,c6⟩] = some (Sl.v 1 ⟨7,0,[Sl.v 1 ⟨k0,f0,c0⟩,Sl.v 1 ⟨k1,f1,c1⟩,Sl.v 1 ⟨k2,f2,c2⟩,Sl.v 1 ⟨k3,f3,c3⟩,Sl.v 1 ⟨k4,f4,c4⟩,Sl.v 1 ⟨k5,f5,c5⟩,Sl.v 1 ⟨k6,f6,c6⟩]⟩):=by kernel_rfl
theorem cat_2_0 (k0 f0 k1 f1:Nat) (c0 c1:List Value):runC [Sl.v 1 ⟨k0,f0,c0⟩,Sl.v 1 ⟨k1,f1,c1⟩] [] = some (Sl.v 1 ⟨2,0,[Sl.v 1 ⟨k0,f0,c0⟩,Sl.v 1 ⟨k1,f1,c1⟩]⟩):=by kernel_rfl
theorem cat_2_1 (k0 f0 k1 f1 k2 f2:Nat) (c0 c1 c2:List Value):runC [Sl.v 1 ⟨k0,f0,c0⟩,Sl.v 1 ⟨k1,f1,c1⟩] [Sl.v 1 ⟨k2,f2,c2⟩] = some (Sl.v 1 ⟨3,0,[Sl.v 1 ⟨k0,f0,c0⟩,Sl.v 1 ⟨k1,f1,c1⟩,Sl.v 1 ⟨k2,f2,c2⟩]⟩):=by kernel_rfl
theorem cat_2_2 (k0 f0 k1 f1 k2 f2 k3 f3:Nat) (c0 c1 c2 c3:List Value):runC [Sl.v 1 ⟨k0,f0,c0⟩,Sl.v 1 ⟨k1,f1,c1⟩] [Sl.v 1 ⟨k2,f2,c2⟩,Sl.v 1 ⟨k3,f3,c3⟩] = some (Sl.v 1 ⟨4,0,[Sl.v 1 ⟨k0,f0,c0⟩,Sl.v 1 ⟨k1,f1,c1⟩,Sl.v 1 ⟨k2,f2,c2⟩,Sl.v 1 ⟨k3,f3,c3⟩]⟩):=by kernel_rfl
theorem cat_2_3 (k0 f0 k1 f1 k2 f2 k3 f3 k4 f4:Nat) (c0 c1 c2 c3 c4:List Value):runC [Sl.v 1 ⟨k0,f0,c0⟩,Sl.v 1 ⟨k1,f1,c1⟩] [Sl.v 1 ⟨k2,f2,c2⟩,Sl.v 1 ⟨k3,f3,c3⟩,Sl.v 1 ⟨k4,f4,c4⟩] = some (Sl.v 1 ⟨5,0,[Sl.v 1 ⟨k0,f0,c0⟩,Sl.v 1 ⟨k1,f1,c1⟩,Sl.v 1 ⟨k2,f2,c2⟩,Sl.v 1 ⟨k3,f3,c3⟩,Sl.v 1 ⟨k4,f4,c4⟩]⟩):=by kernel_rfl
theorem cat_2_4 (k0 f0 k1 f1 k2 f2 k3 f3 k4 f4 k5 f5:Nat) (c0 c1 c2 c3 c4 c5:List Value):runC [Sl.v 1 ⟨k0,f0,c0⟩,Sl.v 1 ⟨k1,f1,c1⟩] [Sl.v 1 ⟨k2,f2,c2⟩,Sl.v 1 ⟨k3,f3,c3⟩,Sl.v 1 ⟨k4,f4,c4⟩,Sl.v 1 ⟨k5,f5,c5⟩] = some (Sl.v 1 ⟨6,0,[Sl.v 1 ⟨k0,f0,c0⟩,Sl.v 1 ⟨k1,f1,c1⟩,Sl.v 1 ⟨k2,f2,c2⟩,Sl.v 1 ⟨k3,f3,c3⟩,Sl.v 1 ⟨k4,f4,c4⟩,Sl.v 1 ⟨k5,f5,c5⟩]⟩):=by kernel_rfl
theorem cat_2_5 (k0 f0 k1 f1 k2 f2 k3 f3 k4 f4 k5 f5 k6 f6:Nat) (c0 c1 c2 c3 c4 c5 c6:List Value):runC [Sl.v 1 ⟨k0,f0,c0⟩,Sl.v 1 ⟨k1,f1,c1⟩] [Sl.v 1 ⟨k2,f2,c2⟩,Sl.v 1 ⟨k3,f3,c3⟩,Sl.v 1 ⟨k4,f4,c4⟩,Sl.v 1 ⟨k5,f5,c5⟩,Sl.v 1 ⟨k6,f6,c6⟩] = some (Sl.v 1 ⟨7,0,[Sl.v 1 ⟨k0,f0,c0⟩,Sl.v 1 ⟨k1,f1,c1⟩,Sl.v 1 ⟨k2,f2,c2⟩,Sl.v 1 ⟨k3,f3,c3⟩,Sl.v 1 ⟨k4,f4,c4⟩,Sl.v 1 ⟨k5,f5,c5⟩,Sl.v 1 ⟨k6,f6,c6⟩]⟩):=by kernel_rfl
theorem cat_3_0 (k0 f0 k1 f1 k2 f2:Nat) (c0 c1 c2:List Value):runC [Sl.v 1 ⟨k0,f0,c0⟩,Sl.v 1 ⟨k1,f1,c1⟩,Sl.v 1 ⟨k2,f2,c2⟩] [] = some (Sl.v 1 ⟨3,0,[Sl.v 1 ⟨k0,f0,c0⟩,Sl.v 1 ⟨k1,f1,c1⟩,Sl.v 1 ⟨k2,f2,c2⟩]⟩):=by kernel_rfl
theorem cat_3_1 (k0 f0 k1 f1 k2 f2 k3 f3:Nat) (c0 c1 c2 c3:List Value):runC [Sl.v 1 ⟨k0,f0,c0⟩,Sl.v 1 ⟨k1,f1,c1⟩,Sl.v 1 ⟨k2,f2,c2⟩] [Sl.v 1 ⟨k3,f3,c3⟩] = some (Sl.v 1 ⟨4,0,[Sl.v 1 ⟨k0,f0,c0⟩,Sl.v 1 ⟨k1,f1,c1⟩,Sl.v 1 ⟨k2,f2,c2⟩,Sl.v 1 ⟨k3,f3,c3⟩]⟩):=by kernel_rfl
theorem cat_3_2 (k0 f0 k1 f1 k2 f2 k3 f3 k4 f4:Nat) (c0 c1 c2 c3 c4:List Value):runC [Sl.v 1 ⟨k0,f0,c0⟩,Sl.v 1 ⟨k1,f1,c1⟩,Sl.v 1 ⟨k2,f2,c2⟩] [Sl.v 1 ⟨k3,f3,c3⟩,Sl.v 1 ⟨k4,f4,c4⟩] = some (Sl.v 1 ⟨5,0,[Sl.v 1 ⟨k0,f0,c0⟩,Sl.v 1 ⟨k1,f1,c1⟩,Sl.v 1 ⟨k2,f2,c2⟩,Sl.v 1 ⟨k3,f3,c3⟩,Sl.v 1 ⟨k4,f4,c4⟩]⟩):=by kernel_rfl
theorem cat_3_3 (k0 f0 k1 f1 k2 f2 k3 f3 k4 f4 k5 f5:Nat) (c0 c1 c2 c3 c4 c5:List Value):runC [Sl.v 1 ⟨k0,f0,c0⟩,Sl.v 1 ⟨k1,f1,c1⟩,Sl.v 1 ⟨k2,f2,c2⟩] [Sl.v 1 ⟨k3,f3,c3⟩,Sl.v 1 ⟨k4,f4,c4⟩,Sl.v 1 ⟨k5,f5,c5⟩] = some (Sl.v 1 ⟨6,0,[Sl.v 1 ⟨k0,f0,c0⟩,Sl.v 1 ⟨k1,f1,c1⟩,Sl.v 1 ⟨k2,f2,c2⟩,Sl.v 1 ⟨k3,f3,c3⟩,Sl.v 1 ⟨k4,f4,c4⟩,Sl.v 1 ⟨k5,f5,c5⟩]⟩):=by kernel_rfl
theorem cat_3_4 (k0 f0 k1 f1 k2 f2 k3 f3 k4 f4 k5 f5 k6 f6:Nat) (c0 c1 c2 c3 c4 c5 c6:List Value):runC [Sl.v 1 ⟨k0,f0,c0⟩,Sl.v 1 ⟨k1,f1,c1⟩,Sl.v 1 ⟨k2,f2,c2⟩] [Sl.v 1 ⟨k3,f3,c3⟩,Sl.v 1 ⟨k4,f4,c4⟩,Sl.v 1 ⟨k5,f5,c5⟩,Sl.v 1 ⟨k6,f6,c6⟩] = some (Sl.v 1 ⟨7,0,[Sl.v 1 ⟨k0,f0,c0⟩,Sl.v 1 ⟨k1,f1,c1⟩,Sl.v 1 ⟨k2,f2,c2⟩,Sl.v 1 ⟨k3,f3,c3⟩,Sl.v 1 ⟨k4,f4,c4⟩,Sl.v 1 ⟨k5,f5,c5⟩,Sl.v 1 ⟨k6,f6,c6⟩]⟩):=by kernel_rfl
theorem cat_4_0 (k0 f0 k1 f1 k2 f2 k3 f3:Nat) (c0 c1 c2 c3:List Value):runC [Sl.v 1 ⟨k0,f0,c0⟩,Sl.v 1 ⟨k1,f1,c1⟩,Sl.v 1 ⟨k2,f2,c2⟩,Sl.v 1 ⟨k3,f3,c3⟩] [] = some (Sl.v 1 ⟨4,0,[Sl.v 1 ⟨k0,f0,c0⟩,Sl.v 1 ⟨k1,f1,c1⟩,Sl.v 1 ⟨k2,f2,c2⟩,Sl.v 1 ⟨k3,f3,c3⟩]⟩):=by kernel_rfl
theorem cat_4_1 (k0 f0 k1 f1 k2 f2 k3 f3 k4 f4:Nat) (c0 c1 c2 c3 c4:List Value):runC [Sl.v 1 ⟨k0,f0,c0⟩,Sl.v 1 ⟨k1,f1,c1⟩,Sl.v 1 ⟨k2,f2,c2⟩,Sl.v 1 ⟨k3,f3,c3⟩] [Sl.v 1 ⟨k4,f4,c4⟩] = some (Sl.v 1 ⟨5,0,[Sl.v 1 ⟨k0,f0,c0⟩,Sl.v 1 ⟨k1,f1,c1⟩,Sl.v 1 ⟨k2,f2,c2⟩,Sl.v 1 ⟨k3,f3,c3⟩,Sl.v 1 ⟨k4,f4,c4⟩]⟩):=by kernel_rfl
theorem cat_4_2 (k0 f0 k1 f1 k2 f2 k3 f3 k4 f4 k5 f5:Nat) (c0 c1 c2 c3 c4 c5:List Value):runC [Sl.v 1 ⟨k0,f0,c0⟩,Sl.v 1 ⟨k1,f1,c1⟩,Sl.v 1 ⟨k2,f2,c2⟩,Sl.v 1 ⟨k3,f3,c3⟩] [Sl.v 1 ⟨k4,f4,c4⟩,Sl.v 1 ⟨k5,f5,c5⟩] = some (Sl.v 1 ⟨6,0,[Sl.v 1 ⟨k0,f0,c0⟩,Sl.v 1 ⟨k1,f1,c1⟩,Sl.v 1 ⟨k2,f2,c2⟩,Sl.v 1 ⟨k3,f3,c3⟩,Sl.v 1 ⟨k4,f4,c4⟩,Sl.v 1 ⟨k5,f5,c5⟩]⟩):=by kernel_rfl
theorem cat_4_3 (k0 f0 k1 f1 k2 f2 k3 f3 k4 f4 k5 f5 k6 f6:Nat) (c0 c1 c2 c3 c4 c5 c6:List Value):runC [Sl.v 1 ⟨k0,f0,c0⟩,Sl.v 1 ⟨k1,f1,c1⟩,Sl.v 1 ⟨k2,f2,c2⟩,Sl.v 1 ⟨k3,f3,c3⟩] [Sl.v 1 ⟨k4,f4,c4⟩,Sl.v 1 ⟨k5,f5,c5⟩,Sl.v 1 ⟨k6,f6,c6⟩] = some (Sl.v 1 ⟨7,0,[Sl.v 1 ⟨k0,f0,c0⟩,Sl.v 1 ⟨k1,f1,c1⟩,Sl.v 1 ⟨k2,f2,c2⟩,Sl.v 1 ⟨k3,f3,c3⟩,Sl.v 1 ⟨k4,f4,c4⟩,Sl.v 1 ⟨k5,f5,c5⟩,Sl.v 1 ⟨k6,f6,c6⟩]⟩):=by kernel_rfl
theorem cat_5_0 (k0 f0 k1 f1 k2 f2 k3 f3 k4 f4:Nat) (c0 c1 c2 c3 c4:List Value):runC [Sl.v 1 ⟨k0,f0,c0⟩,Sl.v 1 ⟨k1,f1,c1⟩,Sl.v 1 ⟨k2,f2,c2⟩,Sl.v 1 ⟨k3,f3,c3⟩,Sl.v 1 ⟨k4,f4,c4⟩] [] = some (Sl.v 1 ⟨5,0,[Sl.v 1 ⟨k0,f0,c0⟩,Sl.v 1 ⟨k1,f1,c1⟩,Sl.v 1 ⟨k2,f2,c2⟩,Sl.v 1 ⟨k3,f3,c3⟩,Sl.v 1 ⟨k4,f4,c4⟩]⟩):=by kernel_rfl
theorem cat_5_1 (k0 f0 k1 f1 k2 f2 k3 f3 k4 f4 k5 f5:Nat) (c0 c1 c2 c3 c4 c5:List Value):runC [Sl.v 1 ⟨k0,f0,c0⟩,Sl.v 1 ⟨k1,f1,c1⟩,Sl.v 1 ⟨k2,f2,c2⟩,Sl.v 1 ⟨k3,f3,c3⟩,Sl.v 1 ⟨k4,f4,c4⟩] [Sl.v 1 ⟨k5,f5,c5⟩] = some (Sl.v 1 ⟨6,0,[Sl.v 1 ⟨k0,f0,c0⟩,Sl.v 1 ⟨k1,f1,c1⟩,Sl.v 1 ⟨k2,f2,c2⟩,Sl.v 1 ⟨k3,f3,c3⟩,Sl.v 1 ⟨k4,f4,c4⟩,Sl.v 1 ⟨k5,f5,c5⟩]⟩):=by kernel_rfl
theorem cat_5_2 (k0 f0 k1 f1 k2 f2 k3 f3 k4 f4 k5 f5 k6 f6:Nat) (c0 c1 c2 c3 c4 c5 c6:List Value):runC [Sl.v 1 ⟨k0,f0,c0⟩,Sl.v 1 ⟨k1,f1,c1⟩,Sl.v 1 ⟨k2,f2,c2⟩,Sl.v 1 ⟨k3,f3,c3⟩,Sl.v 1 ⟨k4,f4,c4⟩] [Sl.v 1 ⟨k5,f5,c5⟩,Sl.v 1 ⟨k6,f6,c6⟩] = some (Sl.v 1 ⟨7,0,[Sl.v 1 ⟨k0,f0,c0⟩,Sl.v 1 ⟨k1,f1,c1⟩,Sl.v 1 ⟨k2,f2,c2⟩,Sl.v 1 ⟨k3,f3,c3⟩,Sl.v 1 ⟨k4,f4,c4⟩,Sl.v 1 ⟨k5,f5,c5⟩,Sl.v 1 ⟨k6,f6,c6⟩]⟩):=by kernel_rfl
theorem cat_6_0 (k0 f0 k1 f1 k2 f2 k3 f3 k4 f4 k5 f5:Nat) (c0 c1 c2 c3 c4 c5:List Value):runC [Sl.v 1 ⟨k0,f0,c0⟩,Sl.v 1 ⟨k1,f1,c1⟩,Sl.v 1 ⟨k2,f2,c2⟩,Sl.v 1 ⟨k3,f3,c3⟩,Sl.v 1 ⟨k4,f4,c4⟩,Sl.v 1 ⟨k5,f5,c5⟩] [] = some (Sl.v 1 ⟨6,0,[Sl.v 1 ⟨k0,f0,c0⟩,Sl.v 1 ⟨k1,f1,c1⟩,Sl.v 1 ⟨k2,f2,c2⟩,Sl.v 1 ⟨k3,f3,c3⟩,Sl.v 1 ⟨k4,f4,c4⟩,Sl.v 1 ⟨k5,f5,c5⟩]⟩):=by kernel_rfl
theorem cat_6_1 (k0 f0 k1 f1 k2 f2 k3 f3 k4 f4 k5 f5 k6 f6:Nat) (c0 c1 c2 c3 c4 c5 c6:List Value):runC [Sl.v 1 ⟨k0,f0,c0⟩,Sl.v 1 ⟨k1,f1,c1⟩,Sl.v 1 ⟨k2,f2,c2⟩,Sl.v 1 ⟨k3,f3,c3⟩,Sl.v 1 ⟨k4,f4,c4⟩,Sl.v 1 ⟨k5,f5,c5⟩] [Sl.v 1 ⟨k6,f6,c6⟩] = some (Sl.v 1 ⟨7,0,[Sl.v 1 ⟨k0,f0,c0⟩,Sl.v 1 ⟨k1,f1,c1⟩,Sl.v 1 ⟨k2,f2,c2⟩,Sl.v 1 ⟨k3,f3,c3⟩,Sl.v 1 ⟨k4,f4,c4⟩,Sl.v 1 ⟨k5,f5,c5⟩,Sl.v 1 ⟨k6,f6,c6⟩]⟩):=by kernel_rfl
theorem cat_7_0 (k0 f0 k1 f1 k2 f2 k3 f3 k4 f4 k5 f5 k6 f6:Nat) (c0 c1 c2 c3 c4 c5 c6:List Value):runC [Sl.v 1 ⟨k0,f0,c0⟩,Sl.v 1 ⟨k1,f1,c1⟩,Sl.v 1 ⟨k2,f2,c2⟩,Sl.v 1 ⟨k3,f3,c3⟩,Sl.v 1 ⟨k4,f4,c4⟩,Sl.v 1 ⟨k5,f5,c5⟩,Sl.v 1 ⟨k6,f6,c6⟩] [] = some (Sl.v 1 ⟨7,0,[Sl.v 1 ⟨k0,f0,c0⟩,Sl.v 1 ⟨k1,f1,c1⟩,Sl.v 1 ⟨k2,f2,c2⟩,Sl.v 1 ⟨k3,f3,c3⟩,Sl.v 1 ⟨k4,f4,c4⟩,Sl.v 1 ⟨k5,f5,c5⟩,Sl.v 1 ⟨k6,f6,c6⟩]⟩):=by kernel_rfl
theorem mapO_sl : ∀ (l : List Value) (r : List Sl), mapO (toSl 1) l = some r → l = r.map (Sl.v 1)
 | [], r, h => by
  injection (show some [] = some r from h) with h
  subst h;rfl
 | a :: l, r, h => by
  obtain ⟨b,hb,h⟩:=oo_inv (show oo (toSl 1 a) none (fun b=>oo (mapO (toSl 1) l) none fun r=>some (b :: r)) = some r from h)
  obtain ⟨r',hr,h⟩:=oo_inv h
  injection h with h
  subst h
  rw [toSl_some hb,mapO_sl l r' hr];rfl
theorem cat_all : ∀ (us vs : List Sl), 1 ≤ us.length → us.length + vs.length ≤ 7 → runC (us.map (Sl.v 1)) (vs.map (Sl.v 1)) = some (Sl.v 1 ⟨us.length + vs.length, 0, us.map (Sl.v 1) ++ vs.map (Sl.v 1)⟩)
 | [⟨k0,f0,c0⟩],[],_,_=>cat_1_0 k0 f0 c0
 | [⟨k0,f0,c0⟩],[⟨k1,f1,c1⟩],_,_=>cat_1_1 k0 f0 k1 f1 c0 c1
 | [⟨k0,f0,c0⟩],[⟨k1,f1,c1⟩,⟨k2,f2,c2⟩],_,_=>cat_1_2 k0 f0 k1 f1 k2 f2 c0 c1 c2
 | [⟨k0,f0,c0⟩],[⟨k1,f1,c1⟩,⟨k2,f2,c2⟩,⟨k3,f3,c3⟩],_,_=>cat_1_3 k0 f0 k1 f1 k2 f2 k3 f3 c0 c1 c2 c3
 | [⟨k0,f0,c0⟩],[⟨k1,f1,c1⟩,⟨k2,f2,c2⟩,⟨k3,f3,c3⟩,⟨k4,f4,c4⟩],_,_=>cat_1_4 k0 f0 k1 f1 k2 f2 k3 f3 k4 f4 c0 c1 c2 c3 c4
 | [⟨k0,f0,c0⟩],[⟨k1,f1,c1⟩,⟨k2,f2,c2⟩,⟨k3,f3,c3⟩,⟨k4,f4,c4⟩,⟨k5,f5,c5⟩],_,_=>cat_1_5 k0 f0 k1 f1 k2 f2 k3 f3 k4 f4 k5 f5 c0 c1 c2 c3 c4 c5
 | [⟨k0,f0,c0⟩],[⟨k1,f1,c1⟩,⟨k2,f2,c2⟩,⟨k3,f3,c3⟩,⟨k4,f4,c4⟩,⟨k5,f5,c5⟩,⟨k6,f6,c6⟩],_,_=>cat_1_6 k0 f0 k1 f1 k2 f2 k3 f3 k4 f4 k5 f5 k6 f6 c0 c1 c2 c3 c4 c5 c6
 | [⟨k0,f0,c0⟩,⟨k1,f1,c1⟩],[],_,_=>cat_2_0 k0 f0 k1 f1 c0 c1
 | [⟨k0,f0,c0⟩,⟨k1,f1,c1⟩],[⟨k2,f2,c2⟩],_,_=>cat_2_1 k0 f0 k1 f1 k2 f2 c0 c1 c2
 | [⟨k0,f0,c0⟩,⟨k1,f1,c1⟩],[⟨k2,f2,c2⟩,⟨k3,f3,c3⟩],_,_=>cat_2_2 k0 f0 k1 f1 k2 f2 k3 f3 c0 c1 c2 c3
 | [⟨k0,f0,c0⟩,⟨k1,f1,c1⟩],[⟨k2,f2,c2⟩,⟨k3,f3,c3⟩,⟨k4,f4,c4⟩],_,_=>cat_2_3 k0 f0 k1 f1 k2 f2 k3 f3 k4 f4 c0 c1 c2 c3 c4
 | [⟨k0,f0,c0⟩,⟨k1,f1,c1⟩],[⟨k2,f2,c2⟩,⟨k3,f3,c3⟩,⟨k4,f4,c4⟩,⟨k5,f5,c5⟩],_,_=>cat_2_4 k0 f0 k1 f1 k2 f2 k3 f3 k4 f4 k5 f5 c0 c1 c2 c3 c4 c5
 | [⟨k0,f0,c0⟩,⟨k1,f1,c1⟩],[⟨k2,f2,c2⟩,⟨k3,f3,c3⟩,⟨k4,f4,c4⟩,⟨k5,f5,c5⟩,⟨k6,f6,c6⟩],_,_=>cat_2_5 k0 f0 k1 f1 k2 f2 k3 f3 k4 f4 k5 f5 k6 f6 c0 c1 c2 c3 c4 c5 c6
 | [⟨k0,f0,c0⟩,⟨k1,f1,c1⟩,⟨k2,f2,c2⟩],[],_,_=>cat_3_0 k0 f0 k1 f1 k2 f2 c0 c1 c2
 | [⟨k0,f0,c0⟩,⟨k1,f1,c1⟩,⟨k2,f2,c2⟩],[⟨k3,f3,c3⟩],_,_=>cat_3_1 k0 f0 k1 f1 k2 f2 k3 f3 c0 c1 c2 c3
 | [⟨k0,f0,c0⟩,⟨k1,f1,c1⟩,⟨k2,f2,c2⟩],[⟨k3,f3,c3⟩,⟨k4,f4,c4⟩],_,_=>cat_3_2 k0 f0 k1 f1 k2 f2 k3 f3 k4 f4 c0 c1 c2 c3 c4
 | [⟨k0,f0,c0⟩,⟨k1,f1,c1⟩,⟨k2,f2,c2⟩],[⟨k3,f3,c3⟩,⟨k4,f4,c4⟩,⟨k5,f5,c5⟩],_,_=>cat_3_3 k0 f0 k1 f1 k2 f2 k3 f3 k4 f4 k5 f5 c0 c1 c2 c3 c4 c5
 | [⟨k0,f0,c0⟩,⟨k1,f1,c1⟩,⟨k2,f2,c2⟩],[⟨k3,f3,c3⟩,⟨k4,f4,c4⟩,⟨k5,f5,c5⟩,⟨k6,f6,c6⟩],_,_=>cat_3_4 k0 f0 k1 f1 k2 f2 k3 f3 k4 f4 k5 f5 k6 f6 c0 c1 c2 c3 c4 c5 c6
 | [⟨k0,f0,c0⟩,⟨k1,f1,c1⟩,⟨k2,f2,c2⟩,⟨k3,f3,c3⟩],[],_,_=>cat_4_0 k0 f0 k1 f1 k2 f2 k3 f3 c0 c1 c2 c3
 | [⟨k0,f0,c0⟩,⟨k1,f1,c1⟩,⟨k2,f2,c2⟩,⟨k3,f3,c3⟩],[⟨k4,f4,c4⟩],_,_=>cat_4_1 k0 f0 k1 f1 k2 f2 k3 f3 k4 f4 c0 c1 c2 c3 c4
 | [⟨k0,f0,c0⟩,⟨k1,f1,c1⟩,⟨k2,f2,c2⟩,⟨k3,f3,c3⟩],[⟨k4,f4,c4⟩,⟨k5,f5,c5⟩],_,_=>cat_4_2 k0 f0 k1 f1 k2 f2 k3 f3 k4 f4 k5 f5 c0 c1 c2 c3 c4 c5
 | [⟨k0,f0,c0⟩,⟨k1,f1,c1⟩,⟨k2,f2,c2⟩,⟨k3,f3,c3⟩],[⟨k4,f4,c4⟩,⟨k5,f5,c5⟩,⟨k6,f6,c6⟩],_,_=>cat_4_3 k0 f0 k1 f1 k2 f2 k3 f3 k4 f4 k5 f5 k6 f6 c0 c1 c2 c3 c4 c5 c6
 | [⟨k0,f0,c0⟩,⟨k1,f1,c1⟩,⟨k2,f2,c2⟩,⟨k3,f3,c3⟩,⟨k4,f4,c4⟩],[],_,_=>cat_5_0 k0 f0 k1 f1 k2 f2 k3 f3 k4 f4 c0 c1 c2 c3 c4
 | [⟨k0,f0,c0⟩,⟨k1,f1,c1⟩,⟨k2,f2,c2⟩,⟨k3,f3,c3⟩,⟨k4,f4,c4⟩],[⟨k5,f5,c5⟩],_,_=>cat_5_1 k0 f0 k1 f1 k2 f2 k3 f3 k4 f4 k5 f5 c0 c1 c2 c3 c4 c5
 | [⟨k0,f0,c0⟩,⟨k1,f1,c1⟩,⟨k2,f2,c2⟩,⟨k3,f3,c3⟩,⟨k4,f4,c4⟩],[⟨k5,f5,c5⟩,⟨k6,f6,c6⟩],_,_=>cat_5_2 k0 f0 k1 f1 k2 f2 k3 f3 k4 f4 k5 f5 k6 f6 c0 c1 c2 c3 c4 c5 c6
 | [⟨k0,f0,c0⟩,⟨k1,f1,c1⟩,⟨k2,f2,c2⟩,⟨k3,f3,c3⟩,⟨k4,f4,c4⟩,⟨k5,f5,c5⟩],[],_,_=>cat_6_0 k0 f0 k1 f1 k2 f2 k3 f3 k4 f4 k5 f5 c0 c1 c2 c3 c4 c5
 | [⟨k0,f0,c0⟩,⟨k1,f1,c1⟩,⟨k2,f2,c2⟩,⟨k3,f3,c3⟩,⟨k4,f4,c4⟩,⟨k5,f5,c5⟩],[⟨k6,f6,c6⟩],_,_=>cat_6_1 k0 f0 k1 f1 k2 f2 k3 f3 k4 f4 k5 f5 k6 f6 c0 c1 c2 c3 c4 c5 c6
 | [⟨k0,f0,c0⟩,⟨k1,f1,c1⟩,⟨k2,f2,c2⟩,⟨k3,f3,c3⟩,⟨k4,f4,c4⟩,⟨k5,f5,c5⟩,⟨k6,f6,c6⟩],[],_,_=>cat_7_0 k0 f0 k1 f1 k2 f2 k3 f3 k4 f4 k5 f5 k6 f6 c0 c1 c2 c3 c4 c5 c6
 | [],_,h,_=>absurd h (by decide)
 | _ :: [],_ :: _ :: _ :: _ :: _ :: _ :: _ :: _,_,h=>by simp at h;omega
 | _ :: _ :: [],_ :: _ :: _ :: _ :: _ :: _ :: _,_,h=>by simp at h;omega
 | _ :: _ :: _ :: [],_ :: _ :: _ :: _ :: _ :: _,_,h=>by simp at h;omega
 | _ :: _ :: _ :: _ :: [],_ :: _ :: _ :: _ :: _,_,h=>by simp at h;omega
 | _ :: _ :: _ :: _ :: _ :: [],_ :: _ :: _ :: _,_,h=>by simp at h;omega
 | _ :: _ :: _ :: _ :: _ :: _ :: [],_ :: _ :: _,_,h=>by simp at h;omega
 | _ :: _ :: _ :: _ :: _ :: _ :: _ :: [],_ :: _,_,h=>by simp at h;omega
 | _ :: _ :: _ :: _ :: _ :: _ :: _ :: _ :: _,_,_,h=>by simp at h;omega
theorem orc60_ok (hm:Tryz.prog.follows .mixedOrders = true):PureOk Tryz.prog tabs 60 orc60:=by
 refine pureOk_closedP (tabs:=tabs) (n:=60) (g:=60) (H:=pureHeap tabs) (isP:=fun _=>false) (pu:=fun _ _=>none) (inl:=fun _ _ _=>none) ttOk tabs_ne tabs_pl fnsOk hm (fun g h=>by cases h) no_ok (fun i=>rfl) rfl (enter_ok fok60) fun args v h=>?_
 replace h:=ll_uncons h;obtain ⟨a,r,rfl,h⟩:=h
 replace h:=ll_end h;obtain ⟨rfl,h⟩:=h
 replace h:=oo_inv h;obtain ⟨s,hs,h⟩:=h
 obtain rfl:=toSl_some hs
 obtain ⟨n,fl,cs⟩:=s
 replace h:=ll_uncons h;obtain ⟨x,r,hcs,h⟩:=h
 replace h:=ll_uncons h;obtain ⟨y,r2,hr,h⟩:=h
 replace h:=ll_end h;obtain ⟨rfl,h⟩:=h
 have hcs:cs = x :: r:=hcs
 subst hr;subst hcs
 replace h:=oo_inv h;obtain ⟨u,hu,h⟩:=h
 replace h:=oo_inv h;obtain ⟨w,hw,h⟩:=h
 obtain rfl:=toSl_some hu
 obtain rfl:=toSl_some hw
 replace h:=oo_inv h;obtain ⟨us,hus,h⟩:=h
 replace h:=oo_inv h;obtain ⟨vs,hvs,h⟩:=h
 replace h:=bb_inv h;obtain ⟨hc,h⟩:=h
 obtain ⟨g1,hc⟩:=an_inv hc
 obtain ⟨g2,hc⟩:=an_inv hc
 obtain ⟨g3,hc⟩:=an_inv hc
 obtain ⟨g4,hc⟩:=an_inv hc
 obtain ⟨g5,hc⟩:=an_inv hc
 obtain ⟨g6,hc⟩:=an_inv hc
 obtain ⟨g7,g8⟩:=an_inv hc
 obtain ⟨n1,f1,c1⟩:=u
 obtain ⟨n2,f2,c2⟩:=w
 have k1:n = 2:=Nat.eq_of_beq_eq_true g1
 have k2:fl = 0:=Nat.eq_of_beq_eq_true g2
 have k3:f1 = 0:=Nat.eq_of_beq_eq_true g3
 have k4:f2 = 0:=Nat.eq_of_beq_eq_true g4
 have k5:n1 = len us:=Nat.eq_of_beq_eq_true g5
 have k6:n2 = len vs:=Nat.eq_of_beq_eq_true g6
 have g7:=Nat.le_of_ble_eq_true g7
 have g8:=Nat.le_of_ble_eq_true g8
 have j1:c1 = us.map (Sl.v 1):=mapO_sl _ _ hus
 have j2:c2 = vs.map (Sl.v 1):=mapO_sl _ _ hvs
 subst k1;subst k2;subst k3;subst k4;subst k5;subst k6;clear hus hvs
 subst j1;subst j2
 injection h with h
 rw [len_eq] at g7 g8
 rw [len_eq] at g8
 have e:=cat_all us vs g7 g8
 unfold runC at e
 rw [len_eq,len_eq,List.length_map,List.length_map] at e
 subst h
 refine ⟨rfl,.inr ?_⟩
 ·rw [len_eq, len_eq]
  show _ = some (Sl.v 1 ⟨us.length + vs.length,0,appL (us.map (Sl.v 1)) (vs.map (Sl.v 1))⟩)
  rw [appL_eq]
  exact e
end Go.Proofs.YtkhedoaiejjcfaaGreat.HzS
