/- The slim code is the program's. MADE BY PROGRAM (wip/sp/gen2.lean). -/
import Derived.Test.YtgddliaacoofiaaProg
import Derived.Test.YtgddliaacoofiaaSpClox
import Derived.Test.YtgddliaacoofiaaHpLCode
import Derived.Test.YtgddliaacoofiaaHpLPux

set_option maxRecDepth 100000
namespace Go.Proofs.Ytgddliaacoofiaa.HpL
open Go Go.Sp Go.HpL
theorem b7 : (match Try.f7.body with | some c => rcOf c c7 | none => none) = some c7 := by kernel_rfl
theorem p7 : (match Try.f7.body with | some c => codeB [] c | none => false) = true := by kernel_rfl
theorem fok7 : FnOk Try.prog [] 7 ⟨68, c7, [.tmp 2]⟩ := FnOk.by Try.func7 b7 p7 Try.ntmps7 (by rw [Try.results7]) (by kernel_rfl)
theorem b11 : (match Try.f11.body with | some c => rcOf c c11 | none => none) = some c11 := by kernel_rfl
theorem p11 : (match Try.f11.body with | some c => codeB [] c | none => false) = true := by kernel_rfl
theorem fok11 : FnOk Try.prog [] 11 ⟨234, c11, [.tmp 0]⟩ := FnOk.by Try.func11 b11 p11 Try.ntmps11 (by rw [Try.results11]) (by kernel_rfl)
theorem b12 : (match Try.f12.body with | some c => rcOf c c12 | none => none) = some c12 := by kernel_rfl
theorem p12 : (match Try.f12.body with | some c => codeB [] c | none => false) = true := by kernel_rfl
theorem fok12 : FnOk Try.prog [] 12 ⟨14, c12, [.tmp 2, .tmp 3]⟩ := FnOk.by Try.func12 b12 p12 Try.ntmps12 (by rw [Try.results12]) (by kernel_rfl)
theorem b14 : (match Try.f14.body with | some c => rcOf c c14 | none => none) = some c14 := by kernel_rfl
theorem p14 : (match Try.f14.body with | some c => codeB [] c | none => false) = true := by kernel_rfl
theorem fok14 : FnOk Try.prog [] 14 ⟨44, c14, [.tmp 4, .tmp 5]⟩ := FnOk.by Try.func14 b14 p14 Try.ntmps14 (by rw [Try.results14]) (by kernel_rfl)
theorem b16 : (match Try.f16.body with | some c => rcOf c c16 | none => none) = some c16 := by kernel_rfl
theorem p16 : (match Try.f16.body with | some c => codeB [] c | none => false) = true := by kernel_rfl
theorem fok16 : FnOk Try.prog [] 16 ⟨37, c16, [.tmp 2, .tmp 3]⟩ := FnOk.by Try.func16 b16 p16 Try.ntmps16 (by rw [Try.results16]) (by kernel_rfl)
theorem b18 : (match Try.f18.body with | some c => rcOf c c18 | none => none) = some c18 := by kernel_rfl
theorem p18 : (match Try.f18.body with | some c => codeB [] c | none => false) = true := by kernel_rfl
theorem fok18 : FnOk Try.prog [] 18 ⟨26, c18, [.tmp 4]⟩ := FnOk.by Try.func18 b18 p18 Try.ntmps18 (by rw [Try.results18]) (by kernel_rfl)
theorem b19 : (match Try.f19.body with | some c => rcOf c c19 | none => none) = some c19 := by kernel_rfl
theorem p19 : (match Try.f19.body with | some c => codeB [] c | none => false) = true := by kernel_rfl
theorem fok19 : FnOk Try.prog [] 19 ⟨32, c19, [.tmp 2]⟩ := FnOk.by Try.func19 b19 p19 Try.ntmps19 (by rw [Try.results19]) (by kernel_rfl)
theorem b21 : (match Try.f21.body with | some c => rcOf c c21 | none => none) = some c21 := by kernel_rfl
theorem p21 : (match Try.f21.body with | some c => codeB [] c | none => false) = true := by kernel_rfl
theorem fok21 : FnOk Try.prog [] 21 ⟨13, c21, [.tmp 2, .tmp 3]⟩ := FnOk.by Try.func21 b21 p21 Try.ntmps21 (by rw [Try.results21]) (by kernel_rfl)
theorem b23 : (match Try.f23.body with | some c => rcOf c c23 | none => none) = some c23 := by kernel_rfl
theorem p23 : (match Try.f23.body with | some c => codeB [] c | none => false) = true := by kernel_rfl
theorem fok23 : FnOk Try.prog [] 23 ⟨27, c23, [.tmp 4]⟩ := FnOk.by Try.func23 b23 p23 Try.ntmps23 (by rw [Try.results23]) (by kernel_rfl)
theorem b24 : (match Try.f24.body with | some c => rcOf c c24 | none => none) = some c24 := by kernel_rfl
theorem p24 : (match Try.f24.body with | some c => codeB [] c | none => false) = true := by kernel_rfl
theorem fok24 : FnOk Try.prog [] 24 ⟨13, c24, [.tmp 2, .tmp 3]⟩ := FnOk.by Try.func24 b24 p24 Try.ntmps24 (by rw [Try.results24]) (by kernel_rfl)
theorem b26 : (match Try.f26.body with | some c => rcOf c c26 | none => none) = some c26 := by kernel_rfl
theorem p26 : (match Try.f26.body with | some c => codeB [] c | none => false) = true := by kernel_rfl
theorem fok26 : FnOk Try.prog [] 26 ⟨19, c26, [.tmp 2, .tmp 3]⟩ := FnOk.by Try.func26 b26 p26 Try.ntmps26 (by rw [Try.results26]) (by kernel_rfl)
theorem b28 : (match Try.f28.body with | some c => rcOf c c28 | none => none) = some c28 := by kernel_rfl
theorem p28 : (match Try.f28.body with | some c => codeB [] c | none => false) = true := by kernel_rfl
theorem fok28 : FnOk Try.prog [] 28 ⟨13, c28, [.tmp 2, .tmp 3]⟩ := FnOk.by Try.func28 b28 p28 Try.ntmps28 (by rw [Try.results28]) (by kernel_rfl)
theorem b30 : (match Try.f30.body with | some c => rcOf c c30 | none => none) = some c30 := by kernel_rfl
theorem p30 : (match Try.f30.body with | some c => codeB [] c | none => false) = true := by kernel_rfl
theorem fok30 : FnOk Try.prog [] 30 ⟨65, c30, [.tmp 2, .tmp 3]⟩ := FnOk.by Try.func30 b30 p30 Try.ntmps30 (by rw [Try.results30]) (by kernel_rfl)
theorem b32 : (match Try.f32.body with | some c => rcOf c c32 | none => none) = some c32 := by kernel_rfl
theorem p32 : (match Try.f32.body with | some c => codeB [] c | none => false) = true := by kernel_rfl
theorem fok32 : FnOk Try.prog [] 32 ⟨23, c32, [.tmp 2, .tmp 3]⟩ := FnOk.by Try.func32 b32 p32 Try.ntmps32 (by rw [Try.results32]) (by kernel_rfl)
theorem b34 : (match Try.f34.body with | some c => rcOf c c34 | none => none) = some c34 := by kernel_rfl
theorem p34 : (match Try.f34.body with | some c => codeB [] c | none => false) = true := by kernel_rfl
theorem fok34 : FnOk Try.prog [] 34 ⟨12, c34, [.tmp 2, .tmp 3]⟩ := FnOk.by Try.func34 b34 p34 Try.ntmps34 (by rw [Try.results34]) (by kernel_rfl)
theorem b35 : (match Try.f35.body with | some c => rcOf c c35 | none => none) = some c35 := by kernel_rfl
theorem p35 : (match Try.f35.body with | some c => codeB [] c | none => false) = true := by kernel_rfl
theorem fok35 : FnOk Try.prog [] 35 ⟨34, c35, [.tmp 2, .tmp 3]⟩ := FnOk.by Try.func35 b35 p35 Try.ntmps35 (by rw [Try.results35]) (by kernel_rfl)
theorem b36 : (match Try.f36.body with | some c => rcOf c c36 | none => none) = some c36 := by kernel_rfl
theorem p36 : (match Try.f36.body with | some c => codeB [] c | none => false) = true := by kernel_rfl
theorem fok36 : FnOk Try.prog [] 36 ⟨15, c36, [.tmp 2, .tmp 3, .tmp 4]⟩ := FnOk.by Try.func36 b36 p36 Try.ntmps36 (by rw [Try.results36]) (by kernel_rfl)
theorem b37 : (match Try.f37.body with | some c => rcOf c c37 | none => none) = some c37 := by kernel_rfl
theorem p37 : (match Try.f37.body with | some c => codeB [] c | none => false) = true := by kernel_rfl
theorem fok37 : FnOk Try.prog [] 37 ⟨41, c37, [.tmp 2, .tmp 3, .tmp 4]⟩ := FnOk.by Try.func37 b37 p37 Try.ntmps37 (by rw [Try.results37]) (by kernel_rfl)
theorem b38 : (match Try.f38.body with | some c => rcOf c c38 | none => none) = some c38 := by kernel_rfl
theorem p38 : (match Try.f38.body with | some c => codeB [] c | none => false) = true := by kernel_rfl
theorem fok38 : FnOk Try.prog [] 38 ⟨4, c38, [.tmp 2]⟩ := FnOk.by Try.func38 b38 p38 Try.ntmps38 (by rw [Try.results38]) (by kernel_rfl)
theorem b39 : (match Try.f39.body with | some c => rcOf c c39 | none => none) = some c39 := by kernel_rfl
theorem p39 : (match Try.f39.body with | some c => codeB [] c | none => false) = true := by kernel_rfl
theorem fok39 : FnOk Try.prog [] 39 ⟨4, c39, [.tmp 2]⟩ := FnOk.by Try.func39 b39 p39 Try.ntmps39 (by rw [Try.results39]) (by kernel_rfl)
theorem b42 : (match Try.f42.body with | some c => rcOf c c42 | none => none) = some c42 := by kernel_rfl
theorem p42 : (match Try.f42.body with | some c => codeB [] c | none => false) = true := by kernel_rfl
theorem fok42 : FnOk Try.prog [] 42 ⟨19, c42, [.cell 2 54]⟩ := FnOk.by Try.func42 b42 p42 Try.ntmps42 (by rw [Try.results42]) (by kernel_rfl)
theorem b43 : (match Try.f43.body with | some c => rcOf c c43 | none => none) = some c43 := by kernel_rfl
theorem p43 : (match Try.f43.body with | some c => codeB [] c | none => false) = true := by kernel_rfl
theorem fok43 : FnOk Try.prog [] 43 ⟨15, c43, [.cell 2 54]⟩ := FnOk.by Try.func43 b43 p43 Try.ntmps43 (by rw [Try.results43]) (by kernel_rfl)
theorem b44 : (match Try.f44.body with | some c => rcOf c c44 | none => none) = some c44 := by kernel_rfl
theorem p44 : (match Try.f44.body with | some c => codeB [] c | none => false) = true := by kernel_rfl
theorem fok44 : FnOk Try.prog [] 44 ⟨18, c44, [.tmp 2]⟩ := FnOk.by Try.func44 b44 p44 Try.ntmps44 (by rw [Try.results44]) (by kernel_rfl)
theorem b45 : (match Try.f45.body with | some c => rcOf c c45 | none => none) = some c45 := by kernel_rfl
theorem p45 : (match Try.f45.body with | some c => codeB [] c | none => false) = true := by kernel_rfl
theorem fok45 : FnOk Try.prog [] 45 ⟨50, c45, [.tmp 2]⟩ := FnOk.by Try.func45 b45 p45 Try.ntmps45 (by rw [Try.results45]) (by kernel_rfl)
theorem b46 : (match Try.f46.body with | some c => rcOf c c46 | none => none) = some c46 := by kernel_rfl
theorem p46 : (match Try.f46.body with | some c => codeB [] c | none => false) = true := by kernel_rfl
theorem fok46 : FnOk Try.prog [] 46 ⟨15, c46, [.tmp 6]⟩ := FnOk.by Try.func46 b46 p46 Try.ntmps46 (by rw [Try.results46]) (by kernel_rfl)
end Go.Proofs.Ytgddliaacoofiaa.HpL
set_option maxRecDepth 100000
namespace Go.Proofs.Ytgddliaacoofiaa.HpL
open Go Go.Sp Go.HpL
theorem b47 : (match Try.f47.body with | some c => rcOf c c47 | none => none) = some c47 := by kernel_rfl
theorem p47 : (match Try.f47.body with | some c => codeB [] c | none => false) = true := by kernel_rfl
theorem fok47 : FnOk Try.prog [] 47 ⟨45, c47, [.tmp 2]⟩ := FnOk.by Try.func47 b47 p47 Try.ntmps47 (by rw [Try.results47]) (by kernel_rfl)
theorem b48 : (match Try.f48.body with | some c => rcOf c c48 | none => none) = some c48 := by kernel_rfl
theorem p48 : (match Try.f48.body with | some c => codeB [] c | none => false) = true := by kernel_rfl
theorem fok48 : FnOk Try.prog [] 48 ⟨15, c48, [.tmp 2, .tmp 3]⟩ := FnOk.by Try.func48 b48 p48 Try.ntmps48 (by rw [Try.results48]) (by kernel_rfl)
theorem b49 : (match Try.f49.body with | some c => rcOf c c49 | none => none) = some c49 := by kernel_rfl
theorem p49 : (match Try.f49.body with | some c => codeB [] c | none => false) = true := by kernel_rfl
theorem fok49 : FnOk Try.prog [] 49 ⟨18, c49, [.tmp 2]⟩ := FnOk.by Try.func49 b49 p49 Try.ntmps49 (by rw [Try.results49]) (by kernel_rfl)
theorem b50 : (match Try.f50.body with | some c => rcOf c c50 | none => none) = some c50 := by kernel_rfl
theorem p50 : (match Try.f50.body with | some c => codeB [] c | none => false) = true := by kernel_rfl
theorem fok50 : FnOk Try.prog [] 50 ⟨15, c50, [.tmp 6]⟩ := FnOk.by Try.func50 b50 p50 Try.ntmps50 (by rw [Try.results50]) (by kernel_rfl)
theorem b51 : (match Try.f51.body with | some c => rcOf c c51 | none => none) = some c51 := by kernel_rfl
theorem p51 : (match Try.f51.body with | some c => codeB [] c | none => false) = true := by kernel_rfl
theorem fok51 : FnOk Try.prog [] 51 ⟨15, c51, [.tmp 2]⟩ := FnOk.by Try.func51 b51 p51 Try.ntmps51 (by rw [Try.results51]) (by kernel_rfl)
theorem b53 : (match Try.f53.body with | some c => rcOf c c53 | none => none) = some c53 := by kernel_rfl
theorem p53 : (match Try.f53.body with | some c => codeB [] c | none => false) = true := by kernel_rfl
theorem fok53 : FnOk Try.prog [] 53 ⟨42, c53, [.tmp 2]⟩ := FnOk.by Try.func53 b53 p53 Try.ntmps53 (by rw [Try.results53]) (by kernel_rfl)
theorem b54 : (match Try.f54.body with | some c => rcOf c c54 | none => none) = some c54 := by kernel_rfl
theorem p54 : (match Try.f54.body with | some c => codeB [] c | none => false) = true := by kernel_rfl
theorem fok54 : FnOk Try.prog [] 54 ⟨44, c54, [.tmp 4]⟩ := FnOk.by Try.func54 b54 p54 Try.ntmps54 (by rw [Try.results54]) (by kernel_rfl)
theorem b56 : (match Try.f56.body with | some c => rcOf c c56 | none => none) = some c56 := by kernel_rfl
theorem p56 : (match Try.f56.body with | some c => codeB [] c | none => false) = true := by kernel_rfl
theorem fok56 : FnOk Try.prog [] 56 ⟨26, c56, [.tmp 4]⟩ := FnOk.by Try.func56 b56 p56 Try.ntmps56 (by rw [Try.results56]) (by kernel_rfl)
theorem b57 : (match Try.f57.body with | some c => rcOf c c57 | none => none) = some c57 := by kernel_rfl
theorem p57 : (match Try.f57.body with | some c => codeB [] c | none => false) = true := by kernel_rfl
theorem fok57 : FnOk Try.prog [] 57 ⟨14, c57, [.tmp 2, .cell 3 54]⟩ := FnOk.by Try.func57 b57 p57 Try.ntmps57 (by rw [Try.results57]) (by kernel_rfl)
theorem b58 : (match Try.f58.body with | some c => rcOf c c58 | none => none) = some c58 := by kernel_rfl
theorem p58 : (match Try.f58.body with | some c => codeB [] c | none => false) = true := by kernel_rfl
theorem fok58 : FnOk Try.prog [] 58 ⟨14, c58, [.tmp 2, .tmp 3]⟩ := FnOk.by Try.func58 b58 p58 Try.ntmps58 (by rw [Try.results58]) (by kernel_rfl)
theorem b59 : (match Try.f59.body with | some c => rcOf c c59 | none => none) = some c59 := by kernel_rfl
theorem p59 : (match Try.f59.body with | some c => codeB [] c | none => false) = true := by kernel_rfl
theorem fok59 : FnOk Try.prog [] 59 ⟨51, c59, [.tmp 2]⟩ := FnOk.by Try.func59 b59 p59 Try.ntmps59 (by rw [Try.results59]) (by kernel_rfl)
theorem b60 : (match Try.f60.body with | some c => rcOf c c60 | none => none) = some c60 := by kernel_rfl
theorem p60 : (match Try.f60.body with | some c => codeB [] c | none => false) = true := by kernel_rfl
theorem fok60 : FnOk Try.prog [] 60 ⟨58, c60, []⟩ := FnOk.by Try.func60 b60 p60 Try.ntmps60 (by rw [Try.results60]) (by kernel_rfl)
theorem b61 : (match Try.f61.body with | some c => rcOf c c61 | none => none) = some c61 := by kernel_rfl
theorem p61 : (match Try.f61.body with | some c => codeB [] c | none => false) = true := by kernel_rfl
theorem fok61 : FnOk Try.prog [] 61 ⟨42, c61, [.tmp 4]⟩ := FnOk.by Try.func61 b61 p61 Try.ntmps61 (by rw [Try.results61]) (by kernel_rfl)
theorem b62 : (match Try.f62.body with | some c => rcOf c c62 | none => none) = some c62 := by kernel_rfl
theorem p62 : (match Try.f62.body with | some c => codeB [] c | none => false) = true := by kernel_rfl
theorem fok62 : FnOk Try.prog [] 62 ⟨8, c62, [.tmp 2]⟩ := FnOk.by Try.func62 b62 p62 Try.ntmps62 (by rw [Try.results62]) (by kernel_rfl)
theorem b63 : (match Try.f63.body with | some c => rcOf c c63 | none => none) = some c63 := by kernel_rfl
theorem p63 : (match Try.f63.body with | some c => codeB [] c | none => false) = true := by kernel_rfl
theorem fok63 : FnOk Try.prog [] 63 ⟨5, c63, [.tmp 2]⟩ := FnOk.by Try.func63 b63 p63 Try.ntmps63 (by rw [Try.results63]) (by kernel_rfl)
theorem b64 : (match Try.f64.body with | some c => rcOf c c64 | none => none) = some c64 := by kernel_rfl
theorem p64 : (match Try.f64.body with | some c => codeB [] c | none => false) = true := by kernel_rfl
theorem fok64 : FnOk Try.prog [] 64 ⟨26, c64, [.tmp 4]⟩ := FnOk.by Try.func64 b64 p64 Try.ntmps64 (by rw [Try.results64]) (by kernel_rfl)
theorem b65 : (match Try.f65.body with | some c => rcOf c c65 | none => none) = some c65 := by kernel_rfl
theorem p65 : (match Try.f65.body with | some c => codeB [] c | none => false) = true := by kernel_rfl
theorem fok65 : FnOk Try.prog [] 65 ⟨9, c65, [.tmp 2]⟩ := FnOk.by Try.func65 b65 p65 Try.ntmps65 (by rw [Try.results65]) (by kernel_rfl)
theorem b66 : (match Try.f66.body with | some c => rcOf c c66 | none => none) = some c66 := by kernel_rfl
theorem p66 : (match Try.f66.body with | some c => codeB [] c | none => false) = true := by kernel_rfl
theorem fok66 : FnOk Try.prog [] 66 ⟨14, c66, []⟩ := FnOk.by Try.func66 b66 p66 Try.ntmps66 (by rw [Try.results66]) (by kernel_rfl)
theorem b67 : (match Try.f67.body with | some c => rcOf c c67 | none => none) = some c67 := by kernel_rfl
theorem p67 : (match Try.f67.body with | some c => codeB [] c | none => false) = true := by kernel_rfl
theorem fok67 : FnOk Try.prog [] 67 ⟨12, c67, [.tmp 4]⟩ := FnOk.by Try.func67 b67 p67 Try.ntmps67 (by rw [Try.results67]) (by kernel_rfl)
theorem b68 : (match Try.f68.body with | some c => rcOf c c68 | none => none) = some c68 := by kernel_rfl
theorem p68 : (match Try.f68.body with | some c => codeB [] c | none => false) = true := by kernel_rfl
theorem fok68 : FnOk Try.prog [] 68 ⟨36, c68, [.tmp 4]⟩ := FnOk.by Try.func68 b68 p68 Try.ntmps68 (by rw [Try.results68]) (by kernel_rfl)
theorem b69 : (match Try.f69.body with | some c => rcOf c c69 | none => none) = some c69 := by kernel_rfl
theorem p69 : (match Try.f69.body with | some c => codeB [] c | none => false) = true := by kernel_rfl
theorem fok69 : FnOk Try.prog [] 69 ⟨10, c69, []⟩ := FnOk.by Try.func69 b69 p69 Try.ntmps69 (by rw [Try.results69]) (by kernel_rfl)
theorem b70 : (match Try.f70.body with | some c => rcOf c c70 | none => none) = some c70 := by kernel_rfl
theorem p70 : (match Try.f70.body with | some c => codeB [] c | none => false) = true := by kernel_rfl
theorem fok70 : FnOk Try.prog [] 70 ⟨10, c70, []⟩ := FnOk.by Try.func70 b70 p70 Try.ntmps70 (by rw [Try.results70]) (by kernel_rfl)
theorem b71 : (match Try.f71.body with | some c => rcOf c c71 | none => none) = some c71 := by kernel_rfl
theorem p71 : (match Try.f71.body with | some c => codeB [] c | none => false) = true := by kernel_rfl
theorem fok71 : FnOk Try.prog [] 71 ⟨17, c71, []⟩ := FnOk.by Try.func71 b71 p71 Try.ntmps71 (by rw [Try.results71]) (by kernel_rfl)
theorem b74 : (match Try.f74.body with | some c => rcOf c c74 | none => none) = some c74 := by kernel_rfl
theorem p74 : (match Try.f74.body with | some c => codeB [] c | none => false) = true := by kernel_rfl
theorem fok74 : FnOk Try.prog [] 74 ⟨17, c74, [.tmp 2]⟩ := FnOk.by Try.func74 b74 p74 Try.ntmps74 (by rw [Try.results74]) (by kernel_rfl)
theorem b75 : (match Try.f75.body with | some c => rcOf c c75 | none => none) = some c75 := by kernel_rfl
theorem p75 : (match Try.f75.body with | some c => codeB [] c | none => false) = true := by kernel_rfl
theorem fok75 : FnOk Try.prog [] 75 ⟨48, c75, [.tmp 4]⟩ := FnOk.by Try.func75 b75 p75 Try.ntmps75 (by rw [Try.results75]) (by kernel_rfl)
end Go.Proofs.Ytgddliaacoofiaa.HpL
set_option maxRecDepth 100000
namespace Go.Proofs.Ytgddliaacoofiaa.HpL
open Go Go.Sp Go.HpL
theorem b77 : (match Try.f77.body with | some c => rcOf c c77 | none => none) = some c77 := by kernel_rfl
theorem p77 : (match Try.f77.body with | some c => codeB [] c | none => false) = true := by kernel_rfl
theorem fok77 : FnOk Try.prog [] 77 ⟨14, c77, []⟩ := FnOk.by Try.func77 b77 p77 Try.ntmps77 (by rw [Try.results77]) (by kernel_rfl)
theorem b78 : (match Try.f78.body with | some c => rcOf c c78 | none => none) = some c78 := by kernel_rfl
theorem p78 : (match Try.f78.body with | some c => codeB [] c | none => false) = true := by kernel_rfl
theorem fok78 : FnOk Try.prog [] 78 ⟨36, c78, [.tmp 2]⟩ := FnOk.by Try.func78 b78 p78 Try.ntmps78 (by rw [Try.results78]) (by kernel_rfl)
theorem b79 : (match Try.f79.body with | some c => rcOf c c79 | none => none) = some c79 := by kernel_rfl
theorem p79 : (match Try.f79.body with | some c => codeB [] c | none => false) = true := by kernel_rfl
theorem fok79 : FnOk Try.prog [] 79 ⟨19, c79, [.tmp 4]⟩ := FnOk.by Try.func79 b79 p79 Try.ntmps79 (by rw [Try.results79]) (by kernel_rfl)
theorem b80 : (match Try.f80.body with | some c => rcOf c c80 | none => none) = some c80 := by kernel_rfl
theorem p80 : (match Try.f80.body with | some c => codeB [] c | none => false) = true := by kernel_rfl
theorem fok80 : FnOk Try.prog [] 80 ⟨148, c80, []⟩ := FnOk.by Try.func80 b80 p80 Try.ntmps80 (by rw [Try.results80]) (by kernel_rfl)
theorem b81 : (match Try.f81.body with | some c => rcOf c c81 | none => none) = some c81 := by kernel_rfl
theorem p81 : (match Try.f81.body with | some c => codeB [] c | none => false) = true := by kernel_rfl
theorem fok81 : FnOk Try.prog [] 81 ⟨8, c81, [.tmp 2]⟩ := FnOk.by Try.func81 b81 p81 Try.ntmps81 (by rw [Try.results81]) (by kernel_rfl)
theorem b82 : (match Try.f82.body with | some c => rcOf c c82 | none => none) = some c82 := by kernel_rfl
theorem p82 : (match Try.f82.body with | some c => codeB [] c | none => false) = true := by kernel_rfl
theorem fok82 : FnOk Try.prog [] 82 ⟨20, c82, [.tmp 4]⟩ := FnOk.by Try.func82 b82 p82 Try.ntmps82 (by rw [Try.results82]) (by kernel_rfl)
theorem b83 : (match Try.f83.body with | some c => rcOf c c83 | none => none) = some c83 := by kernel_rfl
theorem p83 : (match Try.f83.body with | some c => codeB [] c | none => false) = true := by kernel_rfl
theorem fok83 : FnOk Try.prog [] 83 ⟨32, c83, []⟩ := FnOk.by Try.func83 b83 p83 Try.ntmps83 (by rw [Try.results83]) (by kernel_rfl)
theorem b85 : (match Try.f85.body with | some c => rcOf c c85 | none => none) = some c85 := by kernel_rfl
theorem p85 : (match Try.f85.body with | some c => codeB [] c | none => false) = true := by kernel_rfl
theorem fok85 : FnOk Try.prog [] 85 ⟨30, c85, [.tmp 4, .tmp 5]⟩ := FnOk.by Try.func85 b85 p85 Try.ntmps85 (by rw [Try.results85]) (by kernel_rfl)
theorem b86 : (match Try.f86.body with | some c => rcOf c c86 | none => none) = some c86 := by kernel_rfl
theorem p86 : (match Try.f86.body with | some c => codeB [] c | none => false) = true := by kernel_rfl
theorem fok86 : FnOk Try.prog [] 86 ⟨148, c86, []⟩ := FnOk.by Try.func86 b86 p86 Try.ntmps86 (by rw [Try.results86]) (by kernel_rfl)
theorem b87 : (match Try.f87.body with | some c => rcOf c c87 | none => none) = some c87 := by kernel_rfl
theorem p87 : (match Try.f87.body with | some c => codeB [] c | none => false) = true := by kernel_rfl
theorem fok87 : FnOk Try.prog [] 87 ⟨27, c87, [.tmp 4]⟩ := FnOk.by Try.func87 b87 p87 Try.ntmps87 (by rw [Try.results87]) (by kernel_rfl)
theorem b88 : (match Try.f88.body with | some c => rcOf c c88 | none => none) = some c88 := by kernel_rfl
theorem p88 : (match Try.f88.body with | some c => codeB [] c | none => false) = true := by kernel_rfl
theorem fok88 : FnOk Try.prog [] 88 ⟨53, c88, []⟩ := FnOk.by Try.func88 b88 p88 Try.ntmps88 (by rw [Try.results88]) (by kernel_rfl)
theorem b89 : (match Try.f89.body with | some c => rcOf c c89 | none => none) = some c89 := by kernel_rfl
theorem p89 : (match Try.f89.body with | some c => codeB [] c | none => false) = true := by kernel_rfl
theorem fok89 : FnOk Try.prog [] 89 ⟨60, c89, []⟩ := FnOk.by Try.func89 b89 p89 Try.ntmps89 (by rw [Try.results89]) (by kernel_rfl)
theorem b90 : (match Try.f90.body with | some c => rcOf c c90 | none => none) = some c90 := by kernel_rfl
theorem p90 : (match Try.f90.body with | some c => codeB [] c | none => false) = true := by kernel_rfl
theorem fok90 : FnOk Try.prog [] 90 ⟨67, c90, []⟩ := FnOk.by Try.func90 b90 p90 Try.ntmps90 (by rw [Try.results90]) (by kernel_rfl)
theorem b91 : (match Try.f91.body with | some c => rcOf c c91 | none => none) = some c91 := by kernel_rfl
theorem p91 : (match Try.f91.body with | some c => codeB [] c | none => false) = true := by kernel_rfl
theorem fok91 : FnOk Try.prog [] 91 ⟨63, c91, [.tmp 8, .tmp 9]⟩ := FnOk.by Try.func91 b91 p91 Try.ntmps91 (by rw [Try.results91]) (by kernel_rfl)
theorem b92 : (match Try.f92.body with | some c => rcOf c c92 | none => none) = some c92 := by kernel_rfl
theorem p92 : (match Try.f92.body with | some c => codeB [] c | none => false) = true := by kernel_rfl
theorem fok92 : FnOk Try.prog [] 92 ⟨34, c92, []⟩ := FnOk.by Try.func92 b92 p92 Try.ntmps92 (by rw [Try.results92]) (by kernel_rfl)
theorem b93 : (match Try.f93.body with | some c => rcOf c c93 | none => none) = some c93 := by kernel_rfl
theorem p93 : (match Try.f93.body with | some c => codeB [] c | none => false) = true := by kernel_rfl
theorem fok93 : FnOk Try.prog [] 93 ⟨141, c93, [.tmp 8]⟩ := FnOk.by Try.func93 b93 p93 Try.ntmps93 (by rw [Try.results93]) (by kernel_rfl)
theorem b94 : (match Try.f94.body with | some c => rcOf c c94 | none => none) = some c94 := by kernel_rfl
theorem p94 : (match Try.f94.body with | some c => codeB [] c | none => false) = true := by kernel_rfl
theorem fok94 : FnOk Try.prog [] 94 ⟨90, c94, [.tmp 10]⟩ := FnOk.by Try.func94 b94 p94 Try.ntmps94 (by rw [Try.results94]) (by kernel_rfl)
theorem b95 : (match Try.f95.body with | some c => rcOf c c95 | none => none) = some c95 := by kernel_rfl
theorem p95 : (match Try.f95.body with | some c => codeB [] c | none => false) = true := by kernel_rfl
theorem fok95 : FnOk Try.prog [] 95 ⟨178, c95, [.tmp 10, .tmp 11]⟩ := FnOk.by Try.func95 b95 p95 Try.ntmps95 (by rw [Try.results95]) (by kernel_rfl)
theorem b96 : (match Try.f96.body with | some c => rcOf c c96 | none => none) = some c96 := by kernel_rfl
theorem p96 : (match Try.f96.body with | some c => codeB [] c | none => false) = true := by kernel_rfl
theorem fok96 : FnOk Try.prog [] 96 ⟨19, c96, [.tmp 2]⟩ := FnOk.by Try.func96 b96 p96 Try.ntmps96 (by rw [Try.results96]) (by kernel_rfl)
theorem b97 : (match Try.f97.body with | some c => rcOf c c97 | none => none) = some c97 := by kernel_rfl
theorem p97 : (match Try.f97.body with | some c => codeB [] c | none => false) = true := by kernel_rfl
theorem fok97 : FnOk Try.prog [] 97 ⟨25, c97, [.tmp 2]⟩ := FnOk.by Try.func97 b97 p97 Try.ntmps97 (by rw [Try.results97]) (by kernel_rfl)
theorem b98 : (match Try.f98.body with | some c => rcOf c c98 | none => none) = some c98 := by kernel_rfl
theorem p98 : (match Try.f98.body with | some c => codeB [] c | none => false) = true := by kernel_rfl
theorem fok98 : FnOk Try.prog [] 98 ⟨6, c98, [.tmp 2]⟩ := FnOk.by Try.func98 b98 p98 Try.ntmps98 (by rw [Try.results98]) (by kernel_rfl)
theorem b108 : (match Try.f108.body with | some c => rcOf c c108 | none => none) = some c108 := by kernel_rfl
theorem p108 : (match Try.f108.body with | some c => codeB [] c | none => false) = true := by kernel_rfl
theorem fok108 : FnOk Try.prog [] 108 ⟨17, c108, [.tmp 4, .tmp 5]⟩ := FnOk.by Try.func108 b108 p108 Try.ntmps108 (by rw [Try.results108]) (by kernel_rfl)
theorem b109 : (match Try.f109.body with | some c => rcOf c c109 | none => none) = some c109 := by kernel_rfl
theorem p109 : (match Try.f109.body with | some c => codeB [] c | none => false) = true := by kernel_rfl
theorem fok109 : FnOk Try.prog [] 109 ⟨51, c109, [.tmp 4, .tmp 5]⟩ := FnOk.by Try.func109 b109 p109 Try.ntmps109 (by rw [Try.results109]) (by kernel_rfl)
theorem b110 : (match Try.f110.body with | some c => rcOf c c110 | none => none) = some c110 := by kernel_rfl
theorem p110 : (match Try.f110.body with | some c => codeB [] c | none => false) = true := by kernel_rfl
theorem fok110 : FnOk Try.prog [] 110 ⟨53, c110, []⟩ := FnOk.by Try.func110 b110 p110 Try.ntmps110 (by rw [Try.results110]) (by kernel_rfl)
theorem b111 : (match Try.f111.body with | some c => rcOf c c111 | none => none) = some c111 := by kernel_rfl
theorem p111 : (match Try.f111.body with | some c => codeB [] c | none => false) = true := by kernel_rfl
theorem fok111 : FnOk Try.prog [] 111 ⟨60, c111, []⟩ := FnOk.by Try.func111 b111 p111 Try.ntmps111 (by rw [Try.results111]) (by kernel_rfl)
end Go.Proofs.Ytgddliaacoofiaa.HpL
set_option maxRecDepth 100000
namespace Go.Proofs.Ytgddliaacoofiaa.HpL
open Go Go.Sp Go.HpL
theorem b112 : (match Try.f112.body with | some c => rcOf c c112 | none => none) = some c112 := by kernel_rfl
theorem p112 : (match Try.f112.body with | some c => codeB [] c | none => false) = true := by kernel_rfl
theorem fok112 : FnOk Try.prog [] 112 ⟨67, c112, []⟩ := FnOk.by Try.func112 b112 p112 Try.ntmps112 (by rw [Try.results112]) (by kernel_rfl)
theorem b113 : (match Try.f113.body with | some c => rcOf c c113 | none => none) = some c113 := by kernel_rfl
theorem p113 : (match Try.f113.body with | some c => codeB [] c | none => false) = true := by kernel_rfl
theorem fok113 : FnOk Try.prog [] 113 ⟨63, c113, [.tmp 8, .tmp 9]⟩ := FnOk.by Try.func113 b113 p113 Try.ntmps113 (by rw [Try.results113]) (by kernel_rfl)
theorem b114 : (match Try.f114.body with | some c => rcOf c c114 | none => none) = some c114 := by kernel_rfl
theorem p114 : (match Try.f114.body with | some c => codeB [] c | none => false) = true := by kernel_rfl
theorem fok114 : FnOk Try.prog [] 114 ⟨34, c114, []⟩ := FnOk.by Try.func114 b114 p114 Try.ntmps114 (by rw [Try.results114]) (by kernel_rfl)
theorem b115 : (match Try.f115.body with | some c => rcOf c c115 | none => none) = some c115 := by kernel_rfl
theorem p115 : (match Try.f115.body with | some c => codeB [] c | none => false) = true := by kernel_rfl
theorem fok115 : FnOk Try.prog [] 115 ⟨141, c115, [.tmp 8]⟩ := FnOk.by Try.func115 b115 p115 Try.ntmps115 (by rw [Try.results115]) (by kernel_rfl)
theorem b116 : (match Try.f116.body with | some c => rcOf c c116 | none => none) = some c116 := by kernel_rfl
theorem p116 : (match Try.f116.body with | some c => codeB [] c | none => false) = true := by kernel_rfl
theorem fok116 : FnOk Try.prog [] 116 ⟨90, c116, [.tmp 10]⟩ := FnOk.by Try.func116 b116 p116 Try.ntmps116 (by rw [Try.results116]) (by kernel_rfl)
theorem b117 : (match Try.f117.body with | some c => rcOf c c117 | none => none) = some c117 := by kernel_rfl
theorem p117 : (match Try.f117.body with | some c => codeB [] c | none => false) = true := by kernel_rfl
theorem fok117 : FnOk Try.prog [] 117 ⟨178, c117, [.tmp 10, .tmp 11]⟩ := FnOk.by Try.func117 b117 p117 Try.ntmps117 (by rw [Try.results117]) (by kernel_rfl)
theorem b118 : (match Try.f118.body with | some c => rcOf c c118 | none => none) = some c118 := by kernel_rfl
theorem p118 : (match Try.f118.body with | some c => codeB [] c | none => false) = true := by kernel_rfl
theorem fok118 : FnOk Try.prog [] 118 ⟨82, c118, []⟩ := FnOk.by Try.func118 b118 p118 Try.ntmps118 (by rw [Try.results118]) (by kernel_rfl)
theorem b119 : (match Try.f119.body with | some c => rcOf c c119 | none => none) = some c119 := by kernel_rfl
theorem p119 : (match Try.f119.body with | some c => codeB [] c | none => false) = true := by kernel_rfl
theorem fok119 : FnOk Try.prog [] 119 ⟨7, c119, [.tmp 2]⟩ := FnOk.by Try.func119 b119 p119 Try.ntmps119 (by rw [Try.results119]) (by kernel_rfl)
theorem b120 : (match Try.f120.body with | some c => rcOf c c120 | none => none) = some c120 := by kernel_rfl
theorem p120 : (match Try.f120.body with | some c => codeB [] c | none => false) = true := by kernel_rfl
theorem fok120 : FnOk Try.prog [] 120 ⟨33, c120, [.tmp 2]⟩ := FnOk.by Try.func120 b120 p120 Try.ntmps120 (by rw [Try.results120]) (by kernel_rfl)
theorem b121 : (match Try.f121.body with | some c => rcOf c c121 | none => none) = some c121 := by kernel_rfl
theorem p121 : (match Try.f121.body with | some c => codeB [] c | none => false) = true := by kernel_rfl
theorem fok121 : FnOk Try.prog [] 121 ⟨18, c121, [.tmp 8]⟩ := FnOk.by Try.func121 b121 p121 Try.ntmps121 (by rw [Try.results121]) (by kernel_rfl)
theorem b122 : (match Try.f122.body with | some c => rcOf c c122 | none => none) = some c122 := by kernel_rfl
theorem p122 : (match Try.f122.body with | some c => codeB [] c | none => false) = true := by kernel_rfl
theorem fok122 : FnOk Try.prog [] 122 ⟨41, c122, [.tmp 12]⟩ := FnOk.by Try.func122 b122 p122 Try.ntmps122 (by rw [Try.results122]) (by kernel_rfl)
theorem b126 : (match Try.f126.body with | some c => rcOf c c126 | none => none) = some c126 := by kernel_rfl
theorem p126 : (match Try.f126.body with | some c => codeB [] c | none => false) = true := by kernel_rfl
theorem fok126 : FnOk Try.prog [] 126 ⟨82, c126, []⟩ := FnOk.by Try.func126 b126 p126 Try.ntmps126 (by rw [Try.results126]) (by kernel_rfl)
theorem b127 : (match Try.f127.body with | some c => rcOf c c127 | none => none) = some c127 := by kernel_rfl
theorem p127 : (match Try.f127.body with | some c => codeB [] c | none => false) = true := by kernel_rfl
theorem fok127 : FnOk Try.prog [] 127 ⟨18, c127, [.tmp 8]⟩ := FnOk.by Try.func127 b127 p127 Try.ntmps127 (by rw [Try.results127]) (by kernel_rfl)
theorem b128 : (match Try.f128.body with | some c => rcOf c c128 | none => none) = some c128 := by kernel_rfl
theorem p128 : (match Try.f128.body with | some c => codeB [] c | none => false) = true := by kernel_rfl
theorem fok128 : FnOk Try.prog [] 128 ⟨41, c128, [.tmp 12]⟩ := FnOk.by Try.func128 b128 p128 Try.ntmps128 (by rw [Try.results128]) (by kernel_rfl)
theorem b129 : (match Try.f129.body with | some c => rcOf c c129 | none => none) = some c129 := by kernel_rfl
theorem p129 : (match Try.f129.body with | some c => codeB [] c | none => false) = true := by kernel_rfl
theorem fok129 : FnOk Try.prog [] 129 ⟨32, c129, [.tmp 10, .tmp 11]⟩ := FnOk.by Try.func129 b129 p129 Try.ntmps129 (by rw [Try.results129]) (by kernel_rfl)
theorem b131 : (match Try.f131.body with | some c => rcOf c c131 | none => none) = some c131 := by kernel_rfl
theorem p131 : (match Try.f131.body with | some c => codeB [] c | none => false) = true := by kernel_rfl
theorem fok131 : FnOk Try.prog [] 131 ⟨32, c131, [.tmp 10, .tmp 11]⟩ := FnOk.by Try.func131 b131 p131 Try.ntmps131 (by rw [Try.results131]) (by kernel_rfl)
end Go.Proofs.Ytgddliaacoofiaa.HpL
set_option maxRecDepth 100000
namespace Go.Proofs.Ytgddliaacoofiaa.HpL
open Go Go.Sp Go.HpL
theorem tok3 : TyOk Try.prog 3 ti3 := TyOk.by Try.underlying3 (inf := Try.t3) (by kernel_rfl) (by kernel_rfl) (by kernel_rfl) (by kernel_rfl) (by kernel_rfl) (fun h => by cases h)
theorem tok4 : TyOk Try.prog 4 ti4 := TyOk.by Try.underlying4 (inf := Try.t4) (by kernel_rfl) (by kernel_rfl) (by kernel_rfl) (by kernel_rfl) (by kernel_rfl) (fun h => by cases h)
theorem tok5 : TyOk Try.prog 5 ti5 := TyOk.by Try.underlying5 (inf := Try.t5) (by kernel_rfl) (by kernel_rfl) (by kernel_rfl) (by kernel_rfl) (by kernel_rfl) (fun h => by cases h)
theorem tok9 : TyOk Try.prog 9 ti9 := TyOk.by Try.underlying9 (inf := Try.t9) (by kernel_rfl) (by kernel_rfl) (by kernel_rfl) (by kernel_rfl) (by kernel_rfl) (fun h => by cases h)
theorem tok22 : TyOk Try.prog 22 ti22 := TyOk.by Try.underlying22 (inf := Try.t22) (by kernel_rfl) (by kernel_rfl) (by kernel_rfl) (by kernel_rfl) (by kernel_rfl) (fun h => by cases h)
theorem tok25 : TyOk Try.prog 25 ti25 := TyOk.by Try.underlying25 (inf := Try.t25) (by kernel_rfl) (by kernel_rfl) (by kernel_rfl) (by kernel_rfl) (by kernel_rfl) (fun h => by cases h)
theorem tok32 : TyOk Try.prog 32 ti32 := TyOk.by Try.underlying32 (inf := Try.t32) (by kernel_rfl) (by kernel_rfl) (by kernel_rfl) (by kernel_rfl) (by kernel_rfl) (fun h => by cases h)
theorem tok40 : TyOk Try.prog 40 ti40 := TyOk.by Try.underlying40 (inf := Try.t40) (by kernel_rfl) (by kernel_rfl) (by kernel_rfl) (by kernel_rfl) (by kernel_rfl) (fun h => by cases h)
theorem tok46 : TyOk Try.prog 46 ti46 := TyOk.by Try.underlying46 (inf := Try.t46) (by kernel_rfl) (by kernel_rfl) (by kernel_rfl) (by kernel_rfl) (by kernel_rfl) (fun h => by cases h)
theorem tok54 : TyOk Try.prog 54 ti54 := TyOk.by Try.underlying54 (inf := Try.t54) (by kernel_rfl) (by kernel_rfl) (by kernel_rfl) (by kernel_rfl) (by kernel_rfl) (fun _ => ⟨_, rfl, Fl.ok (d := 8) (⟨by kernel_rfl, .inr (.inr (.inr (.inl ⟨22, 3, [(.int .i64 0)], Try.underlying54, ⟨by kernel_rfl, .inl ⟨⟨_, Try.underlying3⟩, _, _, rfl⟩⟩, by kernel_rfl⟩)))⟩) (by decide) ⟨_, Try.underlying54, rfl⟩ (by kernel_rfl)⟩)
theorem tok70 : TyOk Try.prog 70 ti70 := TyOk.by Try.underlying70 (inf := Try.t70) (by kernel_rfl) (by kernel_rfl) (by kernel_rfl) (by kernel_rfl) (by kernel_rfl) (fun h => by cases h)
theorem tok71 : TyOk Try.prog 71 ti71 := TyOk.by Try.underlying71 (inf := Try.t71) (by kernel_rfl) (by kernel_rfl) (by kernel_rfl) (by kernel_rfl) (by kernel_rfl) (fun h => by cases h)
theorem tok72 : TyOk Try.prog 72 ti72 := TyOk.by Try.underlying72 (inf := Try.t72) (by kernel_rfl) (by kernel_rfl) (by kernel_rfl) (by kernel_rfl) (by kernel_rfl) (fun h => by cases h)
theorem tok75 : TyOk Try.prog 75 ti75 := TyOk.by Try.underlying75 (inf := Try.t75) (by kernel_rfl) (by kernel_rfl) (by kernel_rfl) (by kernel_rfl) (by kernel_rfl) (fun h => by cases h)
theorem tok76 : TyOk Try.prog 76 ti76 := TyOk.by Try.underlying76 (inf := Try.t76) (by kernel_rfl) (by kernel_rfl) (by kernel_rfl) (by kernel_rfl) (by kernel_rfl) (fun h => by cases h)
theorem tok78 : TyOk Try.prog 78 ti78 := TyOk.by Try.underlying78 (inf := Try.t78) (by kernel_rfl) (by kernel_rfl) (by kernel_rfl) (by kernel_rfl) (by kernel_rfl) (fun h => by cases h)
theorem tok85 : TyOk Try.prog 85 ti85 := TyOk.by Try.underlying85 (inf := Try.t85) (by kernel_rfl) (by kernel_rfl) (by kernel_rfl) (by kernel_rfl) (by kernel_rfl) (fun h => by cases h)
theorem tok93 : TyOk Try.prog 93 ti93 := TyOk.by Try.underlying93 (inf := Try.t93) (by kernel_rfl) (by kernel_rfl) (by kernel_rfl) (by kernel_rfl) (by kernel_rfl) (fun h => by cases h)
theorem tok101 : TyOk Try.prog 101 ti101 := TyOk.by Try.underlying101 (inf := Try.t101) (by kernel_rfl) (by kernel_rfl) (by kernel_rfl) (by kernel_rfl) (by kernel_rfl) (fun h => by cases h)
theorem tok103 : TyOk Try.prog 103 ti103 := TyOk.by Try.underlying103 (inf := Try.t103) (by kernel_rfl) (by kernel_rfl) (by kernel_rfl) (by kernel_rfl) (by kernel_rfl) (fun h => by cases h)
theorem tok118 : TyOk Try.prog 118 ti118 := TyOk.by Try.underlying118 (inf := Try.t118) (by kernel_rfl) (by kernel_rfl) (by kernel_rfl) (by kernel_rfl) (by kernel_rfl) (fun h => by cases h)
theorem tok122 : TyOk Try.prog 122 ti122 := TyOk.by Try.underlying122 (inf := Try.t122) (by kernel_rfl) (by kernel_rfl) (by kernel_rfl) (by kernel_rfl) (by kernel_rfl) (fun h => by cases h)
theorem ttOk : TOk Try.prog tt := TOk.of_all (t := ttTr) ⟨trivial, ⟨trivial, ⟨tok3, ⟨trivial, trivial, ⟨trivial, ⟨trivial, ⟨tok71, trivial, trivial⟩, ⟨tok103, trivial, trivial⟩⟩, trivial⟩⟩, ⟨trivial, trivial, ⟨trivial, ⟨trivial, ⟨tok75, trivial, trivial⟩, trivial⟩, trivial⟩⟩⟩, ⟨tok5, ⟨tok9, trivial, ⟨tok25, trivial, trivial⟩⟩, ⟨trivial, ⟨trivial, ⟨trivial, trivial, ⟨tok101, trivial, trivial⟩⟩, ⟨trivial, ⟨tok85, trivial, trivial⟩, trivial⟩⟩, ⟨trivial, trivial, ⟨trivial, ⟨tok93, trivial, trivial⟩, trivial⟩⟩⟩⟩⟩, ⟨trivial, ⟨tok4, ⟨trivial, ⟨trivial, ⟨tok32, trivial, trivial⟩, trivial⟩, ⟨trivial, ⟨tok40, ⟨tok72, trivial, trivial⟩, trivial⟩, trivial⟩⟩, ⟨trivial, trivial, ⟨trivial, ⟨trivial, ⟨tok76, trivial, trivial⟩, trivial⟩, trivial⟩⟩⟩, ⟨trivial, ⟨trivial, trivial, ⟨trivial, trivial, ⟨trivial, trivial, ⟨tok122, trivial, trivial⟩⟩⟩⟩, ⟨trivial, ⟨tok22, ⟨trivial, ⟨tok70, trivial, trivial⟩, trivial⟩, ⟨tok54, trivial, ⟨tok118, trivial, trivial⟩⟩⟩, ⟨trivial, ⟨tok46, ⟨tok78, trivial, trivial⟩, trivial⟩, trivial⟩⟩⟩⟩⟩
theorem fnAll : fnTr.All (FnOk Try.prog []) := ⟨trivial, ⟨trivial, ⟨trivial, ⟨fok7, ⟨trivial, ⟨trivial, ⟨fok63, ⟨fok127, trivial, trivial⟩, trivial⟩, ⟨fok95, trivial, trivial⟩⟩, ⟨fok47, ⟨fok79, trivial, trivial⟩, ⟨fok111, trivial, trivial⟩⟩⟩, ⟨fok23, ⟨fok39, ⟨fok71, trivial, trivial⟩, trivial⟩, ⟨trivial, ⟨fok87, trivial, trivial⟩, ⟨fok119, trivial, trivial⟩⟩⟩⟩, ⟨fok11, ⟨fok19, ⟨fok35, ⟨fok67, ⟨fok131, trivial, trivial⟩, trivial⟩, trivial⟩, ⟨fok51, ⟨fok83, trivial, trivial⟩, ⟨fok115, trivial, trivial⟩⟩⟩, ⟨trivial, ⟨fok43, ⟨fok75, trivial, trivial⟩, trivial⟩, ⟨fok59, ⟨fok91, trivial, trivial⟩, trivial⟩⟩⟩⟩, ⟨trivial, ⟨trivial, ⟨trivial, ⟨trivial, ⟨fok65, ⟨fok129, trivial, trivial⟩, trivial⟩, ⟨fok97, trivial, trivial⟩⟩, ⟨fok49, ⟨fok81, trivial, trivial⟩, ⟨fok113, trivial, trivial⟩⟩⟩, ⟨trivial, trivial, ⟨fok57, ⟨fok89, trivial, trivial⟩, ⟨fok121, trivial, trivial⟩⟩⟩⟩, ⟨trivial, ⟨fok21, ⟨fok37, ⟨fok69, trivial, trivial⟩, trivial⟩, ⟨fok53, ⟨fok85, trivial, trivial⟩, ⟨fok117, trivial, trivial⟩⟩⟩, ⟨trivial, ⟨fok45, ⟨fok77, trivial, trivial⟩, ⟨fok109, trivial, trivial⟩⟩, ⟨fok61, ⟨fok93, trivial, trivial⟩, trivial⟩⟩⟩⟩⟩, ⟨trivial, ⟨trivial, ⟨trivial, ⟨fok16, ⟨fok32, ⟨fok64, ⟨fok128, trivial, trivial⟩, trivial⟩, ⟨fok96, trivial, trivial⟩⟩, ⟨fok48, ⟨fok80, trivial, trivial⟩, ⟨fok112, trivial, trivial⟩⟩⟩, ⟨fok24, trivial, ⟨fok56, ⟨fok88, trivial, trivial⟩, ⟨fok120, trivial, trivial⟩⟩⟩⟩, ⟨fok12, ⟨trivial, ⟨fok36, ⟨fok68, trivial, trivial⟩, trivial⟩, ⟨trivial, trivial, ⟨fok116, trivial, trivial⟩⟩⟩, ⟨fok28, ⟨fok44, trivial, ⟨fok108, trivial, trivial⟩⟩, ⟨fok60, ⟨fok92, trivial, trivial⟩, trivial⟩⟩⟩⟩, ⟨trivial, ⟨trivial, ⟨fok18, ⟨fok34, ⟨fok66, trivial, trivial⟩, ⟨fok98, trivial, trivial⟩⟩, ⟨fok50, ⟨fok82, trivial, trivial⟩, ⟨fok114, trivial, trivial⟩⟩⟩, ⟨fok26, ⟨fok42, ⟨fok74, trivial, trivial⟩, trivial⟩, ⟨fok58, ⟨fok90, trivial, trivial⟩, ⟨fok122, trivial, trivial⟩⟩⟩⟩, ⟨fok14, ⟨trivial, ⟨fok38, ⟨fok70, trivial, trivial⟩, trivial⟩, ⟨fok54, ⟨fok86, trivial, trivial⟩, ⟨fok118, trivial, trivial⟩⟩⟩, ⟨fok30, ⟨fok46, ⟨fok78, trivial, trivial⟩, ⟨fok110, trivial, trivial⟩⟩, ⟨fok62, ⟨fok94, trivial, trivial⟩, ⟨fok126, trivial, trivial⟩⟩⟩⟩⟩⟩⟩
theorem fnsOk (f : FuncId) (r : RFn) (h : fns f = some r) : FnOk Try.prog [] f r := fnAll.get h
end Go.Proofs.Ytgddliaacoofiaa.HpL
set_option maxRecDepth 100000
namespace Go.Proofs.Ytgddliaacoofiaa.HpL
open Go Go.Sp Go.HpLM Go.HpL
noncomputable section
theorem fk19 : FnOk Try.prog (List.range tabs.length) 19 ⟨32, c19_46, [.tmp 2]⟩ := by
  have h : c19 = c19_46 := by kernel_rfl
  rw [← h]; exact fok19
theorem fk42 : FnOk Try.prog (List.range tabs.length) 42 ⟨19, c42_20, [.cell 2 54]⟩ := by
  have h : c42 = c42_20 := by kernel_rfl
  rw [← h]; exact fok42
theorem fk43 : FnOk Try.prog (List.range tabs.length) 43 ⟨15, c43_11, [.cell 2 54]⟩ := by
  have h : c43 = c43_11 := by kernel_rfl
  rw [← h]; exact fok43
theorem fk44 : FnOk Try.prog (List.range tabs.length) 44 ⟨18, c44_18, [.tmp 2]⟩ := by
  have h : c44 = c44_18 := by kernel_rfl
  rw [← h]; exact fok44
theorem fk46 : FnOk Try.prog (List.range tabs.length) 46 ⟨15, c46_3, [.tmp 6]⟩ := by
  have h : c46 = c46_3 := by kernel_rfl
  rw [← h]; exact fok46
theorem fk47 : FnOk Try.prog (List.range tabs.length) 47 ⟨45, c47_32, [.tmp 2]⟩ := by
  have h : c47 = c47_32 := by kernel_rfl
  rw [← h]; exact fok47
theorem fk48 : FnOk Try.prog (List.range tabs.length) 48 ⟨15, c48_16, [.tmp 2, .tmp 3]⟩ := by
  have h : c48 = c48_16 := by kernel_rfl
  rw [← h]; exact fok48
theorem fk49 : FnOk Try.prog (List.range tabs.length) 49 ⟨18, c49_20, [.tmp 2]⟩ := by
  have h : c49 = c49_20 := by kernel_rfl
  rw [← h]; exact fok49
theorem fk57 : FnOk Try.prog (List.range tabs.length) 57 ⟨14, c57_26, [.tmp 2, .cell 3 54]⟩ := by
  have h : c57 = c57_26 := by kernel_rfl
  rw [← h]; exact fok57
theorem fk74 : FnOk Try.prog (List.range tabs.length) 74 ⟨17, c74_20, [.tmp 2]⟩ := by
  have h : c74 = c74_20 := by kernel_rfl
  rw [← h]; exact fok74
theorem fk64 : FnOk Try.prog (List.range tabs.length) 64 ⟨26, c64_28, [.tmp 4]⟩ := by
  have h : c64 = c64_28 := by kernel_rfl
  rw [← h]; exact fok64
theorem fk68 : FnOk Try.prog (List.range tabs.length) 68 ⟨36, c68_38, [.tmp 4]⟩ := by
  have h : c68 = c68_38 := by kernel_rfl
  rw [← h]; exact fok68
theorem fk82 : FnOk Try.prog (List.range tabs.length) 82 ⟨20, c82_37, [.tmp 4]⟩ := by
  have h : c82 = c82_37 := by kernel_rfl
  rw [← h]; exact fok82
theorem fk98 : FnOk Try.prog (List.range tabs.length) 98 ⟨6, c98_3, [.tmp 2]⟩ := by
  have h : c98 = c98_3 := by kernel_rfl
  rw [← h]; exact fok98
theorem fk18 : FnOk Try.prog (List.range tabs.length) 18 ⟨26, c18_26, [.tmp 4]⟩ := by
  have h : c18 = c18_26 := by kernel_rfl
  rw [← h]; exact fok18
theorem fk35 : FnOk Try.prog (List.range tabs.length) 35 ⟨34, c35_29, [.tmp 2, .tmp 3]⟩ := by
  have h : c35 = c35_29 := by kernel_rfl
  rw [← h]; exact fok35
theorem fk45 : FnOk Try.prog (List.range tabs.length) 45 ⟨50, c45_35, [.tmp 2]⟩ := by
  have h : c45 = c45_35 := by kernel_rfl
  rw [← h]; exact fok45
theorem fk50 : FnOk Try.prog (List.range tabs.length) 50 ⟨15, c50_3, [.tmp 6]⟩ := by
  have h : c50 = c50_3 := by kernel_rfl
  rw [← h]; exact fok50
theorem fk51 : FnOk Try.prog (List.range tabs.length) 51 ⟨15, c51_24, [.tmp 2]⟩ := by
  have h : c51 = c51_24 := by kernel_rfl
  rw [← h]; exact fok51
theorem fk54 : FnOk Try.prog (List.range tabs.length) 54 ⟨44, c54_37, [.tmp 4]⟩ := by
  have h : c54 = c54_37 := by kernel_rfl
  rw [← h]; exact fok54
theorem fk56 : FnOk Try.prog (List.range tabs.length) 56 ⟨26, c56_26, [.tmp 4]⟩ := by
  have h : c56 = c56_26 := by kernel_rfl
  rw [← h]; exact fok56
theorem fk58 : FnOk Try.prog (List.range tabs.length) 58 ⟨14, c58_16, [.tmp 2, .tmp 3]⟩ := by
  have h : c58 = c58_16 := by kernel_rfl
  rw [← h]; exact fok58
theorem fk53 : FnOk Try.prog (List.range tabs.length) 53 ⟨42, c53_36, [.tmp 2]⟩ := by
  have h : c53 = c53_36 := by kernel_rfl
  rw [← h]; exact fok53
theorem fk81 : FnOk Try.prog (List.range tabs.length) 81 ⟨8, c81_7, [.tmp 2]⟩ := by
  have h : c81 = c81_7 := by kernel_rfl
  rw [← h]; exact fok81
theorem fk97 : FnOk Try.prog (List.range tabs.length) 97 ⟨25, c97_24, [.tmp 2]⟩ := by
  have h : c97 = c97_24 := by kernel_rfl
  rw [← h]; exact fok97
theorem fk77 : FnOk Try.prog (List.range tabs.length) 77 ⟨14, c77_2, []⟩ := by
  have h : c77 = c77_2 := by kernel_rfl
  rw [← h]; exact fok77
theorem fk86 : FnOk Try.prog (List.range tabs.length) 86 ⟨148, c86_74, []⟩ := by
  have h : c86 = c86_74 := by kernel_rfl
  rw [← h]; exact fok86
theorem fk110 : FnOk Try.prog (List.range tabs.length) 110 ⟨53, c110_22, []⟩ := by
  have h : c110 = c110_22 := by kernel_rfl
  rw [← h]; exact fok110
theorem tabs_ne : ∀ t ∈ tabs, t ≠ [] := by intro t ht; cases ht
theorem tabs_pl : ∀ t ∈ tabs, ∀ x ∈ t, plain1 x = true := by intro t ht; cases ht
theorem inl_ok (hm : Try.prog.follows .mixedOrders = true) {pu : PureF} (hl44 : LiveOk Try.prog tabs 44 1 (pu 44)) (hg75 : PureOk Try.prog tabs 75 (pu 75)) (h0 : ObjOk Try.prog tabs 2 1 77 (pu 10770)) (h1 : ObjOk Try.prog tabs 5 1 86 (pu 10860)) (h2 : ObjOk Try.prog tabs 4 1 110 (pu 11100)) : CallOk Try.prog (List.range tabs.length) (inl pu) := fun g args H v H' h => by
  replace h : bb (Nat.beq g 44) (liveF tabs 1 (pu 44) args H) (bb (Nat.beq g 75) (giveF tabs 1 (pu 75) args H) (bb (Nat.beq g 77) (objG tabs [[none], [none]] 2 [.tmp 0 false] [false] (pu 10770) args H) (bb (Nat.beq g 86) (objG tabs [[none], [none], [none], [none], [none]] 5 [.tmp 0 false] [false] (pu 10860) args H) (bb (Nat.beq g 110) (objG tabs [[none], [none], [none], [none]] 4 [.tmp 0 false] [false] (pu 11100) args H) (none))))) = some (v, H') := h
  have hq := bb_cases h; clear h; rcases hq with ⟨e, h⟩ | ⟨_, h⟩
  · obtain rfl := Nat.eq_of_beq_eq_true e
    exact liveF_ok tabs_ne tabs_pl hl44 h
  have hq := bb_cases h; clear h; rcases hq with ⟨e, h⟩ | ⟨_, h⟩
  · obtain rfl := Nat.eq_of_beq_eq_true e
    exact giveF_ok tabs_ne tabs_pl hg75 h
  have hq := bb_cases h; clear h; rcases hq with ⟨e, h⟩ | ⟨_, h⟩
  · obtain rfl := Nat.eq_of_beq_eq_true e
    exact objG_ok (rs := [.tmp 0 false]) tabs_ne tabs_pl h0 h
  have hq := bb_cases h; clear h; rcases hq with ⟨e, h⟩ | ⟨_, h⟩
  · obtain rfl := Nat.eq_of_beq_eq_true e
    exact objG_ok (rs := [.tmp 0 false]) tabs_ne tabs_pl h1 h
  have hq := bb_cases h; clear h; rcases hq with ⟨e, h⟩ | ⟨_, h⟩
  · obtain rfl := Nat.eq_of_beq_eq_true e
    exact objG_ok (rs := [.tmp 0 false]) tabs_ne tabs_pl h2 h
  cases h
theorem disp_ok (hm : Try.prog.follows .mixedOrders = true) (hw : PureOk Try.prog tabs 75 orc75) {pu : PureF} (hall : (∀ g, isP g = true → PureOk Try.prog tabs g (pu g)) ∧ LiveOk Try.prog tabs 44 1 (pu 44) ∧ PureOk Try.prog tabs 75 (pu 75) ∧ ObjOk Try.prog tabs 2 1 77 (pu 10770) ∧ ObjOk Try.prog tabs 5 1 86 (pu 10860) ∧ ObjOk Try.prog tabs 4 1 110 (pu 11100)) : (∀ g, isP g = true → PureOk Try.prog tabs g (disp pu g)) ∧ LiveOk Try.prog tabs 44 1 (disp pu 44) ∧ PureOk Try.prog tabs 75 (disp pu 75) ∧ ObjOk Try.prog tabs 2 1 77 (disp pu 10770) ∧ ObjOk Try.prog tabs 5 1 86 (disp pu 10860) ∧ ObjOk Try.prog tabs 4 1 110 (disp pu 11100) := by
  obtain ⟨hpu, hl44, hg75, h0, h4, h5⟩ := hall
  have hcall := callP_ok (P := Try.prog) (tabs := tabs) tabs_ne tabs_pl (inl_ok hm hl44 hg75 h0 h4 h5) hpu
  refine ⟨fun g hg => ?_, ?_, ?_, ?_, ?_, ?_⟩
  · have hg : g ∈ plist := memN_iff.1 hg
    simp only [plist, List.mem_cons, List.not_mem_nil, or_false] at hg
    rcases hg with rfl | rfl | rfl | rfl | rfl | rfl | rfl | rfl | rfl | rfl | rfl | rfl | rfl | rfl | rfl | rfl | rfl | rfl | rfl | rfl | rfl | rfl | rfl | rfl
    · exact pureOk_of_run (tabs := tabs) (f := m18 pu L) ttOk hm hcall fk18 fun args v h hc => r18 pu L rfl h hc
    · exact pureOk_of_run (tabs := tabs) (f := m19 pu L) ttOk hm hcall fk19 fun args v h hc => r19 pu L rfl h hc
    · exact pureOk_of_run (tabs := tabs) (f := m35 pu L) ttOk hm hcall fk35 fun args v h hc => r35 pu L rfl h hc
    · exact pureOk_of_run (tabs := tabs) (f := m42 pu L) ttOk hm hcall fk42 fun args v h hc => r42 pu L rfl h hc
    · exact pureOk_of_run (tabs := tabs) (f := m43 pu L) ttOk hm hcall fk43 fun args v h hc => r43 pu L rfl h hc
    · exact pureOk_of_run (tabs := tabs) (f := m45 pu L) ttOk hm hcall fk45 fun args v h hc => r45 pu L rfl h hc
    · exact pureOk_of_run (tabs := tabs) (f := m46 pu L) ttOk hm hcall fk46 fun args v h hc => r46 pu L rfl h hc
    · exact pureOk_of_run (tabs := tabs) (f := m47 pu L) ttOk hm hcall fk47 fun args v h hc => r47 pu L rfl h hc
    · exact pureOk_of_run (tabs := tabs) (f := m48 pu L) ttOk hm hcall fk48 fun args v h hc => r48 pu L rfl h hc
    · exact pureOk_of_run (tabs := tabs) (f := m49 pu L) ttOk hm hcall fk49 fun args v h hc => r49 pu L rfl h hc
    · exact pureOk_of_run (tabs := tabs) (f := m50 pu L) ttOk hm hcall fk50 fun args v h hc => r50 pu L rfl h hc
    · exact pureOk_of_run (tabs := tabs) (f := m51 pu L) ttOk hm hcall fk51 fun args v h hc => r51 pu L rfl h hc
    · exact pureOk_of_run (tabs := tabs) (f := m53 pu L) ttOk hm hcall fk53 fun args v h hc => r53 pu L rfl h hc
    · exact pureOk_of_run (tabs := tabs) (f := m54 pu L) ttOk hm hcall fk54 fun args v h hc => r54 pu L rfl h hc
    · exact pureOk_of_run (tabs := tabs) (f := m56 pu L) ttOk hm hcall fk56 fun args v h hc => r56 pu L rfl h hc
    · exact pureOk_of_run (tabs := tabs) (f := m57 pu L) ttOk hm hcall fk57 fun args v h hc => r57 pu L rfl h hc
    · exact pureOk_of_run (tabs := tabs) (f := m58 pu L) ttOk hm hcall fk58 fun args v h hc => r58 pu L rfl h hc
    · exact pureOk_of_run (tabs := tabs) (f := m64 pu L) ttOk hm hcall fk64 fun args v h hc => r64 pu L rfl h hc
    · exact pureOk_of_run (tabs := tabs) (f := m68 pu L) ttOk hm hcall fk68 fun args v h hc => r68 pu L rfl h hc
    · exact pureOk_of_run (tabs := tabs) (f := m74 pu L) ttOk hm hcall fk74 fun args v h hc => r74 pu L rfl h hc
    · exact pureOk_of_run (tabs := tabs) (f := m81 pu L) ttOk hm hcall fk81 fun args v h hc => r81 pu L rfl h hc
    · exact pureOk_of_run (tabs := tabs) (f := m82 pu L) ttOk hm hcall fk82 fun args v h hc => r82 pu L rfl h hc
    · exact pureOk_of_run (tabs := tabs) (f := m97 pu L) ttOk hm hcall fk97 fun args v h hc => r97 pu L rfl h hc
    · exact pureOk_of_run (tabs := tabs) (f := m98 pu L) ttOk hm hcall fk98 fun args v h hc => r98 pu L rfl h hc
  · exact liveOk_of_run (tabs := tabs) (f := m44 pu L) ttOk hm hcall fk44 fun args v h hc => r44 pu L rfl h hc
  · exact hw
  · exact objOk_of_run (tabs := tabs) (f := m10770 pu L) ttOk hm hcall fk77 fun args os z h1 h2 h3 h => r10770 pu L rfl h1 h2 h3 h
  · exact objOk_of_run (tabs := tabs) (f := m10860 pu L) ttOk hm hcall fk86 fun args os z h1 h2 h3 h => r10860 pu L rfl h1 h2 h3 h
  · exact objOk_of_run (tabs := tabs) (f := m11100 pu L) ttOk hm hcall fk110 fun args os z h1 h2 h3 h => r11100 pu L rfl h1 h2 h3 h
theorem all_ok (hm : Try.prog.follows .mixedOrders = true) (hw : PureOk Try.prog tabs 75 orc75) : ∀ n, (∀ g, isP g = true → PureOk Try.prog tabs g (puN n g)) ∧ LiveOk Try.prog tabs 44 1 (puN n 44) ∧ PureOk Try.prog tabs 75 (puN n 75) ∧ ObjOk Try.prog tabs 2 1 77 (puN n 10770) ∧ ObjOk Try.prog tabs 5 1 86 (puN n 10860) ∧ ObjOk Try.prog tabs 4 1 110 (puN n 11100) := fun n => by
  induction n with
  | zero =>
    refine ⟨fun g hg => ?_, ?_, ?_, ?_, ?_, ?_⟩
    · have hg : g ∈ plist := memN_iff.1 hg
      simp only [plist, List.mem_cons, List.not_mem_nil, or_false] at hg
      rcases hg with rfl | rfl | rfl | rfl | rfl | rfl | rfl | rfl | rfl | rfl | rfl | rfl | rfl | rfl | rfl | rfl | rfl | rfl | rfl | rfl | rfl | rfl | rfl | rfl
      · exact ⟨enter_ok fk18, fun args v h => by cases h⟩
      · exact ⟨enter_ok fk19, fun args v h => by cases h⟩
      · exact ⟨enter_ok fk35, fun args v h => by cases h⟩
      · exact ⟨enter_ok fk42, fun args v h => by cases h⟩
      · exact ⟨enter_ok fk43, fun args v h => by cases h⟩
      · exact ⟨enter_ok fk45, fun args v h => by cases h⟩
      · exact ⟨enter_ok fk46, fun args v h => by cases h⟩
      · exact ⟨enter_ok fk47, fun args v h => by cases h⟩
      · exact ⟨enter_ok fk48, fun args v h => by cases h⟩
      · exact ⟨enter_ok fk49, fun args v h => by cases h⟩
      · exact ⟨enter_ok fk50, fun args v h => by cases h⟩
      · exact ⟨enter_ok fk51, fun args v h => by cases h⟩
      · exact ⟨enter_ok fk53, fun args v h => by cases h⟩
      · exact ⟨enter_ok fk54, fun args v h => by cases h⟩
      · exact ⟨enter_ok fk56, fun args v h => by cases h⟩
      · exact ⟨enter_ok fk57, fun args v h => by cases h⟩
      · exact ⟨enter_ok fk58, fun args v h => by cases h⟩
      · exact ⟨enter_ok fk64, fun args v h => by cases h⟩
      · exact ⟨enter_ok fk68, fun args v h => by cases h⟩
      · exact ⟨enter_ok fk74, fun args v h => by cases h⟩
      · exact ⟨enter_ok fk81, fun args v h => by cases h⟩
      · exact ⟨enter_ok fk82, fun args v h => by cases h⟩
      · exact ⟨enter_ok fk97, fun args v h => by cases h⟩
      · exact ⟨enter_ok fk98, fun args v h => by cases h⟩
    · exact ⟨enter_ok fk44, fun args v h => by cases h⟩
    · exact ⟨(hw).1, fun args v h => by cases h⟩
    · exact ⟨enter_ok fk77, fun args os z h1 h2 h3 h => by cases h⟩
    · exact ⟨enter_ok fk86, fun args os z h1 h2 h3 h => by cases h⟩
    · exact ⟨enter_ok fk110, fun args os z h1 h2 h3 h => by cases h⟩
  | succ n ih => exact disp_ok hm hw ih
end
end Go.Proofs.Ytgddliaacoofiaa.HpL
set_option maxRecDepth 100000
namespace Go.Proofs.Ytgddliaacoofiaa.HpL
open Go Go.Sp Go.HpLM Go.HpL
theorem no_ok {P : Program} {gl : List Nat} : CallOk P gl (fun _ _ _ => none) := fun g args H v H' h => by cases h
noncomputable def runR (fl k : Nat) (y : Int) : Option Value := frzR 0 (evFnP [] (fun _ => false) (fun _ _ => none) (fun _ _ _ => none) tt fns 60 75 [Sl.v 1 ⟨1, fl, [.int .i64 y]⟩, .int .i64 (.ofNat k)] (pureHeap []))
theorem rep_run (fl : Nat) (y : Int) : ∀ k, k ≤ 21 → runR fl k y = some (Sl.v 1 ⟨k, 0, zeroRow [.int .i64 y] k⟩)
  | 0, _ => by kernel_rfl
  | 1, _ => by kernel_rfl
  | 2, _ => by kernel_rfl
  | 3, _ => by kernel_rfl
  | 4, _ => by kernel_rfl
  | 5, _ => by kernel_rfl
  | 6, _ => by kernel_rfl
  | 7, _ => by kernel_rfl
  | 8, _ => by kernel_rfl
  | 9, _ => by kernel_rfl
  | 10, _ => by kernel_rfl
  | 11, _ => by kernel_rfl
  | 12, _ => by kernel_rfl
  | 13, _ => by kernel_rfl
  | 14, _ => by kernel_rfl
  | 15, _ => by kernel_rfl
  | 16, _ => by kernel_rfl
  | 17, _ => by kernel_rfl
  | 18, _ => by kernel_rfl
  | 19, _ => by kernel_rfl
  | 20, _ => by kernel_rfl
  | 21, _ => by kernel_rfl
  | k + 22, h => by omega
theorem orc75_ok (hm : Try.prog.follows .mixedOrders = true) : PureOk Try.prog tabs 75 orc75 := by
  refine pureOk_closedP (tabs := tabs) (n := 60) (g := 75) (H := pureHeap tabs) (isP := fun _ => false) (pu := fun _ _ => none) (inl := fun _ _ _ => none) ttOk tabs_ne tabs_pl fnsOk hm (fun g h => by cases h) no_ok (fun _ => rfl) rfl (enter_ok fok75) fun args v h => ?_
  replace h := ll_uncons h; obtain ⟨a, r, rfl, h⟩ := h
  replace h := ll_uncons h; obtain ⟨b, r, rfl, h⟩ := h
  replace h := ll_end h; obtain ⟨rfl, h⟩ := h
  replace h := oo_inv h; obtain ⟨s, hs, h⟩ := h
  replace h := oo_inv h; obtain ⟨z, hz, h⟩ := h
  replace h := oo_inv h; obtain ⟨k, hk, h⟩ := h
  obtain rfl := toN_some hk
  obtain rfl := toSl_some hs
  obtain rfl := toI_some hz
  obtain ⟨n, fl, cs⟩ := s
  replace h := ll_uncons h; obtain ⟨x, r, hcs, h⟩ := h
  have hcs : cs = x :: r := hcs
  replace h := ll_end h; obtain ⟨rfl, h⟩ := h
  replace h := oo_inv h; obtain ⟨y, hy, h⟩ := h
  obtain rfl := toI_some hy
  subst hcs
  replace h := bb_inv h; obtain ⟨hc, h⟩ := h
  obtain ⟨h1, h2⟩ := an_inv hc
  have h1 : n = 1 := Nat.eq_of_beq_eq_true h1
  subst h1
  injection h with h; subst h
  refine ⟨rfl, .inr ?_⟩
  exact rep_run fl y k (Nat.le_of_ble_eq_true h2)
end Go.Proofs.Ytgddliaacoofiaa.HpL
