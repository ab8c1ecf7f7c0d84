/- The slim code is the program's. MADE BY PROGRAM (wip/sp/gen2.lean). -/
import Derived.Test.YtgplhblofefkjaaDoorProg
import Derived.Test.YtgplhblofefkjaaDoorSpFlat
import Derived.Test.YtgplhblofefkjaaDoorSpTab
import Derived.Test.YtgplhblofefkjaaDoorMendKCode
set_option maxRecDepth 100000
namespace Go.Proofs.YtgplhblofefkjaaDoor.MendK
open Go Go.Sp Go.MendK
theorem b11 : (match Tryd.f11.body with | some c => rcOf c c11 | none => none) = some c11 := by kernel_rfl
theorem p11 : (match Tryd.f11.body with | some c => codeB [0] c | none => false) = true := by kernel_rfl
theorem fok11 : FnOk Tryd.prog [0] 11 ⟨85, c11, [.tmp 0]⟩ := FnOk.by Tryd.func11 b11 p11 Tryd.ntmps11 (by rw [Tryd.results11]) (by kernel_rfl)
theorem b15 : (match Tryd.f15.body with | some c => rcOf c c15 | none => none) = some c15 := by kernel_rfl
theorem p15 : (match Tryd.f15.body with | some c => codeB [0] c | none => false) = true := by kernel_rfl
theorem fok15 : FnOk Tryd.prog [0] 15 ⟨218, c15, [.tmp 0]⟩ := FnOk.by Tryd.func15 b15 p15 Tryd.ntmps15 (by rw [Tryd.results15]) (by kernel_rfl)
theorem b16 : (match Tryd.f16.body with | some c => rcOf c c16 | none => none) = some c16 := by kernel_rfl
theorem p16 : (match Tryd.f16.body with | some c => codeB [0] c | none => false) = true := by kernel_rfl
theorem fok16 : FnOk Tryd.prog [0] 16 ⟨13, c16, [.tmp 2, .tmp 3]⟩ := FnOk.by Tryd.func16 b16 p16 Tryd.ntmps16 (by rw [Tryd.results16]) (by kernel_rfl)
theorem b18 : (match Tryd.f18.body with | some c => rcOf c c18 | none => none) = some c18 := by kernel_rfl
theorem p18 : (match Tryd.f18.body with | some c => codeB [0] c | none => false) = true := by kernel_rfl
theorem fok18 : FnOk Tryd.prog [0] 18 ⟨25, c18, [.cell 6 24, .tmp 7]⟩ := FnOk.by Tryd.func18 b18 p18 Tryd.ntmps18 (by rw [Tryd.results18]) (by kernel_rfl)
theorem b20 : (match Tryd.f20.body with | some c => rcOf c c20 | none => none) = some c20 := by kernel_rfl
theorem p20 : (match Tryd.f20.body with | some c => codeB [0] c | none => false) = true := by kernel_rfl
theorem fok20 : FnOk Tryd.prog [0] 20 ⟨26, c20, [.tmp 4]⟩ := FnOk.by Tryd.func20 b20 p20 Tryd.ntmps20 (by rw [Tryd.results20]) (by kernel_rfl)
theorem b21 : (match Tryd.f21.body with | some c => rcOf c c21 | none => none) = some c21 := by kernel_rfl
theorem p21 : (match Tryd.f21.body with | some c => codeB [0] c | none => false) = true := by kernel_rfl
theorem fok21 : FnOk Tryd.prog [0] 21 ⟨73, c21, [.tmp 2]⟩ := FnOk.by Tryd.func21 b21 p21 Tryd.ntmps21 (by rw [Tryd.results21]) (by kernel_rfl)
theorem b23 : (match Tryd.f23.body with | some c => rcOf c c23 | none => none) = some c23 := by kernel_rfl
theorem p23 : (match Tryd.f23.body with | some c => codeB [0] c | none => false) = true := by kernel_rfl
theorem fok23 : FnOk Tryd.prog [0] 23 ⟨47, c23, [.tmp 2, .tmp 3]⟩ := FnOk.by Tryd.func23 b23 p23 Tryd.ntmps23 (by rw [Tryd.results23]) (by kernel_rfl)
theorem b25 : (match Tryd.f25.body with | some c => rcOf c c25 | none => none) = some c25 := by kernel_rfl
theorem p25 : (match Tryd.f25.body with | some c => codeB [0] c | none => false) = true := by kernel_rfl
theorem fok25 : FnOk Tryd.prog [0] 25 ⟨26, c25, [.tmp 4]⟩ := FnOk.by Tryd.func25 b25 p25 Tryd.ntmps25 (by rw [Tryd.results25]) (by kernel_rfl)
theorem b26 : (match Tryd.f26.body with | some c => rcOf c c26 | none => none) = some c26 := by kernel_rfl
theorem p26 : (match Tryd.f26.body with | some c => codeB [0] c | none => false) = true := by kernel_rfl
theorem fok26 : FnOk Tryd.prog [0] 26 ⟨12, c26, [.tmp 2, .tmp 3]⟩ := FnOk.by Tryd.func26 b26 p26 Tryd.ntmps26 (by rw [Tryd.results26]) (by kernel_rfl)
theorem b28 : (match Tryd.f28.body with | some c => rcOf c c28 | none => none) = some c28 := by kernel_rfl
theorem p28 : (match Tryd.f28.body with | some c => codeB [0] c | none => false) = true := by kernel_rfl
theorem fok28 : FnOk Tryd.prog [0] 28 ⟨91, c28, [.tmp 4, .tmp 5]⟩ := FnOk.by Tryd.func28 b28 p28 Tryd.ntmps28 (by rw [Tryd.results28]) (by kernel_rfl)
end Go.Proofs.YtgplhblofefkjaaDoor.MendK
