/- The slim code is the program's. MADE BY PROGRAM (wip/sp/gen2.lean). -/
import Derived.Test.YtcjocjoaphpclaaDoorProg
import Derived.Test.YtcjocjoaphpclaaDoorSpFlat
import Derived.Test.YtcjocjoaphpclaaDoorSpTab
import Derived.Test.YtcjocjoaphpclaaDoorTableKCode
set_option maxRecDepth 100000
namespace Go.Proofs.YtcjocjoaphpclaaDoor.TableK
open Go Go.Sp Go.TableK
theorem b10 : (match Tryd.f10.body with | some c => rcOf c c10 | none => none) = some c10 := by kernel_rfl
theorem p10 : (match Tryd.f10.body with | some c => codeB [0] c | none => false) = true := by kernel_rfl
theorem fok10 : FnOk Tryd.prog [0] 10 ⟨118, c10, [.tmp 0]⟩ := FnOk.by Tryd.func10 b10 p10 Tryd.ntmps10 (by rw [Tryd.results10]) (by kernel_rfl)
theorem b16 : (match Tryd.f16.body with | some c => rcOf c c16 | none => none) = some c16 := by kernel_rfl
theorem p16 : (match Tryd.f16.body with | some c => codeB [0] c | none => false) = true := by kernel_rfl
theorem fok16 : FnOk Tryd.prog [0] 16 ⟨235, c16, [.tmp 0]⟩ := FnOk.by Tryd.func16 b16 p16 Tryd.ntmps16 (by rw [Tryd.results16]) (by kernel_rfl)
theorem b17 : (match Tryd.f17.body with | some c => rcOf c c17 | none => none) = some c17 := by kernel_rfl
theorem p17 : (match Tryd.f17.body with | some c => codeB [0] c | none => false) = true := by kernel_rfl
theorem fok17 : FnOk Tryd.prog [0] 17 ⟨63, c17, [.tmp 4, .tmp 5]⟩ := FnOk.by Tryd.func17 b17 p17 Tryd.ntmps17 (by rw [Tryd.results17]) (by kernel_rfl)
theorem b19 : (match Tryd.f19.body with | some c => rcOf c c19 | none => none) = some c19 := by kernel_rfl
theorem p19 : (match Tryd.f19.body with | some c => codeB [0] c | none => false) = true := by kernel_rfl
theorem fok19 : FnOk Tryd.prog [0] 19 ⟨26, c19, [.tmp 4]⟩ := FnOk.by Tryd.func19 b19 p19 Tryd.ntmps19 (by rw [Tryd.results19]) (by kernel_rfl)
theorem b20 : (match Tryd.f20.body with | some c => rcOf c c20 | none => none) = some c20 := by kernel_rfl
theorem p20 : (match Tryd.f20.body with | some c => codeB [0] c | none => false) = true := by kernel_rfl
theorem fok20 : FnOk Tryd.prog [0] 20 ⟨46, c20, [.tmp 2]⟩ := FnOk.by Tryd.func20 b20 p20 Tryd.ntmps20 (by rw [Tryd.results20]) (by kernel_rfl)
theorem b22 : (match Tryd.f22.body with | some c => rcOf c c22 | none => none) = some c22 := by kernel_rfl
theorem p22 : (match Tryd.f22.body with | some c => codeB [0] c | none => false) = true := by kernel_rfl
theorem fok22 : FnOk Tryd.prog [0] 22 ⟨20, c22, [.tmp 4]⟩ := FnOk.by Tryd.func22 b22 p22 Tryd.ntmps22 (by rw [Tryd.results22]) (by kernel_rfl)
theorem b24 : (match Tryd.f24.body with | some c => rcOf c c24 | none => none) = some c24 := by kernel_rfl
theorem p24 : (match Tryd.f24.body with | some c => codeB [0] c | none => false) = true := by kernel_rfl
theorem fok24 : FnOk Tryd.prog [0] 24 ⟨19, c24, [.tmp 2, .tmp 3]⟩ := FnOk.by Tryd.func24 b24 p24 Tryd.ntmps24 (by rw [Tryd.results24]) (by kernel_rfl)
theorem b26 : (match Tryd.f26.body with | some c => rcOf c c26 | none => none) = some c26 := by kernel_rfl
theorem p26 : (match Tryd.f26.body with | some c => codeB [0] c | none => false) = true := by kernel_rfl
theorem fok26 : FnOk Tryd.prog [0] 26 ⟨25, c26, [.tmp 2, .tmp 3]⟩ := FnOk.by Tryd.func26 b26 p26 Tryd.ntmps26 (by rw [Tryd.results26]) (by kernel_rfl)
theorem b28 : (match Tryd.f28.body with | some c => rcOf c c28 | none => none) = some c28 := by kernel_rfl
theorem p28 : (match Tryd.f28.body with | some c => codeB [0] c | none => false) = true := by kernel_rfl
theorem fok28 : FnOk Tryd.prog [0] 28 ⟨40, c28, [.tmp 2, .tmp 3]⟩ := FnOk.by Tryd.func28 b28 p28 Tryd.ntmps28 (by rw [Tryd.results28]) (by kernel_rfl)
theorem b30 : (match Tryd.f30.body with | some c => rcOf c c30 | none => none) = some c30 := by kernel_rfl
theorem p30 : (match Tryd.f30.body with | some c => codeB [0] c | none => false) = true := by kernel_rfl
theorem fok30 : FnOk Tryd.prog [0] 30 ⟨27, c30, [.tmp 4]⟩ := FnOk.by Tryd.func30 b30 p30 Tryd.ntmps30 (by rw [Tryd.results30]) (by kernel_rfl)
end Go.Proofs.YtcjocjoaphpclaaDoor.TableK
