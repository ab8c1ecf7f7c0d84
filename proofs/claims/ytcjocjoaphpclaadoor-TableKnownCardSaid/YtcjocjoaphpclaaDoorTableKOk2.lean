/- The slim code is the program's. MADE BY PROGRAM (wip/sp/gen2.lean). -/
import Derived.Test.YtcjocjoaphpclaaDoorProg
import Derived.Test.YtcjocjoaphpclaaDoorSpFlat
import Derived.Test.YtcjocjoaphpclaaDoorSpTab
import Derived.Test.YtcjocjoaphpclaaDoorTableKCode
set_option maxRecDepth 100000
namespace Go.Proofs.YtcjocjoaphpclaaDoor.TableK
open Go Go.Sp Go.TableK
theorem b54 : (match Tryd.f54.body with | some c => rcOf c c54 | none => none) = some c54 := by kernel_rfl
theorem p54 : (match Tryd.f54.body with | some c => codeB [0] c | none => false) = true := by kernel_rfl
theorem fok54 : FnOk Tryd.prog [0] 54 ⟨11, c54, []⟩ := FnOk.by Tryd.func54 b54 p54 Tryd.ntmps54 (by rw [Tryd.results54]) (by kernel_rfl)
theorem b55 : (match Tryd.f55.body with | some c => rcOf c c55 | none => none) = some c55 := by kernel_rfl
theorem p55 : (match Tryd.f55.body with | some c => codeB [0] c | none => false) = true := by kernel_rfl
theorem fok55 : FnOk Tryd.prog [0] 55 ⟨3, c55, [.cell 0 24]⟩ := FnOk.by Tryd.func55 b55 p55 Tryd.ntmps55 (by rw [Tryd.results55]) (by kernel_rfl)
theorem b56 : (match Tryd.f56.body with | some c => rcOf c c56 | none => none) = some c56 := by kernel_rfl
theorem p56 : (match Tryd.f56.body with | some c => codeB [0] c | none => false) = true := by kernel_rfl
theorem fok56 : FnOk Tryd.prog [0] 56 ⟨4, c56, [.tmp 2]⟩ := FnOk.by Tryd.func56 b56 p56 Tryd.ntmps56 (by rw [Tryd.results56]) (by kernel_rfl)
theorem b57 : (match Tryd.f57.body with | some c => rcOf c c57 | none => none) = some c57 := by kernel_rfl
theorem p57 : (match Tryd.f57.body with | some c => codeB [0] c | none => false) = true := by kernel_rfl
theorem fok57 : FnOk Tryd.prog [0] 57 ⟨3, c57, [.cell 0 24]⟩ := FnOk.by Tryd.func57 b57 p57 Tryd.ntmps57 (by rw [Tryd.results57]) (by kernel_rfl)
theorem b58 : (match Tryd.f58.body with | some c => rcOf c c58 | none => none) = some c58 := by kernel_rfl
theorem p58 : (match Tryd.f58.body with | some c => codeB [0] c | none => false) = true := by kernel_rfl
theorem fok58 : FnOk Tryd.prog [0] 58 ⟨32, c58, [.cell 4 24]⟩ := FnOk.by Tryd.func58 b58 p58 Tryd.ntmps58 (by rw [Tryd.results58]) (by kernel_rfl)
theorem b71 : (match Tryd.f71.body with | some c => rcOf c c71 | none => none) = some c71 := by kernel_rfl
theorem p71 : (match Tryd.f71.body with | some c => codeB [0] c | none => false) = true := by kernel_rfl
theorem fok71 : FnOk Tryd.prog [0] 71 ⟨4, c71, [.tmp 2]⟩ := FnOk.by Tryd.func71 b71 p71 Tryd.ntmps71 (by rw [Tryd.results71]) (by kernel_rfl)
theorem b73 : (match Tryd.f73.body with | some c => rcOf c c73 | none => none) = some c73 := by kernel_rfl
theorem p73 : (match Tryd.f73.body with | some c => codeB [0] c | none => false) = true := by kernel_rfl
theorem fok73 : FnOk Tryd.prog [0] 73 ⟨15, c73, [.tmp 6]⟩ := FnOk.by Tryd.func73 b73 p73 Tryd.ntmps73 (by rw [Tryd.results73]) (by kernel_rfl)
theorem b76 : (match Tryd.f76.body with | some c => rcOf c c76 | none => none) = some c76 := by kernel_rfl
theorem p76 : (match Tryd.f76.body with | some c => codeB [0] c | none => false) = true := by kernel_rfl
theorem fok76 : FnOk Tryd.prog [0] 76 ⟨17, c76, [.cell 2 97, .tmp 3]⟩ := FnOk.by Tryd.func76 b76 p76 Tryd.ntmps76 (by rw [Tryd.results76]) (by kernel_rfl)
theorem b77 : (match Tryd.f77.body with | some c => rcOf c c77 | none => none) = some c77 := by kernel_rfl
theorem p77 : (match Tryd.f77.body with | some c => codeB [0] c | none => false) = true := by kernel_rfl
theorem fok77 : FnOk Tryd.prog [0] 77 ⟨38, c77, [.tmp 4]⟩ := FnOk.by Tryd.func77 b77 p77 Tryd.ntmps77 (by rw [Tryd.results77]) (by kernel_rfl)
theorem b80 : (match Tryd.f80.body with | some c => rcOf c c80 | none => none) = some c80 := by kernel_rfl
theorem p80 : (match Tryd.f80.body with | some c => codeB [0] c | none => false) = true := by kernel_rfl
theorem fok80 : FnOk Tryd.prog [0] 80 ⟨26, c80, [.tmp 4]⟩ := FnOk.by Tryd.func80 b80 p80 Tryd.ntmps80 (by rw [Tryd.results80]) (by kernel_rfl)
end Go.Proofs.YtcjocjoaphpclaaDoor.TableK
