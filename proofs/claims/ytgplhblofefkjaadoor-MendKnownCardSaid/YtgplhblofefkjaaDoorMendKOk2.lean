/- The slim code is the program's. MADE BY PROGRAM (wip/sp/gen2.lean). -/
import Derived.Test.YtgplhblofefkjaaDoorProg
import Derived.Test.YtgplhblofefkjaaDoorSpFlat
import Derived.Test.YtgplhblofefkjaaDoorSpTab
import Derived.Test.YtgplhblofefkjaaDoorMendKCode
set_option maxRecDepth 100000
namespace Go.Proofs.YtgplhblofefkjaaDoor.MendK
open Go Go.Sp Go.MendK
theorem b53 : (match Tryd.f53.body with | some c => rcOf c c53 | none => none) = some c53 := by kernel_rfl
theorem p53 : (match Tryd.f53.body with | some c => codeB [0] c | none => false) = true := by kernel_rfl
theorem fok53 : FnOk Tryd.prog [0] 53 ⟨27, c53, [.tmp 2]⟩ := FnOk.by Tryd.func53 b53 p53 Tryd.ntmps53 (by rw [Tryd.results53]) (by kernel_rfl)
theorem b54 : (match Tryd.f54.body with | some c => rcOf c c54 | none => none) = some c54 := by kernel_rfl
theorem p54 : (match Tryd.f54.body with | some c => codeB [0] c | none => false) = true := by kernel_rfl
theorem fok54 : FnOk Tryd.prog [0] 54 ⟨16, c54, [.tmp 2]⟩ := FnOk.by Tryd.func54 b54 p54 Tryd.ntmps54 (by rw [Tryd.results54]) (by kernel_rfl)
theorem b56 : (match Tryd.f56.body with | some c => rcOf c c56 | none => none) = some c56 := by kernel_rfl
theorem p56 : (match Tryd.f56.body with | some c => codeB [0] c | none => false) = true := by kernel_rfl
theorem fok56 : FnOk Tryd.prog [0] 56 ⟨25, c56, [.tmp 6]⟩ := FnOk.by Tryd.func56 b56 p56 Tryd.ntmps56 (by rw [Tryd.results56]) (by kernel_rfl)
theorem b57 : (match Tryd.f57.body with | some c => rcOf c c57 | none => none) = some c57 := by kernel_rfl
theorem p57 : (match Tryd.f57.body with | some c => codeB [0] c | none => false) = true := by kernel_rfl
theorem fok57 : FnOk Tryd.prog [0] 57 ⟨36, c57, [.cell 6 24]⟩ := FnOk.by Tryd.func57 b57 p57 Tryd.ntmps57 (by rw [Tryd.results57]) (by kernel_rfl)
theorem b60 : (match Tryd.f60.body with | some c => rcOf c c60 | none => none) = some c60 := by kernel_rfl
theorem p60 : (match Tryd.f60.body with | some c => codeB [0] c | none => false) = true := by kernel_rfl
theorem fok60 : FnOk Tryd.prog [0] 60 ⟨15, c60, [.tmp 6]⟩ := FnOk.by Tryd.func60 b60 p60 Tryd.ntmps60 (by rw [Tryd.results60]) (by kernel_rfl)
theorem b63 : (match Tryd.f63.body with | some c => rcOf c c63 | none => none) = some c63 := by kernel_rfl
theorem p63 : (match Tryd.f63.body with | some c => codeB [0] c | none => false) = true := by kernel_rfl
theorem fok63 : FnOk Tryd.prog [0] 63 ⟨13, c63, [.tmp 2]⟩ := FnOk.by Tryd.func63 b63 p63 Tryd.ntmps63 (by rw [Tryd.results63]) (by kernel_rfl)
theorem b65 : (match Tryd.f65.body with | some c => rcOf c c65 | none => none) = some c65 := by kernel_rfl
theorem p65 : (match Tryd.f65.body with | some c => codeB [0] c | none => false) = true := by kernel_rfl
theorem fok65 : FnOk Tryd.prog [0] 65 ⟨46, c65, [.tmp 2]⟩ := FnOk.by Tryd.func65 b65 p65 Tryd.ntmps65 (by rw [Tryd.results65]) (by kernel_rfl)
theorem b67 : (match Tryd.f67.body with | some c => rcOf c c67 | none => none) = some c67 := by kernel_rfl
theorem p67 : (match Tryd.f67.body with | some c => codeB [0] c | none => false) = true := by kernel_rfl
theorem fok67 : FnOk Tryd.prog [0] 67 ⟨10, c67, [.tmp 4]⟩ := FnOk.by Tryd.func67 b67 p67 Tryd.ntmps67 (by rw [Tryd.results67]) (by kernel_rfl)
theorem b69 : (match Tryd.f69.body with | some c => rcOf c c69 | none => none) = some c69 := by kernel_rfl
theorem p69 : (match Tryd.f69.body with | some c => codeB [0] c | none => false) = true := by kernel_rfl
theorem fok69 : FnOk Tryd.prog [0] 69 ⟨49, c69, [.tmp 2]⟩ := FnOk.by Tryd.func69 b69 p69 Tryd.ntmps69 (by rw [Tryd.results69]) (by kernel_rfl)
theorem b73 : (match Tryd.f73.body with | some c => rcOf c c73 | none => none) = some c73 := by kernel_rfl
theorem p73 : (match Tryd.f73.body with | some c => codeB [0] c | none => false) = true := by kernel_rfl
theorem fok73 : FnOk Tryd.prog [0] 73 ⟨15, c73, [.tmp 2]⟩ := FnOk.by Tryd.func73 b73 p73 Tryd.ntmps73 (by rw [Tryd.results73]) (by kernel_rfl)
end Go.Proofs.YtgplhblofefkjaaDoor.MendK
