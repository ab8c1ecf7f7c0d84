/- The slim code is the program's. MADE BY PROGRAM (wip/sp/gen2.lean). -/
import Derived.Test.YtgplhblofefkjaaDoorProg
import Derived.Test.YtgplhblofefkjaaDoorSpFlat
import Derived.Test.YtgplhblofefkjaaDoorSpTab
import Derived.Test.YtgplhblofefkjaaDoorMendKCode
set_option maxRecDepth 100000
namespace Go.Proofs.YtgplhblofefkjaaDoor.MendK
open Go Go.Sp Go.MendK
theorem b30 : (match Tryd.f30.body with | some c => rcOf c c30 | none => none) = some c30 := by kernel_rfl
theorem p30 : (match Tryd.f30.body with | some c => codeB [0] c | none => false) = true := by kernel_rfl
theorem fok30 : FnOk Tryd.prog [0] 30 ⟨27, c30, [.tmp 4]⟩ := FnOk.by Tryd.func30 b30 p30 Tryd.ntmps30 (by rw [Tryd.results30]) (by kernel_rfl)
theorem b31 : (match Tryd.f31.body with | some c => rcOf c c31 | none => none) = some c31 := by kernel_rfl
theorem p31 : (match Tryd.f31.body with | some c => codeB [0] c | none => false) = true := by kernel_rfl
theorem fok31 : FnOk Tryd.prog [0] 31 ⟨22, c31, [.tmp 4, .tmp 5]⟩ := FnOk.by Tryd.func31 b31 p31 Tryd.ntmps31 (by rw [Tryd.results31]) (by kernel_rfl)
theorem b33 : (match Tryd.f33.body with | some c => rcOf c c33 | none => none) = some c33 := by kernel_rfl
theorem p33 : (match Tryd.f33.body with | some c => codeB [0] c | none => false) = true := by kernel_rfl
theorem fok33 : FnOk Tryd.prog [0] 33 ⟨12, c33, [.tmp 2, .tmp 3]⟩ := FnOk.by Tryd.func33 b33 p33 Tryd.ntmps33 (by rw [Tryd.results33]) (by kernel_rfl)
theorem b35 : (match Tryd.f35.body with | some c => rcOf c c35 | none => none) = some c35 := by kernel_rfl
theorem p35 : (match Tryd.f35.body with | some c => codeB [0] c | none => false) = true := by kernel_rfl
theorem fok35 : FnOk Tryd.prog [0] 35 ⟨44, c35, [.tmp 2, .tmp 3]⟩ := FnOk.by Tryd.func35 b35 p35 Tryd.ntmps35 (by rw [Tryd.results35]) (by kernel_rfl)
theorem b42 : (match Tryd.f42.body with | some c => rcOf c c42 | none => none) = some c42 := by kernel_rfl
theorem p42 : (match Tryd.f42.body with | some c => codeB [0] c | none => false) = true := by kernel_rfl
theorem fok42 : FnOk Tryd.prog [0] 42 ⟨12, c42, [.tmp 2, .tmp 3]⟩ := FnOk.by Tryd.func42 b42 p42 Tryd.ntmps42 (by rw [Tryd.results42]) (by kernel_rfl)
theorem b43 : (match Tryd.f43.body with | some c => rcOf c c43 | none => none) = some c43 := by kernel_rfl
theorem p43 : (match Tryd.f43.body with | some c => codeB [0] c | none => false) = true := by kernel_rfl
theorem fok43 : FnOk Tryd.prog [0] 43 ⟨6, c43, [.cell 0 24]⟩ := FnOk.by Tryd.func43 b43 p43 Tryd.ntmps43 (by rw [Tryd.results43]) (by kernel_rfl)
theorem b44 : (match Tryd.f44.body with | some c => rcOf c c44 | none => none) = some c44 := by kernel_rfl
theorem p44 : (match Tryd.f44.body with | some c => codeB [0] c | none => false) = true := by kernel_rfl
theorem fok44 : FnOk Tryd.prog [0] 44 ⟨6, c44, [.cell 0 24]⟩ := FnOk.by Tryd.func44 b44 p44 Tryd.ntmps44 (by rw [Tryd.results44]) (by kernel_rfl)
theorem b45 : (match Tryd.f45.body with | some c => rcOf c c45 | none => none) = some c45 := by kernel_rfl
theorem p45 : (match Tryd.f45.body with | some c => codeB [0] c | none => false) = true := by kernel_rfl
theorem fok45 : FnOk Tryd.prog [0] 45 ⟨4, c45, [.tmp 2]⟩ := FnOk.by Tryd.func45 b45 p45 Tryd.ntmps45 (by rw [Tryd.results45]) (by kernel_rfl)
theorem b46 : (match Tryd.f46.body with | some c => rcOf c c46 | none => none) = some c46 := by kernel_rfl
theorem p46 : (match Tryd.f46.body with | some c => codeB [0] c | none => false) = true := by kernel_rfl
theorem fok46 : FnOk Tryd.prog [0] 46 ⟨4, c46, [.tmp 2]⟩ := FnOk.by Tryd.func46 b46 p46 Tryd.ntmps46 (by rw [Tryd.results46]) (by kernel_rfl)
theorem b49 : (match Tryd.f49.body with | some c => rcOf c c49 | none => none) = some c49 := by kernel_rfl
theorem p49 : (match Tryd.f49.body with | some c => codeB [0] c | none => false) = true := by kernel_rfl
theorem fok49 : FnOk Tryd.prog [0] 49 ⟨39, c49, [.tmp 4]⟩ := FnOk.by Tryd.func49 b49 p49 Tryd.ntmps49 (by rw [Tryd.results49]) (by kernel_rfl)
end Go.Proofs.YtgplhblofefkjaaDoor.MendK
