/- The slim code is the program's. MADE BY PROGRAM (wip/sp/gen2.lean). -/
import Derived.Test.YtcjocjoaphpclaaDoorProg
import Derived.Test.YtcjocjoaphpclaaDoorSpFlat
import Derived.Test.YtcjocjoaphpclaaDoorSpTab
import Derived.Test.YtcjocjoaphpclaaDoorTableKCode
set_option maxRecDepth 100000
namespace Go.Proofs.YtcjocjoaphpclaaDoor.TableK
open Go Go.Sp Go.TableK
theorem b31 : (match Tryd.f31.body with | some c => rcOf c c31 | none => none) = some c31 := by kernel_rfl
theorem p31 : (match Tryd.f31.body with | some c => codeB [0] c | none => false) = true := by kernel_rfl
theorem fok31 : FnOk Tryd.prog [0] 31 ⟨39, c31, [.tmp 2, .tmp 3]⟩ := FnOk.by Tryd.func31 b31 p31 Tryd.ntmps31 (by rw [Tryd.results31]) (by kernel_rfl)
theorem b33 : (match Tryd.f33.body with | some c => rcOf c c33 | none => none) = some c33 := by kernel_rfl
theorem p33 : (match Tryd.f33.body with | some c => codeB [0] c | none => false) = true := by kernel_rfl
theorem fok33 : FnOk Tryd.prog [0] 33 ⟨53, c33, [.tmp 2, .tmp 3]⟩ := FnOk.by Tryd.func33 b33 p33 Tryd.ntmps33 (by rw [Tryd.results33]) (by kernel_rfl)
theorem b35 : (match Tryd.f35.body with | some c => rcOf c c35 | none => none) = some c35 := by kernel_rfl
theorem p35 : (match Tryd.f35.body with | some c => codeB [0] c | none => false) = true := by kernel_rfl
theorem fok35 : FnOk Tryd.prog [0] 35 ⟨61, c35, [.tmp 2, .tmp 3]⟩ := FnOk.by Tryd.func35 b35 p35 Tryd.ntmps35 (by rw [Tryd.results35]) (by kernel_rfl)
theorem b37 : (match Tryd.f37.body with | some c => rcOf c c37 | none => none) = some c37 := by kernel_rfl
theorem p37 : (match Tryd.f37.body with | some c => codeB [0] c | none => false) = true := by kernel_rfl
theorem fok37 : FnOk Tryd.prog [0] 37 ⟨61, c37, [.tmp 4, .tmp 5, .tmp 6]⟩ := FnOk.by Tryd.func37 b37 p37 Tryd.ntmps37 (by rw [Tryd.results37]) (by kernel_rfl)
theorem b39 : (match Tryd.f39.body with | some c => rcOf c c39 | none => none) = some c39 := by kernel_rfl
theorem p39 : (match Tryd.f39.body with | some c => codeB [0] c | none => false) = true := by kernel_rfl
theorem fok39 : FnOk Tryd.prog [0] 39 ⟨63, c39, [.tmp 4, .tmp 5]⟩ := FnOk.by Tryd.func39 b39 p39 Tryd.ntmps39 (by rw [Tryd.results39]) (by kernel_rfl)
theorem b41 : (match Tryd.f41.body with | some c => rcOf c c41 | none => none) = some c41 := by kernel_rfl
theorem p41 : (match Tryd.f41.body with | some c => codeB [0] c | none => false) = true := by kernel_rfl
theorem fok41 : FnOk Tryd.prog [0] 41 ⟨83, c41, [.tmp 2, .tmp 3]⟩ := FnOk.by Tryd.func41 b41 p41 Tryd.ntmps41 (by rw [Tryd.results41]) (by kernel_rfl)
theorem b43 : (match Tryd.f43.body with | some c => rcOf c c43 | none => none) = some c43 := by kernel_rfl
theorem p43 : (match Tryd.f43.body with | some c => codeB [0] c | none => false) = true := by kernel_rfl
theorem fok43 : FnOk Tryd.prog [0] 43 ⟨26, c43, [.tmp 4]⟩ := FnOk.by Tryd.func43 b43 p43 Tryd.ntmps43 (by rw [Tryd.results43]) (by kernel_rfl)
theorem b50 : (match Tryd.f50.body with | some c => rcOf c c50 | none => none) = some c50 := by kernel_rfl
theorem p50 : (match Tryd.f50.body with | some c => codeB [0] c | none => false) = true := by kernel_rfl
theorem fok50 : FnOk Tryd.prog [0] 50 ⟨21, c50, [.tmp 2]⟩ := FnOk.by Tryd.func50 b50 p50 Tryd.ntmps50 (by rw [Tryd.results50]) (by kernel_rfl)
theorem b52 : (match Tryd.f52.body with | some c => rcOf c c52 | none => none) = some c52 := by kernel_rfl
theorem p52 : (match Tryd.f52.body with | some c => codeB [0] c | none => false) = true := by kernel_rfl
theorem fok52 : FnOk Tryd.prog [0] 52 ⟨9, c52, [.tmp 2]⟩ := FnOk.by Tryd.func52 b52 p52 Tryd.ntmps52 (by rw [Tryd.results52]) (by kernel_rfl)
theorem b53 : (match Tryd.f53.body with | some c => rcOf c c53 | none => none) = some c53 := by kernel_rfl
theorem p53 : (match Tryd.f53.body with | some c => codeB [0] c | none => false) = true := by kernel_rfl
theorem fok53 : FnOk Tryd.prog [0] 53 ⟨8, c53, [.tmp 2]⟩ := FnOk.by Tryd.func53 b53 p53 Tryd.ntmps53 (by rw [Tryd.results53]) (by kernel_rfl)
end Go.Proofs.YtcjocjoaphpclaaDoor.TableK
