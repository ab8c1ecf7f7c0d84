/- The slim code is the program's. MADE BY PROGRAM (wip/sp/gen2.lean). -/
import Derived.Test.YtcjocjoaphpclaaDoorProg
import Derived.Test.YtcjocjoaphpclaaDoorSpFlat
import Derived.Test.YtcjocjoaphpclaaDoorSpTab
import Derived.Test.YtcjocjoaphpclaaDoorTableKCode
set_option maxRecDepth 100000
namespace Go.Proofs.YtcjocjoaphpclaaDoor.TableK
open Go Go.Sp Go.TableK
theorem b82 : (match Tryd.f82.body with | some c => rcOf c c82 | none => none) = some c82 := by kernel_rfl
theorem p82 : (match Tryd.f82.body with | some c => codeB [0] c | none => false) = true := by kernel_rfl
theorem fok82 : FnOk Tryd.prog [0] 82 ⟨43, c82, [.tmp 4]⟩ := FnOk.by Tryd.func82 b82 p82 Tryd.ntmps82 (by rw [Tryd.results82]) (by kernel_rfl)
theorem b83 : (match Tryd.f83.body with | some c => rcOf c c83 | none => none) = some c83 := by kernel_rfl
theorem p83 : (match Tryd.f83.body with | some c => codeB [0] c | none => false) = true := by kernel_rfl
theorem fok83 : FnOk Tryd.prog [0] 83 ⟨61, c83, [.tmp 2]⟩ := FnOk.by Tryd.func83 b83 p83 Tryd.ntmps83 (by rw [Tryd.results83]) (by kernel_rfl)
theorem b85 : (match Tryd.f85.body with | some c => rcOf c c85 | none => none) = some c85 := by kernel_rfl
theorem p85 : (match Tryd.f85.body with | some c => codeB [0] c | none => false) = true := by kernel_rfl
theorem fok85 : FnOk Tryd.prog [0] 85 ⟨38, c85, [.cell 2 97]⟩ := FnOk.by Tryd.func85 b85 p85 Tryd.ntmps85 (by rw [Tryd.results85]) (by kernel_rfl)
theorem b86 : (match Tryd.f86.body with | some c => rcOf c c86 | none => none) = some c86 := by kernel_rfl
theorem p86 : (match Tryd.f86.body with | some c => codeB [0] c | none => false) = true := by kernel_rfl
theorem fok86 : FnOk Tryd.prog [0] 86 ⟨41, c86, [.cell 4 97]⟩ := FnOk.by Tryd.func86 b86 p86 Tryd.ntmps86 (by rw [Tryd.results86]) (by kernel_rfl)
theorem b87 : (match Tryd.f87.body with | some c => rcOf c c87 | none => none) = some c87 := by kernel_rfl
theorem p87 : (match Tryd.f87.body with | some c => codeB [0] c | none => false) = true := by kernel_rfl
theorem fok87 : FnOk Tryd.prog [0] 87 ⟨21, c87, [.cell 4 97]⟩ := FnOk.by Tryd.func87 b87 p87 Tryd.ntmps87 (by rw [Tryd.results87]) (by kernel_rfl)
theorem b88 : (match Tryd.f88.body with | some c => rcOf c c88 | none => none) = some c88 := by kernel_rfl
theorem p88 : (match Tryd.f88.body with | some c => codeB [0] c | none => false) = true := by kernel_rfl
theorem fok88 : FnOk Tryd.prog [0] 88 ⟨8, c88, [.tmp 2]⟩ := FnOk.by Tryd.func88 b88 p88 Tryd.ntmps88 (by rw [Tryd.results88]) (by kernel_rfl)
theorem b90 : (match Tryd.f90.body with | some c => rcOf c c90 | none => none) = some c90 := by kernel_rfl
theorem p90 : (match Tryd.f90.body with | some c => codeB [0] c | none => false) = true := by kernel_rfl
theorem fok90 : FnOk Tryd.prog [0] 90 ⟨17, c90, [.tmp 4]⟩ := FnOk.by Tryd.func90 b90 p90 Tryd.ntmps90 (by rw [Tryd.results90]) (by kernel_rfl)
theorem b91 : (match Tryd.f91.body with | some c => rcOf c c91 | none => none) = some c91 := by kernel_rfl
theorem p91 : (match Tryd.f91.body with | some c => codeB [0] c | none => false) = true := by kernel_rfl
theorem fok91 : FnOk Tryd.prog [0] 91 ⟨134, c91, []⟩ := FnOk.by Tryd.func91 b91 p91 Tryd.ntmps91 (by rw [Tryd.results91]) (by kernel_rfl)
theorem b92 : (match Tryd.f92.body with | some c => rcOf c c92 | none => none) = some c92 := by kernel_rfl
theorem p92 : (match Tryd.f92.body with | some c => codeB [0] c | none => false) = true := by kernel_rfl
theorem fok92 : FnOk Tryd.prog [0] 92 ⟨8, c92, [.tmp 2]⟩ := FnOk.by Tryd.func92 b92 p92 Tryd.ntmps92 (by rw [Tryd.results92]) (by kernel_rfl)
theorem b98 : (match Tryd.f98.body with | some c => rcOf c c98 | none => none) = some c98 := by kernel_rfl
theorem p98 : (match Tryd.f98.body with | some c => codeB [0] c | none => false) = true := by kernel_rfl
theorem fok98 : FnOk Tryd.prog [0] 98 ⟨14, c98, [.tmp 2]⟩ := FnOk.by Tryd.func98 b98 p98 Tryd.ntmps98 (by rw [Tryd.results98]) (by kernel_rfl)
end Go.Proofs.YtcjocjoaphpclaaDoor.TableK
