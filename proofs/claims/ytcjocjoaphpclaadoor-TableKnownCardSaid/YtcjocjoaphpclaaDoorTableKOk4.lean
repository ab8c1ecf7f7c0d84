/- The slim code is the program's. MADE BY PROGRAM (wip/sp/gen2.lean). -/
import Derived.Test.YtcjocjoaphpclaaDoorProg
import Derived.Test.YtcjocjoaphpclaaDoorSpFlat
import Derived.Test.YtcjocjoaphpclaaDoorSpTab
import Derived.Test.YtcjocjoaphpclaaDoorTableKCode
set_option maxRecDepth 100000
namespace Go.Proofs.YtcjocjoaphpclaaDoor.TableK
open Go Go.Sp Go.TableK
theorem b100 : (match Tryd.f100.body with | some c => rcOf c c100 | none => none) = some c100 := by kernel_rfl
theorem p100 : (match Tryd.f100.body with | some c => codeB [0] c | none => false) = true := by kernel_rfl
theorem fok100 : FnOk Tryd.prog [0] 100 ⟨21, c100, [.tmp 2]⟩ := FnOk.by Tryd.func100 b100 p100 Tryd.ntmps100 (by rw [Tryd.results100]) (by kernel_rfl)
theorem b101 : (match Tryd.f101.body with | some c => rcOf c c101 | none => none) = some c101 := by kernel_rfl
theorem p101 : (match Tryd.f101.body with | some c => codeB [0] c | none => false) = true := by kernel_rfl
theorem fok101 : FnOk Tryd.prog [0] 101 ⟨35, c101, [.tmp 2]⟩ := FnOk.by Tryd.func101 b101 p101 Tryd.ntmps101 (by rw [Tryd.results101]) (by kernel_rfl)
theorem b103 : (match Tryd.f103.body with | some c => rcOf c c103 | none => none) = some c103 := by kernel_rfl
theorem p103 : (match Tryd.f103.body with | some c => codeB [0] c | none => false) = true := by kernel_rfl
theorem fok103 : FnOk Tryd.prog [0] 103 ⟨6, c103, [.tmp 2]⟩ := FnOk.by Tryd.func103 b103 p103 Tryd.ntmps103 (by rw [Tryd.results103]) (by kernel_rfl)
theorem b104 : (match Tryd.f104.body with | some c => rcOf c c104 | none => none) = some c104 := by kernel_rfl
theorem p104 : (match Tryd.f104.body with | some c => codeB [0] c | none => false) = true := by kernel_rfl
theorem fok104 : FnOk Tryd.prog [0] 104 ⟨49, c104, []⟩ := FnOk.by Tryd.func104 b104 p104 Tryd.ntmps104 (by rw [Tryd.results104]) (by kernel_rfl)
theorem b105 : (match Tryd.f105.body with | some c => rcOf c c105 | none => none) = some c105 := by kernel_rfl
theorem p105 : (match Tryd.f105.body with | some c => codeB [0] c | none => false) = true := by kernel_rfl
theorem fok105 : FnOk Tryd.prog [0] 105 ⟨56, c105, []⟩ := FnOk.by Tryd.func105 b105 p105 Tryd.ntmps105 (by rw [Tryd.results105]) (by kernel_rfl)
theorem b106 : (match Tryd.f106.body with | some c => rcOf c c106 | none => none) = some c106 := by kernel_rfl
theorem p106 : (match Tryd.f106.body with | some c => codeB [0] c | none => false) = true := by kernel_rfl
theorem fok106 : FnOk Tryd.prog [0] 106 ⟨65, c106, []⟩ := FnOk.by Tryd.func106 b106 p106 Tryd.ntmps106 (by rw [Tryd.results106]) (by kernel_rfl)
theorem b107 : (match Tryd.f107.body with | some c => rcOf c c107 | none => none) = some c107 := by kernel_rfl
theorem p107 : (match Tryd.f107.body with | some c => codeB [0] c | none => false) = true := by kernel_rfl
theorem fok107 : FnOk Tryd.prog [0] 107 ⟨57, c107, [.tmp 6, .tmp 7]⟩ := FnOk.by Tryd.func107 b107 p107 Tryd.ntmps107 (by rw [Tryd.results107]) (by kernel_rfl)
theorem b108 : (match Tryd.f108.body with | some c => rcOf c c108 | none => none) = some c108 := by kernel_rfl
theorem p108 : (match Tryd.f108.body with | some c => codeB [0] c | none => false) = true := by kernel_rfl
theorem fok108 : FnOk Tryd.prog [0] 108 ⟨32, c108, []⟩ := FnOk.by Tryd.func108 b108 p108 Tryd.ntmps108 (by rw [Tryd.results108]) (by kernel_rfl)
theorem b109 : (match Tryd.f109.body with | some c => rcOf c c109 | none => none) = some c109 := by kernel_rfl
theorem p109 : (match Tryd.f109.body with | some c => codeB [0] c | none => false) = true := by kernel_rfl
theorem fok109 : FnOk Tryd.prog [0] 109 ⟨133, c109, [.tmp 6]⟩ := FnOk.by Tryd.func109 b109 p109 Tryd.ntmps109 (by rw [Tryd.results109]) (by kernel_rfl)
theorem b110 : (match Tryd.f110.body with | some c => rcOf c c110 | none => none) = some c110 := by kernel_rfl
theorem p110 : (match Tryd.f110.body with | some c => codeB [0] c | none => false) = true := by kernel_rfl
theorem fok110 : FnOk Tryd.prog [0] 110 ⟨84, c110, [.tmp 8]⟩ := FnOk.by Tryd.func110 b110 p110 Tryd.ntmps110 (by rw [Tryd.results110]) (by kernel_rfl)
end Go.Proofs.YtcjocjoaphpclaaDoor.TableK
