/- The slim code is the program's. MADE BY PROGRAM (wip/sp/gen2.lean). -/
import Derived.Test.YtcjocjoaphpclaaDoorProg
import Derived.Test.YtcjocjoaphpclaaDoorSpFlat
import Derived.Test.YtcjocjoaphpclaaDoorSpTab
import Derived.Test.YtcjocjoaphpclaaDoorTableKCode
set_option maxRecDepth 100000
namespace Go.Proofs.YtcjocjoaphpclaaDoor.TableK
open Go Go.Sp Go.TableK
theorem b111 : (match Tryd.f111.body with | some c => rcOf c c111 | none => none) = some c111 := by kernel_rfl
theorem p111 : (match Tryd.f111.body with | some c => codeB [0] c | none => false) = true := by kernel_rfl
theorem fok111 : FnOk Tryd.prog [0] 111 ⟨168, c111, [.tmp 8, .tmp 9]⟩ := FnOk.by Tryd.func111 b111 p111 Tryd.ntmps111 (by rw [Tryd.results111]) (by kernel_rfl)
theorem b112 : (match Tryd.f112.body with | some c => rcOf c c112 | none => none) = some c112 := by kernel_rfl
theorem p112 : (match Tryd.f112.body with | some c => codeB [0] c | none => false) = true := by kernel_rfl
theorem fok112 : FnOk Tryd.prog [0] 112 ⟨19, c112, [.tmp 2]⟩ := FnOk.by Tryd.func112 b112 p112 Tryd.ntmps112 (by rw [Tryd.results112]) (by kernel_rfl)
theorem b113 : (match Tryd.f113.body with | some c => rcOf c c113 | none => none) = some c113 := by kernel_rfl
theorem p113 : (match Tryd.f113.body with | some c => codeB [0] c | none => false) = true := by kernel_rfl
theorem fok113 : FnOk Tryd.prog [0] 113 ⟨25, c113, [.tmp 2]⟩ := FnOk.by Tryd.func113 b113 p113 Tryd.ntmps113 (by rw [Tryd.results113]) (by kernel_rfl)
theorem b122 : (match Tryd.f122.body with | some c => rcOf c c122 | none => none) = some c122 := by kernel_rfl
theorem p122 : (match Tryd.f122.body with | some c => codeB [0] c | none => false) = true := by kernel_rfl
theorem fok122 : FnOk Tryd.prog [0] 122 ⟨76, c122, []⟩ := FnOk.by Tryd.func122 b122 p122 Tryd.ntmps122 (by rw [Tryd.results122]) (by kernel_rfl)
theorem b123 : (match Tryd.f123.body with | some c => rcOf c c123 | none => none) = some c123 := by kernel_rfl
theorem p123 : (match Tryd.f123.body with | some c => codeB [0] c | none => false) = true := by kernel_rfl
theorem fok123 : FnOk Tryd.prog [0] 123 ⟨7, c123, [.tmp 2]⟩ := FnOk.by Tryd.func123 b123 p123 Tryd.ntmps123 (by rw [Tryd.results123]) (by kernel_rfl)
theorem b124 : (match Tryd.f124.body with | some c => rcOf c c124 | none => none) = some c124 := by kernel_rfl
theorem p124 : (match Tryd.f124.body with | some c => codeB [0] c | none => false) = true := by kernel_rfl
theorem fok124 : FnOk Tryd.prog [0] 124 ⟨33, c124, [.tmp 2]⟩ := FnOk.by Tryd.func124 b124 p124 Tryd.ntmps124 (by rw [Tryd.results124]) (by kernel_rfl)
theorem b125 : (match Tryd.f125.body with | some c => rcOf c c125 | none => none) = some c125 := by kernel_rfl
theorem p125 : (match Tryd.f125.body with | some c => codeB [0] c | none => false) = true := by kernel_rfl
theorem fok125 : FnOk Tryd.prog [0] 125 ⟨15, c125, [.tmp 6]⟩ := FnOk.by Tryd.func125 b125 p125 Tryd.ntmps125 (by rw [Tryd.results125]) (by kernel_rfl)
theorem b126 : (match Tryd.f126.body with | some c => rcOf c c126 | none => none) = some c126 := by kernel_rfl
theorem p126 : (match Tryd.f126.body with | some c => codeB [0] c | none => false) = true := by kernel_rfl
theorem fok126 : FnOk Tryd.prog [0] 126 ⟨36, c126, [.tmp 10]⟩ := FnOk.by Tryd.func126 b126 p126 Tryd.ntmps126 (by rw [Tryd.results126]) (by kernel_rfl)
theorem b130 : (match Tryd.f130.body with | some c => rcOf c c130 | none => none) = some c130 := by kernel_rfl
theorem p130 : (match Tryd.f130.body with | some c => codeB [0] c | none => false) = true := by kernel_rfl
theorem fok130 : FnOk Tryd.prog [0] 130 ⟨28, c130, [.tmp 8, .tmp 9]⟩ := FnOk.by Tryd.func130 b130 p130 Tryd.ntmps130 (by rw [Tryd.results130]) (by kernel_rfl)
end Go.Proofs.YtcjocjoaphpclaaDoor.TableK
