/- The slim code is the program's. MADE BY PROGRAM (wip/sp/gen2.lean). -/
import Derived.Test.YtgplhblofefkjaaDoorProg
import Derived.Test.YtgplhblofefkjaaDoorSpFlat
import Derived.Test.YtgplhblofefkjaaDoorSpTab
import Derived.Test.YtgplhblofefkjaaDoorMendKCode
set_option maxRecDepth 100000
namespace Go.Proofs.YtgplhblofefkjaaDoor.MendK
open Go Go.Sp Go.MendK
theorem b74 : (match Tryd.f74.body with | some c => rcOf c c74 | none => none) = some c74 := by kernel_rfl
theorem p74 : (match Tryd.f74.body with | some c => codeB [0] c | none => false) = true := by kernel_rfl
theorem fok74 : FnOk Tryd.prog [0] 74 ⟨8, c74, [.tmp 2]⟩ := FnOk.by Tryd.func74 b74 p74 Tryd.ntmps74 (by rw [Tryd.results74]) (by kernel_rfl)
theorem b75 : (match Tryd.f75.body with | some c => rcOf c c75 | none => none) = some c75 := by kernel_rfl
theorem p75 : (match Tryd.f75.body with | some c => codeB [0] c | none => false) = true := by kernel_rfl
theorem fok75 : FnOk Tryd.prog [0] 75 ⟨11, c75, [.tmp 2]⟩ := FnOk.by Tryd.func75 b75 p75 Tryd.ntmps75 (by rw [Tryd.results75]) (by kernel_rfl)
theorem b76 : (match Tryd.f76.body with | some c => rcOf c c76 | none => none) = some c76 := by kernel_rfl
theorem p76 : (match Tryd.f76.body with | some c => codeB [0] c | none => false) = true := by kernel_rfl
theorem fok76 : FnOk Tryd.prog [0] 76 ⟨8, c76, [.tmp 2]⟩ := FnOk.by Tryd.func76 b76 p76 Tryd.ntmps76 (by rw [Tryd.results76]) (by kernel_rfl)
theorem b77 : (match Tryd.f77.body with | some c => rcOf c c77 | none => none) = some c77 := by kernel_rfl
theorem p77 : (match Tryd.f77.body with | some c => codeB [0] c | none => false) = true := by kernel_rfl
theorem fok77 : FnOk Tryd.prog [0] 77 ⟨52, c77, [.tmp 4]⟩ := FnOk.by Tryd.func77 b77 p77 Tryd.ntmps77 (by rw [Tryd.results77]) (by kernel_rfl)
theorem b78 : (match Tryd.f78.body with | some c => rcOf c c78 | none => none) = some c78 := by kernel_rfl
theorem p78 : (match Tryd.f78.body with | some c => codeB [0] c | none => false) = true := by kernel_rfl
theorem fok78 : FnOk Tryd.prog [0] 78 ⟨94, c78, [.tmp 8]⟩ := FnOk.by Tryd.func78 b78 p78 Tryd.ntmps78 (by rw [Tryd.results78]) (by kernel_rfl)
theorem b80 : (match Tryd.f80.body with | some c => rcOf c c80 | none => none) = some c80 := by kernel_rfl
theorem p80 : (match Tryd.f80.body with | some c => codeB [0] c | none => false) = true := by kernel_rfl
theorem fok80 : FnOk Tryd.prog [0] 80 ⟨38, c80, [.tmp 4]⟩ := FnOk.by Tryd.func80 b80 p80 Tryd.ntmps80 (by rw [Tryd.results80]) (by kernel_rfl)
theorem b81 : (match Tryd.f81.body with | some c => rcOf c c81 | none => none) = some c81 := by kernel_rfl
theorem p81 : (match Tryd.f81.body with | some c => codeB [0] c | none => false) = true := by kernel_rfl
theorem fok81 : FnOk Tryd.prog [0] 81 ⟨9, c81, [.tmp 2]⟩ := FnOk.by Tryd.func81 b81 p81 Tryd.ntmps81 (by rw [Tryd.results81]) (by kernel_rfl)
end Go.Proofs.YtgplhblofefkjaaDoor.MendK
