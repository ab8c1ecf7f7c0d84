/- Made from wip. -/
import Derived.Test.YtkhedoaiejjcfaaGreatHzSLaw2

set_option maxRecDepth 100000
set_option maxHeartbeats 0
namespace Go.HzSM
open Go Go.Sp Go.HzS Go.HpT Go.HtM Go.HyM
theorem law_1:mapL (fun p=>rest (slOf p)) (pts 1 1 1) = mapL (fun _=>some (Value.bool true)) (pts 1 1 1):=by kernel_rfl
theorem law_2:mapL (fun p=>rest (slOf p)) (pts 2 2 2) = mapL (fun _=>some (Value.bool true)) (pts 2 2 2):=by kernel_rfl
theorem law_3:mapL (fun p=>rest (slOf p)) (pts 3 3 3) = mapL (fun _=>some (Value.bool true)) (pts 3 3 3):=by kernel_rfl
theorem law_4:mapL (fun p=>rest (slOf p)) (pts 4 4 4) = mapL (fun _=>some (Value.bool true)) (pts 4 4 4):=by kernel_rfl
theorem law_5:mapL (fun p=>rest (slOf p)) (pts 5 5 5) = mapL (fun _=>some (Value.bool true)) (pts 5 5 5):=by kernel_rfl
theorem law_6:mapL (fun p=>rest (slOf p)) (pts 6 6 6) = mapL (fun _=>some (Value.bool true)) (pts 6 6 6):=by kernel_rfl
theorem law_7:mapL (fun p=>rest (slOf p)) (pts 7 7 7) = mapL (fun _=>some (Value.bool true)) (pts 7 7 7):=by kernel_rfl
theorem law_8:mapL (fun p=>rest (slOf p)) (pts 8 8 8) = mapL (fun _=>some (Value.bool true)) (pts 8 8 8):=by kernel_rfl
theorem law_9:mapL (fun p=>rest (slOf p)) (pts 9 9 9) = mapL (fun _=>some (Value.bool true)) (pts 9 9 9):=by kernel_rfl
end Go.HzSM
