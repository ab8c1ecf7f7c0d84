/- Made from wip. -/
import Derived.Test.YtkhedoaiejjcfaaHvRSamex

set_option maxRecDepth 100000
set_option maxHeartbeats 0
namespace Go.HvRM
open Go Go.Sp Go.HvR Go.HpT
theorem e26_1:mapL (fun p=>bb (nilL (aheadT p)) (valR (evB 26 [cv p])) (deepR 0 2 (evB 26 [cv p]))) (pts 1 1 1) = mapL (fun p=>some (aR p)) (pts 1 1 1):=by kernel_rfl
theorem e26_2:mapL (fun p=>bb (nilL (aheadT p)) (valR (evB 26 [cv p])) (deepR 0 2 (evB 26 [cv p]))) (pts 2 2 2) = mapL (fun p=>some (aR p)) (pts 2 2 2):=by kernel_rfl
theorem e26_3:mapL (fun p=>bb (nilL (aheadT p)) (valR (evB 26 [cv p])) (deepR 0 2 (evB 26 [cv p]))) (pts 3 3 3) = mapL (fun p=>some (aR p)) (pts 3 3 3):=by kernel_rfl
theorem e26_4:mapL (fun p=>bb (nilL (aheadT p)) (valR (evB 26 [cv p])) (deepR 0 2 (evB 26 [cv p]))) (pts 4 4 4) = mapL (fun p=>some (aR p)) (pts 4 4 4):=by kernel_rfl
theorem e26_5:mapL (fun p=>bb (nilL (aheadT p)) (valR (evB 26 [cv p])) (deepR 0 2 (evB 26 [cv p]))) (pts 5 5 5) = mapL (fun p=>some (aR p)) (pts 5 5 5):=by kernel_rfl
theorem e26_6:mapL (fun p=>bb (nilL (aheadT p)) (valR (evB 26 [cv p])) (deepR 0 2 (evB 26 [cv p]))) (pts 6 6 6) = mapL (fun p=>some (aR p)) (pts 6 6 6):=by kernel_rfl
theorem e26_7:mapL (fun p=>bb (nilL (aheadT p)) (valR (evB 26 [cv p])) (deepR 0 2 (evB 26 [cv p]))) (pts 7 7 7) = mapL (fun p=>some (aR p)) (pts 7 7 7):=by kernel_rfl
theorem e26_8:mapL (fun p=>bb (nilL (aheadT p)) (valR (evB 26 [cv p])) (deepR 0 2 (evB 26 [cv p]))) (pts 8 8 8) = mapL (fun p=>some (aR p)) (pts 8 8 8):=by kernel_rfl
theorem e26_9:mapL (fun p=>bb (nilL (aheadT p)) (valR (evB 26 [cv p])) (deepR 0 2 (evB 26 [cv p]))) (pts 9 9 9) = mapL (fun p=>some (aR p)) (pts 9 9 9):=by kernel_rfl
theorem e26_10:mapL (fun p=>bb (nilL (aheadT p)) (valR (evB 26 [cv p])) (deepR 0 2 (evB 26 [cv p]))) (pts 10 10 10) = mapL (fun p=>some (aR p)) (pts 10 10 10):=by kernel_rfl
theorem e26_11:mapL (fun p=>bb (nilL (aheadT p)) (valR (evB 26 [cv p])) (deepR 0 2 (evB 26 [cv p]))) (pts 11 11 11) = mapL (fun p=>some (aR p)) (pts 11 11 11):=by kernel_rfl
theorem e26_12:mapL (fun p=>bb (nilL (aheadT p)) (valR (evB 26 [cv p])) (deepR 0 2 (evB 26 [cv p]))) (pts 12 12 12) = mapL (fun p=>some (aR p)) (pts 12 12 12):=by kernel_rfl
end Go.HvRM
