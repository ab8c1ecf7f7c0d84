/- Made from wip. -/
import Derived.Test.YtkhedoaiejjcfaaGreatHzSDefx

set_option maxRecDepth 100000
set_option maxHeartbeats 0
namespace Go.HzSM
open Go Go.Sp Go.HzS Go.HpT Go.HtM Go.HyM
theorem dec_1:mapL (fun p=>onC [cv p] fun q=>some q) (pts 1 1 1) = mapL (fun p=>some p) (pts 1 1 1):=by kernel_rfl
theorem dec_2:mapL (fun p=>onC [cv p] fun q=>some q) (pts 2 2 2) = mapL (fun p=>some p) (pts 2 2 2):=by kernel_rfl
theorem dec_3:mapL (fun p=>onC [cv p] fun q=>some q) (pts 3 3 3) = mapL (fun p=>some p) (pts 3 3 3):=by kernel_rfl
theorem dec_4:mapL (fun p=>onC [cv p] fun q=>some q) (pts 4 4 4) = mapL (fun p=>some p) (pts 4 4 4):=by kernel_rfl
theorem dec_5:mapL (fun p=>onC [cv p] fun q=>some q) (pts 5 5 5) = mapL (fun p=>some p) (pts 5 5 5):=by kernel_rfl
theorem dec_6:mapL (fun p=>onC [cv p] fun q=>some q) (pts 6 6 6) = mapL (fun p=>some p) (pts 6 6 6):=by kernel_rfl
theorem dec_7:mapL (fun p=>onC [cv p] fun q=>some q) (pts 7 7 7) = mapL (fun p=>some p) (pts 7 7 7):=by kernel_rfl
theorem dec_8:mapL (fun p=>onC [cv p] fun q=>some q) (pts 8 8 8) = mapL (fun p=>some p) (pts 8 8 8):=by kernel_rfl
theorem dec_9:mapL (fun p=>onC [cv p] fun q=>some q) (pts 9 9 9) = mapL (fun p=>some p) (pts 9 9 9):=by kernel_rfl
theorem dec_10:mapL (fun p=>onC [cv p] fun q=>some q) (pts 10 10 10) = mapL (fun p=>some p) (pts 10 10 10):=by kernel_rfl
theorem dec_11:mapL (fun p=>onC [cv p] fun q=>some q) (pts 11 11 11) = mapL (fun p=>some p) (pts 11 11 11):=by kernel_rfl
theorem dec_12:mapL (fun p=>onC [cv p] fun q=>some q) (pts 12 12 12) = mapL (fun p=>some p) (pts 12 12 12):=by kernel_rfl
theorem e27_1:mapL (fun p=>pu0 27 [sv p]) (pts 1 1 1) = mapL (fun p=>some (Value.int .i64 0)) (pts 1 1 1):=by kernel_rfl
theorem e27_2:mapL (fun p=>pu0 27 [sv p]) (pts 2 2 2) = mapL (fun p=>some (Value.int .i64 0)) (pts 2 2 2):=by kernel_rfl
theorem e27_3:mapL (fun p=>pu0 27 [sv p]) (pts 3 3 3) = mapL (fun p=>some (Value.int .i64 0)) (pts 3 3 3):=by kernel_rfl
theorem e27_4:mapL (fun p=>pu0 27 [sv p]) (pts 4 4 4) = mapL (fun p=>some (Value.int .i64 0)) (pts 4 4 4):=by kernel_rfl
theorem e27_5:mapL (fun p=>pu0 27 [sv p]) (pts 5 5 5) = mapL (fun p=>some (Value.int .i64 0)) (pts 5 5 5):=by kernel_rfl
theorem e27_6:mapL (fun p=>pu0 27 [sv p]) (pts 6 6 6) = mapL (fun p=>some (Value.int .i64 0)) (pts 6 6 6):=by kernel_rfl
theorem e27_7:mapL (fun p=>pu0 27 [sv p]) (pts 7 7 7) = mapL (fun p=>some (Value.int .i64 0)) (pts 7 7 7):=by kernel_rfl
theorem e27_8:mapL (fun p=>pu0 27 [sv p]) (pts 8 8 8) = mapL (fun p=>some (Value.int .i64 0)) (pts 8 8 8):=by kernel_rfl
theorem e27_9:mapL (fun p=>pu0 27 [sv p]) (pts 9 9 9) = mapL (fun p=>some (Value.int .i64 0)) (pts 9 9 9):=by kernel_rfl
theorem e27_10:mapL (fun p=>pu0 27 [sv p]) (pts 10 10 10) = mapL (fun p=>some (Value.int .i64 0)) (pts 10 10 10):=by kernel_rfl
theorem e27_11:mapL (fun p=>pu0 27 [sv p]) (pts 11 11 11) = mapL (fun p=>some (Value.int .i64 0)) (pts 11 11 11):=by kernel_rfl
theorem e27_12:mapL (fun p=>pu0 27 [sv p]) (pts 12 12 12) = mapL (fun p=>some (Value.int .i64 0)) (pts 12 12 12):=by kernel_rfl
theorem e28_1:mapL (fun p=>pu0 28 [sv p]) (pts 1 1 1) = mapL (fun p=>some (cv p)) (pts 1 1 1):=by kernel_rfl
theorem e28_2:mapL (fun p=>pu0 28 [sv p]) (pts 2 2 2) = mapL (fun p=>some (cv p)) (pts 2 2 2):=by kernel_rfl
theorem e28_3:mapL (fun p=>pu0 28 [sv p]) (pts 3 3 3) = mapL (fun p=>some (cv p)) (pts 3 3 3):=by kernel_rfl
theorem e28_4:mapL (fun p=>pu0 28 [sv p]) (pts 4 4 4) = mapL (fun p=>some (cv p)) (pts 4 4 4):=by kernel_rfl
theorem e28_5:mapL (fun p=>pu0 28 [sv p]) (pts 5 5 5) = mapL (fun p=>some (cv p)) (pts 5 5 5):=by kernel_rfl
theorem e28_6:mapL (fun p=>pu0 28 [sv p]) (pts 6 6 6) = mapL (fun p=>some (cv p)) (pts 6 6 6):=by kernel_rfl
theorem e28_7:mapL (fun p=>pu0 28 [sv p]) (pts 7 7 7) = mapL (fun p=>some (cv p)) (pts 7 7 7):=by kernel_rfl
theorem e28_8:mapL (fun p=>pu0 28 [sv p]) (pts 8 8 8) = mapL (fun p=>some (cv p)) (pts 8 8 8):=by kernel_rfl
theorem e28_9:mapL (fun p=>pu0 28 [sv p]) (pts 9 9 9) = mapL (fun p=>some (cv p)) (pts 9 9 9):=by kernel_rfl
theorem e28_10:mapL (fun p=>pu0 28 [sv p]) (pts 10 10 10) = mapL (fun p=>some (cv p)) (pts 10 10 10):=by kernel_rfl
theorem e28_11:mapL (fun p=>pu0 28 [sv p]) (pts 11 11 11) = mapL (fun p=>some (cv p)) (pts 11 11 11):=by kernel_rfl
theorem e28_12:mapL (fun p=>pu0 28 [sv p]) (pts 12 12 12) = mapL (fun p=>some (cv p)) (pts 12 12 12):=by kernel_rfl
theorem rix_1:allL (fun p=>Nat.blt (ringIx p) 1) (pts 1 1 1) = true:=by kernel_rfl
theorem rix_2:allL (fun p=>Nat.blt (ringIx p) 1) (pts 2 2 2) = true:=by kernel_rfl
theorem rix_3:allL (fun p=>Nat.blt (ringIx p) 1) (pts 3 3 3) = true:=by kernel_rfl
theorem rix_4:allL (fun p=>Nat.blt (ringIx p) 1) (pts 4 4 4) = true:=by kernel_rfl
theorem rix_5:allL (fun p=>Nat.blt (ringIx p) 1) (pts 5 5 5) = true:=by kernel_rfl
theorem rix_6:allL (fun p=>Nat.blt (ringIx p) 1) (pts 6 6 6) = true:=by kernel_rfl
theorem rix_7:allL (fun p=>Nat.blt (ringIx p) 1) (pts 7 7 7) = true:=by kernel_rfl
theorem rix_8:allL (fun p=>Nat.blt (ringIx p) 2) (pts 8 8 8) = true:=by kernel_rfl
theorem rix_9:allL (fun p=>Nat.blt (ringIx p) 1) (pts 9 9 9) = true:=by kernel_rfl
theorem rix_10:allL (fun p=>Nat.blt (ringIx p) 1) (pts 10 10 10) = true:=by kernel_rfl
theorem rix_11:allL (fun p=>Nat.blt (ringIx p) 1) (pts 11 11 11) = true:=by kernel_rfl
theorem rix_12:allL (fun p=>Nat.blt (ringIx p) 2) (pts 12 12 12) = true:=by kernel_rfl
end Go.HzSM
