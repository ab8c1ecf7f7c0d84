/- Made from wip. -/
import Derived.Test.YtkhedoaiejjcfaaHvRSamex

set_option maxRecDepth 100000
set_option maxHeartbeats 0
namespace Go.HvRM
open Go Go.Sp Go.HvR Go.HpT
theorem worksRun:valR (evB 5 []) = some (.bool true):=by kernel_rfl
theorem dec_1:mapL (fun p=>onC [cv p] fun q=>some q) (pts 1 1 1) = mapL (fun p=>some p) (pts 1 1 1):=by kernel_rfl
theorem dec_2:mapL (fun p=>onC [cv p] fun q=>some q) (pts 2 2 2) = mapL (fun p=>some p) (pts 2 2 2):=by kernel_rfl
theorem dec_3:mapL (fun p=>onC [cv p] fun q=>some q) (pts 3 3 3) = mapL (fun p=>some p) (pts 3 3 3):=by kernel_rfl
theorem dec_4:mapL (fun p=>onC [cv p] fun q=>some q) (pts 4 4 4) = mapL (fun p=>some p) (pts 4 4 4):=by kernel_rfl
theorem dec_5:mapL (fun p=>onC [cv p] fun q=>some q) (pts 5 5 5) = mapL (fun p=>some p) (pts 5 5 5):=by kernel_rfl
theorem dec_6:mapL (fun p=>onC [cv p] fun q=>some q) (pts 6 6 6) = mapL (fun p=>some p) (pts 6 6 6):=by kernel_rfl
theorem dec_7:mapL (fun p=>onC [cv p] fun q=>some q) (pts 7 7 7) = mapL (fun p=>some p) (pts 7 7 7):=by kernel_rfl
theorem dec_8:mapL (fun p=>onC [cv p] fun q=>some q) (pts 8 8 8) = mapL (fun p=>some p) (pts 8 8 8):=by kernel_rfl
theorem dec_9:mapL (fun p=>onC [cv p] fun q=>some q) (pts 9 9 9) = mapL (fun p=>some p) (pts 9 9 9):=by kernel_rfl
theorem dec_10:mapL (fun p=>onC [cv p] fun q=>some q) (pts 10 10 10) = mapL (fun p=>some p) (pts 10 10 10):=by kernel_rfl
theorem dec_11:mapL (fun p=>onC [cv p] fun q=>some q) (pts 11 11 11) = mapL (fun p=>some p) (pts 11 11 11):=by kernel_rfl
theorem dec_12:mapL (fun p=>onC [cv p] fun q=>some q) (pts 12 12 12) = mapL (fun p=>some p) (pts 12 12 12):=by kernel_rfl
theorem dec_13:mapL (fun p=>onC [cv p] fun q=>some q) (pts 13 13 13) = mapL (fun p=>some p) (pts 13 13 13):=by kernel_rfl
theorem dec_14:mapL (fun p=>onC [cv p] fun q=>some q) (pts 14 14 14) = mapL (fun p=>some p) (pts 14 14 14):=by kernel_rfl
theorem rix_1:allL (fun p=>Nat.blt (ringIx p) 1) (pts 1 1 1) = true:=by kernel_rfl
theorem rix_2:allL (fun p=>Nat.blt (ringIx p) 1) (pts 2 2 2) = true:=by kernel_rfl
theorem rix_3:allL (fun p=>Nat.blt (ringIx p) 1) (pts 3 3 3) = true:=by kernel_rfl
theorem rix_4:allL (fun p=>Nat.blt (ringIx p) 1) (pts 4 4 4) = true:=by kernel_rfl
theorem rix_5:allL (fun p=>Nat.blt (ringIx p) 1) (pts 5 5 5) = true:=by kernel_rfl
theorem rix_6:allL (fun p=>Nat.blt (ringIx p) 1) (pts 6 6 6) = true:=by kernel_rfl
theorem rix_7:allL (fun p=>Nat.blt (ringIx p) 1) (pts 7 7 7) = true:=by kernel_rfl
theorem rix_8:allL (fun p=>Nat.blt (ringIx p) 2) (pts 8 8 8) = true:=by kernel_rfl
theorem rix_9:allL (fun p=>Nat.blt (ringIx p) 1) (pts 9 9 9) = true:=by kernel_rfl
theorem rix_10:allL (fun p=>Nat.blt (ringIx p) 1) (pts 10 10 10) = true:=by kernel_rfl
theorem rix_11:allL (fun p=>Nat.blt (ringIx p) 1) (pts 11 11 11) = true:=by kernel_rfl
theorem rix_12:allL (fun p=>Nat.blt (ringIx p) 2) (pts 12 12 12) = true:=by kernel_rfl
theorem rix_13:allL (fun p=>Nat.blt (ringIx p) 2) (pts 13 13 13) = true:=by kernel_rfl
theorem rix_14:allL (fun p=>Nat.blt (ringIx p) 1) (pts 14 14 14) = true:=by kernel_rfl
theorem e24_1:mapL (fun p=>pu0 24 [sv p]) (pts 1 1 1) = mapL (fun p=>some (cv p)) (pts 1 1 1):=by kernel_rfl
theorem e24_2:mapL (fun p=>pu0 24 [sv p]) (pts 2 2 2) = mapL (fun p=>some (cv p)) (pts 2 2 2):=by kernel_rfl
theorem e24_3:mapL (fun p=>pu0 24 [sv p]) (pts 3 3 3) = mapL (fun p=>some (cv p)) (pts 3 3 3):=by kernel_rfl
theorem e24_4:mapL (fun p=>pu0 24 [sv p]) (pts 4 4 4) = mapL (fun p=>some (cv p)) (pts 4 4 4):=by kernel_rfl
theorem e24_5:mapL (fun p=>pu0 24 [sv p]) (pts 5 5 5) = mapL (fun p=>some (cv p)) (pts 5 5 5):=by kernel_rfl
theorem e24_6:mapL (fun p=>pu0 24 [sv p]) (pts 6 6 6) = mapL (fun p=>some (cv p)) (pts 6 6 6):=by kernel_rfl
theorem e24_7:mapL (fun p=>pu0 24 [sv p]) (pts 7 7 7) = mapL (fun p=>some (cv p)) (pts 7 7 7):=by kernel_rfl
theorem e24_8:mapL (fun p=>pu0 24 [sv p]) (pts 8 8 8) = mapL (fun p=>some (cv p)) (pts 8 8 8):=by kernel_rfl
theorem e24_9:mapL (fun p=>pu0 24 [sv p]) (pts 9 9 9) = mapL (fun p=>some (cv p)) (pts 9 9 9):=by kernel_rfl
theorem e24_10:mapL (fun p=>pu0 24 [sv p]) (pts 10 10 10) = mapL (fun p=>some (cv p)) (pts 10 10 10):=by kernel_rfl
theorem e24_11:mapL (fun p=>pu0 24 [sv p]) (pts 11 11 11) = mapL (fun p=>some (cv p)) (pts 11 11 11):=by kernel_rfl
theorem e24_12:mapL (fun p=>pu0 24 [sv p]) (pts 12 12 12) = mapL (fun p=>some (cv p)) (pts 12 12 12):=by kernel_rfl
theorem e24_13:mapL (fun p=>pu0 24 [sv p]) (pts 13 13 13) = mapL (fun p=>some (cv p)) (pts 13 13 13):=by kernel_rfl
theorem e24_14:mapL (fun p=>pu0 24 [sv p]) (pts 14 14 14) = mapL (fun p=>some (cv p)) (pts 14 14 14):=by kernel_rfl
theorem e57_1:mapL (fun p=>pu0 57 [sv p]) (pts 1 1 1) = mapL (fun p=>some (sv (rnd p))) (pts 1 1 1):=by kernel_rfl
theorem e57_2:mapL (fun p=>pu0 57 [sv p]) (pts 2 2 2) = mapL (fun p=>some (sv (rnd p))) (pts 2 2 2):=by kernel_rfl
theorem e57_3:mapL (fun p=>pu0 57 [sv p]) (pts 3 3 3) = mapL (fun p=>some (sv (rnd p))) (pts 3 3 3):=by kernel_rfl
theorem e57_4:mapL (fun p=>pu0 57 [sv p]) (pts 4 4 4) = mapL (fun p=>some (sv (rnd p))) (pts 4 4 4):=by kernel_rfl
theorem e57_5:mapL (fun p=>pu0 57 [sv p]) (pts 5 5 5) = mapL (fun p=>some (sv (rnd p))) (pts 5 5 5):=by kernel_rfl
theorem e57_6:mapL (fun p=>pu0 57 [sv p]) (pts 6 6 6) = mapL (fun p=>some (sv (rnd p))) (pts 6 6 6):=by kernel_rfl
theorem e57_7:mapL (fun p=>pu0 57 [sv p]) (pts 7 7 7) = mapL (fun p=>some (sv (rnd p))) (pts 7 7 7):=by kernel_rfl
theorem e57_8:mapL (fun p=>pu0 57 [sv p]) (pts 8 8 8) = mapL (fun p=>some (sv (rnd p))) (pts 8 8 8):=by kernel_rfl
theorem e57_9:mapL (fun p=>pu0 57 [sv p]) (pts 9 9 9) = mapL (fun p=>some (sv (rnd p))) (pts 9 9 9):=by kernel_rfl
theorem e57_10:mapL (fun p=>pu0 57 [sv p]) (pts 10 10 10) = mapL (fun p=>some (sv (rnd p))) (pts 10 10 10):=by kernel_rfl
theorem e57_11:mapL (fun p=>pu0 57 [sv p]) (pts 11 11 11) = mapL (fun p=>some (sv (rnd p))) (pts 11 11 11):=by kernel_rfl
theorem e57_12:mapL (fun p=>pu0 57 [sv p]) (pts 12 12 12) = mapL (fun p=>some (sv (rnd p))) (pts 12 12 12):=by kernel_rfl
theorem e57_13:mapL (fun p=>pu0 57 [sv p]) (pts 13 13 13) = mapL (fun p=>some (sv (rnd p))) (pts 13 13 13):=by kernel_rfl
theorem e57_14:mapL (fun p=>pu0 57 [sv p]) (pts 14 14 14) = mapL (fun p=>some (sv (rnd p))) (pts 14 14 14):=by kernel_rfl
theorem e44_1:mapL (fun p=>m44 puA 1000000 [sv p]) (pts 1 1 1) = mapL (fun p=>some (.bool (ret p))) (pts 1 1 1):=by kernel_rfl
theorem e44_2:mapL (fun p=>m44 puA 1000000 [sv p]) (pts 2 2 2) = mapL (fun p=>some (.bool (ret p))) (pts 2 2 2):=by kernel_rfl
theorem e44_3:mapL (fun p=>m44 puA 1000000 [sv p]) (pts 3 3 3) = mapL (fun p=>some (.bool (ret p))) (pts 3 3 3):=by kernel_rfl
theorem e44_4:mapL (fun p=>m44 puA 1000000 [sv p]) (pts 4 4 4) = mapL (fun p=>some (.bool (ret p))) (pts 4 4 4):=by kernel_rfl
theorem e44_5:mapL (fun p=>m44 puA 1000000 [sv p]) (pts 5 5 5) = mapL (fun p=>some (.bool (ret p))) (pts 5 5 5):=by kernel_rfl
theorem e44_6:mapL (fun p=>m44 puA 1000000 [sv p]) (pts 6 6 6) = mapL (fun p=>some (.bool (ret p))) (pts 6 6 6):=by kernel_rfl
theorem e44_7:mapL (fun p=>m44 puA 1000000 [sv p]) (pts 7 7 7) = mapL (fun p=>some (.bool (ret p))) (pts 7 7 7):=by kernel_rfl
theorem e44_8:mapL (fun p=>m44 puA 1000000 [sv p]) (pts 8 8 8) = mapL (fun p=>some (.bool (ret p))) (pts 8 8 8):=by kernel_rfl
theorem e44_9:mapL (fun p=>m44 puA 1000000 [sv p]) (pts 9 9 9) = mapL (fun p=>some (.bool (ret p))) (pts 9 9 9):=by kernel_rfl
theorem e44_10:mapL (fun p=>m44 puA 1000000 [sv p]) (pts 10 10 10) = mapL (fun p=>some (.bool (ret p))) (pts 10 10 10):=by kernel_rfl
theorem e44_11:mapL (fun p=>m44 puA 1000000 [sv p]) (pts 11 11 11) = mapL (fun p=>some (.bool (ret p))) (pts 11 11 11):=by kernel_rfl
theorem e44_12:mapL (fun p=>m44 puA 1000000 [sv p]) (pts 12 12 12) = mapL (fun p=>some (.bool (ret p))) (pts 12 12 12):=by kernel_rfl
theorem e44_13:mapL (fun p=>m44 puA 1000000 [sv p]) (pts 13 13 13) = mapL (fun p=>some (.bool (ret p))) (pts 13 13 13):=by kernel_rfl
theorem e44_14:mapL (fun p=>m44 puA 1000000 [sv p]) (pts 14 14 14) = mapL (fun p=>some (.bool (ret p))) (pts 14 14 14):=by kernel_rfl
end Go.HvRM
