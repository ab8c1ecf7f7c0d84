/- Made from wip. -/
import Derived.Test.YtkhedoaiejjcfaaHvRSamex

set_option maxRecDepth 100000
set_option maxHeartbeats 0
namespace Go.HvRM
open Go Go.Sp Go.HvR Go.HpT
theorem e56_1:mapL (fun p=>m56 puB 1000000 [sv p]) (pts 1 1 1) = mapL (fun p=>some (untS p)) (pts 1 1 1):=by kernel_rfl
theorem e56_2:mapL (fun p=>m56 puB 1000000 [sv p]) (pts 2 2 2) = mapL (fun p=>some (untS p)) (pts 2 2 2):=by kernel_rfl
theorem e56_3:mapL (fun p=>m56 puB 1000000 [sv p]) (pts 3 3 3) = mapL (fun p=>some (untS p)) (pts 3 3 3):=by kernel_rfl
theorem e56_4:mapL (fun p=>m56 puB 1000000 [sv p]) (pts 4 4 4) = mapL (fun p=>some (untS p)) (pts 4 4 4):=by kernel_rfl
theorem e56_5:mapL (fun p=>m56 puB 1000000 [sv p]) (pts 5 5 5) = mapL (fun p=>some (untS p)) (pts 5 5 5):=by kernel_rfl
theorem e56_6:mapL (fun p=>m56 puB 1000000 [sv p]) (pts 6 6 6) = mapL (fun p=>some (untS p)) (pts 6 6 6):=by kernel_rfl
theorem e56_7:mapL (fun p=>m56 puB 1000000 [sv p]) (pts 7 7 7) = mapL (fun p=>some (untS p)) (pts 7 7 7):=by kernel_rfl
theorem e56_8:mapL (fun p=>m56 puB 1000000 [sv p]) (pts 8 8 8) = mapL (fun p=>some (untS p)) (pts 8 8 8):=by kernel_rfl
theorem e56_9:mapL (fun p=>m56 puB 1000000 [sv p]) (pts 9 9 9) = mapL (fun p=>some (untS p)) (pts 9 9 9):=by kernel_rfl
theorem e56_10:mapL (fun p=>m56 puB 1000000 [sv p]) (pts 10 10 10) = mapL (fun p=>some (untS p)) (pts 10 10 10):=by kernel_rfl
theorem e56_11:mapL (fun p=>m56 puB 1000000 [sv p]) (pts 11 11 11) = mapL (fun p=>some (untS p)) (pts 11 11 11):=by kernel_rfl
theorem e56_12:mapL (fun p=>m56 puB 1000000 [sv p]) (pts 12 12 12) = mapL (fun p=>some (untS p)) (pts 12 12 12):=by kernel_rfl
theorem e56_13:mapL (fun p=>m56 puB 1000000 [sv p]) (pts 13 13 13) = mapL (fun p=>some (untS p)) (pts 13 13 13):=by kernel_rfl
theorem e56_14:mapL (fun p=>m56 puB 1000000 [sv p]) (pts 14 14 14) = mapL (fun p=>some (untS p)) (pts 14 14 14):=by kernel_rfl
theorem e28_1:mapL (fun p=>m28 puC 1000000 [sv p]) (pts 1 1 1) = mapL (fun p=>some (Sl.v 1 (rSl (ringOf p)))) (pts 1 1 1):=by kernel_rfl
theorem e28_2:mapL (fun p=>m28 puC 1000000 [sv p]) (pts 2 2 2) = mapL (fun p=>some (Sl.v 1 (rSl (ringOf p)))) (pts 2 2 2):=by kernel_rfl
theorem e28_3:mapL (fun p=>m28 puC 1000000 [sv p]) (pts 3 3 3) = mapL (fun p=>some (Sl.v 1 (rSl (ringOf p)))) (pts 3 3 3):=by kernel_rfl
theorem e28_4:mapL (fun p=>m28 puC 1000000 [sv p]) (pts 4 4 4) = mapL (fun p=>some (Sl.v 1 (rSl (ringOf p)))) (pts 4 4 4):=by kernel_rfl
theorem e28_5:mapL (fun p=>m28 puC 1000000 [sv p]) (pts 5 5 5) = mapL (fun p=>some (Sl.v 1 (rSl (ringOf p)))) (pts 5 5 5):=by kernel_rfl
theorem e28_6:mapL (fun p=>m28 puC 1000000 [sv p]) (pts 6 6 6) = mapL (fun p=>some (Sl.v 1 (rSl (ringOf p)))) (pts 6 6 6):=by kernel_rfl
theorem e28_7:mapL (fun p=>m28 puC 1000000 [sv p]) (pts 7 7 7) = mapL (fun p=>some (Sl.v 1 (rSl (ringOf p)))) (pts 7 7 7):=by kernel_rfl
theorem e28_8:mapL (fun p=>m28 puC 1000000 [sv p]) (pts 8 8 8) = mapL (fun p=>some (Sl.v 1 (rSl (ringOf p)))) (pts 8 8 8):=by kernel_rfl
theorem e28_9:mapL (fun p=>m28 puC 1000000 [sv p]) (pts 9 9 9) = mapL (fun p=>some (Sl.v 1 (rSl (ringOf p)))) (pts 9 9 9):=by kernel_rfl
theorem e28_10:mapL (fun p=>m28 puC 1000000 [sv p]) (pts 10 10 10) = mapL (fun p=>some (Sl.v 1 (rSl (ringOf p)))) (pts 10 10 10):=by kernel_rfl
theorem e28_11:mapL (fun p=>m28 puC 1000000 [sv p]) (pts 11 11 11) = mapL (fun p=>some (Sl.v 1 (rSl (ringOf p)))) (pts 11 11 11):=by kernel_rfl
theorem e28_12:mapL (fun p=>m28 puC 1000000 [sv p]) (pts 12 12 12) = mapL (fun p=>some (Sl.v 1 (rSl (ringOf p)))) (pts 12 12 12):=by kernel_rfl
theorem e28_13:mapL (fun p=>m28 puC 1000000 [sv p]) (pts 13 13 13) = mapL (fun p=>some (Sl.v 1 (rSl (ringOf p)))) (pts 13 13 13):=by kernel_rfl
theorem e28_14:mapL (fun p=>m28 puC 1000000 [sv p]) (pts 14 14 14) = mapL (fun p=>some (Sl.v 1 (rSl (ringOf p)))) (pts 14 14 14):=by kernel_rfl
theorem e29_1:pu0 29 [.int .i64 (.ofNat 1),.int .i64 21] = some eV1:=by kernel_rfl
theorem e29_2:pu0 29 [.int .i64 (.ofNat 2),.int .i64 21] = some eV2:=by kernel_rfl
theorem e29_3:pu0 29 [.int .i64 (.ofNat 3),.int .i64 21] = some eV3:=by kernel_rfl
theorem e29_4:pu0 29 [.int .i64 (.ofNat 4),.int .i64 21] = some eV4:=by kernel_rfl
theorem e29_5:pu0 29 [.int .i64 (.ofNat 5),.int .i64 21] = some eV5:=by kernel_rfl
theorem e29_6:pu0 29 [.int .i64 (.ofNat 6),.int .i64 21] = some eV6:=by kernel_rfl
theorem e29_7:pu0 29 [.int .i64 (.ofNat 7),.int .i64 21] = some eV7:=by kernel_rfl
theorem e29_8:pu0 29 [.int .i64 (.ofNat 8),.int .i64 21] = some eV8:=by kernel_rfl
theorem e29_9:pu0 29 [.int .i64 (.ofNat 9),.int .i64 21] = some eV9:=by kernel_rfl
theorem e29_10:pu0 29 [.int .i64 (.ofNat 10),.int .i64 21] = some eV10:=by kernel_rfl
theorem e29_11:pu0 29 [.int .i64 (.ofNat 11),.int .i64 21] = some eV11:=by kernel_rfl
theorem e29_12:pu0 29 [.int .i64 (.ofNat 12),.int .i64 21] = some eV12:=by kernel_rfl
theorem e29_13:pu0 29 [.int .i64 (.ofNat 13),.int .i64 21] = some eV13:=by kernel_rfl
theorem e29_14:pu0 29 [.int .i64 (.ofNat 14),.int .i64 21] = some eV14:=by kernel_rfl
theorem e7_1:mapL (fun p=>m7 puD 1000000 [sv p]) (pts 1 1 1) = mapL (fun p=>some (cntAt (sumL p) (ringIx p))) (pts 1 1 1):=by kernel_rfl
theorem e7_2:mapL (fun p=>m7 puD 1000000 [sv p]) (pts 2 2 2) = mapL (fun p=>some (cntAt (sumL p) (ringIx p))) (pts 2 2 2):=by kernel_rfl
theorem e7_3:mapL (fun p=>m7 puD 1000000 [sv p]) (pts 3 3 3) = mapL (fun p=>some (cntAt (sumL p) (ringIx p))) (pts 3 3 3):=by kernel_rfl
theorem e7_4:mapL (fun p=>m7 puD 1000000 [sv p]) (pts 4 4 4) = mapL (fun p=>some (cntAt (sumL p) (ringIx p))) (pts 4 4 4):=by kernel_rfl
theorem e7_5:mapL (fun p=>m7 puD 1000000 [sv p]) (pts 5 5 5) = mapL (fun p=>some (cntAt (sumL p) (ringIx p))) (pts 5 5 5):=by kernel_rfl
theorem e7_6:mapL (fun p=>m7 puD 1000000 [sv p]) (pts 6 6 6) = mapL (fun p=>some (cntAt (sumL p) (ringIx p))) (pts 6 6 6):=by kernel_rfl
theorem e7_7:mapL (fun p=>m7 puD 1000000 [sv p]) (pts 7 7 7) = mapL (fun p=>some (cntAt (sumL p) (ringIx p))) (pts 7 7 7):=by kernel_rfl
theorem e7_8:mapL (fun p=>m7 puD 1000000 [sv p]) (pts 8 8 8) = mapL (fun p=>some (cntAt (sumL p) (ringIx p))) (pts 8 8 8):=by kernel_rfl
theorem e7_9:mapL (fun p=>m7 puD 1000000 [sv p]) (pts 9 9 9) = mapL (fun p=>some (cntAt (sumL p) (ringIx p))) (pts 9 9 9):=by kernel_rfl
theorem e7_10:mapL (fun p=>m7 puD 1000000 [sv p]) (pts 10 10 10) = mapL (fun p=>some (cntAt (sumL p) (ringIx p))) (pts 10 10 10):=by kernel_rfl
theorem e7_11:mapL (fun p=>m7 puD 1000000 [sv p]) (pts 11 11 11) = mapL (fun p=>some (cntAt (sumL p) (ringIx p))) (pts 11 11 11):=by kernel_rfl
theorem e7_12:mapL (fun p=>m7 puD 1000000 [sv p]) (pts 12 12 12) = mapL (fun p=>some (cntAt (sumL p) (ringIx p))) (pts 12 12 12):=by kernel_rfl
theorem e7_13:mapL (fun p=>m7 puD 1000000 [sv p]) (pts 13 13 13) = mapL (fun p=>some (cntAt (sumL p) (ringIx p))) (pts 13 13 13):=by kernel_rfl
end Go.HvRM
