/- Made from wip. -/
import Derived.Test.YtkhedoaiejjcfaaHvRSamex

set_option maxRecDepth 100000
set_option maxHeartbeats 0
namespace Go.HvRM
open Go Go.Sp Go.HvR Go.HpT
theorem e7_14:mapL (fun p=>m7 puD 1000000 [sv p]) (pts 14 14 14) = mapL (fun p=>some (cntAt (sumL p) (ringIx p))) (pts 14 14 14):=by kernel_rfl
theorem e9_1:m9 puD 1000000 [.int .i64 (.ofNat 1)] = some eG1:=by kernel_rfl
theorem e9_2:m9 puD 1000000 [.int .i64 (.ofNat 2)] = some eG2:=by kernel_rfl
theorem e9_3:m9 puD 1000000 [.int .i64 (.ofNat 3)] = some eG3:=by kernel_rfl
theorem e9_4:m9 puD 1000000 [.int .i64 (.ofNat 4)] = some eG4:=by kernel_rfl
theorem e9_5:m9 puD 1000000 [.int .i64 (.ofNat 5)] = some eG5:=by kernel_rfl
theorem e9_6:m9 puD 1000000 [.int .i64 (.ofNat 6)] = some eG6:=by kernel_rfl
theorem e9_7:m9 puD 1000000 [.int .i64 (.ofNat 7)] = some eG7:=by kernel_rfl
theorem e9_8:m9 puD 1000000 [.int .i64 (.ofNat 8)] = some eG8:=by kernel_rfl
theorem e9_9:m9 puD 1000000 [.int .i64 (.ofNat 9)] = some eG9:=by kernel_rfl
theorem e9_10:m9 puD 1000000 [.int .i64 (.ofNat 10)] = some eG10:=by kernel_rfl
theorem e9_11:m9 puD 1000000 [.int .i64 (.ofNat 11)] = some eG11:=by kernel_rfl
theorem e9_12:m9 puD 1000000 [.int .i64 (.ofNat 12)] = some eG12:=by kernel_rfl
theorem e9_13:m9 puD 1000000 [.int .i64 (.ofNat 13)] = some eG13:=by kernel_rfl
theorem e9_14:m9 puD 1000000 [.int .i64 (.ofNat 14)] = some eG14:=by kernel_rfl
theorem e9_0:m9 puD 1000000 [.int .i64 (.ofNat 0)] = some (.tuple ⟨[Sl.v 1 ⟨0,2,[]⟩,.int .i64 1]⟩):=by kernel_rfl
theorem e9_b (m:Nat):m9 puD 1000000 [.int .i64 (.ofNat (m + 22))] = some (.tuple ⟨[Sl.v 1 ⟨0,2,[]⟩,.int .i64 1]⟩):=by kernel_rfl
theorem e9_n (m:Nat):m9 puD 1000000 [.int .i64 (.negSucc m)] = some (.tuple ⟨[Sl.v 1 ⟨0,2,[]⟩,.int .i64 1]⟩):=by kernel_rfl
theorem e8_0:deepT 0 3 (evB 8 [.int .i64 (.ofNat 0)]) = some (.tuple ⟨[.slice none 0 0,.int .i64 1]⟩):=by kernel_rfl
theorem e8_b (m:Nat):deepT 0 3 (evB 8 [.int .i64 (.ofNat (m + 22))]) = some (.tuple ⟨[.slice none 0 0,.int .i64 1]⟩):=by kernel_rfl
theorem e8_n0:deepT 0 3 (evB 8 [.int .i64 (.negSucc 0)]) = some (.tuple ⟨[.slice none 0 0,.int .i64 1]⟩):=by kernel_rfl
theorem e8_n (m:Nat):deepT 0 3 (evB 8 [.int .i64 (.negSucc (m + 1))]) = some (.tuple ⟨[.slice none 0 0,.int .i64 1]⟩):=by kernel_rfl
theorem e8_1:deepT 0 3 (evB 8 [.int .i64 (.ofNat 1)]) = some eG1:=by kernel_rfl
theorem e8_2:deepT 0 3 (evB 8 [.int .i64 (.ofNat 2)]) = some eG2:=by kernel_rfl
theorem e8_3:deepT 0 3 (evB 8 [.int .i64 (.ofNat 3)]) = some eG3:=by kernel_rfl
theorem e8_4:deepT 0 3 (evB 8 [.int .i64 (.ofNat 4)]) = some eG4:=by kernel_rfl
theorem e8_5:deepT 0 3 (evB 8 [.int .i64 (.ofNat 5)]) = some eG5:=by kernel_rfl
theorem e8_6:deepT 0 3 (evB 8 [.int .i64 (.ofNat 6)]) = some eG6:=by kernel_rfl
theorem e8_7:deepT 0 3 (evB 8 [.int .i64 (.ofNat 7)]) = some eG7:=by kernel_rfl
theorem e8_8:deepT 0 3 (evB 8 [.int .i64 (.ofNat 8)]) = some eG8:=by kernel_rfl
theorem e8_9:deepT 0 3 (evB 8 [.int .i64 (.ofNat 9)]) = some eG9:=by kernel_rfl
theorem e8_10:deepT 0 3 (evB 8 [.int .i64 (.ofNat 10)]) = some eG10:=by kernel_rfl
theorem e8_11:deepT 0 3 (evB 8 [.int .i64 (.ofNat 11)]) = some eG11:=by kernel_rfl
theorem e8_12:deepT 0 3 (evB 8 [.int .i64 (.ofNat 12)]) = some eG12:=by kernel_rfl
theorem e8_13:deepT 0 3 (evB 8 [.int .i64 (.ofNat 13)]) = some eG13:=by kernel_rfl
theorem e8_14:deepT 0 3 (evB 8 [.int .i64 (.ofNat 14)]) = some eG14:=by kernel_rfl
theorem e47_1:mapL (fun p=>pu0 47 [cv p]) (pts 1 1 1) = mapL (fun p=>some (.bool (ret p))) (pts 1 1 1):=by kernel_rfl
theorem e47_2:mapL (fun p=>pu0 47 [cv p]) (pts 2 2 2) = mapL (fun p=>some (.bool (ret p))) (pts 2 2 2):=by kernel_rfl
theorem e47_3:mapL (fun p=>pu0 47 [cv p]) (pts 3 3 3) = mapL (fun p=>some (.bool (ret p))) (pts 3 3 3):=by kernel_rfl
theorem e47_4:mapL (fun p=>pu0 47 [cv p]) (pts 4 4 4) = mapL (fun p=>some (.bool (ret p))) (pts 4 4 4):=by kernel_rfl
theorem e47_5:mapL (fun p=>pu0 47 [cv p]) (pts 5 5 5) = mapL (fun p=>some (.bool (ret p))) (pts 5 5 5):=by kernel_rfl
theorem e47_6:mapL (fun p=>pu0 47 [cv p]) (pts 6 6 6) = mapL (fun p=>some (.bool (ret p))) (pts 6 6 6):=by kernel_rfl
theorem e47_7:mapL (fun p=>pu0 47 [cv p]) (pts 7 7 7) = mapL (fun p=>some (.bool (ret p))) (pts 7 7 7):=by kernel_rfl
theorem e47_8:mapL (fun p=>pu0 47 [cv p]) (pts 8 8 8) = mapL (fun p=>some (.bool (ret p))) (pts 8 8 8):=by kernel_rfl
theorem e47_9:mapL (fun p=>pu0 47 [cv p]) (pts 9 9 9) = mapL (fun p=>some (.bool (ret p))) (pts 9 9 9):=by kernel_rfl
theorem e47_10:mapL (fun p=>pu0 47 [cv p]) (pts 10 10 10) = mapL (fun p=>some (.bool (ret p))) (pts 10 10 10):=by kernel_rfl
theorem e47_11:mapL (fun p=>pu0 47 [cv p]) (pts 11 11 11) = mapL (fun p=>some (.bool (ret p))) (pts 11 11 11):=by kernel_rfl
theorem e47_12:mapL (fun p=>pu0 47 [cv p]) (pts 12 12 12) = mapL (fun p=>some (.bool (ret p))) (pts 12 12 12):=by kernel_rfl
theorem e47_13:mapL (fun p=>pu0 47 [cv p]) (pts 13 13 13) = mapL (fun p=>some (.bool (ret p))) (pts 13 13 13):=by kernel_rfl
theorem e47_14:mapL (fun p=>pu0 47 [cv p]) (pts 14 14 14) = mapL (fun p=>some (.bool (ret p))) (pts 14 14 14):=by kernel_rfl
end Go.HvRM
