/- Made from wip. -/
import Derived.Test.YtommhepgkaddaaaGreatHpYLaw2x

set_option maxRecDepth 100000
set_option maxHeartbeats 0
namespace Go.HpYM
open Go Go.Sp Go.HpY Go.HpT
theorem seen_1:allL seen (pts 1 1 1) = true:=by kernel_rfl
theorem seen_2:allL seen (pts 2 2 2) = true:=by kernel_rfl
theorem seen_3:allL seen (pts 3 3 3) = true:=by kernel_rfl
theorem seen_4:allL seen (pts 4 4 4) = true:=by kernel_rfl
theorem seen_5:allL seen (pts 5 5 5) = true:=by kernel_rfl
theorem seen_6:allL seen (pts 6 6 6) = true:=by kernel_rfl
theorem seen_7:allL seen (pts 7 7 7) = true:=by kernel_rfl
theorem seen_8:allL seen (pts 8 8 8) = true:=by kernel_rfl
theorem seen_9:allL seen (pts 9 9 9) = true:=by kernel_rfl
theorem seen_10:allL seen (pts 10 10 10) = true:=by kernel_rfl
theorem seen_11:allL seen (pts 11 11 11) = true:=by kernel_rfl
theorem seen_12:allL seen (pts 12 12 12) = true:=by kernel_rfl
theorem seen_13:allL seen (pts 13 13 13) = true:=by kernel_rfl
theorem seen_14:allL seen (pts 14 14 14) = true:=by kernel_rfl
theorem seen_15:allL seen (pts 15 15 15) = true:=by kernel_rfl
theorem seen_16:allL seen (pts 16 16 16) = true:=by kernel_rfl
theorem seen_17:allL seen (pts 17 17 17) = true:=by kernel_rfl
theorem seen_18:allL seen (pts 18 18 18) = true:=by kernel_rfl
theorem seen_19:allL seen (pts 19 19 19) = true:=by kernel_rfl
theorem seen_20:allL seen (pts 20 20 20) = true:=by kernel_rfl
theorem seen_21:allL seen (pts 21 21 21) = true:=by kernel_rfl
theorem ringa_1 (n:Nat):mapL (fun p=>puN (n + 9) 27 [cv p]) (retP 1) = mapL (fun p=>some (ringV p)) (retP 1):=by kernel_rfl
theorem seer_1:allL seenR (retP 1) = true:=by kernel_rfl
theorem ringa_2 (n:Nat):mapL (fun p=>puN (n + 9) 27 [cv p]) (retP 2) = mapL (fun p=>some (ringV p)) (retP 2):=by kernel_rfl
theorem seer_2:allL seenR (retP 2) = true:=by kernel_rfl
theorem ringa_3 (n:Nat):mapL (fun p=>puN (n + 9) 27 [cv p]) (retP 3) = mapL (fun p=>some (ringV p)) (retP 3):=by kernel_rfl
theorem seer_3:allL seenR (retP 3) = true:=by kernel_rfl
theorem ringa_4 (n:Nat):mapL (fun p=>puN (n + 9) 27 [cv p]) (retP 4) = mapL (fun p=>some (ringV p)) (retP 4):=by kernel_rfl
theorem seer_4:allL seenR (retP 4) = true:=by kernel_rfl
theorem ringa_5 (n:Nat):mapL (fun p=>puN (n + 9) 27 [cv p]) (retP 5) = mapL (fun p=>some (ringV p)) (retP 5):=by kernel_rfl
theorem seer_5:allL seenR (retP 5) = true:=by kernel_rfl
theorem ringa_6 (n:Nat):mapL (fun p=>puN (n + 9) 27 [cv p]) (retP 6) = mapL (fun p=>some (ringV p)) (retP 6):=by kernel_rfl
theorem seer_6:allL seenR (retP 6) = true:=by kernel_rfl
theorem ringa_7 (n:Nat):mapL (fun p=>puN (n + 9) 27 [cv p]) (retP 7) = mapL (fun p=>some (ringV p)) (retP 7):=by kernel_rfl
theorem seer_7:allL seenR (retP 7) = true:=by kernel_rfl
theorem ringa_8 (n:Nat):mapL (fun p=>puN (n + 9) 27 [cv p]) (retP 8) = mapL (fun p=>some (ringV p)) (retP 8):=by kernel_rfl
theorem seer_8:allL seenR (retP 8) = true:=by kernel_rfl
theorem ringa_9 (n:Nat):mapL (fun p=>puN (n + 9) 27 [cv p]) (retP 9) = mapL (fun p=>some (ringV p)) (retP 9):=by kernel_rfl
theorem seer_9:allL seenR (retP 9) = true:=by kernel_rfl
theorem ringa_10 (n:Nat):mapL (fun p=>puN (n + 9) 27 [cv p]) (retP 10) = mapL (fun p=>some (ringV p)) (retP 10):=by kernel_rfl
theorem seer_10:allL seenR (retP 10) = true:=by kernel_rfl
theorem ringa_11 (n:Nat):mapL (fun p=>puN (n + 9) 27 [cv p]) (retP 11) = mapL (fun p=>some (ringV p)) (retP 11):=by kernel_rfl
theorem seer_11:allL seenR (retP 11) = true:=by kernel_rfl
theorem ringa_12 (n:Nat):mapL (fun p=>puN (n + 9) 27 [cv p]) (retP 12) = mapL (fun p=>some (ringV p)) (retP 12):=by kernel_rfl
theorem seer_12:allL seenR (retP 12) = true:=by kernel_rfl
theorem ringa_13 (n:Nat):mapL (fun p=>puN (n + 9) 27 [cv p]) (retP 13) = mapL (fun p=>some (ringV p)) (retP 13):=by kernel_rfl
theorem seer_13:allL seenR (retP 13) = true:=by kernel_rfl
theorem ringa_14 (n:Nat):mapL (fun p=>puN (n + 9) 27 [cv p]) (retP 14) = mapL (fun p=>some (ringV p)) (retP 14):=by kernel_rfl
theorem seer_14:allL seenR (retP 14) = true:=by kernel_rfl
theorem ringa_15 (n:Nat):mapL (fun p=>puN (n + 9) 27 [cv p]) (retP 15) = mapL (fun p=>some (ringV p)) (retP 15):=by kernel_rfl
theorem seer_15:allL seenR (retP 15) = true:=by kernel_rfl
theorem ringa_16 (n:Nat):mapL (fun p=>puN (n + 9) 27 [cv p]) (retP 16) = mapL (fun p=>some (ringV p)) (retP 16):=by kernel_rfl
theorem seer_16:allL seenR (retP 16) = true:=by kernel_rfl
theorem ringa_17 (n:Nat):mapL (fun p=>puN (n + 9) 27 [cv p]) (retP 17) = mapL (fun p=>some (ringV p)) (retP 17):=by kernel_rfl
theorem seer_17:allL seenR (retP 17) = true:=by kernel_rfl
theorem ringa_18 (n:Nat):mapL (fun p=>puN (n + 9) 27 [cv p]) (retP 18) = mapL (fun p=>some (ringV p)) (retP 18):=by kernel_rfl
theorem seer_18:allL seenR (retP 18) = true:=by kernel_rfl
theorem ringa_19 (n:Nat):mapL (fun p=>puN (n + 9) 27 [cv p]) (retP 19) = mapL (fun p=>some (ringV p)) (retP 19):=by kernel_rfl
theorem seer_19:allL seenR (retP 19) = true:=by kernel_rfl
theorem ringa_20 (n:Nat):mapL (fun p=>puN (n + 9) 27 [cv p]) (retP 20) = mapL (fun p=>some (ringV p)) (retP 20):=by kernel_rfl
theorem seer_20:allL seenR (retP 20) = true:=by kernel_rfl
theorem ringa_21 (n:Nat):mapL (fun p=>puN (n + 9) 27 [cv p]) (retP 21) = mapL (fun p=>some (ringV p)) (retP 21):=by kernel_rfl
theorem seer_21:allL seenR (retP 21) = true:=by kernel_rfl
theorem stair_all (n:Nat):mapL (fun k=>puN (n + 6) 24 [.int .i64 (.ofNat k)]) (rngT 22) = mapL (fun k=>some (.tuple ⟨[.int .i64 (.ofNat (stair k)),.int .i64 (.ofNat (left k))]⟩)) (rngT 22):=by kernel_rfl
end Go.HpYM
