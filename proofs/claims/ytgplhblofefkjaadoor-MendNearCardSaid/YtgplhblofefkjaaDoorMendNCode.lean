/- Slim code and types of the seat's program: MADE BY PROGRAM (wip/sp/Print.lean, gen2.lean). -/
import Derived.Test.YtgplhblofefkjaaDoorSpFramex

set_option maxRecDepth 100000
namespace Go.MendN
open Go.Sp
/-- spadille/spadillelaw09.MendNear -/
def c6 : RC :=
  .seq (.reg [] [
   ⟨(some 3), .box 24 (.tmp 0), 0, none, []⟩,
   ⟨(some 6), .assign (.const (.bool false)), 4, none, []⟩])
 (.seq (.seq (.reg [] [
   ⟨(some 20), .load 24 (.tmp 3), 24, none, []⟩,
   ⟨(some 21), .call ⟨.value (.func 14), #[(.tmp 20)], #[24]⟩, 4, none, []⟩])
 (.cond (.tmp 21) (.seq (.reg [] [
    ⟨(some 22), .call ⟨.value (.func 15), #[], #[]⟩, 4, none, []⟩,
    ⟨(some 6), .assign (.tmp 22), 4, none, []⟩])
  (.ret))
 (.skip)))
 (.seq (.reg [] [
   ⟨(some 23), .load 24 (.tmp 3), 24, none, []⟩,
   ⟨(some 7), .alloc 27, 0, none, []⟩,
   ⟨none, .store 27 (.tmp 7) (.tmp 23), 0, none, []⟩])
 (.seq (.reg [] [
   ⟨(some 25), .move (.tmp 1), 3, none, []⟩,
   ⟨(some 26), .move (.tmp 2), 3, none, []⟩,
   ⟨(some 27), .call ⟨.value (.func 31), #[(.tmp 25), (.tmp 26)], #[3, 3]⟩, 49, none, []⟩,
   ⟨(some 24), .move (.tmp 27), 49, none, []⟩,
   ⟨(some 28), .extract (.tmp 24) 0, 3, none, []⟩,
   ⟨(some 29), .extract (.tmp 24) 1, 28, none, []⟩,
   ⟨(some 8), .assign (.tmp 28), 3, none, []⟩,
   ⟨(some 9), .assign (.tmp 29), 28, none, []⟩])
 (.seq (.reg [] [
   ⟨(some 31), .move (.tmp 1), 3, none, []⟩,
   ⟨(some 32), .move (.tmp 2), 3, none, []⟩,
   ⟨(some 33), .call ⟨.value (.func 32), #[(.tmp 31), (.tmp 32)], #[3, 3]⟩, 49, none, []⟩,
   ⟨(some 30), .move (.tmp 33), 49, none, []⟩,
   ⟨(some 34), .extract (.tmp 30) 0, 3, none, []⟩,
   ⟨(some 35), .extract (.tmp 30) 1, 28, none, []⟩,
   ⟨(some 10), .assign (.tmp 34), 3, none, []⟩,
   ⟨(some 11), .assign (.tmp 35), 28, none, []⟩])
 (.seq (.reg [] [
   ⟨(some 37), .load 24 (.tmp 3), 24, none, []⟩,
   ⟨(some 38), .call ⟨.value (.func 33), #[(.tmp 37)], #[24]⟩, 29, none, []⟩,
   ⟨(some 36), .move (.tmp 38), 29, none, []⟩,
   ⟨(some 39), .extract (.tmp 36) 0, 22, none, []⟩,
   ⟨(some 40), .extract (.tmp 36) 1, 28, none, []⟩,
   ⟨(some 12), .assign (.tmp 39), 22, none, []⟩,
   ⟨(some 13), .assign (.tmp 40), 28, none, []⟩])
 (.seq (.reg [] [
   ⟨(some 42), .load 27 (.tmp 7), 27, none, []⟩,
   ⟨(some 43), .call ⟨.value (.func 34), #[(.tmp 42)], #[27]⟩, 29, none, []⟩,
   ⟨(some 41), .move (.tmp 43), 29, none, []⟩,
   ⟨(some 44), .extract (.tmp 41) 0, 22, none, []⟩,
   ⟨(some 45), .extract (.tmp 41) 1, 28, none, []⟩,
   ⟨(some 14), .assign (.tmp 44), 22, none, []⟩,
   ⟨(some 15), .assign (.tmp 45), 28, none, []⟩])
 (.seq (.reg [] [
   ⟨(some 47), .load 24 (.tmp 3), 24, none, []⟩,
   ⟨(some 48), .call ⟨.value (.func 35), #[(.tmp 47)], #[24]⟩, 49, none, []⟩,
   ⟨(some 46), .move (.tmp 48), 49, none, []⟩,
   ⟨(some 49), .extract (.tmp 46) 0, 3, none, []⟩,
   ⟨(some 50), .extract (.tmp 46) 1, 28, none, []⟩,
   ⟨(some 16), .assign (.tmp 49), 3, none, []⟩,
   ⟨(some 17), .assign (.tmp 50), 28, none, []⟩])
 (.seq (.reg [] [
   ⟨(some 52), .load 27 (.tmp 7), 27, none, []⟩,
   ⟨(some 53), .call ⟨.value (.func 36), #[(.tmp 52)], #[27]⟩, 49, none, []⟩,
   ⟨(some 51), .move (.tmp 53), 49, none, []⟩,
   ⟨(some 54), .extract (.tmp 51) 0, 3, none, []⟩,
   ⟨(some 55), .extract (.tmp 51) 1, 28, none, []⟩,
   ⟨(some 18), .assign (.tmp 54), 3, none, []⟩,
   ⟨(some 19), .assign (.tmp 55), 28, none, []⟩])
 (.seq (.reg [] [
   ⟨(some 56), .move (.tmp 8), 3, none, []⟩,
   ⟨(some 57), .move (.tmp 10), 3, none, []⟩,
   ⟨(some 58), .binOp .eql 3 (.tmp 56) (.tmp 57) 3, 4, none, []⟩,
   ⟨(some 59), .move (.tmp 58), 4, none, []⟩,
   ⟨(some 60), .move (.tmp 9), 28, (some ((some 59), true)), []⟩,
   ⟨(some 61), .move (.tmp 11), 28, (some ((some 59), true)), []⟩,
   ⟨(some 62), .binOp .eql 28 (.tmp 60) (.tmp 61) 28, 4, (some ((some 59), true)), []⟩,
   ⟨(some 63), .pick (.tmp 59) (.tmp 62) (.const (.bool false)), 4, none, []⟩,
   ⟨(some 64), .move (.tmp 63), 4, none, []⟩,
   ⟨(some 65), .move (.tmp 12), 22, (some ((some 64), true)), []⟩,
   ⟨(some 66), .move (.tmp 14), 22, (some ((some 64), true)), []⟩,
   ⟨(some 67), .call ⟨.value (.func 20), #[(.tmp 65), (.tmp 66)], #[22, 22]⟩, 4, (some ((some 64), true)), []⟩,
   ⟨(some 68), .pick (.tmp 64) (.tmp 67) (.const (.bool false)), 4, none, []⟩,
   ⟨(some 69), .move (.tmp 68), 4, none, []⟩,
   ⟨(some 70), .move (.tmp 13), 28, (some ((some 69), true)), []⟩,
   ⟨(some 71), .move (.tmp 15), 28, (some ((some 69), true)), []⟩,
   ⟨(some 72), .binOp .eql 28 (.tmp 70) (.tmp 71) 28, 4, (some ((some 69), true)), []⟩,
   ⟨(some 73), .pick (.tmp 69) (.tmp 72) (.const (.bool false)), 4, none, []⟩,
   ⟨(some 74), .move (.tmp 73), 4, none, []⟩,
   ⟨(some 75), .move (.tmp 16), 3, (some ((some 74), true)), []⟩,
   ⟨(some 76), .move (.tmp 18), 3, (some ((some 74), true)), []⟩,
   ⟨(some 77), .binOp .eql 3 (.tmp 75) (.tmp 76) 3, 4, (some ((some 74), true)), []⟩,
   ⟨(some 78), .pick (.tmp 74) (.tmp 77) (.const (.bool false)), 4, none, []⟩,
   ⟨(some 79), .move (.tmp 78), 4, none, []⟩,
   ⟨(some 80), .move (.tmp 17), 28, (some ((some 79), true)), []⟩,
   ⟨(some 81), .move (.tmp 19), 28, (some ((some 79), true)), []⟩,
   ⟨(some 82), .binOp .eql 28 (.tmp 80) (.tmp 81) 28, 4, (some ((some 79), true)), []⟩,
   ⟨(some 83), .pick (.tmp 79) (.tmp 82) (.const (.bool false)), 4, none, []⟩,
   ⟨(some 84), .move (.tmp 83), 4, none, []⟩,
   ⟨(some 85), .call ⟨.value (.func 15), #[], #[]⟩, 4, (some ((some 84), true)), []⟩,
   ⟨(some 86), .pick (.tmp 84) (.tmp 85) (.const (.bool false)), 4, none, []⟩,
   ⟨(some 6), .assign (.tmp 86), 4, none, []⟩])
 (.ret))))))))))
/-- spadille/spadillelaw09.large -/
def c14 : RC :=
  .seq (.reg [] [
   ⟨(some 1), .box 24 (.tmp 0), 0, none, []⟩,
   ⟨(some 2), .assign (.const (.bool false)), 4, none, []⟩])
 (.seq (.reg [] [
   ⟨(some 3), .fieldAddr 24 (.tmp 1) 1, 0, none, []⟩,
   ⟨(some 4), .load 22 (.tmp 3), 22, none, []⟩,
   ⟨(some 5), .call ⟨.builtin .len, #[(.tmp 4)], #[22]⟩, 3, none, []⟩,
   ⟨(some 6), .binOp .gtr 3 (.tmp 5) (.const (.int .i64 40)) 3, 4, none, []⟩,
   ⟨(some 7), .move (.tmp 6), 4, none, []⟩,
   ⟨(some 8), .fieldAddr 24 (.tmp 1) 2, 0, (some ((some 7), false)), []⟩,
   ⟨(some 9), .load 22 (.tmp 8), 22, (some ((some 7), false)), []⟩,
   ⟨(some 10), .call ⟨.builtin .len, #[(.tmp 9)], #[22]⟩, 3, (some ((some 7), false)), []⟩,
   ⟨(some 11), .binOp .gtr 3 (.tmp 10) (.const (.int .i64 40)) 3, 4, (some ((some 7), false)), []⟩,
   ⟨(some 12), .pick (.tmp 7) (.const (.bool true)) (.tmp 11), 4, none, []⟩,
   ⟨(some 2), .assign (.tmp 12), 4, none, []⟩])
 (.ret))
/-- spadille/spadillelaw09.works -/
def c15 : RC :=
  .seq (.reg [] [
   ⟨(some 0), .assign (.const (.bool false)), 4, none, []⟩])
 (.seq (.reg [] [
   ⟨(some 20), .call ⟨.value (.func 43), #[], #[]⟩, 24, none, []⟩,
   ⟨(some 21), .call ⟨.value (.func 16), #[(.tmp 20)], #[24]⟩, 29, none, []⟩,
   ⟨(some 19), .move (.tmp 21), 29, none, []⟩,
   ⟨(some 22), .extract (.tmp 19) 0, 22, none, []⟩,
   ⟨(some 23), .extract (.tmp 19) 1, 28, none, []⟩,
   ⟨(some 1), .assign (.tmp 22), 22, none, []⟩,
   ⟨(some 2), .assign (.tmp 23), 28, none, []⟩])
 (.seq (.reg [] [
   ⟨(some 25), .call ⟨.value (.func 43), #[], #[]⟩, 24, none, []⟩,
   ⟨(some 26), .call ⟨.value (.func 42), #[(.tmp 25)], #[24]⟩, 49, none, []⟩,
   ⟨(some 24), .move (.tmp 26), 49, none, []⟩,
   ⟨(some 27), .extract (.tmp 24) 0, 3, none, []⟩,
   ⟨(some 28), .extract (.tmp 24) 1, 28, none, []⟩,
   ⟨(some 3), .assign (.tmp 27), 3, none, []⟩,
   ⟨(some 4), .assign (.tmp 28), 28, none, []⟩])
 (.seq (.reg [] [
   ⟨(some 30), .call ⟨.value (.func 44), #[], #[]⟩, 24, none, []⟩,
   ⟨(some 31), .call ⟨.value (.func 42), #[(.tmp 30)], #[24]⟩, 49, none, []⟩,
   ⟨(some 29), .move (.tmp 31), 49, none, []⟩,
   ⟨(some 32), .extract (.tmp 29) 0, 3, none, []⟩,
   ⟨(some 33), .extract (.tmp 29) 1, 28, none, []⟩,
   ⟨(some 5), .assign (.tmp 32), 3, none, []⟩,
   ⟨(some 6), .assign (.tmp 33), 28, none, []⟩])
 (.seq (.reg [] [
   ⟨(some 35), .call ⟨.value (.func 43), #[], #[]⟩, 24, none, []⟩,
   ⟨(some 36), .call ⟨.value (.func 26), #[(.tmp 35)], #[24]⟩, 46, none, []⟩,
   ⟨(some 34), .move (.tmp 36), 46, none, []⟩,
   ⟨(some 37), .extract (.tmp 34) 0, 45, none, []⟩,
   ⟨(some 38), .extract (.tmp 34) 1, 28, none, []⟩,
   ⟨(some 7), .assign (.tmp 37), 45, none, []⟩,
   ⟨(some 8), .assign (.tmp 38), 28, none, []⟩])
 (.seq (.reg [] [
   ⟨(some 40), .call ⟨.value (.func 43), #[], #[]⟩, 24, none, []⟩,
   ⟨(some 41), .buildSlice 22 2 #[(0, (.const (.int .i64 0))), (1, (.const (.int .i64 4)))], 22, none, []⟩,
   ⟨(some 42), .call ⟨.value (.func 46), #[(.tmp 41)], #[22]⟩, 22, none, []⟩,
   ⟨(some 43), .buildSlice 22 3 #[(0, (.const (.int .i64 1))), (1, (.const (.int .i64 2))), (2, (.const (.int .i64 3)))], 22, none, []⟩,
   ⟨(some 44), .call ⟨.value (.func 46), #[(.tmp 43)], #[22]⟩, 22, none, []⟩,
   ⟨(some 45), .buildSlice 45 2 #[(0, (.tmp 42)), (1, (.tmp 44))], 45, none, []⟩,
   ⟨(some 46), .call ⟨.value (.func 45), #[(.tmp 45)], #[45]⟩, 45, none, []⟩,
   ⟨(some 47), .call ⟨.value (.func 28), #[(.tmp 40), (.tmp 46)], #[24, 45]⟩, 49, none, []⟩,
   ⟨(some 39), .move (.tmp 47), 49, none, []⟩,
   ⟨(some 48), .extract (.tmp 39) 0, 3, none, []⟩,
   ⟨(some 49), .extract (.tmp 39) 1, 28, none, []⟩,
   ⟨(some 9), .assign (.tmp 48), 3, none, []⟩,
   ⟨(some 10), .assign (.tmp 49), 28, none, []⟩])
 (.seq (.reg [] [
   ⟨(some 51), .call ⟨.value (.func 44), #[], #[]⟩, 24, none, []⟩,
   ⟨(some 52), .call ⟨.value (.func 18), #[(.tmp 51), (.const (.int .i64 0)), (.const (.int .i64 2))], #[24, 3, 3]⟩, 32, none, []⟩,
   ⟨(some 50), .move (.tmp 52), 32, none, []⟩,
   ⟨(some 53), .extract (.tmp 50) 0, 24, none, []⟩,
   ⟨(some 54), .extract (.tmp 50) 1, 28, none, []⟩,
   ⟨(some 11), .alloc 24, 0, none, []⟩,
   ⟨none, .store 24 (.tmp 11) (.tmp 53), 0, none, []⟩,
   ⟨(some 12), .assign (.tmp 54), 28, none, []⟩])
 (.seq (.reg [] [
   ⟨(some 56), .call ⟨.value (.func 44), #[], #[]⟩, 24, none, []⟩,
   ⟨(some 57), .call ⟨.value (.func 23), #[(.tmp 56)], #[24]⟩, 41, none, []⟩,
   ⟨(some 55), .move (.tmp 57), 41, none, []⟩,
   ⟨(some 58), .extract (.tmp 55) 0, 40, none, []⟩,
   ⟨(some 59), .extract (.tmp 55) 1, 28, none, []⟩,
   ⟨(some 13), .assign (.tmp 58), 40, none, []⟩,
   ⟨(some 14), .assign (.tmp 59), 28, none, []⟩])
 (.seq (.seq (.reg [] [
   ⟨(some 60), .move (.tmp 2), 28, none, []⟩,
   ⟨(some 61), .binOp .neq 28 (.tmp 60) (.const (.int .i64 0)) 28, 4, none, []⟩,
   ⟨(some 62), .move (.tmp 61), 4, none, []⟩,
   ⟨(some 63), .move (.tmp 4), 28, (some ((some 62), false)), []⟩,
   ⟨(some 64), .binOp .neq 28 (.tmp 63) (.const (.int .i64 0)) 28, 4, (some ((some 62), false)), []⟩,
   ⟨(some 65), .pick (.tmp 62) (.const (.bool true)) (.tmp 64), 4, none, []⟩,
   ⟨(some 66), .move (.tmp 65), 4, none, []⟩,
   ⟨(some 67), .move (.tmp 6), 28, (some ((some 66), false)), []⟩,
   ⟨(some 68), .binOp .neq 28 (.tmp 67) (.const (.int .i64 0)) 28, 4, (some ((some 66), false)), []⟩,
   ⟨(some 69), .pick (.tmp 66) (.const (.bool true)) (.tmp 68), 4, none, []⟩,
   ⟨(some 70), .move (.tmp 69), 4, none, []⟩,
   ⟨(some 71), .move (.tmp 8), 28, (some ((some 70), false)), []⟩,
   ⟨(some 72), .binOp .neq 28 (.tmp 71) (.const (.int .i64 0)) 28, 4, (some ((some 70), false)), []⟩,
   ⟨(some 73), .pick (.tmp 70) (.const (.bool true)) (.tmp 72), 4, none, []⟩,
   ⟨(some 74), .move (.tmp 73), 4, none, []⟩,
   ⟨(some 75), .move (.tmp 10), 28, (some ((some 74), false)), []⟩,
   ⟨(some 76), .binOp .neq 28 (.tmp 75) (.const (.int .i64 0)) 28, 4, (some ((some 74), false)), []⟩,
   ⟨(some 77), .pick (.tmp 74) (.const (.bool true)) (.tmp 76), 4, none, []⟩,
   ⟨(some 78), .move (.tmp 77), 4, none, []⟩,
   ⟨(some 79), .move (.tmp 12), 28, (some ((some 78), false)), []⟩,
   ⟨(some 80), .binOp .neq 28 (.tmp 79) (.const (.int .i64 0)) 28, 4, (some ((some 78), false)), []⟩,
   ⟨(some 81), .pick (.tmp 78) (.const (.bool true)) (.tmp 80), 4, none, []⟩,
   ⟨(some 82), .move (.tmp 81), 4, none, []⟩,
   ⟨(some 83), .move (.tmp 14), 28, (some ((some 82), false)), []⟩,
   ⟨(some 84), .binOp .neq 28 (.tmp 83) (.const (.int .i64 0)) 28, 4, (some ((some 82), false)), []⟩,
   ⟨(some 85), .pick (.tmp 82) (.const (.bool true)) (.tmp 84), 4, none, []⟩])
 (.cond (.tmp 85) (.seq (.reg [] [
    ⟨(some 0), .assign (.const (.bool false)), 4, none, []⟩])
  (.ret))
 (.skip)))
 (.seq (.reg [] [
   ⟨(some 87), .call ⟨.value (.func 31), #[(.const (.int .i64 5)), (.const (.int .i64 3))], #[3, 3]⟩, 49, none, []⟩,
   ⟨(some 86), .move (.tmp 87), 49, none, []⟩,
   ⟨(some 88), .extract (.tmp 86) 0, 3, none, []⟩,
   ⟨(some 89), .extract (.tmp 86) 1, 28, none, []⟩,
   ⟨(some 15), .assign (.tmp 88), 3, none, []⟩,
   ⟨(some 2), .assign (.tmp 89), 28, none, []⟩])
 (.seq (.reg [] [
   ⟨(some 91), .call ⟨.value (.func 43), #[], #[]⟩, 24, none, []⟩,
   ⟨(some 92), .call ⟨.value (.func 33), #[(.tmp 91)], #[24]⟩, 29, none, []⟩,
   ⟨(some 90), .move (.tmp 92), 29, none, []⟩,
   ⟨(some 93), .extract (.tmp 90) 0, 22, none, []⟩,
   ⟨(some 94), .extract (.tmp 90) 1, 28, none, []⟩,
   ⟨(some 16), .assign (.tmp 93), 22, none, []⟩,
   ⟨(some 4), .assign (.tmp 94), 28, none, []⟩])
 (.seq (.reg [] [
   ⟨(some 96), .call ⟨.value (.func 44), #[], #[]⟩, 24, none, []⟩,
   ⟨(some 97), .call ⟨.value (.func 35), #[(.tmp 96)], #[24]⟩, 49, none, []⟩,
   ⟨(some 95), .move (.tmp 97), 49, none, []⟩,
   ⟨(some 98), .extract (.tmp 95) 0, 3, none, []⟩,
   ⟨(some 99), .extract (.tmp 95) 1, 28, none, []⟩,
   ⟨(some 17), .assign (.tmp 98), 3, none, []⟩,
   ⟨(some 6), .assign (.tmp 99), 28, none, []⟩])
 (.seq (.reg [] [
   ⟨(some 101), .call ⟨.value (.func 44), #[], #[]⟩, 24, none, []⟩,
   ⟨(some 102), .call ⟨.value (.func 26), #[(.tmp 101)], #[24]⟩, 46, none, []⟩,
   ⟨(some 100), .move (.tmp 102), 46, none, []⟩,
   ⟨(some 103), .extract (.tmp 100) 0, 45, none, []⟩,
   ⟨(some 104), .extract (.tmp 100) 1, 28, none, []⟩,
   ⟨(some 18), .assign (.tmp 103), 45, none, []⟩,
   ⟨(some 8), .assign (.tmp 104), 28, none, []⟩])
 (.seq (.reg [] [
   ⟨(some 106), .call ⟨.value (.func 43), #[], #[]⟩, 24, none, []⟩,
   ⟨(some 107), .buildSlice 22 2 #[(0, (.const (.int .i64 0))), (1, (.const (.int .i64 1)))], 22, none, []⟩,
   ⟨(some 108), .call ⟨.value (.func 46), #[(.tmp 107)], #[22]⟩, 22, none, []⟩,
   ⟨(some 109), .buildSlice 22 3 #[(0, (.const (.int .i64 2))), (1, (.const (.int .i64 3))), (2, (.const (.int .i64 4)))], 22, none, []⟩,
   ⟨(some 110), .call ⟨.value (.func 46), #[(.tmp 109)], #[22]⟩, 22, none, []⟩,
   ⟨(some 111), .buildSlice 45 2 #[(0, (.tmp 108)), (1, (.tmp 110))], 45, none, []⟩,
   ⟨(some 112), .call ⟨.value (.func 45), #[(.tmp 111)], #[45]⟩, 45, none, []⟩,
   ⟨(some 113), .call ⟨.value (.func 28), #[(.tmp 106), (.tmp 112)], #[24, 45]⟩, 49, none, []⟩,
   ⟨(some 105), .move (.tmp 113), 49, none, []⟩,
   ⟨(some 114), .extract (.tmp 105) 0, 3, none, []⟩,
   ⟨(some 115), .extract (.tmp 105) 1, 28, none, []⟩,
   ⟨(some 10), .assign (.tmp 115), 28, none, []⟩])
 (.seq (.reg [0, 1, 2, 3, 4, 5, 6, 7, 8, 9, 10, 11, 12, 13, 14, 15, 16, 17, 18, 19, 20, 21, 22, 23, 24, 25, 26, 27, 28, 29, 30, 31, 32, 33, 34, 35, 36, 37, 38, 39, 40, 41, 42, 43, 44, 45, 46, 48, 47, 49, 50, 51, 52, 53, 54, 55, 56, 58, 57, 59, 60, 61, 62, 63, 64, 65, 66, 67, 68, 69, 70, 71, 72, 73, 74, 75, 76, 77, 78, 79, 80, 81, 82, 83, 84, 85, 86, 88, 89, 90, 87, 91, 92, 93, 94, 96, 97, 98, 95, 99, 100, 101, 102] [
   ⟨(some 116), .move (.tmp 2), 28, none, []⟩,
   ⟨(some 117), .binOp .eql 28 (.tmp 116) (.const (.int .i64 0)) 28, 4, none, []⟩,
   ⟨(some 118), .move (.tmp 117), 4, none, []⟩,
   ⟨(some 119), .move (.tmp 4), 28, (some ((some 118), true)), []⟩,
   ⟨(some 120), .binOp .eql 28 (.tmp 119) (.const (.int .i64 0)) 28, 4, (some ((some 118), true)), []⟩,
   ⟨(some 121), .pick (.tmp 118) (.tmp 120) (.const (.bool false)), 4, none, []⟩,
   ⟨(some 122), .move (.tmp 121), 4, none, []⟩,
   ⟨(some 123), .move (.tmp 6), 28, (some ((some 122), true)), []⟩,
   ⟨(some 124), .binOp .eql 28 (.tmp 123) (.const (.int .i64 0)) 28, 4, (some ((some 122), true)), []⟩,
   ⟨(some 125), .pick (.tmp 122) (.tmp 124) (.const (.bool false)), 4, none, []⟩,
   ⟨(some 126), .move (.tmp 125), 4, none, []⟩,
   ⟨(some 127), .move (.tmp 8), 28, (some ((some 126), true)), []⟩,
   ⟨(some 128), .binOp .eql 28 (.tmp 127) (.const (.int .i64 0)) 28, 4, (some ((some 126), true)), []⟩,
   ⟨(some 129), .pick (.tmp 126) (.tmp 128) (.const (.bool false)), 4, none, []⟩,
   ⟨(some 130), .move (.tmp 129), 4, none, []⟩,
   ⟨(some 131), .move (.tmp 10), 28, (some ((some 130), true)), []⟩,
   ⟨(some 132), .binOp .eql 28 (.tmp 131) (.const (.int .i64 14)) 28, 4, (some ((some 130), true)), []⟩,
   ⟨(some 133), .pick (.tmp 130) (.tmp 132) (.const (.bool false)), 4, none, []⟩,
   ⟨(some 134), .move (.tmp 133), 4, none, []⟩,
   ⟨(some 135), .move (.tmp 3), 3, (some ((some 134), true)), []⟩,
   ⟨(some 136), .binOp .eql 3 (.tmp 135) (.const (.int .i64 3)) 3, 4, (some ((some 134), true)), []⟩,
   ⟨(some 137), .pick (.tmp 134) (.tmp 136) (.const (.bool false)), 4, none, []⟩,
   ⟨(some 138), .move (.tmp 137), 4, none, []⟩,
   ⟨(some 139), .move (.tmp 5), 3, (some ((some 138), true)), []⟩,
   ⟨(some 140), .binOp .eql 3 (.tmp 139) (.const (.int .i64 2)) 3, 4, (some ((some 138), true)), []⟩,
   ⟨(some 141), .pick (.tmp 138) (.tmp 140) (.const (.bool false)), 4, none, []⟩,
   ⟨(some 142), .move (.tmp 141), 4, none, []⟩,
   ⟨(some 143), .move (.tmp 9), 3, (some ((some 142), true)), []⟩,
   ⟨(some 144), .binOp .eql 3 (.tmp 143) (.const (.int .i64 2)) 3, 4, (some ((some 142), true)), []⟩,
   ⟨(some 145), .pick (.tmp 142) (.tmp 144) (.const (.bool false)), 4, none, []⟩,
   ⟨(some 146), .move (.tmp 145), 4, none, []⟩,
   ⟨(some 147), .move (.tmp 15), 3, (some ((some 146), true)), []⟩,
   ⟨(some 148), .binOp .eql 3 (.tmp 147) (.const (.int .i64 3)) 3, 4, (some ((some 146), true)), []⟩,
   ⟨(some 149), .pick (.tmp 146) (.tmp 148) (.const (.bool false)), 4, none, []⟩,
   ⟨(some 150), .move (.tmp 149), 4, none, []⟩,
   ⟨(some 151), .move (.tmp 17), 3, (some ((some 150), true)), []⟩,
   ⟨(some 152), .binOp .eql 3 (.tmp 151) (.const (.int .i64 4)) 3, 4, (some ((some 150), true)), []⟩,
   ⟨(some 153), .pick (.tmp 150) (.tmp 152) (.const (.bool false)), 4, none, []⟩,
   ⟨(some 154), .move (.tmp 153), 4, none, []⟩,
   ⟨(some 155), .move (.tmp 1), 22, (some ((some 154), true)), []⟩,
   ⟨(some 156), .buildSlice 22 5 #[(0, (.const (.int .i64 0))), (1, (.const (.int .i64 1))), (2, (.const (.int .i64 2))), (3, (.const (.int .i64 3))), (4, (.const (.int .i64 4)))], 22, (some ((some 154), true)), []⟩,
   ⟨(some 157), .call ⟨.value (.func 46), #[(.tmp 156)], #[22]⟩, 22, (some ((some 154), true)), []⟩,
   ⟨(some 158), .call ⟨.value (.func 20), #[(.tmp 155), (.tmp 157)], #[22, 22]⟩, 4, (some ((some 154), true)), []⟩,
   ⟨(some 159), .pick (.tmp 154) (.tmp 158) (.const (.bool false)), 4, none, []⟩,
   ⟨(some 160), .move (.tmp 159), 4, none, []⟩,
   ⟨(some 161), .move (.tmp 7), 45, (some ((some 160), true)), []⟩,
   ⟨(some 162), .buildSlice 22 3 #[(0, (.const (.int .i64 0))), (1, (.const (.int .i64 1))), (2, (.const (.int .i64 2)))], 22, (some ((some 160), true)), []⟩,
   ⟨(some 164), .buildSlice 22 2 #[(0, (.const (.int .i64 3))), (1, (.const (.int .i64 4)))], 22, (some ((some 160), true)), []⟩,
   ⟨(some 163), .call ⟨.value (.func 46), #[(.tmp 162)], #[22]⟩, 22, (some ((some 160), true)), []⟩,
   ⟨(some 165), .call ⟨.value (.func 46), #[(.tmp 164)], #[22]⟩, 22, (some ((some 160), true)), []⟩,
   ⟨(some 166), .buildSlice 45 2 #[(0, (.tmp 163)), (1, (.tmp 165))], 45, (some ((some 160), true)), []⟩,
   ⟨(some 167), .call ⟨.value (.func 45), #[(.tmp 166)], #[45]⟩, 45, (some ((some 160), true)), []⟩,
   ⟨(some 168), .call ⟨.value (.func 30), #[(.tmp 161), (.tmp 167)], #[45, 45]⟩, 4, (some ((some 160), true)), []⟩,
   ⟨(some 169), .pick (.tmp 160) (.tmp 168) (.const (.bool false)), 4, none, []⟩,
   ⟨(some 170), .move (.tmp 169), 4, none, []⟩,
   ⟨(some 171), .move (.tmp 18), 45, (some ((some 170), true)), []⟩,
   ⟨(some 172), .buildSlice 22 2 #[(0, (.const (.int .i64 0))), (1, (.const (.int .i64 2)))], 22, (some ((some 170), true)), []⟩,
   ⟨(some 174), .buildSlice 22 2 #[(0, (.const (.int .i64 1))), (1, (.const (.int .i64 3)))], 22, (some ((some 170), true)), []⟩,
   ⟨(some 173), .call ⟨.value (.func 46), #[(.tmp 172)], #[22]⟩, 22, (some ((some 170), true)), []⟩,
   ⟨(some 175), .call ⟨.value (.func 46), #[(.tmp 174)], #[22]⟩, 22, (some ((some 170), true)), []⟩,
   ⟨(some 176), .buildSlice 45 2 #[(0, (.tmp 173)), (1, (.tmp 175))], 45, (some ((some 170), true)), []⟩,
   ⟨(some 177), .call ⟨.value (.func 45), #[(.tmp 176)], #[45]⟩, 45, (some ((some 170), true)), []⟩,
   ⟨(some 178), .call ⟨.value (.func 30), #[(.tmp 171), (.tmp 177)], #[45, 45]⟩, 4, (some ((some 170), true)), []⟩,
   ⟨(some 179), .pick (.tmp 170) (.tmp 178) (.const (.bool false)), 4, none, []⟩,
   ⟨(some 180), .move (.tmp 179), 4, none, []⟩,
   ⟨(some 181), .fieldAddr 24 (.tmp 11) 1, 0, (some ((some 180), true)), []⟩,
   ⟨(some 182), .load 22 (.tmp 181), 22, (some ((some 180), true)), []⟩,
   ⟨(some 183), .buildSlice 22 4 #[(0, (.const (.int .i64 1))), (1, (.const (.int .i64 0))), (2, (.const (.int .i64 0))), (3, (.const (.int .i64 1)))], 22, (some ((some 180), true)), []⟩,
   ⟨(some 184), .call ⟨.value (.func 46), #[(.tmp 183)], #[22]⟩, 22, (some ((some 180), true)), [(.tmp 181)]⟩,
   ⟨(some 185), .call ⟨.value (.func 20), #[(.tmp 182), (.tmp 184)], #[22, 22]⟩, 4, (some ((some 180), true)), []⟩,
   ⟨(some 186), .pick (.tmp 180) (.tmp 185) (.const (.bool false)), 4, none, []⟩,
   ⟨(some 187), .move (.tmp 186), 4, none, []⟩,
   ⟨(some 188), .move (.tmp 13), 40, (some ((some 187), true)), []⟩,
   ⟨(some 189), .build 65 #[(0, (.const (.int .i64 0))), (1, (.const (.int .i64 2)))], 65, (some ((some 187), true)), []⟩,
   ⟨(some 190), .build 65 #[(0, (.const (.int .i64 0))), (1, (.const (.int .i64 3)))], 65, (some ((some 187), true)), []⟩,
   ⟨(some 191), .build 65 #[(0, (.const (.int .i64 1))), (1, (.const (.int .i64 2)))], 65, (some ((some 187), true)), []⟩,
   ⟨(some 192), .build 65 #[(0, (.const (.int .i64 1))), (1, (.const (.int .i64 3)))], 65, (some ((some 187), true)), []⟩,
   ⟨(some 193), .buildSlice 40 4 #[(0, (.tmp 189)), (1, (.tmp 190)), (2, (.tmp 191)), (3, (.tmp 192))], 40, (some ((some 187), true)), []⟩,
   ⟨(some 194), .call ⟨.value (.func 25), #[(.tmp 188), (.tmp 193)], #[40, 40]⟩, 4, (some ((some 187), true)), []⟩,
   ⟨(some 195), .pick (.tmp 187) (.tmp 194) (.const (.bool false)), 4, none, []⟩,
   ⟨(some 196), .move (.tmp 195), 4, none, []⟩,
   ⟨(some 197), .move (.tmp 16), 22, (some ((some 196), true)), []⟩,
   ⟨(some 198), .buildSlice 22 5 #[(0, (.const (.int .i64 1))), (1, (.const (.int .i64 2))), (2, (.const (.int .i64 0))), (3, (.const (.int .i64 4))), (4, (.const (.int .i64 3)))], 22, (some ((some 196), true)), []⟩,
   ⟨(some 199), .call ⟨.value (.func 46), #[(.tmp 198)], #[22]⟩, 22, (some ((some 196), true)), []⟩,
   ⟨(some 200), .call ⟨.value (.func 20), #[(.tmp 197), (.tmp 199)], #[22, 22]⟩, 4, (some ((some 196), true)), []⟩,
   ⟨(some 201), .pick (.tmp 196) (.tmp 200) (.const (.bool false)), 4, none, []⟩,
   ⟨(some 202), .move (.tmp 201), 4, none, []⟩,
   ⟨(some 204), .build 65 #[(0, (.const (.int .i64 0))), (1, (.const (.int .i64 2)))], 65, (some ((some 202), true)), []⟩,
   ⟨(some 205), .build 65 #[(0, (.const (.int .i64 1))), (1, (.const (.int .i64 3)))], 65, (some ((some 202), true)), []⟩,
   ⟨(some 206), .buildSlice 40 2 #[(0, (.tmp 204)), (1, (.tmp 205))], 40, (some ((some 202), true)), []⟩,
   ⟨(some 203), .call ⟨.value (.func 44), #[], #[]⟩, 24, (some ((some 202), true)), []⟩,
   ⟨(some 207), .call ⟨.value (.func 49), #[(.tmp 203), (.tmp 206)], #[24, 40]⟩, 28, (some ((some 202), true)), []⟩,
   ⟨(some 208), .binOp .eql 28 (.tmp 207) (.const (.int .i64 0)) 28, 4, (some ((some 202), true)), []⟩,
   ⟨(some 209), .pick (.tmp 202) (.tmp 208) (.const (.bool false)), 4, none, []⟩,
   ⟨(some 210), .move (.tmp 209), 4, none, []⟩,
   ⟨(some 212), .build 65 #[(0, (.const (.int .i64 0))), (1, (.const (.int .i64 1)))], 65, (some ((some 210), true)), []⟩,
   ⟨(some 213), .build 65 #[(0, (.const (.int .i64 2))), (1, (.const (.int .i64 3)))], 65, (some ((some 210), true)), []⟩,
   ⟨(some 214), .buildSlice 40 2 #[(0, (.tmp 212)), (1, (.tmp 213))], 40, (some ((some 210), true)), []⟩,
   ⟨(some 211), .call ⟨.value (.func 44), #[], #[]⟩, 24, (some ((some 210), true)), []⟩,
   ⟨(some 215), .call ⟨.value (.func 49), #[(.tmp 211), (.tmp 214)], #[24, 40]⟩, 28, (some ((some 210), true)), []⟩,
   ⟨(some 216), .binOp .eql 28 (.tmp 215) (.const (.int .i64 14)) 28, 4, (some ((some 210), true)), []⟩,
   ⟨(some 217), .pick (.tmp 210) (.tmp 216) (.const (.bool false)), 4, none, []⟩,
   ⟨(some 0), .assign (.tmp 217), 4, none, []⟩])
 (.ret)))))))))))))))
/-- spadille/mend.Wrong -/
def c16 : RC :=
  .seq (.reg [] [
   ⟨(some 1), .box 24 (.tmp 0), 0, none, []⟩,
   ⟨(some 2), .assign (.const (.slice none 0 0)), 22, none, []⟩,
   ⟨(some 3), .assign (.const (.int .i64 0)), 28, none, []⟩])
 (.seq (.seq (.reg [] [
   ⟨(some 5), .load 24 (.tmp 1), 24, none, []⟩,
   ⟨(some 6), .call ⟨.value (.func 21), #[(.tmp 5)], #[24]⟩, 28, none, []⟩,
   ⟨(some 4), .assign (.tmp 6), 28, none, []⟩])
 (.seq (.reg [] [
   ⟨(some 7), .move (.tmp 4), 28, none, []⟩,
   ⟨(some 8), .binOp .neq 28 (.tmp 7) (.const (.int .i64 0)) 28, 4, none, []⟩])
 (.cond (.tmp 8) (.seq (.reg [] [
    ⟨(some 9), .move (.tmp 4), 28, none, []⟩,
    ⟨(some 2), .assign (.const (.slice none 0 0)), 22, none, []⟩,
    ⟨(some 3), .assign (.tmp 9), 28, none, []⟩])
  (.ret))
 (.skip))))
 (.seq (.reg [] [
   ⟨(some 10), .load 24 (.tmp 1), 24, none, []⟩,
   ⟨(some 11), .call ⟨.value (.func 53), #[(.tmp 10)], #[24]⟩, 79, none, []⟩,
   ⟨(some 12), .call ⟨.value (.func 54), #[(.tmp 11)], #[79]⟩, 22, none, []⟩,
   ⟨(some 2), .assign (.tmp 12), 22, none, []⟩,
   ⟨(some 3), .assign (.const (.int .i64 0)), 28, none, []⟩])
 (.ret)))
/-- spadille/mend.After -/
def c18 : RC :=
  .seq (.reg [] [
   ⟨(some 3), .box 24 (.tmp 0), 0, none, []⟩,
   ⟨(some 6), .alloc 24, 0, none, []⟩,
   ⟨(some 7), .assign (.const (.int .i64 0)), 28, none, []⟩])
 (.seq (.reg [] [
   ⟨(some 9), .load 24 (.tmp 3), 24, none, []⟩,
   ⟨(some 10), .call ⟨.value (.func 21), #[(.tmp 9)], #[24]⟩, 28, none, []⟩,
   ⟨(some 8), .assign (.tmp 10), 28, none, []⟩])
 (.seq (.seq (.reg [] [
   ⟨(some 11), .move (.tmp 8), 28, none, []⟩,
   ⟨(some 12), .binOp .eql 28 (.tmp 11) (.const (.int .i64 0)) 28, 4, none, []⟩])
 (.cond (.tmp 12) (.reg [] [
    ⟨(some 13), .load 24 (.tmp 3), 24, none, []⟩,
    ⟨(some 14), .move (.tmp 1), 3, none, []⟩,
    ⟨(some 15), .move (.tmp 2), 3, none, []⟩,
    ⟨(some 16), .call ⟨.value (.func 56), #[(.tmp 13), (.tmp 14), (.tmp 15)], #[24, 3, 3]⟩, 28, none, []⟩,
    ⟨(some 8), .assign (.tmp 16), 28, none, []⟩])
 (.skip)))
 (.seq (.seq (.reg [] [
   ⟨(some 17), .move (.tmp 8), 28, none, []⟩,
   ⟨(some 18), .binOp .neq 28 (.tmp 17) (.const (.int .i64 0)) 28, 4, none, []⟩])
 (.cond (.tmp 18) (.seq (.reg [] [
    ⟨(some 19), .build 24 #[], 24, none, []⟩,
    ⟨(some 20), .move (.tmp 8), 28, none, []⟩,
    ⟨none, .store 24 (.tmp 6) (.tmp 19), 0, none, []⟩,
    ⟨(some 7), .assign (.tmp 20), 28, none, []⟩])
  (.ret))
 (.skip)))
 (.seq (.reg [] [
   ⟨(some 21), .load 24 (.tmp 3), 24, none, []⟩,
   ⟨(some 22), .move (.tmp 1), 3, none, []⟩,
   ⟨(some 23), .move (.tmp 2), 3, none, []⟩,
   ⟨(some 24), .call ⟨.value (.func 57), #[(.tmp 21), (.tmp 22), (.tmp 23)], #[24, 3, 3]⟩, 24, none, []⟩,
   ⟨none, .store 24 (.tmp 6) (.tmp 24), 0, none, []⟩,
   ⟨(some 7), .assign (.const (.int .i64 0)), 28, none, []⟩])
 (.ret)))))
/-- spadille/spadillelaw09.same -/
def c20 : RC :=
  .seq (.reg [] [
   ⟨(some 4), .assign (.const (.bool false)), 4, none, []⟩])
 (.seq (.seq (.reg [] [
   ⟨(some 6), .move (.tmp 0), 22, none, []⟩,
   ⟨(some 7), .call ⟨.builtin .len, #[(.tmp 6)], #[22]⟩, 3, none, []⟩,
   ⟨(some 8), .move (.tmp 1), 22, none, []⟩,
   ⟨(some 9), .call ⟨.builtin .len, #[(.tmp 8)], #[22]⟩, 3, none, []⟩,
   ⟨(some 10), .binOp .neq 3 (.tmp 7) (.tmp 9) 3, 4, none, []⟩])
 (.cond (.tmp 10) (.seq (.reg [] [
    ⟨(some 4), .assign (.const (.bool false)), 4, none, []⟩])
  (.ret))
 (.skip)))
 (.seq (.seq (.reg [] [
   ⟨(some 5), .assign (.const (.int .i64 0)), 3, none, []⟩])
 (.block 0 (.loop (.seq (.seq (.reg [] [
     ⟨(some 11), .move (.tmp 5), 3, none, []⟩,
     ⟨(some 12), .move (.tmp 0), 22, none, []⟩,
     ⟨(some 13), .call ⟨.builtin .len, #[(.tmp 12)], #[22]⟩, 3, none, []⟩,
     ⟨(some 14), .binOp .lss 3 (.tmp 11) (.tmp 13) 3, 4, none, []⟩])
   (.cond (.tmp 14) (.skip)
   (.exit 0)))
   (.seq (.block 1 (.seq (.reg [0, 1, 2, 3, 4, 5, 6, 7, 8] [
      ⟨(some 17), .move (.tmp 0), 22, none, []⟩,
      ⟨(some 18), .move (.tmp 5), 3, none, []⟩,
      ⟨(some 19), .indexAddr 22 (.tmp 17) (.tmp 18), 0, none, []⟩,
      ⟨(some 20), .load 3 (.tmp 19), 3, none, []⟩,
      ⟨(some 21), .move (.tmp 1), 22, none, []⟩,
      ⟨(some 22), .move (.tmp 5), 3, none, []⟩,
      ⟨(some 23), .indexAddr 22 (.tmp 21) (.tmp 22), 0, none, []⟩,
      ⟨(some 24), .load 3 (.tmp 23), 3, none, []⟩,
      ⟨(some 25), .binOp .neq 3 (.tmp 20) (.tmp 24) 3, 4, none, []⟩])
    (.cond (.tmp 25) (.seq (.reg [] [
       ⟨(some 4), .assign (.const (.bool false)), 4, none, []⟩])
     (.ret))
    (.skip))))
   (.reg [] [
     ⟨(some 15), .move (.tmp 5), 3, none, []⟩,
     ⟨(some 16), .binOp .add 3 (.tmp 15) (.const (.int .i64 1)) 3, 3, none, []⟩,
     ⟨(some 5), .assign (.tmp 16), 3, none, []⟩]))))))
 (.seq (.reg [] [
   ⟨(some 4), .assign (.const (.bool true)), 4, none, []⟩])
 (.ret))))
/-- spadille/mend.Check -/
def c21 : RC :=
  .seq (.reg [] [
   ⟨(some 1), .box 24 (.tmp 0), 0, none, []⟩,
   ⟨(some 2), .assign (.const (.int .i64 0)), 28, none, []⟩])
 (.seq (.block 0 (.seq (.reg [] [
    ⟨(some 8), .fieldAddr 24 (.tmp 1) 0, 0, none, []⟩,
    ⟨(some 9), .load 3 (.tmp 8), 3, none, []⟩,
    ⟨(some 10), .call ⟨.value (.func 60), #[(.const (.int .i64 1)), (.tmp 9), (.const (.int .i64 5))], #[3, 3, 3]⟩, 4, none, []⟩,
    ⟨(some 11), .unOp .not 4 (.tmp 10), 4, none, []⟩,
    ⟨(some 7), .assign (.tmp 11), 4, none, []⟩])
  (.cond (.tmp 7) (.seq (.reg [] [
     ⟨(some 2), .assign (.const (.int .i64 1)), 28, none, []⟩])
   (.ret))
  (.seq (.reg [] [
     ⟨(some 13), .fieldAddr 24 (.tmp 1) 1, 0, none, []⟩,
     ⟨(some 14), .load 22 (.tmp 13), 22, none, []⟩,
     ⟨(some 15), .call ⟨.builtin .len, #[(.tmp 14)], #[22]⟩, 3, none, []⟩,
     ⟨(some 16), .binOp .eql 3 (.tmp 15) (.const (.int .i64 0)) 3, 4, none, []⟩,
     ⟨(some 12), .assign (.tmp 16), 4, none, []⟩])
   (.cond (.tmp 12) (.seq (.reg [] [
      ⟨(some 2), .assign (.const (.int .i64 4)), 28, none, []⟩])
    (.ret))
   (.seq (.reg [] [
      ⟨(some 18), .fieldAddr 24 (.tmp 1) 1, 0, none, []⟩,
      ⟨(some 19), .load 22 (.tmp 18), 22, none, []⟩,
      ⟨(some 20), .call ⟨.builtin .len, #[(.tmp 19)], #[22]⟩, 3, none, []⟩,
      ⟨(some 21), .binOp .gtr 3 (.tmp 20) (.const (.int .i64 10)) 3, 4, none, []⟩,
      ⟨(some 17), .assign (.tmp 21), 4, none, []⟩])
    (.cond (.tmp 17) (.seq (.reg [] [
       ⟨(some 2), .assign (.const (.int .i64 3)), 28, none, []⟩])
     (.ret))
    (.seq (.reg [] [
       ⟨(some 23), .fieldAddr 24 (.tmp 1) 2, 0, none, []⟩,
       ⟨(some 24), .load 22 (.tmp 23), 22, none, []⟩,
       ⟨(some 25), .call ⟨.builtin .len, #[(.tmp 24)], #[22]⟩, 3, none, []⟩,
       ⟨(some 26), .fieldAddr 24 (.tmp 1) 1, 0, none, []⟩,
       ⟨(some 27), .load 22 (.tmp 26), 22, none, []⟩,
       ⟨(some 28), .call ⟨.builtin .len, #[(.tmp 27)], #[22]⟩, 3, none, []⟩,
       ⟨(some 29), .binOp .neq 3 (.tmp 25) (.tmp 28) 3, 4, none, []⟩,
       ⟨(some 22), .assign (.tmp 29), 4, none, []⟩])
     (.cond (.tmp 22) (.seq (.reg [] [
        ⟨(some 2), .assign (.const (.int .i64 5)), 28, none, []⟩])
      (.ret))
     (.skip))))))))))
 (.seq (.reg [] [
   ⟨(some 3), .alloc 87, 0, none, []⟩])
 (.seq (.seq (.reg [] [
   ⟨(some 30), .fieldAddr 24 (.tmp 1) 1, 0, none, []⟩,
   ⟨(some 31), .load 22 (.tmp 30), 22, none, []⟩,
   ⟨(some 32), .call ⟨.builtin .len, #[(.tmp 31)], #[22]⟩, 3, none, []⟩,
   ⟨(some 33), .move (.const (.int .i64 0)), 3, none, []⟩])
 (.block 1 (.loop (.seq (.reg [] [
     ⟨(some 34), .binOp .lss 3 (.tmp 33) (.tmp 32) 3, 0, none, []⟩])
   (.seq (.cond (.tmp 34) (.skip)
   (.exit 1))
   (.seq (.block 2 (.seq (.reg [] [
      ⟨(some 35), .move (.tmp 33), 3, none, []⟩,
      ⟨(some 36), .indexAddr 22 (.tmp 31) (.tmp 33), 0, none, []⟩,
      ⟨(some 37), .load 3 (.tmp 36), 3, none, []⟩,
      ⟨(some 4), .assign (.tmp 35), 3, none, []⟩,
      ⟨(some 5), .assign (.tmp 37), 3, none, []⟩])
    (.seq (.reg [] [
      ⟨(some 38), .fieldAddr 24 (.tmp 1) 2, 0, none, []⟩,
      ⟨(some 39), .load 22 (.tmp 38), 22, none, []⟩,
      ⟨(some 40), .move (.tmp 4), 3, none, []⟩,
      ⟨(some 41), .indexAddr 22 (.tmp 39) (.tmp 40), 0, none, []⟩,
      ⟨(some 42), .load 3 (.tmp 41), 3, none, []⟩,
      ⟨(some 6), .assign (.tmp 42), 3, none, []⟩])
    (.seq (.seq (.reg [] [
      ⟨(some 43), .move (.tmp 5), 3, none, []⟩,
      ⟨(some 44), .move (.tmp 6), 3, none, []⟩,
      ⟨(some 45), .call ⟨.builtin .min, #[(.tmp 43), (.tmp 44)], #[3, 3]⟩, 3, none, []⟩,
      ⟨(some 46), .fieldAddr 24 (.tmp 1) 0, 0, none, []⟩,
      ⟨(some 47), .load 3 (.tmp 46), 3, none, []⟩,
      ⟨(some 48), .binOp .sub 3 (.tmp 47) (.const (.int .i64 1)) 3, 3, none, []⟩,
      ⟨(some 49), .call ⟨.value (.func 60), #[(.const (.int .i64 0)), (.tmp 45), (.tmp 48)], #[3, 3, 3]⟩, 4, none, []⟩,
      ⟨(some 50), .unOp .not 4 (.tmp 49), 4, none, []⟩,
      ⟨(some 51), .move (.tmp 50), 4, none, []⟩,
      ⟨(some 52), .move (.tmp 5), 3, (some ((some 51), false)), []⟩,
      ⟨(some 53), .move (.tmp 6), 3, (some ((some 51), false)), []⟩,
      ⟨(some 54), .call ⟨.builtin .max, #[(.tmp 52), (.tmp 53)], #[3, 3]⟩, 3, (some ((some 51), false)), []⟩,
      ⟨(some 55), .fieldAddr 24 (.tmp 1) 0, 0, (some ((some 51), false)), []⟩,
      ⟨(some 56), .load 3 (.tmp 55), 3, (some ((some 51), false)), []⟩,
      ⟨(some 57), .binOp .geq 3 (.tmp 54) (.tmp 56) 3, 4, (some ((some 51), false)), []⟩,
      ⟨(some 58), .pick (.tmp 51) (.const (.bool true)) (.tmp 57), 4, none, []⟩])
    (.cond (.tmp 58) (.seq (.reg [] [
       ⟨(some 2), .assign (.const (.int .i64 2)), 28, none, []⟩])
     (.ret))
    (.skip)))
    (.seq (.reg [] [
      ⟨(some 59), .move (.tmp 5), 3, none, []⟩,
      ⟨(some 60), .indexAddr 87 (.tmp 3) (.tmp 59), 0, none, []⟩,
      ⟨(some 61), .load 3 (.tmp 60), 3, none, []⟩,
      ⟨(some 62), .binOp .add 3 (.tmp 61) (.const (.int .i64 1)) 3, 3, none, []⟩,
      ⟨(some 63), .indexAddr 87 (.tmp 3) (.tmp 59), 0, none, []⟩,
      ⟨none, .store 3 (.tmp 63) (.tmp 62), 0, none, []⟩])
    (.reg [] [
      ⟨(some 64), .move (.tmp 6), 3, none, []⟩,
      ⟨(some 65), .indexAddr 87 (.tmp 3) (.tmp 64), 0, none, []⟩,
      ⟨(some 66), .load 3 (.tmp 65), 3, none, []⟩,
      ⟨(some 67), .binOp .sub 3 (.tmp 66) (.const (.int .i64 1)) 3, 3, none, []⟩,
      ⟨(some 68), .indexAddr 87 (.tmp 3) (.tmp 64), 0, none, []⟩,
      ⟨none, .store 3 (.tmp 68) (.tmp 67), 0, none, []⟩]))))))
   (.reg [] [
     ⟨(some 69), .binOp .add 3 (.tmp 33) (.const (.int .i64 1)) 3, 3, none, []⟩,
     ⟨(some 33), .move (.tmp 69), 3, none, []⟩])))))))
 (.seq (.seq (.reg [] [
   ⟨(some 70), .load 87 (.tmp 3), 87, none, []⟩,
   ⟨(some 71), .build 87 #[], 87, none, []⟩,
   ⟨(some 72), .binOp .neq 87 (.tmp 70) (.tmp 71) 87, 4, none, []⟩])
 (.cond (.tmp 72) (.seq (.reg [] [
    ⟨(some 2), .assign (.const (.int .i64 17)), 28, none, []⟩])
  (.ret))
 (.skip)))
 (.seq (.reg [] [
   ⟨(some 2), .assign (.const (.int .i64 0)), 28, none, []⟩])
 (.ret))))))
/-- spadille/spadilleref09.Check -/
def c22 : RC :=
  .seq (.reg [] [
   ⟨(some 1), .box 27 (.tmp 0), 0, none, []⟩,
   ⟨(some 2), .assign (.const (.int .i64 0)), 28, none, []⟩])
 (.seq (.seq (.reg [] [
   ⟨(some 5), .fieldAddr 27 (.tmp 1) 0, 0, none, []⟩,
   ⟨(some 6), .load 3 (.tmp 5), 3, none, []⟩,
   ⟨(some 7), .call ⟨.value (.func 61), #[(.tmp 6), (.const (.int .i64 1)), (.const (.int .i64 5))], #[3, 3, 3]⟩, 4, none, []⟩,
   ⟨(some 8), .unOp .not 4 (.tmp 7), 4, none, []⟩])
 (.cond (.tmp 8) (.seq (.reg [] [
    ⟨(some 2), .assign (.const (.int .i64 1)), 28, none, []⟩])
  (.ret))
 (.skip)))
 (.seq (.seq (.reg [] [
   ⟨(some 9), .fieldAddr 27 (.tmp 1) 1, 0, none, []⟩,
   ⟨(some 10), .load 22 (.tmp 9), 22, none, []⟩,
   ⟨(some 11), .call ⟨.builtin .len, #[(.tmp 10)], #[22]⟩, 3, none, []⟩,
   ⟨(some 12), .binOp .eql 3 (.tmp 11) (.const (.int .i64 0)) 3, 4, none, []⟩])
 (.cond (.tmp 12) (.seq (.reg [] [
    ⟨(some 2), .assign (.const (.int .i64 4)), 28, none, []⟩])
  (.ret))
 (.skip)))
 (.seq (.seq (.reg [] [
   ⟨(some 13), .fieldAddr 27 (.tmp 1) 1, 0, none, []⟩,
   ⟨(some 14), .load 22 (.tmp 13), 22, none, []⟩,
   ⟨(some 15), .call ⟨.builtin .len, #[(.tmp 14)], #[22]⟩, 3, none, []⟩,
   ⟨(some 16), .binOp .gtr 3 (.tmp 15) (.const (.int .i64 10)) 3, 4, none, []⟩])
 (.cond (.tmp 16) (.seq (.reg [] [
    ⟨(some 2), .assign (.const (.int .i64 3)), 28, none, []⟩])
  (.ret))
 (.skip)))
 (.seq (.seq (.reg [] [
   ⟨(some 17), .fieldAddr 27 (.tmp 1) 2, 0, none, []⟩,
   ⟨(some 18), .load 22 (.tmp 17), 22, none, []⟩,
   ⟨(some 19), .call ⟨.builtin .len, #[(.tmp 18)], #[22]⟩, 3, none, []⟩,
   ⟨(some 20), .fieldAddr 27 (.tmp 1) 1, 0, none, []⟩,
   ⟨(some 21), .load 22 (.tmp 20), 22, none, []⟩,
   ⟨(some 22), .call ⟨.builtin .len, #[(.tmp 21)], #[22]⟩, 3, none, []⟩,
   ⟨(some 23), .binOp .neq 3 (.tmp 19) (.tmp 22) 3, 4, none, []⟩])
 (.cond (.tmp 23) (.seq (.reg [] [
    ⟨(some 2), .assign (.const (.int .i64 5)), 28, none, []⟩])
  (.ret))
 (.skip)))
 (.seq (.seq (.reg [] [
   ⟨(some 3), .assign (.const (.int .i64 0)), 3, none, []⟩])
 (.block 0 (.loop (.seq (.seq (.reg [] [
     ⟨(some 24), .move (.tmp 3), 3, none, []⟩,
     ⟨(some 25), .fieldAddr 27 (.tmp 1) 1, 0, none, []⟩,
     ⟨(some 26), .load 22 (.tmp 25), 22, none, []⟩,
     ⟨(some 27), .call ⟨.builtin .len, #[(.tmp 26)], #[22]⟩, 3, none, []⟩,
     ⟨(some 28), .binOp .lss 3 (.tmp 24) (.tmp 27) 3, 4, none, []⟩])
   (.cond (.tmp 28) (.skip)
   (.exit 0)))
   (.seq (.block 1 (.seq (.reg [0, 1, 2, 3, 4, 5, 6, 7, 8, 9, 10, 11, 12, 13, 14, 15, 16, 17, 18, 19, 20, 21] [
      ⟨(some 31), .fieldAddr 27 (.tmp 1) 1, 0, none, []⟩,
      ⟨(some 32), .load 22 (.tmp 31), 22, none, []⟩,
      ⟨(some 33), .move (.tmp 3), 3, none, []⟩,
      ⟨(some 34), .indexAddr 22 (.tmp 32) (.tmp 33), 0, none, []⟩,
      ⟨(some 35), .load 3 (.tmp 34), 3, none, []⟩,
      ⟨(some 36), .fieldAddr 27 (.tmp 1) 0, 0, none, []⟩,
      ⟨(some 37), .load 3 (.tmp 36), 3, none, []⟩,
      ⟨(some 38), .binOp .sub 3 (.tmp 37) (.const (.int .i64 1)) 3, 3, none, []⟩,
      ⟨(some 39), .call ⟨.value (.func 61), #[(.tmp 35), (.const (.int .i64 0)), (.tmp 38)], #[3, 3, 3]⟩, 4, none, []⟩,
      ⟨(some 40), .unOp .not 4 (.tmp 39), 4, none, []⟩,
      ⟨(some 41), .move (.tmp 40), 4, none, []⟩,
      ⟨(some 42), .fieldAddr 27 (.tmp 1) 2, 0, (some ((some 41), false)), []⟩,
      ⟨(some 43), .load 22 (.tmp 42), 22, (some ((some 41), false)), []⟩,
      ⟨(some 44), .move (.tmp 3), 3, (some ((some 41), false)), []⟩,
      ⟨(some 45), .indexAddr 22 (.tmp 43) (.tmp 44), 0, (some ((some 41), false)), []⟩,
      ⟨(some 46), .load 3 (.tmp 45), 3, (some ((some 41), false)), []⟩,
      ⟨(some 47), .fieldAddr 27 (.tmp 1) 0, 0, (some ((some 41), false)), []⟩,
      ⟨(some 48), .load 3 (.tmp 47), 3, (some ((some 41), false)), []⟩,
      ⟨(some 49), .binOp .sub 3 (.tmp 48) (.const (.int .i64 1)) 3, 3, (some ((some 41), false)), []⟩,
      ⟨(some 50), .call ⟨.value (.func 61), #[(.tmp 46), (.const (.int .i64 0)), (.tmp 49)], #[3, 3, 3]⟩, 4, (some ((some 41), false)), []⟩,
      ⟨(some 51), .unOp .not 4 (.tmp 50), 4, (some ((some 41), false)), []⟩,
      ⟨(some 52), .pick (.tmp 41) (.const (.bool true)) (.tmp 51), 4, none, []⟩])
    (.cond (.tmp 52) (.seq (.reg [] [
       ⟨(some 2), .assign (.const (.int .i64 2)), 28, none, []⟩])
     (.ret))
    (.skip))))
   (.reg [] [
     ⟨(some 29), .move (.tmp 3), 3, none, []⟩,
     ⟨(some 30), .binOp .add 3 (.tmp 29) (.const (.int .i64 1)) 3, 3, none, []⟩,
     ⟨(some 3), .assign (.tmp 30), 3, none, []⟩]))))))
 (.seq (.seq (.reg [] [
   ⟨(some 4), .assign (.const (.int .i64 0)), 3, none, []⟩])
 (.block 2 (.loop (.seq (.seq (.reg [] [
     ⟨(some 53), .move (.tmp 4), 3, none, []⟩,
     ⟨(some 54), .fieldAddr 27 (.tmp 1) 0, 0, none, []⟩,
     ⟨(some 55), .load 3 (.tmp 54), 3, none, []⟩,
     ⟨(some 56), .binOp .lss 3 (.tmp 53) (.tmp 55) 3, 4, none, []⟩])
   (.cond (.tmp 56) (.skip)
   (.exit 2)))
   (.seq (.block 3 (.seq (.reg [0, 1, 2, 4, 5, 6, 3, 7, 8] [
      ⟨(some 59), .fieldAddr 27 (.tmp 1) 1, 0, none, []⟩,
      ⟨(some 60), .load 22 (.tmp 59), 22, none, []⟩,
      ⟨(some 61), .move (.tmp 4), 3, none, []⟩,
      ⟨(some 63), .fieldAddr 27 (.tmp 1) 2, 0, none, []⟩,
      ⟨(some 64), .load 22 (.tmp 63), 22, none, []⟩,
      ⟨(some 65), .move (.tmp 4), 3, none, []⟩,
      ⟨(some 62), .call ⟨.value (.func 62), #[(.tmp 60), (.tmp 61)], #[22, 3]⟩, 3, none, [(.tmp 63)]⟩,
      ⟨(some 66), .call ⟨.value (.func 62), #[(.tmp 64), (.tmp 65)], #[22, 3]⟩, 3, none, []⟩,
      ⟨(some 67), .binOp .neq 3 (.tmp 62) (.tmp 66) 3, 4, none, []⟩])
    (.cond (.tmp 67) (.seq (.reg [] [
       ⟨(some 2), .assign (.const (.int .i64 17)), 28, none, []⟩])
     (.ret))
    (.skip))))
   (.reg [] [
     ⟨(some 57), .move (.tmp 4), 3, none, []⟩,
     ⟨(some 58), .binOp .add 3 (.tmp 57) (.const (.int .i64 1)) 3, 3, none, []⟩,
     ⟨(some 4), .assign (.tmp 58), 3, none, []⟩]))))))
 (.seq (.reg [] [
   ⟨(some 2), .assign (.const (.int .i64 0)), 28, none, []⟩])
 (.ret))))))))
/-- spadille/mend.Helps -/
def c23 : RC :=
  .seq (.reg [] [
   ⟨(some 1), .box 24 (.tmp 0), 0, none, []⟩,
   ⟨(some 2), .assign (.const (.slice none 0 0)), 40, none, []⟩,
   ⟨(some 3), .assign (.const (.int .i64 0)), 28, none, []⟩])
 (.seq (.reg [] [
   ⟨(some 10), .load 24 (.tmp 1), 24, none, []⟩,
   ⟨(some 11), .call ⟨.value (.func 42), #[(.tmp 10)], #[24]⟩, 49, none, []⟩,
   ⟨(some 9), .move (.tmp 11), 49, none, []⟩,
   ⟨(some 12), .extract (.tmp 9) 0, 3, none, []⟩,
   ⟨(some 13), .extract (.tmp 9) 1, 28, none, []⟩,
   ⟨(some 4), .assign (.tmp 12), 3, none, []⟩,
   ⟨(some 5), .assign (.tmp 13), 28, none, []⟩])
 (.seq (.seq (.reg [] [
   ⟨(some 14), .move (.tmp 5), 28, none, []⟩,
   ⟨(some 15), .binOp .neq 28 (.tmp 14) (.const (.int .i64 0)) 28, 4, none, []⟩])
 (.cond (.tmp 15) (.seq (.reg [] [
    ⟨(some 16), .move (.tmp 5), 28, none, []⟩,
    ⟨(some 2), .assign (.const (.slice none 0 0)), 40, none, []⟩,
    ⟨(some 3), .assign (.tmp 16), 28, none, []⟩])
  (.ret))
 (.skip)))
 (.seq (.reg [] [
   ⟨(some 6), .assign (.const (.slice none 0 0)), 40, none, []⟩])
 (.seq (.seq (.reg [] [
   ⟨(some 17), .fieldAddr 24 (.tmp 1) 1, 0, none, []⟩,
   ⟨(some 18), .load 22 (.tmp 17), 22, none, []⟩,
   ⟨(some 19), .call ⟨.builtin .len, #[(.tmp 18)], #[22]⟩, 3, none, []⟩,
   ⟨(some 20), .move (.const (.int .i64 0)), 3, none, []⟩])
 (.block 0 (.loop (.seq (.reg [] [
     ⟨(some 21), .binOp .lss 3 (.tmp 20) (.tmp 19) 3, 0, none, []⟩])
   (.seq (.cond (.tmp 21) (.skip)
   (.exit 0))
   (.seq (.block 1 (.seq (.reg [] [
      ⟨(some 22), .move (.tmp 20), 3, none, []⟩,
      ⟨(some 7), .assign (.tmp 22), 3, none, []⟩])
    (.seq (.reg [] [
      ⟨(some 23), .move (.tmp 7), 3, none, []⟩,
      ⟨(some 24), .binOp .add 3 (.tmp 23) (.const (.int .i64 1)) 3, 3, none, []⟩,
      ⟨(some 8), .assign (.tmp 24), 3, none, []⟩])
    (.block 2 (.loop (.seq (.seq (.reg [] [
        ⟨(some 25), .move (.tmp 8), 3, none, []⟩,
        ⟨(some 26), .fieldAddr 24 (.tmp 1) 1, 0, none, []⟩,
        ⟨(some 27), .load 22 (.tmp 26), 22, none, []⟩,
        ⟨(some 28), .call ⟨.builtin .len, #[(.tmp 27)], #[22]⟩, 3, none, []⟩,
        ⟨(some 29), .binOp .lss 3 (.tmp 25) (.tmp 28) 3, 4, none, []⟩])
      (.cond (.tmp 29) (.skip)
      (.exit 2)))
      (.seq (.block 3 (.seq (.reg [] [
         ⟨(some 32), .load 24 (.tmp 1), 24, none, []⟩,
         ⟨(some 33), .move (.tmp 7), 3, none, []⟩,
         ⟨(some 34), .move (.tmp 8), 3, none, []⟩,
         ⟨(some 35), .call ⟨.value (.func 57), #[(.tmp 32), (.tmp 33), (.tmp 34)], #[24, 3, 3]⟩, 24, none, []⟩,
         ⟨(some 36), .call ⟨.value (.func 63), #[(.tmp 35)], #[24]⟩, 3, none, []⟩,
         ⟨(some 37), .move (.tmp 4), 3, none, []⟩,
         ⟨(some 38), .binOp .lss 3 (.tmp 36) (.tmp 37) 3, 4, none, []⟩])
       (.cond (.tmp 38) (.reg [] [
          ⟨(some 39), .move (.tmp 6), 40, none, []⟩,
          ⟨(some 40), .move (.tmp 7), 3, none, []⟩,
          ⟨(some 41), .move (.tmp 8), 3, none, []⟩,
          ⟨(some 42), .build 65 #[(0, (.tmp 40)), (1, (.tmp 41))], 65, none, []⟩,
          ⟨(some 43), .buildSlice 40 1 #[(0, (.tmp 42))], 40, none, []⟩,
          ⟨(some 44), .call ⟨.builtin .append, #[(.tmp 39), (.tmp 43)], #[40, 40]⟩, 40, none, []⟩,
          ⟨(some 6), .assign (.tmp 44), 40, none, []⟩])
       (.skip))))
      (.reg [] [
        ⟨(some 30), .move (.tmp 8), 3, none, []⟩,
        ⟨(some 31), .binOp .add 3 (.tmp 30) (.const (.int .i64 1)) 3, 3, none, []⟩,
        ⟨(some 8), .assign (.tmp 31), 3, none, []⟩]))))))))
   (.reg [] [
     ⟨(some 45), .binOp .add 3 (.tmp 20) (.const (.int .i64 1)) 3, 3, none, []⟩,
     ⟨(some 20), .move (.tmp 45), 3, none, []⟩])))))))
 (.seq (.reg [] [
   ⟨(some 46), .move (.tmp 6), 40, none, []⟩,
   ⟨(some 2), .assign (.tmp 46), 40, none, []⟩,
   ⟨(some 3), .assign (.const (.int .i64 0)), 28, none, []⟩])
 (.ret))))))
/-- spadille/spadillelaw09.pairs -/
def c25 : RC :=
  .seq (.reg [] [
   ⟨(some 4), .assign (.const (.bool false)), 4, none, []⟩])
 (.seq (.seq (.reg [] [
   ⟨(some 6), .move (.tmp 0), 40, none, []⟩,
   ⟨(some 7), .call ⟨.builtin .len, #[(.tmp 6)], #[40]⟩, 3, none, []⟩,
   ⟨(some 8), .move (.tmp 1), 40, none, []⟩,
   ⟨(some 9), .call ⟨.builtin .len, #[(.tmp 8)], #[40]⟩, 3, none, []⟩,
   ⟨(some 10), .binOp .neq 3 (.tmp 7) (.tmp 9) 3, 4, none, []⟩])
 (.cond (.tmp 10) (.seq (.reg [] [
    ⟨(some 4), .assign (.const (.bool false)), 4, none, []⟩])
  (.ret))
 (.skip)))
 (.seq (.seq (.reg [] [
   ⟨(some 5), .assign (.const (.int .i64 0)), 3, none, []⟩])
 (.block 0 (.loop (.seq (.seq (.reg [] [
     ⟨(some 11), .move (.tmp 5), 3, none, []⟩,
     ⟨(some 12), .move (.tmp 0), 40, none, []⟩,
     ⟨(some 13), .call ⟨.builtin .len, #[(.tmp 12)], #[40]⟩, 3, none, []⟩,
     ⟨(some 14), .binOp .lss 3 (.tmp 11) (.tmp 13) 3, 4, none, []⟩])
   (.cond (.tmp 14) (.skip)
   (.exit 0)))
   (.seq (.block 1 (.seq (.reg [0, 1, 2, 3, 4, 5, 6, 7, 8] [
      ⟨(some 17), .move (.tmp 0), 40, none, []⟩,
      ⟨(some 18), .move (.tmp 5), 3, none, []⟩,
      ⟨(some 19), .indexAddr 40 (.tmp 17) (.tmp 18), 0, none, []⟩,
      ⟨(some 20), .load 65 (.tmp 19), 65, none, []⟩,
      ⟨(some 21), .move (.tmp 1), 40, none, []⟩,
      ⟨(some 22), .move (.tmp 5), 3, none, []⟩,
      ⟨(some 23), .indexAddr 40 (.tmp 21) (.tmp 22), 0, none, []⟩,
      ⟨(some 24), .load 65 (.tmp 23), 65, none, []⟩,
      ⟨(some 25), .binOp .neq 65 (.tmp 20) (.tmp 24) 65, 4, none, []⟩])
    (.cond (.tmp 25) (.seq (.reg [] [
       ⟨(some 4), .assign (.const (.bool false)), 4, none, []⟩])
     (.ret))
    (.skip))))
   (.reg [] [
     ⟨(some 15), .move (.tmp 5), 3, none, []⟩,
     ⟨(some 16), .binOp .add 3 (.tmp 15) (.const (.int .i64 1)) 3, 3, none, []⟩,
     ⟨(some 5), .assign (.tmp 16), 3, none, []⟩]))))))
 (.seq (.reg [] [
   ⟨(some 4), .assign (.const (.bool true)), 4, none, []⟩])
 (.ret))))
/-- spadille/mend.Rings -/
def c26 : RC :=
  .seq (.reg [] [
   ⟨(some 1), .box 24 (.tmp 0), 0, none, []⟩,
   ⟨(some 2), .assign (.const (.slice none 0 0)), 45, none, []⟩,
   ⟨(some 3), .assign (.const (.int .i64 0)), 28, none, []⟩])
 (.seq (.seq (.reg [] [
   ⟨(some 5), .load 24 (.tmp 1), 24, none, []⟩,
   ⟨(some 6), .call ⟨.value (.func 21), #[(.tmp 5)], #[24]⟩, 28, none, []⟩,
   ⟨(some 4), .assign (.tmp 6), 28, none, []⟩])
 (.seq (.reg [] [
   ⟨(some 7), .move (.tmp 4), 28, none, []⟩,
   ⟨(some 8), .binOp .neq 28 (.tmp 7) (.const (.int .i64 0)) 28, 4, none, []⟩])
 (.cond (.tmp 8) (.seq (.reg [] [
    ⟨(some 9), .move (.tmp 4), 28, none, []⟩,
    ⟨(some 2), .assign (.const (.slice none 0 0)), 45, none, []⟩,
    ⟨(some 3), .assign (.tmp 9), 28, none, []⟩])
  (.ret))
 (.skip))))
 (.seq (.reg [] [
   ⟨(some 10), .load 24 (.tmp 1), 24, none, []⟩,
   ⟨(some 11), .call ⟨.value (.func 65), #[(.tmp 10)], #[24]⟩, 45, none, []⟩,
   ⟨(some 2), .assign (.tmp 11), 45, none, []⟩,
   ⟨(some 3), .assign (.const (.int .i64 0)), 28, none, []⟩])
 (.ret)))
/-- spadille/mend.Divides -/
def c28 : RC :=
  .seq (.reg [] [
   ⟨(some 2), .box 24 (.tmp 0), 0, none, []⟩,
   ⟨(some 4), .assign (.const (.int .i64 0)), 3, none, []⟩,
   ⟨(some 5), .assign (.const (.int .i64 0)), 28, none, []⟩])
 (.seq (.seq (.reg [] [
   ⟨(some 16), .load 24 (.tmp 2), 24, none, []⟩,
   ⟨(some 17), .call ⟨.value (.func 21), #[(.tmp 16)], #[24]⟩, 28, none, []⟩,
   ⟨(some 6), .assign (.tmp 17), 28, none, []⟩])
 (.seq (.reg [] [
   ⟨(some 18), .move (.tmp 6), 28, none, []⟩,
   ⟨(some 19), .binOp .neq 28 (.tmp 18) (.const (.int .i64 0)) 28, 4, none, []⟩])
 (.cond (.tmp 19) (.seq (.reg [] [
    ⟨(some 20), .move (.tmp 6), 28, none, []⟩,
    ⟨(some 4), .assign (.const (.int .i64 0)), 3, none, []⟩,
    ⟨(some 5), .assign (.tmp 20), 28, none, []⟩])
  (.ret))
 (.skip))))
 (.seq (.reg [] [
   ⟨(some 21), .load 24 (.tmp 2), 24, none, []⟩,
   ⟨(some 22), .call ⟨.value (.func 53), #[(.tmp 21)], #[24]⟩, 79, none, []⟩,
   ⟨(some 7), .assign (.tmp 22), 79, none, []⟩])
 (.seq (.reg [] [
   ⟨(some 8), .assign (.const (.int .u16 0)), 79, none, []⟩])
 (.seq (.seq (.reg [] [
   ⟨(some 23), .move (.tmp 1), 45, none, []⟩,
   ⟨(some 24), .call ⟨.builtin .len, #[(.tmp 23)], #[45]⟩, 3, none, []⟩,
   ⟨(some 25), .move (.const (.int .i64 0)), 3, none, []⟩])
 (.block 0 (.loop (.seq (.reg [] [
     ⟨(some 26), .binOp .lss 3 (.tmp 25) (.tmp 24) 3, 0, none, []⟩])
   (.seq (.cond (.tmp 26) (.skip)
   (.exit 0))
   (.seq (.block 1 (.seq (.reg [] [
      ⟨(some 27), .indexAddr 45 (.tmp 23) (.tmp 25), 0, none, []⟩,
      ⟨(some 28), .load 22 (.tmp 27), 22, none, []⟩,
      ⟨(some 10), .assign (.tmp 28), 22, none, []⟩])
    (.seq (.seq (.reg [] [
      ⟨(some 29), .move (.tmp 10), 22, none, []⟩,
      ⟨(some 30), .call ⟨.builtin .len, #[(.tmp 29)], #[22]⟩, 3, none, []⟩,
      ⟨(some 31), .binOp .eql 3 (.tmp 30) (.const (.int .i64 0)) 3, 4, none, []⟩])
    (.cond (.tmp 31) (.seq (.reg [] [
       ⟨(some 4), .assign (.const (.int .i64 0)), 3, none, []⟩,
       ⟨(some 5), .assign (.const (.int .i64 4)), 28, none, []⟩])
     (.ret))
    (.skip)))
    (.seq (.seq (.reg [] [
      ⟨(some 32), .move (.tmp 10), 22, none, []⟩,
      ⟨(some 33), .call ⟨.builtin .len, #[(.tmp 32)], #[22]⟩, 3, none, []⟩,
      ⟨(some 34), .move (.const (.int .i64 0)), 3, none, []⟩])
    (.block 2 (.loop (.seq (.reg [] [
        ⟨(some 35), .binOp .lss 3 (.tmp 34) (.tmp 33) 3, 0, none, []⟩])
      (.seq (.cond (.tmp 35) (.skip)
      (.exit 2))
      (.seq (.block 3 (.seq (.reg [] [
         ⟨(some 36), .indexAddr 22 (.tmp 32) (.tmp 34), 0, none, []⟩,
         ⟨(some 37), .load 3 (.tmp 36), 3, none, []⟩,
         ⟨(some 12), .assign (.tmp 37), 3, none, []⟩])
       (.seq (.block 4 (.seq (.reg [] [
          ⟨(some 39), .move (.tmp 12), 3, none, []⟩,
          ⟨(some 40), .fieldAddr 24 (.tmp 2) 1, 0, none, []⟩,
          ⟨(some 41), .load 22 (.tmp 40), 22, none, []⟩,
          ⟨(some 42), .call ⟨.builtin .len, #[(.tmp 41)], #[22]⟩, 3, none, []⟩,
          ⟨(some 43), .binOp .sub 3 (.tmp 42) (.const (.int .i64 1)) 3, 3, none, []⟩,
          ⟨(some 44), .call ⟨.value (.func 60), #[(.const (.int .i64 0)), (.tmp 39), (.tmp 43)], #[3, 3, 3]⟩, 4, none, []⟩,
          ⟨(some 45), .unOp .not 4 (.tmp 44), 4, none, []⟩,
          ⟨(some 38), .assign (.tmp 45), 4, none, []⟩])
        (.cond (.tmp 38) (.seq (.reg [] [
           ⟨(some 4), .assign (.const (.int .i64 0)), 3, none, []⟩,
           ⟨(some 5), .assign (.const (.int .i64 2)), 28, none, []⟩])
         (.ret))
        (.seq (.reg [] [
           ⟨(some 47), .move (.tmp 8), 79, none, []⟩,
           ⟨(some 48), .move (.tmp 12), 3, none, []⟩,
           ⟨(some 49), .call ⟨.value (.func 67), #[(.tmp 47), (.tmp 48)], #[79, 3]⟩, 4, none, []⟩,
           ⟨(some 46), .assign (.tmp 49), 4, none, []⟩])
         (.cond (.tmp 46) (.seq (.reg [] [
            ⟨(some 4), .assign (.const (.int .i64 0)), 3, none, []⟩,
            ⟨(some 5), .assign (.const (.int .i64 6)), 28, none, []⟩])
          (.ret))
         (.seq (.reg [] [
            ⟨(some 51), .move (.tmp 7), 79, none, []⟩,
            ⟨(some 52), .move (.tmp 12), 3, none, []⟩,
            ⟨(some 53), .call ⟨.value (.func 67), #[(.tmp 51), (.tmp 52)], #[79, 3]⟩, 4, none, []⟩,
            ⟨(some 54), .unOp .not 4 (.tmp 53), 4, none, []⟩,
            ⟨(some 50), .assign (.tmp 54), 4, none, []⟩])
          (.cond (.tmp 50) (.seq (.reg [] [
             ⟨(some 4), .assign (.const (.int .i64 0)), 3, none, []⟩,
             ⟨(some 5), .assign (.const (.int .i64 13)), 28, none, []⟩])
           (.ret))
          (.skip))))))))
       (.reg [] [
         ⟨(some 55), .move (.tmp 8), 79, none, []⟩,
         ⟨(some 56), .move (.tmp 12), 3, none, []⟩,
         ⟨(some 57), .binOp .shl 79 (.const (.int .u16 1)) (.tmp 56) 3, 79, none, []⟩,
         ⟨(some 58), .binOp .or 79 (.tmp 55) (.tmp 57) 79, 79, none, []⟩,
         ⟨(some 8), .assign (.tmp 58), 79, none, []⟩]))))
      (.reg [] [
        ⟨(some 59), .binOp .add 3 (.tmp 34) (.const (.int .i64 1)) 3, 3, none, []⟩,
        ⟨(some 34), .move (.tmp 59), 3, none, []⟩])))))))
    (.seq (.reg [] [
      ⟨(some 60), .move (.tmp 10), 22, none, []⟩,
      ⟨(some 61), .move (.tmp 10), 22, none, []⟩,
      ⟨(some 62), .call ⟨.builtin .len, #[(.tmp 61)], #[22]⟩, 3, none, []⟩,
      ⟨(some 63), .binOp .sub 3 (.tmp 62) (.const (.int .i64 1)) 3, 3, none, []⟩,
      ⟨(some 64), .indexAddr 22 (.tmp 60) (.tmp 63), 0, none, []⟩,
      ⟨(some 65), .load 3 (.tmp 64), 3, none, []⟩,
      ⟨(some 13), .assign (.tmp 65), 3, none, []⟩])
    (.seq (.reg [] [
      ⟨(some 66), .move (.tmp 10), 22, none, []⟩,
      ⟨(some 67), .call ⟨.builtin .len, #[(.tmp 66)], #[22]⟩, 3, none, []⟩,
      ⟨(some 68), .move (.const (.int .i64 0)), 3, none, []⟩])
    (.block 5 (.loop (.seq (.reg [] [
        ⟨(some 69), .binOp .lss 3 (.tmp 68) (.tmp 67) 3, 0, none, []⟩])
      (.seq (.cond (.tmp 69) (.skip)
      (.exit 5))
      (.seq (.block 6 (.seq (.reg [] [
         ⟨(some 70), .indexAddr 22 (.tmp 66) (.tmp 68), 0, none, []⟩,
         ⟨(some 71), .load 3 (.tmp 70), 3, none, []⟩,
         ⟨(some 15), .assign (.tmp 71), 3, none, []⟩])
       (.seq (.seq (.reg [0, 1, 2, 3, 4, 5, 6, 7, 8, 9, 10] [
         ⟨(some 72), .fieldAddr 24 (.tmp 2) 2, 0, none, []⟩,
         ⟨(some 73), .load 22 (.tmp 72), 22, none, []⟩,
         ⟨(some 74), .move (.tmp 13), 3, none, []⟩,
         ⟨(some 75), .indexAddr 22 (.tmp 73) (.tmp 74), 0, none, []⟩,
         ⟨(some 76), .load 3 (.tmp 75), 3, none, []⟩,
         ⟨(some 77), .fieldAddr 24 (.tmp 2) 1, 0, none, []⟩,
         ⟨(some 78), .load 22 (.tmp 77), 22, none, []⟩,
         ⟨(some 79), .move (.tmp 15), 3, none, []⟩,
         ⟨(some 80), .indexAddr 22 (.tmp 78) (.tmp 79), 0, none, []⟩,
         ⟨(some 81), .load 3 (.tmp 80), 3, none, []⟩,
         ⟨(some 82), .binOp .neq 3 (.tmp 76) (.tmp 81) 3, 4, none, []⟩])
       (.cond (.tmp 82) (.seq (.reg [] [
          ⟨(some 4), .assign (.const (.int .i64 0)), 3, none, []⟩,
          ⟨(some 5), .assign (.const (.int .i64 14)), 28, none, []⟩])
        (.ret))
       (.skip)))
       (.reg [] [
         ⟨(some 83), .move (.tmp 15), 3, none, []⟩,
         ⟨(some 13), .assign (.tmp 83), 3, none, []⟩]))))
      (.reg [] [
        ⟨(some 84), .binOp .add 3 (.tmp 68) (.const (.int .i64 1)) 3, 3, none, []⟩,
        ⟨(some 68), .move (.tmp 84), 3, none, []⟩]))))))))))))
   (.reg [] [
     ⟨(some 85), .binOp .add 3 (.tmp 25) (.const (.int .i64 1)) 3, 3, none, []⟩,
     ⟨(some 25), .move (.tmp 85), 3, none, []⟩])))))))
 (.seq (.seq (.reg [] [
   ⟨(some 86), .move (.tmp 8), 79, none, []⟩,
   ⟨(some 87), .move (.tmp 7), 79, none, []⟩,
   ⟨(some 88), .binOp .neq 79 (.tmp 86) (.tmp 87) 79, 4, none, []⟩])
 (.cond (.tmp 88) (.seq (.reg [] [
    ⟨(some 4), .assign (.const (.int .i64 0)), 3, none, []⟩,
    ⟨(some 5), .assign (.const (.int .i64 21)), 28, none, []⟩])
  (.ret))
 (.skip)))
 (.seq (.reg [] [
   ⟨(some 89), .move (.tmp 1), 45, none, []⟩,
   ⟨(some 90), .call ⟨.builtin .len, #[(.tmp 89)], #[45]⟩, 3, none, []⟩,
   ⟨(some 4), .assign (.tmp 90), 3, none, []⟩,
   ⟨(some 5), .assign (.const (.int .i64 0)), 28, none, []⟩])
 (.ret)))))))
/-- spadille/spadillelaw09.alike -/
def c30 : RC :=
  .seq (.reg [] [
   ⟨(some 4), .assign (.const (.bool false)), 4, none, []⟩])
 (.seq (.seq (.reg [] [
   ⟨(some 6), .move (.tmp 0), 45, none, []⟩,
   ⟨(some 7), .call ⟨.builtin .len, #[(.tmp 6)], #[45]⟩, 3, none, []⟩,
   ⟨(some 8), .move (.tmp 1), 45, none, []⟩,
   ⟨(some 9), .call ⟨.builtin .len, #[(.tmp 8)], #[45]⟩, 3, none, []⟩,
   ⟨(some 10), .binOp .neq 3 (.tmp 7) (.tmp 9) 3, 4, none, []⟩])
 (.cond (.tmp 10) (.seq (.reg [] [
    ⟨(some 4), .assign (.const (.bool false)), 4, none, []⟩])
  (.ret))
 (.skip)))
 (.seq (.seq (.reg [] [
   ⟨(some 5), .assign (.const (.int .i64 0)), 3, none, []⟩])
 (.block 0 (.loop (.seq (.seq (.reg [] [
     ⟨(some 11), .move (.tmp 5), 3, none, []⟩,
     ⟨(some 12), .move (.tmp 0), 45, none, []⟩,
     ⟨(some 13), .call ⟨.builtin .len, #[(.tmp 12)], #[45]⟩, 3, none, []⟩,
     ⟨(some 14), .binOp .lss 3 (.tmp 11) (.tmp 13) 3, 4, none, []⟩])
   (.cond (.tmp 14) (.skip)
   (.exit 0)))
   (.seq (.block 1 (.seq (.reg [0, 1, 2, 3, 4, 5, 6, 7, 8, 9] [
      ⟨(some 17), .move (.tmp 0), 45, none, []⟩,
      ⟨(some 18), .move (.tmp 5), 3, none, []⟩,
      ⟨(some 19), .indexAddr 45 (.tmp 17) (.tmp 18), 0, none, []⟩,
      ⟨(some 20), .load 22 (.tmp 19), 22, none, []⟩,
      ⟨(some 21), .move (.tmp 1), 45, none, []⟩,
      ⟨(some 22), .move (.tmp 5), 3, none, []⟩,
      ⟨(some 23), .indexAddr 45 (.tmp 21) (.tmp 22), 0, none, []⟩,
      ⟨(some 24), .load 22 (.tmp 23), 22, none, []⟩,
      ⟨(some 25), .call ⟨.value (.func 20), #[(.tmp 20), (.tmp 24)], #[22, 22]⟩, 4, none, []⟩,
      ⟨(some 26), .unOp .not 4 (.tmp 25), 4, none, []⟩])
    (.cond (.tmp 26) (.seq (.reg [] [
       ⟨(some 4), .assign (.const (.bool false)), 4, none, []⟩])
     (.ret))
    (.skip))))
   (.reg [] [
     ⟨(some 15), .move (.tmp 5), 3, none, []⟩,
     ⟨(some 16), .binOp .add 3 (.tmp 15) (.const (.int .i64 1)) 3, 3, none, []⟩,
     ⟨(some 5), .assign (.tmp 16), 3, none, []⟩]))))))
 (.seq (.reg [] [
   ⟨(some 4), .assign (.const (.bool true)), 4, none, []⟩])
 (.ret))))
/-- spadille/mend.Most -/
def c31 : RC :=
  .seq (.reg [] [
   ⟨(some 4), .assign (.const (.int .i64 0)), 3, none, []⟩,
   ⟨(some 5), .assign (.const (.int .i64 0)), 28, none, []⟩])
 (.seq (.seq (.reg [] [
   ⟨(some 6), .move (.tmp 0), 3, none, []⟩,
   ⟨(some 7), .call ⟨.value (.func 60), #[(.const (.int .i64 1)), (.tmp 6), (.const (.int .i64 10))], #[3, 3, 3]⟩, 4, none, []⟩,
   ⟨(some 8), .unOp .not 4 (.tmp 7), 4, none, []⟩,
   ⟨(some 9), .move (.tmp 8), 4, none, []⟩,
   ⟨(some 10), .move (.tmp 1), 3, (some ((some 9), false)), []⟩,
   ⟨(some 11), .call ⟨.value (.func 60), #[(.const (.int .i64 1)), (.tmp 10), (.const (.int .i64 5))], #[3, 3, 3]⟩, 4, (some ((some 9), false)), []⟩,
   ⟨(some 12), .unOp .not 4 (.tmp 11), 4, (some ((some 9), false)), []⟩,
   ⟨(some 13), .pick (.tmp 9) (.const (.bool true)) (.tmp 12), 4, none, []⟩])
 (.cond (.tmp 13) (.seq (.reg [] [
    ⟨(some 4), .assign (.const (.int .i64 0)), 3, none, []⟩,
    ⟨(some 5), .assign (.const (.int .i64 1)), 28, none, []⟩])
  (.ret))
 (.skip)))
 (.seq (.reg [] [
   ⟨(some 14), .move (.tmp 0), 3, none, []⟩,
   ⟨(some 15), .move (.tmp 0), 3, none, []⟩,
   ⟨(some 16), .move (.tmp 1), 3, none, []⟩,
   ⟨(some 17), .binOp .add 3 (.tmp 15) (.tmp 16) 3, 3, none, []⟩,
   ⟨(some 18), .binOp .sub 3 (.tmp 17) (.const (.int .i64 1)) 3, 3, none, []⟩,
   ⟨(some 19), .move (.tmp 1), 3, none, []⟩,
   ⟨(some 20), .binOp .quo 3 (.tmp 18) (.tmp 19) 3, 3, none, []⟩,
   ⟨(some 21), .binOp .sub 3 (.tmp 14) (.tmp 20) 3, 3, none, []⟩,
   ⟨(some 4), .assign (.tmp 21), 3, none, []⟩,
   ⟨(some 5), .assign (.const (.int .i64 0)), 28, none, []⟩])
 (.ret)))
/-- spadille/spadilleref09.Most -/
def c32 : RC :=
  .seq (.reg [] [
   ⟨(some 4), .assign (.const (.int .i64 0)), 3, none, []⟩,
   ⟨(some 5), .assign (.const (.int .i64 0)), 28, none, []⟩])
 (.seq (.seq (.reg [] [
   ⟨(some 7), .move (.tmp 0), 3, none, []⟩,
   ⟨(some 8), .call ⟨.value (.func 61), #[(.tmp 7), (.const (.int .i64 1)), (.const (.int .i64 10))], #[3, 3, 3]⟩, 4, none, []⟩,
   ⟨(some 9), .unOp .not 4 (.tmp 8), 4, none, []⟩,
   ⟨(some 10), .move (.tmp 9), 4, none, []⟩,
   ⟨(some 11), .move (.tmp 1), 3, (some ((some 10), false)), []⟩,
   ⟨(some 12), .call ⟨.value (.func 61), #[(.tmp 11), (.const (.int .i64 1)), (.const (.int .i64 5))], #[3, 3, 3]⟩, 4, (some ((some 10), false)), []⟩,
   ⟨(some 13), .unOp .not 4 (.tmp 12), 4, (some ((some 10), false)), []⟩,
   ⟨(some 14), .pick (.tmp 10) (.const (.bool true)) (.tmp 13), 4, none, []⟩])
 (.cond (.tmp 14) (.seq (.reg [] [
    ⟨(some 4), .assign (.const (.int .i64 0)), 3, none, []⟩,
    ⟨(some 5), .assign (.const (.int .i64 1)), 28, none, []⟩])
  (.ret))
 (.skip)))
 (.seq (.reg [] [
   ⟨(some 6), .assign (.const (.int .i64 0)), 3, none, []⟩])
 (.seq (.block 0 (.loop (.seq (.seq (.reg [] [
     ⟨(some 15), .move (.tmp 6), 3, none, []⟩,
     ⟨(some 16), .move (.tmp 1), 3, none, []⟩,
     ⟨(some 17), .binOp .mul 3 (.tmp 15) (.tmp 16) 3, 3, none, []⟩,
     ⟨(some 18), .move (.tmp 0), 3, none, []⟩,
     ⟨(some 19), .binOp .lss 3 (.tmp 17) (.tmp 18) 3, 4, none, []⟩])
   (.cond (.tmp 19) (.skip)
   (.exit 0)))
   (.block 1 (.reg [] [
      ⟨(some 20), .move (.tmp 6), 3, none, []⟩,
      ⟨(some 21), .binOp .add 3 (.tmp 20) (.const (.int .i64 1)) 3, 3, none, []⟩,
      ⟨(some 6), .assign (.tmp 21), 3, none, []⟩])))))
 (.seq (.reg [] [
   ⟨(some 22), .move (.tmp 0), 3, none, []⟩,
   ⟨(some 23), .move (.tmp 6), 3, none, []⟩,
   ⟨(some 24), .binOp .sub 3 (.tmp 22) (.tmp 23) 3, 3, none, []⟩,
   ⟨(some 4), .assign (.tmp 24), 3, none, []⟩,
   ⟨(some 5), .assign (.const (.int .i64 0)), 28, none, []⟩])
 (.ret)))))
/-- spadille/mend.Sources -/
def c33 : RC :=
  .seq (.reg [] [
   ⟨(some 1), .box 24 (.tmp 0), 0, none, []⟩,
   ⟨(some 2), .assign (.const (.slice none 0 0)), 22, none, []⟩,
   ⟨(some 3), .assign (.const (.int .i64 0)), 28, none, []⟩])
 (.seq (.seq (.reg [] [
   ⟨(some 5), .load 24 (.tmp 1), 24, none, []⟩,
   ⟨(some 6), .call ⟨.value (.func 21), #[(.tmp 5)], #[24]⟩, 28, none, []⟩,
   ⟨(some 4), .assign (.tmp 6), 28, none, []⟩])
 (.seq (.reg [] [
   ⟨(some 7), .move (.tmp 4), 28, none, []⟩,
   ⟨(some 8), .binOp .neq 28 (.tmp 7) (.const (.int .i64 0)) 28, 4, none, []⟩])
 (.cond (.tmp 8) (.seq (.reg [] [
    ⟨(some 9), .move (.tmp 4), 28, none, []⟩,
    ⟨(some 2), .assign (.const (.slice none 0 0)), 22, none, []⟩,
    ⟨(some 3), .assign (.tmp 9), 28, none, []⟩])
  (.ret))
 (.skip))))
 (.seq (.reg [] [
   ⟨(some 10), .load 24 (.tmp 1), 24, none, []⟩,
   ⟨(some 11), .call ⟨.value (.func 69), #[(.tmp 10)], #[24]⟩, 22, none, []⟩,
   ⟨(some 2), .assign (.tmp 11), 22, none, []⟩,
   ⟨(some 3), .assign (.const (.int .i64 0)), 28, none, []⟩])
 (.ret)))
/-- spadille/spadilleref09.Sources -/
def c34 : RC :=
  .seq (.reg [] [
   ⟨(some 1), .box 27 (.tmp 0), 0, none, []⟩,
   ⟨(some 2), .assign (.const (.slice none 0 0)), 22, none, []⟩,
   ⟨(some 3), .assign (.const (.int .i64 0)), 28, none, []⟩])
 (.seq (.reg [] [
   ⟨(some 7), .load 27 (.tmp 1), 27, none, []⟩,
   ⟨(some 8), .call ⟨.value (.func 22), #[(.tmp 7)], #[27]⟩, 28, none, []⟩,
   ⟨(some 4), .assign (.tmp 8), 28, none, []⟩])
 (.seq (.seq (.reg [] [
   ⟨(some 9), .move (.tmp 4), 28, none, []⟩,
   ⟨(some 10), .binOp .neq 28 (.tmp 9) (.const (.int .i64 0)) 28, 4, none, []⟩])
 (.cond (.tmp 10) (.seq (.reg [] [
    ⟨(some 11), .move (.tmp 4), 28, none, []⟩,
    ⟨(some 2), .assign (.const (.slice none 0 0)), 22, none, []⟩,
    ⟨(some 3), .assign (.tmp 11), 28, none, []⟩])
  (.ret))
 (.skip)))
 (.seq (.reg [] [
   ⟨(some 5), .assign (.const (.slice none 0 0)), 22, none, []⟩])
 (.seq (.seq (.reg [] [
   ⟨(some 6), .assign (.const (.int .i64 0)), 3, none, []⟩])
 (.block 0 (.loop (.seq (.seq (.reg [] [
     ⟨(some 12), .move (.tmp 6), 3, none, []⟩,
     ⟨(some 13), .fieldAddr 27 (.tmp 1) 1, 0, none, []⟩,
     ⟨(some 14), .load 22 (.tmp 13), 22, none, []⟩,
     ⟨(some 15), .call ⟨.builtin .len, #[(.tmp 14)], #[22]⟩, 3, none, []⟩,
     ⟨(some 16), .binOp .lss 3 (.tmp 12) (.tmp 15) 3, 4, none, []⟩])
   (.cond (.tmp 16) (.skip)
   (.exit 0)))
   (.seq (.block 1 (.reg [] [
      ⟨(some 19), .move (.tmp 5), 22, none, []⟩,
      ⟨(some 20), .load 27 (.tmp 1), 27, none, []⟩,
      ⟨(some 21), .move (.tmp 6), 3, none, []⟩,
      ⟨(some 22), .call ⟨.value (.func 70), #[(.tmp 20), (.tmp 21)], #[27, 3]⟩, 3, none, []⟩,
      ⟨(some 23), .buildSlice 22 1 #[(0, (.tmp 22))], 22, none, []⟩,
      ⟨(some 24), .call ⟨.builtin .append, #[(.tmp 19), (.tmp 23)], #[22, 22]⟩, 22, none, []⟩,
      ⟨(some 5), .assign (.tmp 24), 22, none, []⟩]))
   (.reg [] [
     ⟨(some 17), .move (.tmp 6), 3, none, []⟩,
     ⟨(some 18), .binOp .add 3 (.tmp 17) (.const (.int .i64 1)) 3, 3, none, []⟩,
     ⟨(some 6), .assign (.tmp 18), 3, none, []⟩]))))))
 (.seq (.reg [] [
   ⟨(some 25), .move (.tmp 5), 22, none, []⟩,
   ⟨(some 2), .assign (.tmp 25), 22, none, []⟩,
   ⟨(some 3), .assign (.const (.int .i64 0)), 28, none, []⟩])
 (.ret))))))
/-- spadille/mend.Near -/
def c35 : RC :=
  .seq (.reg [] [
   ⟨(some 1), .box 24 (.tmp 0), 0, none, []⟩,
   ⟨(some 2), .assign (.const (.int .i64 0)), 3, none, []⟩,
   ⟨(some 3), .assign (.const (.int .i64 0)), 28, none, []⟩])
 (.seq (.seq (.reg [] [
   ⟨(some 12), .load 24 (.tmp 1), 24, none, []⟩,
   ⟨(some 13), .call ⟨.value (.func 21), #[(.tmp 12)], #[24]⟩, 28, none, []⟩,
   ⟨(some 4), .assign (.tmp 13), 28, none, []⟩])
 (.seq (.reg [] [
   ⟨(some 14), .move (.tmp 4), 28, none, []⟩,
   ⟨(some 15), .binOp .neq 28 (.tmp 14) (.const (.int .i64 0)) 28, 4, none, []⟩])
 (.cond (.tmp 15) (.seq (.reg [] [
    ⟨(some 16), .move (.tmp 4), 28, none, []⟩,
    ⟨(some 2), .assign (.const (.int .i64 0)), 3, none, []⟩,
    ⟨(some 3), .assign (.tmp 16), 28, none, []⟩])
  (.ret))
 (.skip))))
 (.seq (.reg [] [
   ⟨(some 5), .assign (.func 69), 96, none, []⟩])
 (.seq (.reg [] [
   ⟨(some 17), .move (.tmp 5), 96, none, []⟩,
   ⟨(some 18), .load 24 (.tmp 1), 24, none, []⟩,
   ⟨(some 19), .call ⟨.value (.tmp 17), #[(.tmp 18)], #[24]⟩, 22, none, []⟩,
   ⟨(some 6), .assign (.tmp 19), 22, none, []⟩])
 (.seq (.reg [] [
   ⟨(some 7), .assign (.const (.int .i64 0)), 3, none, []⟩])
 (.seq (.seq (.reg [] [
   ⟨(some 20), .move (.tmp 6), 22, none, []⟩,
   ⟨(some 21), .call ⟨.builtin .len, #[(.tmp 20)], #[22]⟩, 3, none, []⟩,
   ⟨(some 22), .move (.const (.int .i64 0)), 3, none, []⟩])
 (.block 0 (.loop (.seq (.reg [] [
     ⟨(some 23), .binOp .lss 3 (.tmp 22) (.tmp 21) 3, 0, none, []⟩])
   (.seq (.cond (.tmp 23) (.skip)
   (.exit 0))
   (.seq (.block 1 (.seq (.reg [] [
      ⟨(some 24), .move (.tmp 22), 3, none, []⟩,
      ⟨(some 25), .indexAddr 22 (.tmp 20) (.tmp 22), 0, none, []⟩,
      ⟨(some 26), .load 3 (.tmp 25), 3, none, []⟩,
      ⟨(some 8), .assign (.tmp 24), 3, none, []⟩,
      ⟨(some 9), .assign (.tmp 26), 3, none, []⟩])
    (.seq (.reg [] [
      ⟨(some 27), .move (.tmp 6), 22, none, []⟩,
      ⟨(some 28), .move (.tmp 8), 3, none, []⟩,
      ⟨(some 29), .binOp .add 3 (.tmp 28) (.const (.int .i64 1)) 3, 3, none, []⟩,
      ⟨(some 30), .slice 22 (.tmp 27) (some (.tmp 29)) none none, 22, none, []⟩,
      ⟨(some 31), .call ⟨.builtin .len, #[(.tmp 30)], #[22]⟩, 3, none, []⟩,
      ⟨(some 32), .move (.const (.int .i64 0)), 3, none, []⟩])
    (.block 2 (.loop (.seq (.reg [] [
        ⟨(some 33), .binOp .lss 3 (.tmp 32) (.tmp 31) 3, 0, none, []⟩])
      (.seq (.cond (.tmp 33) (.skip)
      (.exit 2))
      (.seq (.block 3 (.seq (.reg [] [
         ⟨(some 34), .indexAddr 22 (.tmp 30) (.tmp 32), 0, none, []⟩,
         ⟨(some 35), .load 3 (.tmp 34), 3, none, []⟩,
         ⟨(some 11), .assign (.tmp 35), 3, none, []⟩])
       (.seq (.reg [] [
         ⟨(some 36), .move (.tmp 9), 3, none, []⟩,
         ⟨(some 37), .move (.tmp 11), 3, none, []⟩,
         ⟨(some 38), .binOp .gtr 3 (.tmp 36) (.tmp 37) 3, 4, none, []⟩])
       (.cond (.tmp 38) (.reg [] [
          ⟨(some 39), .move (.tmp 7), 3, none, []⟩,
          ⟨(some 40), .binOp .add 3 (.tmp 39) (.const (.int .i64 1)) 3, 3, none, []⟩,
          ⟨(some 7), .assign (.tmp 40), 3, none, []⟩])
       (.skip)))))
      (.reg [] [
        ⟨(some 41), .binOp .add 3 (.tmp 32) (.const (.int .i64 1)) 3, 3, none, []⟩,
        ⟨(some 32), .move (.tmp 41), 3, none, []⟩])))))))))
   (.reg [] [
     ⟨(some 42), .binOp .add 3 (.tmp 22) (.const (.int .i64 1)) 3, 3, none, []⟩,
     ⟨(some 22), .move (.tmp 42), 3, none, []⟩])))))))
 (.seq (.reg [] [
   ⟨(some 43), .move (.tmp 7), 3, none, []⟩,
   ⟨(some 2), .assign (.tmp 43), 3, none, []⟩,
   ⟨(some 3), .assign (.const (.int .i64 0)), 28, none, []⟩])
 (.ret)))))))
/-- spadille/spadilleref09.Near -/
def c36 : RC :=
  .seq (.reg [] [
   ⟨(some 1), .box 27 (.tmp 0), 0, none, []⟩,
   ⟨(some 2), .assign (.const (.int .i64 0)), 3, none, []⟩,
   ⟨(some 3), .assign (.const (.int .i64 0)), 28, none, []⟩])
 (.seq (.reg [] [
   ⟨(some 10), .load 27 (.tmp 1), 27, none, []⟩,
   ⟨(some 11), .call ⟨.value (.func 34), #[(.tmp 10)], #[27]⟩, 29, none, []⟩,
   ⟨(some 9), .move (.tmp 11), 29, none, []⟩,
   ⟨(some 12), .extract (.tmp 9) 0, 22, none, []⟩,
   ⟨(some 13), .extract (.tmp 9) 1, 28, none, []⟩,
   ⟨(some 4), .assign (.tmp 12), 22, none, []⟩,
   ⟨(some 5), .assign (.tmp 13), 28, none, []⟩])
 (.seq (.seq (.reg [] [
   ⟨(some 14), .move (.tmp 5), 28, none, []⟩,
   ⟨(some 15), .binOp .neq 28 (.tmp 14) (.const (.int .i64 0)) 28, 4, none, []⟩])
 (.cond (.tmp 15) (.seq (.reg [] [
    ⟨(some 16), .move (.tmp 5), 28, none, []⟩,
    ⟨(some 2), .assign (.const (.int .i64 0)), 3, none, []⟩,
    ⟨(some 3), .assign (.tmp 16), 28, none, []⟩])
  (.ret))
 (.skip)))
 (.seq (.reg [] [
   ⟨(some 6), .assign (.const (.int .i64 0)), 3, none, []⟩])
 (.seq (.seq (.reg [] [
   ⟨(some 7), .assign (.const (.int .i64 0)), 3, none, []⟩])
 (.block 0 (.loop (.seq (.seq (.reg [] [
     ⟨(some 17), .move (.tmp 7), 3, none, []⟩,
     ⟨(some 18), .move (.tmp 4), 22, none, []⟩,
     ⟨(some 19), .call ⟨.builtin .len, #[(.tmp 18)], #[22]⟩, 3, none, []⟩,
     ⟨(some 20), .binOp .lss 3 (.tmp 17) (.tmp 19) 3, 4, none, []⟩])
   (.cond (.tmp 20) (.skip)
   (.exit 0)))
   (.seq (.block 1 (.seq (.reg [] [
      ⟨(some 23), .move (.tmp 7), 3, none, []⟩,
      ⟨(some 24), .binOp .add 3 (.tmp 23) (.const (.int .i64 1)) 3, 3, none, []⟩,
      ⟨(some 8), .assign (.tmp 24), 3, none, []⟩])
    (.block 2 (.loop (.seq (.seq (.reg [] [
        ⟨(some 25), .move (.tmp 8), 3, none, []⟩,
        ⟨(some 26), .move (.tmp 4), 22, none, []⟩,
        ⟨(some 27), .call ⟨.builtin .len, #[(.tmp 26)], #[22]⟩, 3, none, []⟩,
        ⟨(some 28), .binOp .lss 3 (.tmp 25) (.tmp 27) 3, 4, none, []⟩])
      (.cond (.tmp 28) (.skip)
      (.exit 2)))
      (.seq (.block 3 (.seq (.reg [0, 1, 2, 3, 4, 5, 6, 7, 8] [
         ⟨(some 31), .move (.tmp 4), 22, none, []⟩,
         ⟨(some 32), .move (.tmp 7), 3, none, []⟩,
         ⟨(some 33), .indexAddr 22 (.tmp 31) (.tmp 32), 0, none, []⟩,
         ⟨(some 34), .load 3 (.tmp 33), 3, none, []⟩,
         ⟨(some 35), .move (.tmp 4), 22, none, []⟩,
         ⟨(some 36), .move (.tmp 8), 3, none, []⟩,
         ⟨(some 37), .indexAddr 22 (.tmp 35) (.tmp 36), 0, none, []⟩,
         ⟨(some 38), .load 3 (.tmp 37), 3, none, []⟩,
         ⟨(some 39), .binOp .gtr 3 (.tmp 34) (.tmp 38) 3, 4, none, []⟩])
       (.cond (.tmp 39) (.reg [] [
          ⟨(some 40), .move (.tmp 6), 3, none, []⟩,
          ⟨(some 41), .binOp .add 3 (.tmp 40) (.const (.int .i64 1)) 3, 3, none, []⟩,
          ⟨(some 6), .assign (.tmp 41), 3, none, []⟩])
       (.skip))))
      (.reg [] [
        ⟨(some 29), .move (.tmp 8), 3, none, []⟩,
        ⟨(some 30), .binOp .add 3 (.tmp 29) (.const (.int .i64 1)) 3, 3, none, []⟩,
        ⟨(some 8), .assign (.tmp 30), 3, none, []⟩])))))))
   (.reg [] [
     ⟨(some 21), .move (.tmp 7), 3, none, []⟩,
     ⟨(some 22), .binOp .add 3 (.tmp 21) (.const (.int .i64 1)) 3, 3, none, []⟩,
     ⟨(some 7), .assign (.tmp 22), 3, none, []⟩]))))))
 (.seq (.reg [] [
   ⟨(some 42), .move (.tmp 6), 3, none, []⟩,
   ⟨(some 2), .assign (.tmp 42), 3, none, []⟩,
   ⟨(some 3), .assign (.const (.int .i64 0)), 28, none, []⟩])
 (.ret))))))
/-- spadille/mend.Fewest -/
def c42 : RC :=
  .seq (.reg [] [
   ⟨(some 1), .box 24 (.tmp 0), 0, none, []⟩,
   ⟨(some 2), .assign (.const (.int .i64 0)), 3, none, []⟩,
   ⟨(some 3), .assign (.const (.int .i64 0)), 28, none, []⟩])
 (.seq (.seq (.reg [] [
   ⟨(some 5), .load 24 (.tmp 1), 24, none, []⟩,
   ⟨(some 6), .call ⟨.value (.func 21), #[(.tmp 5)], #[24]⟩, 28, none, []⟩,
   ⟨(some 4), .assign (.tmp 6), 28, none, []⟩])
 (.seq (.reg [] [
   ⟨(some 7), .move (.tmp 4), 28, none, []⟩,
   ⟨(some 8), .binOp .neq 28 (.tmp 7) (.const (.int .i64 0)) 28, 4, none, []⟩])
 (.cond (.tmp 8) (.seq (.reg [] [
    ⟨(some 9), .move (.tmp 4), 28, none, []⟩,
    ⟨(some 2), .assign (.const (.int .i64 0)), 3, none, []⟩,
    ⟨(some 3), .assign (.tmp 9), 28, none, []⟩])
  (.ret))
 (.skip))))
 (.seq (.reg [] [
   ⟨(some 10), .load 24 (.tmp 1), 24, none, []⟩,
   ⟨(some 11), .call ⟨.value (.func 63), #[(.tmp 10)], #[24]⟩, 3, none, []⟩,
   ⟨(some 2), .assign (.tmp 11), 3, none, []⟩,
   ⟨(some 3), .assign (.const (.int .i64 0)), 28, none, []⟩])
 (.ret)))
/-- spadille/spadillelaw09.T -/
def c43 : RC :=
  .seq (.reg [] [
   ⟨(some 0), .alloc 24, 0, none, []⟩])
 (.seq (.reg [] [
   ⟨(some 1), .buildSlice 22 5 #[(0, (.const (.int .i64 0))), (1, (.const (.int .i64 1))), (2, (.const (.int .i64 2))), (3, (.const (.int .i64 0))), (4, (.const (.int .i64 1)))], 22, none, []⟩,
   ⟨(some 2), .call ⟨.value (.func 46), #[(.tmp 1)], #[22]⟩, 22, none, []⟩,
   ⟨(some 3), .buildSlice 22 5 #[(0, (.const (.int .i64 1))), (1, (.const (.int .i64 2))), (2, (.const (.int .i64 0))), (3, (.const (.int .i64 1))), (4, (.const (.int .i64 0)))], 22, none, []⟩,
   ⟨(some 4), .call ⟨.value (.func 46), #[(.tmp 3)], #[22]⟩, 22, none, []⟩,
   ⟨(some 5), .build 24 #[(0, (.const (.int .i64 3))), (1, (.tmp 2)), (2, (.tmp 4))], 24, none, []⟩,
   ⟨none, .store 24 (.tmp 0) (.tmp 5), 0, none, []⟩])
 (.ret))
/-- spadille/spadillelaw09.U -/
def c44 : RC :=
  .seq (.reg [] [
   ⟨(some 0), .alloc 24, 0, none, []⟩])
 (.seq (.reg [] [
   ⟨(some 1), .buildSlice 22 4 #[(0, (.const (.int .i64 0))), (1, (.const (.int .i64 0))), (2, (.const (.int .i64 1))), (3, (.const (.int .i64 1)))], 22, none, []⟩,
   ⟨(some 2), .call ⟨.value (.func 46), #[(.tmp 1)], #[22]⟩, 22, none, []⟩,
   ⟨(some 3), .buildSlice 22 4 #[(0, (.const (.int .i64 1))), (1, (.const (.int .i64 1))), (2, (.const (.int .i64 0))), (3, (.const (.int .i64 0)))], 22, none, []⟩,
   ⟨(some 4), .call ⟨.value (.func 46), #[(.tmp 3)], #[22]⟩, 22, none, []⟩,
   ⟨(some 5), .build 24 #[(0, (.const (.int .i64 2))), (1, (.tmp 2)), (2, (.tmp 4))], 24, none, []⟩,
   ⟨none, .store 24 (.tmp 0) (.tmp 5), 0, none, []⟩])
 (.ret))
/-- spadille/spadillelaw09.lists -/
def c45 : RC :=
  .seq (.reg [] [
   ⟨(some 2), .assign (.const (.slice none 0 0)), 45, none, []⟩])
 (.seq (.reg [] [
   ⟨(some 3), .move (.tmp 0), 45, none, []⟩,
   ⟨(some 2), .assign (.tmp 3), 45, none, []⟩])
 (.ret))
/-- spadille/spadillelaw09.list -/
def c46 : RC :=
  .seq (.reg [] [
   ⟨(some 2), .assign (.const (.slice none 0 0)), 22, none, []⟩])
 (.seq (.reg [] [
   ⟨(some 3), .move (.tmp 0), 22, none, []⟩,
   ⟨(some 2), .assign (.tmp 3), 22, none, []⟩])
 (.ret))
/-- spadille/mend.Mends -/
def c49 : RC :=
  .seq (.reg [] [
   ⟨(some 2), .box 24 (.tmp 0), 0, none, []⟩,
   ⟨(some 4), .assign (.const (.int .i64 0)), 28, none, []⟩])
 (.seq (.seq (.reg [] [
   ⟨(some 9), .load 24 (.tmp 2), 24, none, []⟩,
   ⟨(some 10), .call ⟨.value (.func 21), #[(.tmp 9)], #[24]⟩, 28, none, []⟩,
   ⟨(some 5), .assign (.tmp 10), 28, none, []⟩])
 (.seq (.reg [] [
   ⟨(some 11), .move (.tmp 5), 28, none, []⟩,
   ⟨(some 12), .binOp .neq 28 (.tmp 11) (.const (.int .i64 0)) 28, 4, none, []⟩])
 (.cond (.tmp 12) (.seq (.reg [] [
    ⟨(some 13), .move (.tmp 5), 28, none, []⟩,
    ⟨(some 4), .assign (.tmp 13), 28, none, []⟩])
  (.ret))
 (.skip))))
 (.seq (.seq (.reg [] [
   ⟨(some 14), .move (.tmp 1), 40, none, []⟩,
   ⟨(some 15), .call ⟨.builtin .len, #[(.tmp 14)], #[40]⟩, 3, none, []⟩,
   ⟨(some 16), .move (.const (.int .i64 0)), 3, none, []⟩])
 (.block 0 (.loop (.seq (.reg [] [
     ⟨(some 17), .binOp .lss 3 (.tmp 16) (.tmp 15) 3, 0, none, []⟩])
   (.seq (.cond (.tmp 17) (.skip)
   (.exit 0))
   (.seq (.block 1 (.seq (.reg [] [
      ⟨(some 18), .indexAddr 40 (.tmp 14) (.tmp 16), 0, none, []⟩,
      ⟨(some 19), .load 65 (.tmp 18), 65, none, []⟩,
      ⟨(some 7), .alloc 65, 0, none, []⟩,
      ⟨none, .store 65 (.tmp 7) (.tmp 19), 0, none, []⟩])
    (.seq (.seq (.reg [] [
      ⟨(some 20), .load 24 (.tmp 2), 24, none, []⟩,
      ⟨(some 21), .indexAddr 65 (.tmp 7) (.const (.int .i64 0)), 0, none, []⟩,
      ⟨(some 22), .load 3 (.tmp 21), 3, none, []⟩,
      ⟨(some 23), .indexAddr 65 (.tmp 7) (.const (.int .i64 1)), 0, none, []⟩,
      ⟨(some 24), .load 3 (.tmp 23), 3, none, []⟩,
      ⟨(some 25), .call ⟨.value (.func 56), #[(.tmp 20), (.tmp 22), (.tmp 24)], #[24, 3, 3]⟩, 28, none, []⟩,
      ⟨(some 8), .assign (.tmp 25), 28, none, []⟩])
    (.seq (.reg [] [
      ⟨(some 26), .move (.tmp 8), 28, none, []⟩,
      ⟨(some 27), .binOp .neq 28 (.tmp 26) (.const (.int .i64 0)) 28, 4, none, []⟩])
    (.cond (.tmp 27) (.seq (.reg [] [
       ⟨(some 28), .move (.tmp 8), 28, none, []⟩,
       ⟨(some 4), .assign (.tmp 28), 28, none, []⟩])
     (.ret))
    (.skip))))
    (.reg [] [
      ⟨(some 29), .load 24 (.tmp 2), 24, none, []⟩,
      ⟨(some 30), .indexAddr 65 (.tmp 7) (.const (.int .i64 0)), 0, none, []⟩,
      ⟨(some 31), .load 3 (.tmp 30), 3, none, []⟩,
      ⟨(some 32), .indexAddr 65 (.tmp 7) (.const (.int .i64 1)), 0, none, []⟩,
      ⟨(some 33), .load 3 (.tmp 32), 3, none, []⟩,
      ⟨(some 34), .call ⟨.value (.func 57), #[(.tmp 29), (.tmp 31), (.tmp 33)], #[24, 3, 3]⟩, 24, none, []⟩,
      ⟨none, .store 24 (.tmp 2) (.tmp 34), 0, none, []⟩]))))
   (.reg [] [
     ⟨(some 35), .binOp .add 3 (.tmp 16) (.const (.int .i64 1)) 3, 3, none, []⟩,
     ⟨(some 16), .move (.tmp 35), 3, none, []⟩])))))))
 (.seq (.seq (.reg [] [
   ⟨(some 36), .load 24 (.tmp 2), 24, none, []⟩,
   ⟨(some 37), .call ⟨.value (.func 53), #[(.tmp 36)], #[24]⟩, 79, none, []⟩,
   ⟨(some 38), .binOp .neq 79 (.tmp 37) (.const (.int .u16 0)) 79, 4, none, []⟩])
 (.cond (.tmp 38) (.seq (.reg [] [
    ⟨(some 4), .assign (.const (.int .i64 14)), 28, none, []⟩])
  (.ret))
 (.skip)))
 (.seq (.reg [] [
   ⟨(some 4), .assign (.const (.int .i64 0)), 28, none, []⟩])
 (.ret)))))
/-- (spadille/mend.Tray).wrong -/
def c53 : RC :=
  .seq (.reg [] [
   ⟨(some 1), .box 24 (.tmp 0), 0, none, []⟩,
   ⟨(some 2), .assign (.const (.int .u16 0)), 79, none, []⟩])
 (.seq (.reg [] [
   ⟨(some 3), .assign (.const (.int .u16 0)), 79, none, []⟩])
 (.seq (.seq (.reg [] [
   ⟨(some 6), .fieldAddr 24 (.tmp 1) 1, 0, none, []⟩,
   ⟨(some 7), .load 22 (.tmp 6), 22, none, []⟩,
   ⟨(some 8), .call ⟨.builtin .len, #[(.tmp 7)], #[22]⟩, 3, none, []⟩,
   ⟨(some 9), .move (.const (.int .i64 0)), 3, none, []⟩])
 (.block 0 (.loop (.seq (.reg [] [
     ⟨(some 10), .binOp .lss 3 (.tmp 9) (.tmp 8) 3, 0, none, []⟩])
   (.seq (.cond (.tmp 10) (.skip)
   (.exit 0))
   (.seq (.block 1 (.seq (.reg [] [
      ⟨(some 11), .move (.tmp 9), 3, none, []⟩,
      ⟨(some 12), .indexAddr 22 (.tmp 7) (.tmp 9), 0, none, []⟩,
      ⟨(some 13), .load 3 (.tmp 12), 3, none, []⟩,
      ⟨(some 4), .assign (.tmp 11), 3, none, []⟩,
      ⟨(some 5), .assign (.tmp 13), 3, none, []⟩])
    (.seq (.reg [] [
      ⟨(some 14), .move (.tmp 5), 3, none, []⟩,
      ⟨(some 15), .fieldAddr 24 (.tmp 1) 2, 0, none, []⟩,
      ⟨(some 16), .load 22 (.tmp 15), 22, none, []⟩,
      ⟨(some 17), .move (.tmp 4), 3, none, []⟩,
      ⟨(some 18), .indexAddr 22 (.tmp 16) (.tmp 17), 0, none, []⟩,
      ⟨(some 19), .load 3 (.tmp 18), 3, none, []⟩,
      ⟨(some 20), .binOp .neq 3 (.tmp 14) (.tmp 19) 3, 4, none, []⟩])
    (.cond (.tmp 20) (.reg [] [
       ⟨(some 21), .move (.tmp 3), 79, none, []⟩,
       ⟨(some 22), .move (.tmp 4), 3, none, []⟩,
       ⟨(some 23), .binOp .shl 79 (.const (.int .u16 1)) (.tmp 22) 3, 79, none, []⟩,
       ⟨(some 24), .binOp .or 79 (.tmp 21) (.tmp 23) 79, 79, none, []⟩,
       ⟨(some 3), .assign (.tmp 24), 79, none, []⟩])
    (.skip)))))
   (.reg [] [
     ⟨(some 25), .binOp .add 3 (.tmp 9) (.const (.int .i64 1)) 3, 3, none, []⟩,
     ⟨(some 9), .move (.tmp 25), 3, none, []⟩])))))))
 (.seq (.reg [] [
   ⟨(some 26), .move (.tmp 3), 79, none, []⟩,
   ⟨(some 2), .assign (.tmp 26), 79, none, []⟩])
 (.ret))))
/-- (spadille/mend.set).list -/
def c54 : RC :=
  .seq (.reg [] [
   ⟨(some 2), .assign (.const (.slice none 0 0)), 22, none, []⟩])
 (.seq (.reg [] [
   ⟨(some 3), .assign (.const (.slice none 0 0)), 22, none, []⟩])
 (.seq (.block 0 (.loop (.seq (.seq (.reg [] [
     ⟨(some 4), .move (.tmp 0), 79, none, []⟩,
     ⟨(some 5), .binOp .neq 79 (.tmp 4) (.const (.int .u16 0)) 79, 4, none, []⟩])
   (.cond (.tmp 5) (.skip)
   (.exit 0)))
   (.seq (.block 1 (.reg [] [
      ⟨(some 10), .move (.tmp 3), 22, none, []⟩,
      ⟨(some 11), .move (.tmp 0), 79, none, []⟩,
      ⟨(some 12), .call ⟨.value (.func 73), #[(.tmp 11)], #[78]⟩, 3, none, []⟩,
      ⟨(some 13), .buildSlice 22 1 #[(0, (.tmp 12))], 22, none, []⟩,
      ⟨(some 14), .call ⟨.builtin .append, #[(.tmp 10), (.tmp 13)], #[22, 22]⟩, 22, none, []⟩,
      ⟨(some 3), .assign (.tmp 14), 22, none, []⟩]))
   (.reg [] [
     ⟨(some 6), .move (.tmp 0), 79, none, []⟩,
     ⟨(some 7), .move (.tmp 0), 79, none, []⟩,
     ⟨(some 8), .binOp .sub 79 (.tmp 7) (.const (.int .u16 1)) 79, 79, none, []⟩,
     ⟨(some 9), .binOp .and 79 (.tmp 6) (.tmp 8) 79, 79, none, []⟩,
     ⟨(some 0), .assign (.tmp 9), 79, none, []⟩])))))
 (.seq (.reg [] [
   ⟨(some 15), .move (.tmp 3), 22, none, []⟩,
   ⟨(some 2), .assign (.tmp 15), 22, none, []⟩])
 (.ret))))
/-- (spadille/mend.Tray).exchange -/
def c56 : RC :=
  .seq (.reg [] [
   ⟨(some 3), .box 24 (.tmp 0), 0, none, []⟩,
   ⟨(some 6), .assign (.const (.int .i64 0)), 28, none, []⟩])
 (.seq (.block 0 (.seq (.reg [] [
    ⟨(some 8), .move (.tmp 1), 3, none, []⟩,
    ⟨(some 9), .move (.tmp 2), 3, none, []⟩,
    ⟨(some 10), .call ⟨.builtin .min, #[(.tmp 8), (.tmp 9)], #[3, 3]⟩, 3, none, []⟩,
    ⟨(some 11), .binOp .lss 3 (.tmp 10) (.const (.int .i64 0)) 3, 4, none, []⟩,
    ⟨(some 12), .move (.tmp 11), 4, none, []⟩,
    ⟨(some 13), .move (.tmp 1), 3, (some ((some 12), false)), []⟩,
    ⟨(some 14), .move (.tmp 2), 3, (some ((some 12), false)), []⟩,
    ⟨(some 15), .call ⟨.builtin .max, #[(.tmp 13), (.tmp 14)], #[3, 3]⟩, 3, (some ((some 12), false)), []⟩,
    ⟨(some 16), .fieldAddr 24 (.tmp 3) 1, 0, (some ((some 12), false)), []⟩,
    ⟨(some 17), .load 22 (.tmp 16), 22, (some ((some 12), false)), []⟩,
    ⟨(some 18), .call ⟨.builtin .len, #[(.tmp 17)], #[22]⟩, 3, (some ((some 12), false)), []⟩,
    ⟨(some 19), .binOp .geq 3 (.tmp 15) (.tmp 18) 3, 4, (some ((some 12), false)), []⟩,
    ⟨(some 20), .pick (.tmp 12) (.const (.bool true)) (.tmp 19), 4, none, []⟩,
    ⟨(some 7), .assign (.tmp 20), 4, none, []⟩])
  (.cond (.tmp 7) (.seq (.reg [] [
     ⟨(some 6), .assign (.const (.int .i64 2)), 28, none, []⟩])
   (.ret))
  (.seq (.reg [] [
     ⟨(some 22), .move (.tmp 1), 3, none, []⟩,
     ⟨(some 23), .move (.tmp 2), 3, none, []⟩,
     ⟨(some 24), .binOp .geq 3 (.tmp 22) (.tmp 23) 3, 4, none, []⟩,
     ⟨(some 21), .assign (.tmp 24), 4, none, []⟩])
   (.cond (.tmp 21) (.seq (.reg [] [
      ⟨(some 6), .assign (.const (.int .i64 7)), 28, none, []⟩])
    (.ret))
   (.skip))))))
 (.seq (.reg [] [
   ⟨(some 6), .assign (.const (.int .i64 0)), 28, none, []⟩])
 (.ret)))
/-- (spadille/mend.Tray).after -/
def c57 : RC :=
  .seq (.reg [] [
   ⟨(some 3), .box 24 (.tmp 0), 0, none, []⟩,
   ⟨(some 6), .alloc 24, 0, none, []⟩])
 (.seq (.reg [0, 1, 2, 3, 5, 6, 9, 4, 7, 8, 10] [
   ⟨(some 8), .fieldAddr 24 (.tmp 3) 0, 0, none, []⟩,
   ⟨(some 9), .load 3 (.tmp 8), 3, none, []⟩,
   ⟨(some 10), .fieldAddr 24 (.tmp 3) 1, 0, none, []⟩,
   ⟨(some 11), .load 22 (.tmp 10), 22, none, []⟩,
   ⟨(some 13), .fieldAddr 24 (.tmp 3) 2, 0, none, []⟩,
   ⟨(some 14), .load 22 (.tmp 13), 22, none, []⟩,
   ⟨(some 7), .alloc 24, 0, none, []⟩,
   ⟨(some 12), .call ⟨.value (.func 74), #[(.tmp 11)], #[22]⟩, 22, none, [(.tmp 13), (.tmp 8)]⟩,
   ⟨(some 15), .call ⟨.value (.func 74), #[(.tmp 14)], #[22]⟩, 22, none, [(.tmp 8)]⟩,
   ⟨(some 16), .build 24 #[(0, (.tmp 9)), (1, (.tmp 12)), (2, (.tmp 15))], 24, none, []⟩,
   ⟨none, .store 24 (.tmp 7) (.tmp 16), 0, none, []⟩])
 (.seq (.reg [0, 1, 2, 3, 4, 5, 6, 7, 8, 9, 10, 11, 12, 13, 14, 15, 16, 17, 18, 19] [
   ⟨(some 17), .fieldAddr 24 (.tmp 7) 1, 0, none, []⟩,
   ⟨(some 18), .load 22 (.tmp 17), 22, none, []⟩,
   ⟨(some 19), .move (.tmp 1), 3, none, []⟩,
   ⟨(some 20), .fieldAddr 24 (.tmp 7) 1, 0, none, []⟩,
   ⟨(some 21), .load 22 (.tmp 20), 22, none, []⟩,
   ⟨(some 22), .move (.tmp 2), 3, none, []⟩,
   ⟨(some 23), .fieldAddr 24 (.tmp 7) 1, 0, none, []⟩,
   ⟨(some 24), .load 22 (.tmp 23), 22, none, []⟩,
   ⟨(some 25), .move (.tmp 2), 3, none, []⟩,
   ⟨(some 26), .indexAddr 22 (.tmp 24) (.tmp 25), 0, none, []⟩,
   ⟨(some 27), .load 3 (.tmp 26), 3, none, []⟩,
   ⟨(some 28), .fieldAddr 24 (.tmp 7) 1, 0, none, []⟩,
   ⟨(some 29), .load 22 (.tmp 28), 22, none, []⟩,
   ⟨(some 30), .move (.tmp 1), 3, none, []⟩,
   ⟨(some 31), .indexAddr 22 (.tmp 29) (.tmp 30), 0, none, []⟩,
   ⟨(some 32), .load 3 (.tmp 31), 3, none, []⟩,
   ⟨(some 33), .indexAddr 22 (.tmp 18) (.tmp 19), 0, none, []⟩,
   ⟨none, .store 3 (.tmp 33) (.tmp 27), 0, none, [(.tmp 20)]⟩,
   ⟨(some 34), .indexAddr 22 (.tmp 21) (.tmp 22), 0, none, []⟩,
   ⟨none, .store 3 (.tmp 34) (.tmp 32), 0, none, []⟩])
 (.seq (.reg [] [
   ⟨(some 35), .load 24 (.tmp 7), 24, none, []⟩,
   ⟨none, .store 24 (.tmp 6) (.tmp 35), 0, none, []⟩])
 (.ret))))
/-- spadille/mend.between -/
def c60 : RC :=
  .seq (.reg [] [
   ⟨(some 6), .assign (.const (.bool false)), 4, none, []⟩])
 (.seq (.reg [] [
   ⟨(some 7), .move (.tmp 0), 3, none, []⟩,
   ⟨(some 8), .move (.tmp 1), 3, none, []⟩,
   ⟨(some 9), .binOp .leq 3 (.tmp 7) (.tmp 8) 3, 4, none, []⟩,
   ⟨(some 10), .move (.tmp 9), 4, none, []⟩,
   ⟨(some 11), .move (.tmp 1), 3, (some ((some 10), true)), []⟩,
   ⟨(some 12), .move (.tmp 2), 3, (some ((some 10), true)), []⟩,
   ⟨(some 13), .binOp .leq 3 (.tmp 11) (.tmp 12) 3, 4, (some ((some 10), true)), []⟩,
   ⟨(some 14), .pick (.tmp 10) (.tmp 13) (.const (.bool false)), 4, none, []⟩,
   ⟨(some 6), .assign (.tmp 14), 4, none, []⟩])
 (.ret))
/-- spadille/spadilleref09.in -/
def c61 : RC :=
  .seq (.reg [] [
   ⟨(some 6), .assign (.const (.bool false)), 4, none, []⟩])
 (.seq (.reg [] [
   ⟨(some 7), .move (.tmp 0), 3, none, []⟩,
   ⟨(some 8), .move (.tmp 1), 3, none, []⟩,
   ⟨(some 9), .binOp .geq 3 (.tmp 7) (.tmp 8) 3, 4, none, []⟩,
   ⟨(some 10), .move (.tmp 9), 4, none, []⟩,
   ⟨(some 11), .move (.tmp 0), 3, (some ((some 10), true)), []⟩,
   ⟨(some 12), .move (.tmp 2), 3, (some ((some 10), true)), []⟩,
   ⟨(some 13), .binOp .leq 3 (.tmp 11) (.tmp 12) 3, 4, (some ((some 10), true)), []⟩,
   ⟨(some 14), .pick (.tmp 10) (.tmp 13) (.const (.bool false)), 4, none, []⟩,
   ⟨(some 6), .assign (.tmp 14), 4, none, []⟩])
 (.ret))
/-- spadille/spadilleref09.times -/
def c62 : RC :=
  .seq (.reg [] [
   ⟨(some 4), .assign (.const (.int .i64 0)), 3, none, []⟩])
 (.seq (.reg [] [
   ⟨(some 5), .assign (.const (.int .i64 0)), 3, none, []⟩])
 (.seq (.seq (.reg [] [
   ⟨(some 6), .assign (.const (.int .i64 0)), 3, none, []⟩])
 (.block 0 (.loop (.seq (.seq (.reg [] [
     ⟨(some 7), .move (.tmp 6), 3, none, []⟩,
     ⟨(some 8), .move (.tmp 0), 22, none, []⟩,
     ⟨(some 9), .call ⟨.builtin .len, #[(.tmp 8)], #[22]⟩, 3, none, []⟩,
     ⟨(some 10), .binOp .lss 3 (.tmp 7) (.tmp 9) 3, 4, none, []⟩])
   (.cond (.tmp 10) (.skip)
   (.exit 0)))
   (.seq (.block 1 (.seq (.reg [] [
      ⟨(some 13), .move (.tmp 0), 22, none, []⟩,
      ⟨(some 14), .move (.tmp 6), 3, none, []⟩,
      ⟨(some 15), .indexAddr 22 (.tmp 13) (.tmp 14), 0, none, []⟩,
      ⟨(some 16), .load 3 (.tmp 15), 3, none, []⟩,
      ⟨(some 17), .move (.tmp 1), 3, none, []⟩,
      ⟨(some 18), .binOp .eql 3 (.tmp 16) (.tmp 17) 3, 4, none, []⟩])
    (.cond (.tmp 18) (.reg [] [
       ⟨(some 19), .move (.tmp 5), 3, none, []⟩,
       ⟨(some 20), .binOp .add 3 (.tmp 19) (.const (.int .i64 1)) 3, 3, none, []⟩,
       ⟨(some 5), .assign (.tmp 20), 3, none, []⟩])
    (.skip))))
   (.reg [] [
     ⟨(some 11), .move (.tmp 6), 3, none, []⟩,
     ⟨(some 12), .binOp .add 3 (.tmp 11) (.const (.int .i64 1)) 3, 3, none, []⟩,
     ⟨(some 6), .assign (.tmp 12), 3, none, []⟩]))))))
 (.seq (.reg [] [
   ⟨(some 21), .move (.tmp 5), 3, none, []⟩,
   ⟨(some 4), .assign (.tmp 21), 3, none, []⟩])
 (.ret))))
/-- (spadille/mend.Tray).fewest -/
def c63 : RC :=
  .seq (.reg [] [
   ⟨(some 1), .box 24 (.tmp 0), 0, none, []⟩,
   ⟨(some 2), .assign (.const (.int .i64 0)), 3, none, []⟩])
 (.seq (.reg [] [
   ⟨(some 4), .load 24 (.tmp 1), 24, none, []⟩,
   ⟨(some 5), .call ⟨.value (.func 53), #[(.tmp 4)], #[24]⟩, 79, none, []⟩,
   ⟨(some 3), .assign (.tmp 5), 79, none, []⟩])
 (.seq (.reg [0, 2, 4, 1, 3, 5, 6, 7] [
   ⟨(some 6), .move (.tmp 3), 79, none, []⟩,
   ⟨(some 8), .load 24 (.tmp 1), 24, none, []⟩,
   ⟨(some 10), .move (.tmp 3), 79, none, []⟩,
   ⟨(some 7), .call ⟨.value (.func 75), #[(.tmp 6)], #[78]⟩, 3, none, [(.tmp 1)]⟩,
   ⟨(some 9), .call ⟨.value (.func 76), #[(.tmp 8)], #[24]⟩, 101, none, []⟩,
   ⟨(some 11), .call ⟨.value (.func 77), #[(.tmp 9), (.tmp 10)], #[101, 79]⟩, 3, none, []⟩,
   ⟨(some 12), .binOp .sub 3 (.tmp 7) (.tmp 11) 3, 3, none, []⟩,
   ⟨(some 2), .assign (.tmp 12), 3, none, []⟩])
 (.ret)))
/-- (spadille/mend.Tray).rings -/
def c65 : RC :=
  .seq (.reg [] [
   ⟨(some 1), .box 24 (.tmp 0), 0, none, []⟩,
   ⟨(some 2), .assign (.const (.slice none 0 0)), 45, none, []⟩])
 (.seq (.reg [] [
   ⟨(some 10), .load 24 (.tmp 1), 24, none, []⟩,
   ⟨(some 11), .call ⟨.value (.func 76), #[(.tmp 10)], #[24]⟩, 101, none, []⟩,
   ⟨(some 3), .assign (.tmp 11), 101, none, []⟩])
 (.seq (.reg [] [
   ⟨(some 4), .assign (.const (.slice none 0 0)), 45, none, []⟩])
 (.seq (.seq (.reg [] [
   ⟨(some 12), .load 24 (.tmp 1), 24, none, []⟩,
   ⟨(some 13), .call ⟨.value (.func 53), #[(.tmp 12)], #[24]⟩, 79, none, []⟩,
   ⟨(some 5), .assign (.tmp 13), 79, none, []⟩])
 (.block 0 (.loop (.seq (.seq (.reg [] [
     ⟨(some 14), .move (.tmp 5), 79, none, []⟩,
     ⟨(some 15), .binOp .neq 79 (.tmp 14) (.const (.int .u16 0)) 79, 4, none, []⟩])
   (.cond (.tmp 15) (.skip)
   (.exit 0)))
   (.block 1 (.seq (.reg [] [
      ⟨(some 16), .move (.tmp 5), 79, none, []⟩,
      ⟨(some 17), .call ⟨.value (.func 73), #[(.tmp 16)], #[78]⟩, 3, none, []⟩,
      ⟨(some 6), .assign (.tmp 17), 3, none, []⟩])
    (.seq (.reg [0, 1, 2, 3, 4, 5, 6, 7, 8, 9, 10, 11, 12] [
      ⟨(some 18), .move (.tmp 3), 101, none, []⟩,
      ⟨(some 19), .move (.tmp 6), 3, none, []⟩,
      ⟨(some 20), .buildSlice 22 1 #[(0, (.tmp 19))], 22, none, []⟩,
      ⟨(some 21), .move (.tmp 5), 79, none, []⟩,
      ⟨(some 22), .move (.tmp 6), 3, none, []⟩,
      ⟨(some 23), .binOp .shl 79 (.const (.int .u16 1)) (.tmp 22) 3, 79, none, []⟩,
      ⟨(some 24), .binOp .andNot 79 (.tmp 21) (.tmp 23) 79, 79, none, []⟩,
      ⟨(some 25), .move (.tmp 3), 101, none, []⟩,
      ⟨(some 26), .move (.tmp 5), 79, none, []⟩,
      ⟨(some 27), .call ⟨.value (.func 77), #[(.tmp 25), (.tmp 26)], #[101, 79]⟩, 3, none, []⟩,
      ⟨(some 28), .binOp .sub 3 (.tmp 27) (.const (.int .i64 1)) 3, 3, none, []⟩,
      ⟨(some 29), .call ⟨.value (.func 78), #[(.tmp 18), (.tmp 20), (.tmp 24), (.tmp 28)], #[101, 22, 79, 3]⟩, 22, none, []⟩,
      ⟨(some 7), .assign (.tmp 29), 22, none, []⟩])
    (.seq (.reg [] [
      ⟨(some 30), .move (.tmp 4), 45, none, []⟩,
      ⟨(some 31), .move (.tmp 7), 22, none, []⟩,
      ⟨(some 32), .buildSlice 45 1 #[(0, (.tmp 31))], 45, none, []⟩,
      ⟨(some 33), .call ⟨.builtin .append, #[(.tmp 30), (.tmp 32)], #[45, 45]⟩, 45, none, []⟩,
      ⟨(some 4), .assign (.tmp 33), 45, none, []⟩])
    (.seq (.reg [] [
      ⟨(some 34), .move (.tmp 7), 22, none, []⟩,
      ⟨(some 35), .call ⟨.builtin .len, #[(.tmp 34)], #[22]⟩, 3, none, []⟩,
      ⟨(some 36), .move (.const (.int .i64 0)), 3, none, []⟩])
    (.block 2 (.loop (.seq (.reg [] [
        ⟨(some 37), .binOp .lss 3 (.tmp 36) (.tmp 35) 3, 0, none, []⟩])
      (.seq (.cond (.tmp 37) (.skip)
      (.exit 2))
      (.seq (.block 3 (.seq (.reg [] [
         ⟨(some 38), .indexAddr 22 (.tmp 34) (.tmp 36), 0, none, []⟩,
         ⟨(some 39), .load 3 (.tmp 38), 3, none, []⟩,
         ⟨(some 9), .assign (.tmp 39), 3, none, []⟩])
       (.reg [] [
         ⟨(some 40), .move (.tmp 5), 79, none, []⟩,
         ⟨(some 41), .move (.tmp 9), 3, none, []⟩,
         ⟨(some 42), .binOp .shl 79 (.const (.int .u16 1)) (.tmp 41) 3, 79, none, []⟩,
         ⟨(some 43), .binOp .andNot 79 (.tmp 40) (.tmp 42) 79, 79, none, []⟩,
         ⟨(some 5), .assign (.tmp 43), 79, none, []⟩])))
      (.reg [] [
        ⟨(some 44), .binOp .add 3 (.tmp 36) (.const (.int .i64 1)) 3, 3, none, []⟩,
        ⟨(some 36), .move (.tmp 44), 3, none, []⟩])))))))))))))))
 (.seq (.reg [] [
   ⟨(some 45), .move (.tmp 4), 45, none, []⟩,
   ⟨(some 2), .assign (.tmp 45), 45, none, []⟩])
 (.ret)))))
/-- (spadille/mend.set).has -/
def c67 : RC :=
  .seq (.reg [] [
   ⟨(some 4), .assign (.const (.bool false)), 4, none, []⟩])
 (.seq (.reg [] [
   ⟨(some 5), .move (.tmp 0), 79, none, []⟩,
   ⟨(some 6), .move (.tmp 1), 3, none, []⟩,
   ⟨(some 7), .binOp .shr 79 (.tmp 5) (.tmp 6) 3, 79, none, []⟩,
   ⟨(some 8), .binOp .and 79 (.tmp 7) (.const (.int .u16 1)) 79, 79, none, []⟩,
   ⟨(some 9), .binOp .eql 79 (.tmp 8) (.const (.int .u16 1)) 79, 4, none, []⟩,
   ⟨(some 4), .assign (.tmp 9), 4, none, []⟩])
 (.ret))
/-- (spadille/mend.Tray).sources -/
def c69 : RC :=
  .seq (.reg [] [
   ⟨(some 1), .box 24 (.tmp 0), 0, none, []⟩,
   ⟨(some 2), .assign (.const (.slice none 0 0)), 22, none, []⟩])
 (.seq (.reg [] [
   ⟨(some 3), .alloc 106, 0, none, []⟩])
 (.seq (.seq (.reg [] [
   ⟨(some 9), .fieldAddr 24 (.tmp 1) 1, 0, none, []⟩,
   ⟨(some 10), .load 22 (.tmp 9), 22, none, []⟩,
   ⟨(some 11), .call ⟨.builtin .len, #[(.tmp 10)], #[22]⟩, 3, none, []⟩,
   ⟨(some 12), .move (.const (.int .i64 0)), 3, none, []⟩])
 (.block 0 (.loop (.seq (.reg [] [
     ⟨(some 13), .binOp .lss 3 (.tmp 12) (.tmp 11) 3, 0, none, []⟩])
   (.seq (.cond (.tmp 13) (.skip)
   (.exit 0))
   (.seq (.block 1 (.seq (.reg [] [
      ⟨(some 14), .move (.tmp 12), 3, none, []⟩,
      ⟨(some 15), .indexAddr 22 (.tmp 10) (.tmp 12), 0, none, []⟩,
      ⟨(some 16), .load 3 (.tmp 15), 3, none, []⟩,
      ⟨(some 4), .assign (.tmp 14), 3, none, []⟩,
      ⟨(some 5), .assign (.tmp 16), 3, none, []⟩])
    (.reg [] [
      ⟨(some 17), .move (.tmp 5), 3, none, []⟩,
      ⟨(some 18), .move (.tmp 5), 3, none, []⟩,
      ⟨(some 19), .indexAddr 106 (.tmp 3) (.tmp 18), 0, none, []⟩,
      ⟨(some 20), .load 22 (.tmp 19), 22, none, []⟩,
      ⟨(some 21), .move (.tmp 4), 3, none, []⟩,
      ⟨(some 22), .buildSlice 22 1 #[(0, (.tmp 21))], 22, none, []⟩,
      ⟨(some 23), .call ⟨.builtin .append, #[(.tmp 20), (.tmp 22)], #[22, 22]⟩, 22, none, []⟩,
      ⟨(some 24), .indexAddr 106 (.tmp 3) (.tmp 17), 0, none, []⟩,
      ⟨none, .store 22 (.tmp 24) (.tmp 23), 0, none, []⟩])))
   (.reg [] [
     ⟨(some 25), .binOp .add 3 (.tmp 12) (.const (.int .i64 1)) 3, 3, none, []⟩,
     ⟨(some 12), .move (.tmp 25), 3, none, []⟩])))))))
 (.seq (.reg [] [
   ⟨(some 6), .assign (.const (.slice none 0 0)), 22, none, []⟩])
 (.seq (.seq (.reg [] [
   ⟨(some 26), .fieldAddr 24 (.tmp 1) 2, 0, none, []⟩,
   ⟨(some 27), .load 22 (.tmp 26), 22, none, []⟩,
   ⟨(some 28), .call ⟨.builtin .len, #[(.tmp 27)], #[22]⟩, 3, none, []⟩,
   ⟨(some 29), .move (.const (.int .i64 0)), 3, none, []⟩])
 (.block 2 (.loop (.seq (.reg [] [
     ⟨(some 30), .binOp .lss 3 (.tmp 29) (.tmp 28) 3, 0, none, []⟩])
   (.seq (.cond (.tmp 30) (.skip)
   (.exit 2))
   (.seq (.block 3 (.seq (.reg [] [
      ⟨(some 31), .indexAddr 22 (.tmp 27) (.tmp 29), 0, none, []⟩,
      ⟨(some 32), .load 3 (.tmp 31), 3, none, []⟩,
      ⟨(some 8), .assign (.tmp 32), 3, none, []⟩])
    (.reg [0, 1, 2, 3, 4, 5, 6, 7, 9, 10, 11, 12, 8, 13, 14, 15] [
      ⟨(some 33), .move (.tmp 8), 3, none, []⟩,
      ⟨(some 34), .move (.tmp 6), 22, none, []⟩,
      ⟨(some 35), .move (.tmp 8), 3, none, []⟩,
      ⟨(some 36), .indexAddr 106 (.tmp 3) (.tmp 35), 0, none, []⟩,
      ⟨(some 37), .load 22 (.tmp 36), 22, none, []⟩,
      ⟨(some 38), .indexAddr 22 (.tmp 37) (.const (.int .i64 0)), 0, none, []⟩,
      ⟨(some 39), .load 3 (.tmp 38), 3, none, []⟩,
      ⟨(some 40), .buildSlice 22 1 #[(0, (.tmp 39))], 22, none, []⟩,
      ⟨(some 42), .move (.tmp 8), 3, none, []⟩,
      ⟨(some 43), .indexAddr 106 (.tmp 3) (.tmp 42), 0, none, []⟩,
      ⟨(some 44), .load 22 (.tmp 43), 22, none, []⟩,
      ⟨(some 45), .slice 22 (.tmp 44) (some (.const (.int .i64 1))) none none, 22, none, []⟩,
      ⟨(some 41), .call ⟨.builtin .append, #[(.tmp 34), (.tmp 40)], #[22, 22]⟩, 22, none, [(.tmp 44), (.tmp 43)]⟩,
      ⟨(some 6), .assign (.tmp 41), 22, none, []⟩,
      ⟨(some 46), .indexAddr 106 (.tmp 3) (.tmp 33), 0, none, []⟩,
      ⟨none, .store 22 (.tmp 46) (.tmp 45), 0, none, []⟩])))
   (.reg [] [
     ⟨(some 47), .binOp .add 3 (.tmp 29) (.const (.int .i64 1)) 3, 3, none, []⟩,
     ⟨(some 29), .move (.tmp 47), 3, none, []⟩])))))))
 (.seq (.reg [] [
   ⟨(some 48), .move (.tmp 6), 22, none, []⟩,
   ⟨(some 2), .assign (.tmp 48), 22, none, []⟩])
 (.ret))))))
/-- spadille/spadilleref09.source -/
def c70 : RC :=
  .seq (.reg [] [
   ⟨(some 2), .box 27 (.tmp 0), 0, none, []⟩,
   ⟨(some 4), .assign (.const (.int .i64 0)), 3, none, []⟩])
 (.seq (.reg [0, 1, 2, 3, 4, 5, 6, 7, 8, 9, 10] [
   ⟨(some 7), .fieldAddr 27 (.tmp 2) 2, 0, none, []⟩,
   ⟨(some 8), .load 22 (.tmp 7), 22, none, []⟩,
   ⟨(some 9), .move (.tmp 1), 3, none, []⟩,
   ⟨(some 10), .slice 22 (.tmp 8) none (some (.tmp 9)) none, 22, none, []⟩,
   ⟨(some 11), .fieldAddr 27 (.tmp 2) 2, 0, none, []⟩,
   ⟨(some 12), .load 22 (.tmp 11), 22, none, []⟩,
   ⟨(some 13), .move (.tmp 1), 3, none, []⟩,
   ⟨(some 14), .indexAddr 22 (.tmp 12) (.tmp 13), 0, none, []⟩,
   ⟨(some 15), .load 3 (.tmp 14), 3, none, []⟩,
   ⟨(some 16), .call ⟨.value (.func 62), #[(.tmp 10), (.tmp 15)], #[22, 3]⟩, 3, none, []⟩,
   ⟨(some 5), .assign (.tmp 16), 3, none, []⟩])
 (.seq (.reg [] [
   ⟨(some 6), .assign (.const (.int .i64 0)), 3, none, []⟩])
 (.seq (.block 0 (.loop (.seq (.seq (.reg [0, 1, 2, 3, 4, 5, 6, 7, 8, 9, 10, 11, 12, 13, 14, 15, 16, 17, 18, 19, 20, 22, 21, 23, 24] [
     ⟨(some 17), .fieldAddr 27 (.tmp 2) 1, 0, none, []⟩,
     ⟨(some 18), .load 22 (.tmp 17), 22, none, []⟩,
     ⟨(some 19), .move (.tmp 6), 3, none, []⟩,
     ⟨(some 20), .indexAddr 22 (.tmp 18) (.tmp 19), 0, none, []⟩,
     ⟨(some 21), .load 3 (.tmp 20), 3, none, []⟩,
     ⟨(some 22), .fieldAddr 27 (.tmp 2) 2, 0, none, []⟩,
     ⟨(some 23), .load 22 (.tmp 22), 22, none, []⟩,
     ⟨(some 24), .move (.tmp 1), 3, none, []⟩,
     ⟨(some 25), .indexAddr 22 (.tmp 23) (.tmp 24), 0, none, []⟩,
     ⟨(some 26), .load 3 (.tmp 25), 3, none, []⟩,
     ⟨(some 27), .binOp .neq 3 (.tmp 21) (.tmp 26) 3, 4, none, []⟩,
     ⟨(some 28), .move (.tmp 27), 4, none, []⟩,
     ⟨(some 29), .fieldAddr 27 (.tmp 2) 1, 0, (some ((some 28), false)), []⟩,
     ⟨(some 30), .load 22 (.tmp 29), 22, (some ((some 28), false)), []⟩,
     ⟨(some 31), .move (.tmp 6), 3, (some ((some 28), false)), []⟩,
     ⟨(some 32), .slice 22 (.tmp 30) none (some (.tmp 31)) none, 22, (some ((some 28), false)), []⟩,
     ⟨(some 33), .fieldAddr 27 (.tmp 2) 1, 0, (some ((some 28), false)), []⟩,
     ⟨(some 34), .load 22 (.tmp 33), 22, (some ((some 28), false)), []⟩,
     ⟨(some 35), .move (.tmp 6), 3, (some ((some 28), false)), []⟩,
     ⟨(some 36), .indexAddr 22 (.tmp 34) (.tmp 35), 0, (some ((some 28), false)), []⟩,
     ⟨(some 37), .load 3 (.tmp 36), 3, (some ((some 28), false)), []⟩,
     ⟨(some 39), .move (.tmp 5), 3, (some ((some 28), false)), []⟩,
     ⟨(some 38), .call ⟨.value (.func 62), #[(.tmp 32), (.tmp 37)], #[22, 3]⟩, 3, (some ((some 28), false)), []⟩,
     ⟨(some 40), .binOp .neq 3 (.tmp 38) (.tmp 39) 3, 4, (some ((some 28), false)), []⟩,
     ⟨(some 41), .pick (.tmp 28) (.const (.bool true)) (.tmp 40), 4, none, []⟩])
   (.cond (.tmp 41) (.skip)
   (.exit 0)))
   (.block 1 (.reg [] [
      ⟨(some 42), .move (.tmp 6), 3, none, []⟩,
      ⟨(some 43), .binOp .add 3 (.tmp 42) (.const (.int .i64 1)) 3, 3, none, []⟩,
      ⟨(some 6), .assign (.tmp 43), 3, none, []⟩])))))
 (.seq (.reg [] [
   ⟨(some 44), .move (.tmp 6), 3, none, []⟩,
   ⟨(some 4), .assign (.tmp 44), 3, none, []⟩])
 (.ret)))))
/-- math/bits.TrailingZeros16 -/
def c73 : RC :=
  .seq (.reg [] [
   ⟨(some 2), .assign (.const (.int .i64 0)), 3, none, []⟩])
 (.seq (.seq (.reg [] [
   ⟨(some 3), .move (.tmp 0), 78, none, []⟩,
   ⟨(some 4), .binOp .eql 78 (.tmp 3) (.const (.int .u16 0)) 78, 4, none, []⟩])
 (.cond (.tmp 4) (.seq (.reg [] [
    ⟨(some 2), .assign (.const (.int .i64 16)), 3, none, []⟩])
  (.ret))
 (.skip)))
 (.seq (.reg [] [
   ⟨(some 5), .move (.tmp 0), 78, none, []⟩,
   ⟨(some 6), .move (.tmp 0), 78, none, []⟩,
   ⟨(some 7), .unOp .neg 78 (.tmp 6), 78, none, []⟩,
   ⟨(some 8), .binOp .and 78 (.tmp 5) (.tmp 7) 78, 78, none, []⟩,
   ⟨(some 9), .convert 78 108 (.tmp 8), 108, none, []⟩,
   ⟨(some 10), .binOp .mul 108 (.tmp 9) (.const (.int .u32 125613361)) 108, 108, none, []⟩,
   ⟨(some 11), .binOp .shr 108 (.tmp 10) (.const (.int .u64 27)) 109, 108, none, []⟩,
   ⟨(some 12), .indexAddr 107 (.global 0) (.tmp 11), 0, none, []⟩,
   ⟨(some 13), .load 5 (.tmp 12), 5, none, []⟩,
   ⟨(some 14), .convert 5 3 (.tmp 13), 3, none, []⟩,
   ⟨(some 2), .assign (.tmp 14), 3, none, []⟩])
 (.ret)))
/-- slices.Clone[[]int,int] -/
def c74 : RC :=
  .seq (.reg [] [
   ⟨(some 2), .assign (.const (.slice none 0 0)), 22, none, []⟩])
 (.seq (.seq (.reg [] [
   ⟨(some 3), .move (.tmp 0), 22, none, []⟩,
   ⟨(some 4), .binOp .eql 22 (.tmp 3) (.const (.slice none 0 0)) 22, 4, none, []⟩])
 (.cond (.tmp 4) (.seq (.reg [] [
    ⟨(some 2), .assign (.const (.slice none 0 0)), 22, none, []⟩])
  (.ret))
 (.skip)))
 (.seq (.reg [] [
   ⟨(some 5), .buildSlice 22 0 #[], 22, none, []⟩,
   ⟨(some 6), .move (.tmp 0), 22, none, []⟩,
   ⟨(some 7), .call ⟨.builtin .append, #[(.tmp 5), (.tmp 6)], #[22, 22]⟩, 22, none, []⟩,
   ⟨(some 2), .assign (.tmp 7), 22, none, []⟩])
 (.ret)))
/-- math/bits.OnesCount16 -/
def c75 : RC :=
  .seq (.reg [] [
   ⟨(some 2), .assign (.const (.int .i64 0)), 3, none, []⟩])
 (.seq (.reg [0, 1, 2, 3, 4, 5, 6, 7, 8] [
   ⟨(some 3), .move (.tmp 0), 78, none, []⟩,
   ⟨(some 4), .binOp .shr 78 (.tmp 3) (.const (.int .u64 8)) 109, 78, none, []⟩,
   ⟨(some 5), .index 9 (.const (.string ⟨#[0, 1, 1, 2, 1, 2, 2, 3, 1, 2, 2, 3, 2, 3, 3, 4, 1, 2, 2, 3, 2, 3, 3, 4, 2, 3, 3, 4, 3, 4, 4, 5, 1, 2, 2, 3, 2, 3, 3, 4, 2, 3, 3, 4, 3, 4, 4, 5, 2, 3, 3, 4, 3, 4, 4, 5, 3, 4, 4, 5, 4, 5, 5, 6, 1, 2, 2, 3, 2, 3, 3, 4, 2, 3, 3, 4, 3, 4, 4, 5, 2, 3, 3, 4, 3, 4, 4, 5, 3, 4, 4, 5, 4, 5, 5, 6, 2, 3, 3, 4, 3, 4, 4, 5, 3, 4, 4, 5, 4, 5, 5, 6, 3, 4, 4, 5, 4, 5, 5, 6, 4, 5, 5, 6, 5, 6, 6, 7, 1, 2, 2, 3, 2, 3, 3, 4, 2, 3, 3, 4, 3, 4, 4, 5, 2, 3, 3, 4, 3, 4, 4, 5, 3, 4, 4, 5, 4, 5, 5, 6, 2, 3, 3, 4, 3, 4, 4, 5, 3, 4, 4, 5, 4, 5, 5, 6, 3, 4, 4, 5, 4, 5, 5, 6, 4, 5, 5, 6, 5, 6, 6, 7, 2, 3, 3, 4, 3, 4, 4, 5, 3, 4, 4, 5, 4, 5, 5, 6, 3, 4, 4, 5, 4, 5, 5, 6, 4, 5, 5, 6, 5, 6, 6, 7, 3, 4, 4, 5, 4, 5, 5, 6, 4, 5, 5, 6, 5, 6, 6, 7, 4, 5, 5, 6, 5, 6, 6, 7, 5, 6, 6, 7, 6, 7, 7, 8]⟩)) (.tmp 4), 5, none, []⟩,
   ⟨(some 6), .move (.tmp 0), 78, none, []⟩,
   ⟨(some 7), .binOp .and 78 (.tmp 6) (.const (.int .u16 255)) 78, 78, none, []⟩,
   ⟨(some 8), .index 9 (.const (.string ⟨#[0, 1, 1, 2, 1, 2, 2, 3, 1, 2, 2, 3, 2, 3, 3, 4, 1, 2, 2, 3, 2, 3, 3, 4, 2, 3, 3, 4, 3, 4, 4, 5, 1, 2, 2, 3, 2, 3, 3, 4, 2, 3, 3, 4, 3, 4, 4, 5, 2, 3, 3, 4, 3, 4, 4, 5, 3, 4, 4, 5, 4, 5, 5, 6, 1, 2, 2, 3, 2, 3, 3, 4, 2, 3, 3, 4, 3, 4, 4, 5, 2, 3, 3, 4, 3, 4, 4, 5, 3, 4, 4, 5, 4, 5, 5, 6, 2, 3, 3, 4, 3, 4, 4, 5, 3, 4, 4, 5, 4, 5, 5, 6, 3, 4, 4, 5, 4, 5, 5, 6, 4, 5, 5, 6, 5, 6, 6, 7, 1, 2, 2, 3, 2, 3, 3, 4, 2, 3, 3, 4, 3, 4, 4, 5, 2, 3, 3, 4, 3, 4, 4, 5, 3, 4, 4, 5, 4, 5, 5, 6, 2, 3, 3, 4, 3, 4, 4, 5, 3, 4, 4, 5, 4, 5, 5, 6, 3, 4, 4, 5, 4, 5, 5, 6, 4, 5, 5, 6, 5, 6, 6, 7, 2, 3, 3, 4, 3, 4, 4, 5, 3, 4, 4, 5, 4, 5, 5, 6, 3, 4, 4, 5, 4, 5, 5, 6, 4, 5, 5, 6, 5, 6, 6, 7, 3, 4, 4, 5, 4, 5, 5, 6, 4, 5, 5, 6, 5, 6, 6, 7, 4, 5, 5, 6, 5, 6, 6, 7, 5, 6, 6, 7, 6, 7, 7, 8]⟩)) (.tmp 7), 5, none, []⟩,
   ⟨(some 9), .binOp .add 5 (.tmp 5) (.tmp 8) 5, 5, none, []⟩,
   ⟨(some 10), .convert 5 3 (.tmp 9), 3, none, []⟩,
   ⟨(some 2), .assign (.tmp 10), 3, none, []⟩])
 (.ret))
/-- spadille/mend.opened -/
def c76 : RC :=
  .seq (.reg [] [
   ⟨(some 1), .box 24 (.tmp 0), 0, none, []⟩,
   ⟨(some 2), .assign (.const (.pointer none)), 101, none, []⟩])
 (.seq (.reg [] [
   ⟨(some 3), .load 24 (.tmp 1), 24, none, []⟩,
   ⟨(some 4), .makeMap 110 none, 110, none, []⟩,
   ⟨none, .insert 110 (.tmp 4) (.const (.int .u16 0)) (.const (.int .i64 0)), 0, none, []⟩,
   ⟨(some 5), .move (.tmp 4), 110, none, []⟩,
   ⟨(some 6), .build 112 #[(0, (.tmp 3)), (1, (.tmp 5))], 112, none, []⟩,
   ⟨(some 7), .box 112 (.tmp 6), 101, none, []⟩,
   ⟨(some 2), .assign (.tmp 7), 101, none, []⟩])
 (.ret))
/-- (*spadille/mend.ledger).most -/
def c77 : RC :=
  .seq (.reg [] [
   ⟨(some 4), .assign (.const (.int .i64 0)), 3, none, []⟩])
 (.seq (.seq (.reg [] [
   ⟨(some 11), .move (.tmp 0), 101, none, []⟩,
   ⟨(some 12), .nilCheck (.tmp 11), 0, none, []⟩,
   ⟨(some 13), .fieldAddr 112 (.tmp 12) 1, 0, none, []⟩,
   ⟨(some 14), .load 110 (.tmp 13), 110, none, []⟩,
   ⟨(some 15), .move (.tmp 1), 79, none, []⟩,
   ⟨(some 16), .lookup 110 (.tmp 14) (.tmp 15) true, 97, none, []⟩,
   ⟨(some 10), .move (.tmp 16), 97, none, []⟩,
   ⟨(some 17), .extract (.tmp 10) 0, 3, none, []⟩,
   ⟨(some 18), .extract (.tmp 10) 1, 4, none, []⟩,
   ⟨(some 5), .assign (.tmp 17), 3, none, []⟩,
   ⟨(some 6), .assign (.tmp 18), 4, none, []⟩])
 (.seq (.reg [] [
   ⟨(some 19), .move (.tmp 6), 4, none, []⟩])
 (.cond (.tmp 19) (.seq (.reg [] [
    ⟨(some 20), .move (.tmp 5), 3, none, []⟩,
    ⟨(some 4), .assign (.tmp 20), 3, none, []⟩])
  (.ret))
 (.skip))))
 (.seq (.reg [] [
   ⟨(some 7), .assign (.const (.int .i64 0)), 3, none, []⟩])
 (.seq (.seq (.reg [] [
   ⟨(some 21), .move (.tmp 1), 79, none, []⟩,
   ⟨(some 22), .call ⟨.value (.func 54), #[(.tmp 21)], #[79]⟩, 22, none, []⟩,
   ⟨(some 23), .call ⟨.builtin .len, #[(.tmp 22)], #[22]⟩, 3, none, []⟩,
   ⟨(some 24), .move (.const (.int .i64 0)), 3, none, []⟩])
 (.block 0 (.loop (.seq (.reg [] [
     ⟨(some 25), .binOp .lss 3 (.tmp 24) (.tmp 23) 3, 0, none, []⟩])
   (.seq (.cond (.tmp 25) (.skip)
   (.exit 0))
   (.seq (.block 1 (.seq (.reg [] [
      ⟨(some 26), .indexAddr 22 (.tmp 22) (.tmp 24), 0, none, []⟩,
      ⟨(some 27), .load 3 (.tmp 26), 3, none, []⟩,
      ⟨(some 9), .assign (.tmp 27), 3, none, []⟩])
    (.reg [] [
      ⟨(some 28), .move (.tmp 7), 3, none, []⟩,
      ⟨(some 29), .move (.tmp 0), 101, none, []⟩,
      ⟨(some 30), .move (.tmp 1), 79, none, []⟩,
      ⟨(some 31), .move (.tmp 9), 3, none, []⟩,
      ⟨(some 32), .binOp .shl 79 (.const (.int .u16 1)) (.tmp 31) 3, 79, none, []⟩,
      ⟨(some 33), .binOp .andNot 79 (.tmp 30) (.tmp 32) 79, 79, none, []⟩,
      ⟨(some 34), .call ⟨.value (.func 77), #[(.tmp 29), (.tmp 33)], #[101, 79]⟩, 3, none, []⟩,
      ⟨(some 35), .call ⟨.builtin .max, #[(.tmp 28), (.tmp 34)], #[3, 3]⟩, 3, none, []⟩,
      ⟨(some 7), .assign (.tmp 35), 3, none, []⟩])))
   (.reg [] [
     ⟨(some 36), .binOp .add 3 (.tmp 24) (.const (.int .i64 1)) 3, 3, none, []⟩,
     ⟨(some 24), .move (.tmp 36), 3, none, []⟩])))))))
 (.seq (.seq (.reg [] [
   ⟨(some 37), .move (.tmp 0), 101, none, []⟩,
   ⟨(some 38), .nilCheck (.tmp 37), 0, none, []⟩,
   ⟨(some 39), .fieldAddr 112 (.tmp 38) 0, 0, none, []⟩,
   ⟨(some 40), .load 24 (.tmp 39), 24, none, []⟩,
   ⟨(some 41), .move (.tmp 1), 79, none, []⟩,
   ⟨(some 42), .call ⟨.value (.func 80), #[(.tmp 40), (.tmp 41)], #[24, 79]⟩, 4, none, []⟩])
 (.cond (.tmp 42) (.reg [] [
    ⟨(some 43), .move (.tmp 7), 3, none, []⟩,
    ⟨(some 44), .binOp .add 3 (.tmp 43) (.const (.int .i64 1)) 3, 3, none, []⟩,
    ⟨(some 7), .assign (.tmp 44), 3, none, []⟩])
 (.skip)))
 (.seq (.reg [] [
   ⟨(some 45), .move (.tmp 0), 101, none, []⟩,
   ⟨(some 46), .nilCheck (.tmp 45), 0, none, []⟩,
   ⟨(some 47), .fieldAddr 112 (.tmp 46) 1, 0, none, []⟩,
   ⟨(some 48), .load 110 (.tmp 47), 110, none, []⟩,
   ⟨(some 49), .move (.tmp 1), 79, none, []⟩,
   ⟨(some 50), .move (.tmp 7), 3, none, []⟩,
   ⟨none, .mapUpdate 110 (.tmp 48) (.tmp 49) (.tmp 50), 0, none, []⟩])
 (.seq (.reg [] [
   ⟨(some 51), .move (.tmp 7), 3, none, []⟩,
   ⟨(some 4), .assign (.tmp 51), 3, none, []⟩])
 (.ret)))))))
/-- (*spadille/mend.ledger).ring -/
def c78 : RC :=
  .seq (.reg [] [
   ⟨(some 8), .assign (.const (.slice none 0 0)), 22, none, []⟩])
 (.seq (.reg [] [
   ⟨(some 13), .move (.tmp 1), 22, none, []⟩,
   ⟨(some 14), .move (.tmp 1), 22, none, []⟩,
   ⟨(some 15), .call ⟨.builtin .len, #[(.tmp 14)], #[22]⟩, 3, none, []⟩,
   ⟨(some 16), .binOp .sub 3 (.tmp 15) (.const (.int .i64 1)) 3, 3, none, []⟩,
   ⟨(some 17), .indexAddr 22 (.tmp 13) (.tmp 16), 0, none, []⟩,
   ⟨(some 18), .load 3 (.tmp 17), 3, none, []⟩,
   ⟨(some 9), .assign (.tmp 18), 3, none, []⟩])
 (.seq (.seq (.reg [0, 1, 2, 3, 4, 5, 6, 7, 8, 9, 10, 11, 12, 13, 14, 15, 16, 17, 18, 19, 20, 21, 22, 23, 24, 25, 26, 27, 28, 29, 31, 30, 32, 33] [
   ⟨(some 19), .move (.tmp 0), 101, none, []⟩,
   ⟨(some 20), .nilCheck (.tmp 19), 0, none, []⟩,
   ⟨(some 21), .fieldAddr 112 (.tmp 20) 0, 0, none, []⟩,
   ⟨(some 22), .fieldAddr 24 (.tmp 21) 2, 0, none, []⟩,
   ⟨(some 23), .load 22 (.tmp 22), 22, none, []⟩,
   ⟨(some 24), .move (.tmp 9), 3, none, []⟩,
   ⟨(some 25), .indexAddr 22 (.tmp 23) (.tmp 24), 0, none, []⟩,
   ⟨(some 26), .load 3 (.tmp 25), 3, none, []⟩,
   ⟨(some 27), .move (.tmp 0), 101, none, []⟩,
   ⟨(some 28), .nilCheck (.tmp 27), 0, none, []⟩,
   ⟨(some 29), .fieldAddr 112 (.tmp 28) 0, 0, none, []⟩,
   ⟨(some 30), .fieldAddr 24 (.tmp 29) 1, 0, none, []⟩,
   ⟨(some 31), .load 22 (.tmp 30), 22, none, []⟩,
   ⟨(some 32), .move (.tmp 1), 22, none, []⟩,
   ⟨(some 33), .indexAddr 22 (.tmp 32) (.const (.int .i64 0)), 0, none, []⟩,
   ⟨(some 34), .load 3 (.tmp 33), 3, none, []⟩,
   ⟨(some 35), .indexAddr 22 (.tmp 31) (.tmp 34), 0, none, []⟩,
   ⟨(some 36), .load 3 (.tmp 35), 3, none, []⟩,
   ⟨(some 37), .binOp .eql 3 (.tmp 26) (.tmp 36) 3, 4, none, []⟩,
   ⟨(some 38), .move (.tmp 37), 4, none, []⟩,
   ⟨(some 39), .move (.tmp 0), 101, (some ((some 38), true)), []⟩,
   ⟨(some 40), .nilCheck (.tmp 39), 0, (some ((some 38), true)), []⟩,
   ⟨(some 41), .fieldAddr 112 (.tmp 40) 0, 0, (some ((some 38), true)), []⟩,
   ⟨(some 42), .load 24 (.tmp 41), 24, (some ((some 38), true)), []⟩,
   ⟨(some 43), .move (.tmp 2), 79, (some ((some 38), true)), []⟩,
   ⟨(some 44), .call ⟨.value (.func 80), #[(.tmp 42), (.tmp 43)], #[24, 79]⟩, 4, (some ((some 38), true)), []⟩,
   ⟨(some 45), .pick (.tmp 38) (.tmp 44) (.const (.bool false)), 4, none, []⟩,
   ⟨(some 46), .move (.tmp 45), 4, none, []⟩,
   ⟨(some 47), .move (.tmp 0), 101, (some ((some 46), true)), []⟩,
   ⟨(some 48), .move (.tmp 2), 79, (some ((some 46), true)), []⟩,
   ⟨(some 50), .move (.tmp 3), 3, (some ((some 46), true)), []⟩,
   ⟨(some 49), .call ⟨.value (.func 77), #[(.tmp 47), (.tmp 48)], #[101, 79]⟩, 3, (some ((some 46), true)), []⟩,
   ⟨(some 51), .binOp .eql 3 (.tmp 49) (.tmp 50) 3, 4, (some ((some 46), true)), []⟩,
   ⟨(some 52), .pick (.tmp 46) (.tmp 51) (.const (.bool false)), 4, none, []⟩])
 (.cond (.tmp 52) (.seq (.reg [] [
    ⟨(some 53), .move (.tmp 1), 22, none, []⟩,
    ⟨(some 8), .assign (.tmp 53), 22, none, []⟩])
  (.ret))
 (.skip)))
 (.seq (.seq (.reg [] [
   ⟨(some 54), .move (.tmp 2), 79, none, []⟩,
   ⟨(some 55), .call ⟨.value (.func 54), #[(.tmp 54)], #[79]⟩, 22, none, []⟩,
   ⟨(some 56), .call ⟨.builtin .len, #[(.tmp 55)], #[22]⟩, 3, none, []⟩,
   ⟨(some 57), .move (.const (.int .i64 0)), 3, none, []⟩])
 (.block 0 (.loop (.seq (.reg [] [
     ⟨(some 58), .binOp .lss 3 (.tmp 57) (.tmp 56) 3, 0, none, []⟩])
   (.seq (.cond (.tmp 58) (.skip)
   (.exit 0))
   (.seq (.block 1 (.seq (.reg [] [
      ⟨(some 59), .indexAddr 22 (.tmp 55) (.tmp 57), 0, none, []⟩,
      ⟨(some 60), .load 3 (.tmp 59), 3, none, []⟩,
      ⟨(some 11), .assign (.tmp 60), 3, none, []⟩])
    (.seq (.reg [0, 1, 2, 3, 4, 5, 6, 7, 8, 9, 10, 11, 12, 13, 14, 15, 16] [
      ⟨(some 61), .move (.tmp 0), 101, none, []⟩,
      ⟨(some 62), .nilCheck (.tmp 61), 0, none, []⟩,
      ⟨(some 63), .fieldAddr 112 (.tmp 62) 0, 0, none, []⟩,
      ⟨(some 64), .fieldAddr 24 (.tmp 63) 1, 0, none, []⟩,
      ⟨(some 65), .load 22 (.tmp 64), 22, none, []⟩,
      ⟨(some 66), .move (.tmp 11), 3, none, []⟩,
      ⟨(some 67), .indexAddr 22 (.tmp 65) (.tmp 66), 0, none, []⟩,
      ⟨(some 68), .load 3 (.tmp 67), 3, none, []⟩,
      ⟨(some 69), .move (.tmp 0), 101, none, []⟩,
      ⟨(some 70), .nilCheck (.tmp 69), 0, none, []⟩,
      ⟨(some 71), .fieldAddr 112 (.tmp 70) 0, 0, none, []⟩,
      ⟨(some 72), .fieldAddr 24 (.tmp 71) 2, 0, none, []⟩,
      ⟨(some 73), .load 22 (.tmp 72), 22, none, []⟩,
      ⟨(some 74), .move (.tmp 9), 3, none, []⟩,
      ⟨(some 75), .indexAddr 22 (.tmp 73) (.tmp 74), 0, none, []⟩,
      ⟨(some 76), .load 3 (.tmp 75), 3, none, []⟩,
      ⟨(some 77), .binOp .eql 3 (.tmp 68) (.tmp 76) 3, 4, none, []⟩])
    (.cond (.tmp 77) (.seq (.reg [0, 1, 3, 4, 6, 7, 8, 9, 10, 2, 5, 11, 12] [
       ⟨(some 78), .move (.tmp 0), 101, none, []⟩,
       ⟨(some 79), .move (.tmp 1), 22, none, []⟩,
       ⟨(some 81), .move (.tmp 11), 3, none, []⟩,
       ⟨(some 82), .buildSlice 22 1 #[(0, (.tmp 81))], 22, none, []⟩,
       ⟨(some 84), .move (.tmp 2), 79, none, []⟩,
       ⟨(some 85), .move (.tmp 11), 3, none, []⟩,
       ⟨(some 86), .binOp .shl 79 (.const (.int .u16 1)) (.tmp 85) 3, 79, none, []⟩,
       ⟨(some 87), .binOp .andNot 79 (.tmp 84) (.tmp 86) 79, 79, none, []⟩,
       ⟨(some 88), .move (.tmp 3), 3, none, []⟩,
       ⟨(some 80), .call ⟨.value (.func 81), #[(.tmp 79)], #[22]⟩, 22, none, []⟩,
       ⟨(some 83), .call ⟨.builtin .append, #[(.tmp 80), (.tmp 82)], #[22, 22]⟩, 22, none, []⟩,
       ⟨(some 89), .call ⟨.value (.func 78), #[(.tmp 78), (.tmp 83), (.tmp 87), (.tmp 88)], #[101, 22, 79, 3]⟩, 22, none, []⟩,
       ⟨(some 12), .assign (.tmp 89), 22, none, []⟩])
     (.seq (.reg [] [
       ⟨(some 90), .move (.tmp 12), 22, none, []⟩,
       ⟨(some 91), .binOp .neq 22 (.tmp 90) (.const (.slice none 0 0)) 22, 4, none, []⟩])
     (.cond (.tmp 91) (.seq (.reg [] [
        ⟨(some 92), .move (.tmp 12), 22, none, []⟩,
        ⟨(some 8), .assign (.tmp 92), 22, none, []⟩])
      (.ret))
     (.skip))))
    (.skip)))))
   (.reg [] [
     ⟨(some 93), .binOp .add 3 (.tmp 57) (.const (.int .i64 1)) 3, 3, none, []⟩,
     ⟨(some 57), .move (.tmp 93), 3, none, []⟩])))))))
 (.seq (.reg [] [
   ⟨(some 8), .assign (.const (.slice none 0 0)), 22, none, []⟩])
 (.ret)))))
/-- (spadille/mend.Tray).even -/
def c80 : RC :=
  .seq (.reg [] [
   ⟨(some 2), .box 24 (.tmp 0), 0, none, []⟩,
   ⟨(some 4), .assign (.const (.bool false)), 4, none, []⟩])
 (.seq (.reg [] [
   ⟨(some 5), .alloc 87, 0, none, []⟩])
 (.seq (.seq (.reg [] [
   ⟨(some 7), .fieldAddr 24 (.tmp 2) 1, 0, none, []⟩,
   ⟨(some 8), .load 22 (.tmp 7), 22, none, []⟩,
   ⟨(some 9), .call ⟨.builtin .len, #[(.tmp 8)], #[22]⟩, 3, none, []⟩,
   ⟨(some 10), .move (.const (.int .i64 0)), 3, none, []⟩])
 (.block 0 (.loop (.seq (.reg [] [
     ⟨(some 11), .binOp .lss 3 (.tmp 10) (.tmp 9) 3, 0, none, []⟩])
   (.seq (.cond (.tmp 11) (.skip)
   (.exit 0))
   (.seq (.block 1 (.seq (.reg [] [
      ⟨(some 12), .move (.tmp 10), 3, none, []⟩,
      ⟨(some 6), .assign (.tmp 12), 3, none, []⟩])
    (.seq (.reg [] [
      ⟨(some 13), .move (.tmp 1), 79, none, []⟩,
      ⟨(some 14), .move (.tmp 6), 3, none, []⟩,
      ⟨(some 15), .call ⟨.value (.func 67), #[(.tmp 13), (.tmp 14)], #[79, 3]⟩, 4, none, []⟩])
    (.cond (.tmp 15) (.seq (.reg [] [
       ⟨(some 16), .fieldAddr 24 (.tmp 2) 1, 0, none, []⟩,
       ⟨(some 17), .load 22 (.tmp 16), 22, none, []⟩,
       ⟨(some 18), .move (.tmp 6), 3, none, []⟩,
       ⟨(some 19), .indexAddr 22 (.tmp 17) (.tmp 18), 0, none, []⟩,
       ⟨(some 20), .load 3 (.tmp 19), 3, none, []⟩,
       ⟨(some 21), .indexAddr 87 (.tmp 5) (.tmp 20), 0, none, []⟩,
       ⟨(some 22), .load 3 (.tmp 21), 3, none, []⟩,
       ⟨(some 23), .binOp .add 3 (.tmp 22) (.const (.int .i64 1)) 3, 3, none, []⟩,
       ⟨(some 24), .indexAddr 87 (.tmp 5) (.tmp 20), 0, none, []⟩,
       ⟨none, .store 3 (.tmp 24) (.tmp 23), 0, none, []⟩])
     (.reg [] [
       ⟨(some 25), .fieldAddr 24 (.tmp 2) 2, 0, none, []⟩,
       ⟨(some 26), .load 22 (.tmp 25), 22, none, []⟩,
       ⟨(some 27), .move (.tmp 6), 3, none, []⟩,
       ⟨(some 28), .indexAddr 22 (.tmp 26) (.tmp 27), 0, none, []⟩,
       ⟨(some 29), .load 3 (.tmp 28), 3, none, []⟩,
       ⟨(some 30), .indexAddr 87 (.tmp 5) (.tmp 29), 0, none, []⟩,
       ⟨(some 31), .load 3 (.tmp 30), 3, none, []⟩,
       ⟨(some 32), .binOp .sub 3 (.tmp 31) (.const (.int .i64 1)) 3, 3, none, []⟩,
       ⟨(some 33), .indexAddr 87 (.tmp 5) (.tmp 29), 0, none, []⟩,
       ⟨none, .store 3 (.tmp 33) (.tmp 32), 0, none, []⟩]))
    (.skip)))))
   (.reg [] [
     ⟨(some 34), .binOp .add 3 (.tmp 10) (.const (.int .i64 1)) 3, 3, none, []⟩,
     ⟨(some 10), .move (.tmp 34), 3, none, []⟩])))))))
 (.seq (.reg [] [
   ⟨(some 35), .load 87 (.tmp 5), 87, none, []⟩,
   ⟨(some 36), .build 87 #[], 87, none, []⟩,
   ⟨(some 37), .binOp .eql 87 (.tmp 35) (.tmp 36) 87, 4, none, []⟩,
   ⟨(some 4), .assign (.tmp 37), 4, none, []⟩])
 (.ret))))
/-- slices.Clip[[]int,int] -/
def c81 : RC :=
  .seq (.reg [] [
   ⟨(some 2), .assign (.const (.slice none 0 0)), 22, none, []⟩])
 (.seq (.reg [] [
   ⟨(some 3), .move (.tmp 0), 22, none, []⟩,
   ⟨(some 4), .move (.tmp 0), 22, none, []⟩,
   ⟨(some 5), .call ⟨.builtin .len, #[(.tmp 4)], #[22]⟩, 3, none, []⟩,
   ⟨(some 6), .move (.tmp 0), 22, none, []⟩,
   ⟨(some 7), .call ⟨.builtin .len, #[(.tmp 6)], #[22]⟩, 3, none, []⟩,
   ⟨(some 8), .slice 22 (.tmp 3) none (some (.tmp 5)) (some (.tmp 7)), 22, none, []⟩,
   ⟨(some 2), .assign (.tmp 8), 22, none, []⟩])
 (.ret))
def ti3 : TI := ⟨.int .i64, 1, 8, (some (.int .i64 0)), false⟩
def ti5 : TI := ⟨.int .u8, 1, 1, (some (.int .u8 0)), false⟩
def ti9 : TI := ⟨.string, 1, 16, (some (.string ⟨#[]⟩)), false⟩
def ti22 : TI := ⟨.slice 3, 1, 24, (some (.slice none 0 0)), false⟩
def ti24 : TI := ⟨.struct #[⟨ "Kinds", 3, 0, false, "", "", 0⟩, ⟨ "Has", 22, 1, false, "", "", 8⟩, ⟨ "Wants", 22, 2, false, "", "", 32⟩], 3, 56, (some (.agg #[(.int .i64 0), (.slice none 0 0), (.slice none 0 0)])), false⟩
def ti27 : TI := ⟨.struct #[⟨ "Kinds", 3, 0, false, "", "", 0⟩, ⟨ "Has", 22, 1, false, "", "", 8⟩, ⟨ "Wants", 22, 2, false, "", "", 32⟩], 3, 56, (some (.agg #[(.int .i64 0), (.slice none 0 0), (.slice none 0 0)])), false⟩
def ti28 : TI := ⟨.int .i64, 1, 8, (some (.int .i64 0)), false⟩
def ti40 : TI := ⟨.slice 65, 1, 24, (some (.slice none 0 0)), false⟩
def ti45 : TI := ⟨.slice 22, 1, 24, (some (.slice none 0 0)), false⟩
def ti65 : TI := ⟨.array 2 3, 2, 16, (some (.agg #[(.int .i64 0), (.int .i64 0)])), true⟩
def ti78 : TI := ⟨.int .u16, 1, 2, (some (.int .u16 0)), false⟩
def ti79 : TI := ⟨.int .u16, 1, 2, (some (.int .u16 0)), false⟩
def ti87 : TI := ⟨.array 5 3, 5, 40, (some (.agg #[(.int .i64 0), (.int .i64 0), (.int .i64 0), (.int .i64 0), (.int .i64 0)])), true⟩
def ti101 : TI := ⟨.pointer 112, 1, 8, (some (.pointer none)), false⟩
def ti106 : TI := ⟨.array 5 22, 5, 120, (some (.agg #[(.slice none 0 0), (.slice none 0 0), (.slice none 0 0), (.slice none 0 0), (.slice none 0 0)])), false⟩
def ti107 : TI := ⟨.array 32 5, 32, 32, (some (.agg #[(.int .u8 0), (.int .u8 0), (.int .u8 0), (.int .u8 0), (.int .u8 0), (.int .u8 0), (.int .u8 0), (.int .u8 0), (.int .u8 0), (.int .u8 0), (.int .u8 0), (.int .u8 0), (.int .u8 0), (.int .u8 0), (.int .u8 0), (.int .u8 0), (.int .u8 0), (.int .u8 0), (.int .u8 0), (.int .u8 0), (.int .u8 0), (.int .u8 0), (.int .u8 0), (.int .u8 0), (.int .u8 0), (.int .u8 0), (.int .u8 0), (.int .u8 0), (.int .u8 0), (.int .u8 0), (.int .u8 0), (.int .u8 0)])), true⟩
def ti108 : TI := ⟨.int .u32, 1, 4, (some (.int .u32 0)), false⟩
def ti109 : TI := ⟨.int .u64, 1, 8, (some (.int .u64 0)), false⟩
def ti110 : TI := ⟨.map 79 3, 1, 8, (some (.map none)), false⟩
def ti112 : TI := ⟨.struct #[⟨ "Tray", 24, 0, true, "", "", 0⟩, ⟨ "known", 110, 3, false, "", "spadille/mend", 56⟩], 4, 64, (some (.agg #[(.int .i64 0), (.slice none 0 0), (.slice none 0 0), (.map none)])), false⟩
def ttTr : Tr TI := (.node none (.node none (.node (some ti3) (.node none (.node none .nil (.node none (.node (some ti79) .nil .nil) .nil)) (.node none .nil (.node none (.node (some ti87) .nil .nil) .nil))) (.node none .nil (.node (some ti27) (.node none .nil (.node (some ti107) .nil .nil)) .nil))) (.node (some ti5) (.node (some ti9) (.node none (.node none (.node (some ti65) .nil .nil) .nil) .nil) .nil) (.node none (.node none (.node none .nil (.node (some ti101) .nil .nil)) .nil) (.node none (.node (some ti45) .nil (.node (some ti109) .nil .nil)) .nil)))) (.node none (.node none (.node none (.node none .nil (.node none .nil (.node (some ti112) .nil .nil))) (.node (some ti24) (.node (some ti40) .nil .nil) .nil)) (.node none .nil (.node (some ti28) (.node none .nil (.node (some ti108) .nil .nil)) .nil))) (.node none (.node none .nil (.node none (.node none .nil (.node (some ti106) .nil .nil)) .nil)) (.node none (.node (some ti22) .nil .nil) (.node none (.node none (.node (some ti78) .nil .nil) (.node (some ti110) .nil .nil)) .nil)))))
noncomputable def tt : TT := ttTr.get
def fnTr : Tr RFn := (.node none (.node none (.node none (.node none (.node (some ⟨218, c15, [.tmp 0]⟩) (.node (some ⟨22, c31, [.tmp 4, .tmp 5]⟩) (.node (some ⟨13, c63, [.tmp 2]⟩) .nil .nil) .nil) .nil) (.node (some ⟨47, c23, [.tmp 2, .tmp 3]⟩) .nil .nil)) (.node none (.node none (.node (some ⟨44, c35, [.tmp 2, .tmp 3]⟩) (.node (some ⟨10, c67, [.tmp 4]⟩) .nil .nil) .nil) .nil) (.node none (.node (some ⟨6, c43, [.cell 0 24]⟩) (.node (some ⟨11, c75, [.tmp 2]⟩) .nil .nil) .nil) .nil))) (.node none (.node none (.node none (.node (some ⟨12, c33, [.tmp 2, .tmp 3]⟩) (.node (some ⟨46, c65, [.tmp 2]⟩) .nil .nil) .nil) (.node (some ⟨39, c49, [.tmp 4]⟩) (.node (some ⟨9, c81, [.tmp 2]⟩) .nil .nil) .nil)) (.node (some ⟨26, c25, [.tmp 4]⟩) (.node none (.node (some ⟨15, c73, [.tmp 2]⟩) .nil .nil) .nil) (.node (some ⟨36, c57, [.cell 6 24]⟩) .nil .nil))) (.node none (.node (some ⟨73, c21, [.tmp 2]⟩) (.node none (.node (some ⟨49, c69, [.tmp 2]⟩) .nil .nil) .nil) (.node (some ⟨27, c53, [.tmp 2]⟩) .nil .nil)) (.node none (.node (some ⟨4, c45, [.tmp 2]⟩) (.node (some ⟨52, c77, [.tmp 4]⟩) .nil .nil) .nil) (.node (some ⟨15, c61, [.tmp 6]⟩) .nil .nil))))) (.node none (.node none (.node none (.node (some ⟨13, c16, [.tmp 2, .tmp 3]⟩) (.node (some ⟨25, c32, [.tmp 4, .tmp 5]⟩) .nil .nil) (.node none (.node (some ⟨38, c80, [.tmp 4]⟩) .nil .nil) .nil)) (.node none .nil (.node (some ⟨25, c56, [.tmp 6]⟩) .nil .nil))) (.node none (.node (some ⟨26, c20, [.tmp 4]⟩) (.node (some ⟨43, c36, [.tmp 2, .tmp 3]⟩) .nil .nil) .nil) (.node (some ⟨91, c28, [.tmp 4, .tmp 5]⟩) (.node (some ⟨6, c44, [.cell 0 24]⟩) (.node (some ⟨8, c76, [.tmp 2]⟩) .nil .nil) .nil) (.node (some ⟨15, c60, [.tmp 6]⟩) .nil .nil)))) (.node (some ⟨87, c6, [.tmp 6]⟩) (.node none (.node (some ⟨25, c18, [.cell 6 24, .tmp 7]⟩) (.node (some ⟨26, c34, [.tmp 2, .tmp 3]⟩) .nil .nil) .nil) (.node (some ⟨12, c26, [.tmp 2, .tmp 3]⟩) (.node (some ⟨12, c42, [.tmp 2, .tmp 3]⟩) (.node (some ⟨8, c74, [.tmp 2]⟩) .nil .nil) .nil) .nil)) (.node (some ⟨13, c14, [.tmp 2]⟩) (.node (some ⟨68, c22, [.tmp 2]⟩) (.node none (.node (some ⟨45, c70, [.tmp 4]⟩) .nil .nil) .nil) (.node (some ⟨16, c54, [.tmp 2]⟩) .nil .nil)) (.node (some ⟨27, c30, [.tmp 4]⟩) (.node (some ⟨4, c46, [.tmp 2]⟩) (.node (some ⟨94, c78, [.tmp 8]⟩) .nil .nil) .nil) (.node (some ⟨22, c62, [.tmp 4]⟩) .nil .nil))))))
noncomputable def fns : FuncId → Option RFn := fnTr.get
end Go.MendN
