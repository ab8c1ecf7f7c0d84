/- Slim code and types of the seat's program: MADE BY PROGRAM (wip/sp/Print.lean, gen2.lean). -/
import Derived.Test.YtalnfeacnnmchaaDoorSpFramex

set_option maxRecDepth 100000
namespace Go.TabR
open Go.Sp
/-- spadille/spadillelaw07.TableRuns -/
def c3 : RC :=
  .seq (.reg [] [
   ⟨(some 2), .box 24 (.tmp 0), 0, none, []⟩,
   ⟨(some 4), .assign (.const (.bool false)), 4, none, []⟩])
 (.seq (.seq (.reg [] [
   ⟨(some 10), .load 24 (.tmp 2), 24, none, []⟩,
   ⟨(some 11), .move (.tmp 1), 25, none, []⟩,
   ⟨(some 12), .call ⟨.value (.func 4), #[(.tmp 10), (.tmp 11)], #[24, 25]⟩, 4, none, []⟩])
 (.cond (.tmp 12) (.seq (.reg [] [
    ⟨(some 13), .call ⟨.value (.func 5), #[], #[]⟩, 4, none, []⟩,
    ⟨(some 4), .assign (.tmp 13), 4, none, []⟩])
  (.ret))
 (.skip)))
 (.seq (.reg [] [
   ⟨(some 14), .load 24 (.tmp 2), 24, none, []⟩,
   ⟨(some 5), .alloc 28, 0, none, []⟩,
   ⟨none, .store 28 (.tmp 5) (.tmp 14), 0, none, []⟩])
 (.seq (.reg [] [
   ⟨(some 16), .load 24 (.tmp 2), 24, none, []⟩,
   ⟨(some 17), .move (.tmp 1), 25, none, []⟩,
   ⟨(some 18), .call ⟨.value (.func 6), #[(.tmp 16), (.tmp 17)], #[24, 25]⟩, 30, none, []⟩,
   ⟨(some 15), .move (.tmp 18), 30, none, []⟩,
   ⟨(some 19), .extract (.tmp 15) 0, 25, none, []⟩,
   ⟨(some 20), .extract (.tmp 15) 1, 29, none, []⟩,
   ⟨(some 6), .assign (.tmp 19), 25, none, []⟩,
   ⟨(some 7), .assign (.tmp 20), 29, none, []⟩])
 (.seq (.reg [] [
   ⟨(some 22), .load 28 (.tmp 5), 28, none, []⟩,
   ⟨(some 23), .move (.tmp 1), 25, none, []⟩,
   ⟨(some 24), .call ⟨.value (.func 7), #[(.tmp 22), (.tmp 23)], #[28, 25]⟩, 30, none, []⟩,
   ⟨(some 21), .move (.tmp 24), 30, none, []⟩,
   ⟨(some 25), .extract (.tmp 21) 0, 25, none, []⟩,
   ⟨(some 26), .extract (.tmp 21) 1, 29, none, []⟩,
   ⟨(some 8), .assign (.tmp 25), 25, none, []⟩,
   ⟨(some 9), .assign (.tmp 26), 29, none, []⟩])
 (.seq (.reg [0, 1, 2, 3, 4, 5, 6, 7, 8, 9, 11, 10, 12, 13, 14, 15, 16, 17, 19, 20, 18, 21, 22, 23, 24, 25, 26, 27] [
   ⟨(some 27), .move (.tmp 6), 25, none, []⟩,
   ⟨(some 28), .move (.tmp 8), 25, none, []⟩,
   ⟨(some 29), .call ⟨.value (.func 8), #[(.tmp 27), (.tmp 28)], #[25, 25]⟩, 4, none, []⟩,
   ⟨(some 30), .move (.tmp 29), 4, none, []⟩,
   ⟨(some 31), .move (.tmp 7), 29, (some ((some 30), true)), []⟩,
   ⟨(some 32), .move (.tmp 9), 29, (some ((some 30), true)), []⟩,
   ⟨(some 33), .binOp .eql 29 (.tmp 31) (.tmp 32) 29, 4, (some ((some 30), true)), []⟩,
   ⟨(some 34), .pick (.tmp 30) (.tmp 33) (.const (.bool false)), 4, none, []⟩,
   ⟨(some 35), .move (.tmp 34), 4, none, []⟩,
   ⟨(some 36), .load 24 (.tmp 2), 24, (some ((some 35), true)), []⟩,
   ⟨(some 38), .load 28 (.tmp 5), 28, (some ((some 35), true)), []⟩,
   ⟨(some 37), .call ⟨.value (.func 9), #[(.tmp 36)], #[24]⟩, 29, (some ((some 35), true)), [(.tmp 5)]⟩,
   ⟨(some 39), .call ⟨.value (.func 10), #[(.tmp 38)], #[28]⟩, 29, (some ((some 35), true)), []⟩,
   ⟨(some 40), .binOp .eql 29 (.tmp 37) (.tmp 39) 29, 4, (some ((some 35), true)), []⟩,
   ⟨(some 41), .pick (.tmp 35) (.tmp 40) (.const (.bool false)), 4, none, []⟩,
   ⟨(some 42), .move (.tmp 41), 4, none, []⟩,
   ⟨(some 43), .load 24 (.tmp 2), 24, (some ((some 42), true)), []⟩,
   ⟨(some 44), .move (.tmp 1), 25, (some ((some 42), true)), []⟩,
   ⟨(some 46), .load 28 (.tmp 5), 28, (some ((some 42), true)), []⟩,
   ⟨(some 47), .move (.tmp 1), 25, (some ((some 42), true)), []⟩,
   ⟨(some 45), .call ⟨.value (.func 11), #[(.tmp 43), (.tmp 44)], #[24, 25]⟩, 29, (some ((some 42), true)), [(.tmp 5)]⟩,
   ⟨(some 48), .call ⟨.value (.func 12), #[(.tmp 46), (.tmp 47)], #[28, 25]⟩, 29, (some ((some 42), true)), []⟩,
   ⟨(some 49), .binOp .eql 29 (.tmp 45) (.tmp 48) 29, 4, (some ((some 42), true)), []⟩,
   ⟨(some 50), .pick (.tmp 42) (.tmp 49) (.const (.bool false)), 4, none, []⟩,
   ⟨(some 51), .move (.tmp 50), 4, none, []⟩,
   ⟨(some 52), .call ⟨.value (.func 5), #[], #[]⟩, 4, (some ((some 51), true)), []⟩,
   ⟨(some 53), .pick (.tmp 51) (.tmp 52) (.const (.bool false)), 4, none, []⟩,
   ⟨(some 4), .assign (.tmp 53), 4, none, []⟩])
 (.ret))))))
/-- spadille/spadillelaw07.large -/
def c4 : RC :=
  .seq (.reg [] [
   ⟨(some 2), .box 24 (.tmp 0), 0, none, []⟩,
   ⟨(some 4), .assign (.const (.bool false)), 4, none, []⟩])
 (.seq (.reg [] [
   ⟨(some 5), .fieldAddr 24 (.tmp 2) 1, 0, none, []⟩,
   ⟨(some 6), .load 22 (.tmp 5), 22, none, []⟩,
   ⟨(some 7), .call ⟨.builtin .len, #[(.tmp 6)], #[22]⟩, 3, none, []⟩,
   ⟨(some 8), .binOp .gtr 3 (.tmp 7) (.const (.int .i64 60)) 3, 4, none, []⟩,
   ⟨(some 9), .move (.tmp 8), 4, none, []⟩,
   ⟨(some 10), .move (.tmp 1), 25, (some ((some 9), false)), []⟩,
   ⟨(some 11), .call ⟨.builtin .len, #[(.tmp 10)], #[25]⟩, 3, (some ((some 9), false)), []⟩,
   ⟨(some 12), .binOp .gtr 3 (.tmp 11) (.const (.int .i64 40)) 3, 4, (some ((some 9), false)), []⟩,
   ⟨(some 13), .pick (.tmp 9) (.const (.bool true)) (.tmp 12), 4, none, []⟩,
   ⟨(some 4), .assign (.tmp 13), 4, none, []⟩])
 (.ret))
/-- spadille/spadillelaw07.works -/
def c5 : RC :=
  .seq (.reg [] [
   ⟨(some 0), .assign (.const (.bool false)), 4, none, []⟩])
 (.seq (.reg [] [
   ⟨(some 23), .call ⟨.value (.func 13), #[], #[]⟩, 24, none, []⟩,
   ⟨(some 24), .buildSlice 25 3 #[(0, (.const (.int .i64 9))), (1, (.const (.int .i64 (-1)))), (2, (.const (.int .i64 4)))], 25, none, []⟩,
   ⟨(some 25), .call ⟨.value (.func 14), #[(.tmp 24)], #[25]⟩, 25, none, []⟩,
   ⟨(some 26), .call ⟨.value (.func 6), #[(.tmp 23), (.tmp 25)], #[24, 25]⟩, 30, none, []⟩,
   ⟨(some 22), .move (.tmp 26), 30, none, []⟩,
   ⟨(some 27), .extract (.tmp 22) 0, 25, none, []⟩,
   ⟨(some 28), .extract (.tmp 22) 1, 29, none, []⟩,
   ⟨(some 1), .assign (.tmp 27), 25, none, []⟩,
   ⟨(some 2), .assign (.tmp 28), 29, none, []⟩])
 (.seq (.reg [] [
   ⟨(some 30), .call ⟨.value (.func 13), #[], #[]⟩, 24, none, []⟩,
   ⟨(some 31), .call ⟨.value (.func 15), #[(.tmp 30)], #[24]⟩, 40, none, []⟩,
   ⟨(some 29), .move (.tmp 31), 40, none, []⟩,
   ⟨(some 32), .extract (.tmp 29) 0, 4, none, []⟩,
   ⟨(some 33), .extract (.tmp 29) 1, 29, none, []⟩,
   ⟨(some 3), .assign (.tmp 32), 4, none, []⟩,
   ⟨(some 4), .assign (.tmp 33), 29, none, []⟩])
 (.seq (.reg [] [
   ⟨(some 35), .call ⟨.value (.func 16), #[], #[]⟩, 24, none, []⟩,
   ⟨(some 36), .call ⟨.value (.func 15), #[(.tmp 35)], #[24]⟩, 40, none, []⟩,
   ⟨(some 34), .move (.tmp 36), 40, none, []⟩,
   ⟨(some 37), .extract (.tmp 34) 0, 4, none, []⟩,
   ⟨(some 38), .extract (.tmp 34) 1, 29, none, []⟩,
   ⟨(some 5), .assign (.tmp 37), 4, none, []⟩,
   ⟨(some 6), .assign (.tmp 38), 29, none, []⟩])
 (.seq (.reg [] [
   ⟨(some 40), .call ⟨.value (.func 16), #[], #[]⟩, 24, none, []⟩,
   ⟨(some 41), .call ⟨.value (.func 17), #[(.tmp 40)], #[24]⟩, 30, none, []⟩,
   ⟨(some 39), .move (.tmp 41), 30, none, []⟩,
   ⟨(some 42), .extract (.tmp 39) 0, 25, none, []⟩,
   ⟨(some 43), .extract (.tmp 39) 1, 29, none, []⟩,
   ⟨(some 7), .assign (.tmp 42), 25, none, []⟩,
   ⟨(some 8), .assign (.tmp 43), 29, none, []⟩])
 (.seq (.reg [] [
   ⟨(some 45), .call ⟨.value (.func 16), #[], #[]⟩, 24, none, []⟩,
   ⟨(some 46), .call ⟨.value (.func 18), #[(.tmp 45)], #[24]⟩, 44, none, []⟩,
   ⟨(some 44), .move (.tmp 46), 44, none, []⟩,
   ⟨(some 47), .extract (.tmp 44) 0, 43, none, []⟩,
   ⟨(some 48), .extract (.tmp 44) 1, 29, none, []⟩,
   ⟨(some 9), .assign (.tmp 47), 43, none, []⟩,
   ⟨(some 10), .assign (.tmp 48), 29, none, []⟩])
 (.seq (.reg [] [
   ⟨(some 50), .call ⟨.value (.func 13), #[], #[]⟩, 24, none, []⟩,
   ⟨(some 51), .call ⟨.value (.func 19), #[(.tmp 50)], #[24]⟩, 30, none, []⟩,
   ⟨(some 49), .move (.tmp 51), 30, none, []⟩,
   ⟨(some 52), .extract (.tmp 49) 0, 25, none, []⟩,
   ⟨(some 53), .extract (.tmp 49) 1, 29, none, []⟩,
   ⟨(some 11), .assign (.tmp 52), 25, none, []⟩,
   ⟨(some 12), .assign (.tmp 53), 29, none, []⟩])
 (.seq (.reg [] [
   ⟨(some 55), .call ⟨.value (.func 13), #[], #[]⟩, 24, none, []⟩,
   ⟨(some 56), .call ⟨.value (.func 20), #[(.tmp 55)], #[24]⟩, 30, none, []⟩,
   ⟨(some 54), .move (.tmp 56), 30, none, []⟩,
   ⟨(some 57), .extract (.tmp 54) 0, 25, none, []⟩,
   ⟨(some 58), .extract (.tmp 54) 1, 29, none, []⟩,
   ⟨(some 13), .assign (.tmp 57), 25, none, []⟩,
   ⟨(some 14), .assign (.tmp 58), 29, none, []⟩])
 (.seq (.seq (.reg [] [
   ⟨(some 59), .move (.tmp 2), 29, none, []⟩,
   ⟨(some 60), .binOp .neq 29 (.tmp 59) (.const (.int .i64 0)) 29, 4, none, []⟩,
   ⟨(some 61), .move (.tmp 60), 4, none, []⟩,
   ⟨(some 62), .move (.tmp 4), 29, (some ((some 61), false)), []⟩,
   ⟨(some 63), .binOp .neq 29 (.tmp 62) (.const (.int .i64 0)) 29, 4, (some ((some 61), false)), []⟩,
   ⟨(some 64), .pick (.tmp 61) (.const (.bool true)) (.tmp 63), 4, none, []⟩,
   ⟨(some 65), .move (.tmp 64), 4, none, []⟩,
   ⟨(some 66), .move (.tmp 6), 29, (some ((some 65), false)), []⟩,
   ⟨(some 67), .binOp .neq 29 (.tmp 66) (.const (.int .i64 0)) 29, 4, (some ((some 65), false)), []⟩,
   ⟨(some 68), .pick (.tmp 65) (.const (.bool true)) (.tmp 67), 4, none, []⟩,
   ⟨(some 69), .move (.tmp 68), 4, none, []⟩,
   ⟨(some 70), .move (.tmp 8), 29, (some ((some 69), false)), []⟩,
   ⟨(some 71), .binOp .neq 29 (.tmp 70) (.const (.int .i64 0)) 29, 4, (some ((some 69), false)), []⟩,
   ⟨(some 72), .pick (.tmp 69) (.const (.bool true)) (.tmp 71), 4, none, []⟩,
   ⟨(some 73), .move (.tmp 72), 4, none, []⟩,
   ⟨(some 74), .move (.tmp 10), 29, (some ((some 73), false)), []⟩,
   ⟨(some 75), .binOp .neq 29 (.tmp 74) (.const (.int .i64 0)) 29, 4, (some ((some 73), false)), []⟩,
   ⟨(some 76), .pick (.tmp 73) (.const (.bool true)) (.tmp 75), 4, none, []⟩,
   ⟨(some 77), .move (.tmp 76), 4, none, []⟩,
   ⟨(some 78), .move (.tmp 12), 29, (some ((some 77), false)), []⟩,
   ⟨(some 79), .binOp .neq 29 (.tmp 78) (.const (.int .i64 0)) 29, 4, (some ((some 77), false)), []⟩,
   ⟨(some 80), .pick (.tmp 77) (.const (.bool true)) (.tmp 79), 4, none, []⟩,
   ⟨(some 81), .move (.tmp 80), 4, none, []⟩,
   ⟨(some 82), .move (.tmp 14), 29, (some ((some 81), false)), []⟩,
   ⟨(some 83), .binOp .neq 29 (.tmp 82) (.const (.int .i64 0)) 29, 4, (some ((some 81), false)), []⟩,
   ⟨(some 84), .pick (.tmp 81) (.const (.bool true)) (.tmp 83), 4, none, []⟩])
 (.cond (.tmp 84) (.seq (.reg [] [
    ⟨(some 0), .assign (.const (.bool false)), 4, none, []⟩])
  (.ret))
 (.skip)))
 (.seq (.reg [] [
   ⟨(some 86), .call ⟨.value (.func 16), #[], #[]⟩, 24, none, []⟩,
   ⟨(some 87), .call ⟨.value (.func 21), #[(.tmp 86)], #[24]⟩, 44, none, []⟩,
   ⟨(some 85), .move (.tmp 87), 44, none, []⟩,
   ⟨(some 88), .extract (.tmp 85) 0, 43, none, []⟩,
   ⟨(some 89), .extract (.tmp 85) 1, 29, none, []⟩,
   ⟨(some 15), .assign (.tmp 88), 43, none, []⟩,
   ⟨(some 2), .assign (.tmp 89), 29, none, []⟩])
 (.seq (.reg [] [
   ⟨(some 91), .call ⟨.value (.func 16), #[], #[]⟩, 24, none, []⟩,
   ⟨(some 92), .call ⟨.value (.func 22), #[(.tmp 91), (.const (.int .i64 1))], #[24, 3]⟩, 46, none, []⟩,
   ⟨(some 90), .move (.tmp 92), 46, none, []⟩,
   ⟨(some 93), .extract (.tmp 90) 0, 3, none, []⟩,
   ⟨(some 94), .extract (.tmp 90) 1, 3, none, []⟩,
   ⟨(some 95), .extract (.tmp 90) 2, 29, none, []⟩,
   ⟨(some 16), .assign (.tmp 93), 3, none, []⟩,
   ⟨(some 17), .assign (.tmp 94), 3, none, []⟩,
   ⟨(some 4), .assign (.tmp 95), 29, none, []⟩])
 (.seq (.reg [] [
   ⟨(some 97), .call ⟨.value (.func 16), #[], #[]⟩, 24, none, []⟩,
   ⟨(some 98), .call ⟨.value (.func 23), #[(.tmp 97), (.const (.int .i64 2))], #[24, 3]⟩, 40, none, []⟩,
   ⟨(some 96), .move (.tmp 98), 40, none, []⟩,
   ⟨(some 99), .extract (.tmp 96) 0, 4, none, []⟩,
   ⟨(some 100), .extract (.tmp 96) 1, 29, none, []⟩,
   ⟨(some 18), .assign (.tmp 99), 4, none, []⟩,
   ⟨(some 6), .assign (.tmp 100), 29, none, []⟩])
 (.seq (.reg [] [
   ⟨(some 102), .call ⟨.value (.func 16), #[], #[]⟩, 24, none, []⟩,
   ⟨(some 103), .call ⟨.value (.func 23), #[(.tmp 102), (.const (.int .i64 4))], #[24, 3]⟩, 40, none, []⟩,
   ⟨(some 101), .move (.tmp 103), 40, none, []⟩,
   ⟨(some 104), .extract (.tmp 101) 0, 4, none, []⟩,
   ⟨(some 105), .extract (.tmp 101) 1, 29, none, []⟩,
   ⟨(some 19), .assign (.tmp 104), 4, none, []⟩,
   ⟨(some 8), .assign (.tmp 105), 29, none, []⟩])
 (.seq (.reg [] [
   ⟨(some 107), .call ⟨.value (.func 16), #[], #[]⟩, 24, none, []⟩,
   ⟨(some 108), .call ⟨.value (.func 24), #[(.tmp 107)], #[24]⟩, 49, none, []⟩,
   ⟨(some 106), .move (.tmp 108), 49, none, []⟩,
   ⟨(some 109), .extract (.tmp 106) 0, 22, none, []⟩,
   ⟨(some 110), .extract (.tmp 106) 1, 29, none, []⟩,
   ⟨(some 20), .assign (.tmp 109), 22, none, []⟩,
   ⟨(some 10), .assign (.tmp 110), 29, none, []⟩])
 (.seq (.reg [] [
   ⟨(some 112), .call ⟨.value (.func 25), #[(.const (.int .i64 3)), (.const (.slice none 0 0))], #[3, 25]⟩, 24, none, []⟩,
   ⟨(some 113), .call ⟨.value (.func 24), #[(.tmp 112)], #[24]⟩, 49, none, []⟩,
   ⟨(some 111), .move (.tmp 113), 49, none, []⟩,
   ⟨(some 114), .extract (.tmp 111) 0, 22, none, []⟩,
   ⟨(some 115), .extract (.tmp 111) 1, 29, none, []⟩,
   ⟨(some 21), .assign (.tmp 114), 22, none, []⟩,
   ⟨(some 12), .assign (.tmp 115), 29, none, []⟩])
 (.seq (.reg [] [
   ⟨(some 117), .call ⟨.value (.func 13), #[], #[]⟩, 24, none, []⟩,
   ⟨(some 118), .call ⟨.value (.func 17), #[(.tmp 117)], #[24]⟩, 30, none, []⟩,
   ⟨(some 116), .move (.tmp 118), 30, none, []⟩,
   ⟨(some 119), .extract (.tmp 116) 0, 25, none, []⟩,
   ⟨(some 120), .extract (.tmp 116) 1, 29, none, []⟩,
   ⟨(some 14), .assign (.tmp 120), 29, none, []⟩])
 (.seq (.reg [] [
   ⟨(some 121), .move (.tmp 2), 29, none, []⟩,
   ⟨(some 122), .binOp .eql 29 (.tmp 121) (.const (.int .i64 0)) 29, 4, none, []⟩,
   ⟨(some 123), .move (.tmp 122), 4, none, []⟩,
   ⟨(some 124), .move (.tmp 4), 29, (some ((some 123), true)), []⟩,
   ⟨(some 125), .binOp .eql 29 (.tmp 124) (.const (.int .i64 0)) 29, 4, (some ((some 123), true)), []⟩,
   ⟨(some 126), .pick (.tmp 123) (.tmp 125) (.const (.bool false)), 4, none, []⟩,
   ⟨(some 127), .move (.tmp 126), 4, none, []⟩,
   ⟨(some 128), .move (.tmp 6), 29, (some ((some 127), true)), []⟩,
   ⟨(some 129), .binOp .eql 29 (.tmp 128) (.const (.int .i64 0)) 29, 4, (some ((some 127), true)), []⟩,
   ⟨(some 130), .pick (.tmp 127) (.tmp 129) (.const (.bool false)), 4, none, []⟩,
   ⟨(some 131), .move (.tmp 130), 4, none, []⟩,
   ⟨(some 132), .move (.tmp 8), 29, (some ((some 131), true)), []⟩,
   ⟨(some 133), .binOp .eql 29 (.tmp 132) (.const (.int .i64 0)) 29, 4, (some ((some 131), true)), []⟩,
   ⟨(some 134), .pick (.tmp 131) (.tmp 133) (.const (.bool false)), 4, none, []⟩,
   ⟨(some 135), .move (.tmp 134), 4, none, []⟩,
   ⟨(some 136), .move (.tmp 10), 29, (some ((some 135), true)), []⟩,
   ⟨(some 137), .binOp .eql 29 (.tmp 136) (.const (.int .i64 0)) 29, 4, (some ((some 135), true)), []⟩,
   ⟨(some 138), .pick (.tmp 135) (.tmp 137) (.const (.bool false)), 4, none, []⟩,
   ⟨(some 139), .move (.tmp 138), 4, none, []⟩,
   ⟨(some 140), .move (.tmp 12), 29, (some ((some 139), true)), []⟩,
   ⟨(some 141), .binOp .eql 29 (.tmp 140) (.const (.int .i64 0)) 29, 4, (some ((some 139), true)), []⟩,
   ⟨(some 142), .pick (.tmp 139) (.tmp 141) (.const (.bool false)), 4, none, []⟩,
   ⟨(some 143), .move (.tmp 142), 4, none, []⟩,
   ⟨(some 144), .move (.tmp 14), 29, (some ((some 143), true)), []⟩,
   ⟨(some 145), .binOp .eql 29 (.tmp 144) (.const (.int .i64 13)) 29, 4, (some ((some 143), true)), []⟩,
   ⟨(some 146), .pick (.tmp 143) (.tmp 145) (.const (.bool false)), 4, none, []⟩,
   ⟨(some 147), .move (.tmp 146), 4, none, []⟩,
   ⟨(some 148), .move (.tmp 3), 4, (some ((some 147), true)), []⟩,
   ⟨(some 149), .pick (.tmp 147) (.tmp 148) (.const (.bool false)), 4, none, []⟩,
   ⟨(some 150), .move (.tmp 149), 4, none, []⟩,
   ⟨(some 151), .move (.tmp 5), 4, (some ((some 150), true)), []⟩,
   ⟨(some 152), .unOp .not 4 (.tmp 151), 4, (some ((some 150), true)), []⟩,
   ⟨(some 153), .pick (.tmp 150) (.tmp 152) (.const (.bool false)), 4, none, []⟩,
   ⟨(some 154), .move (.tmp 153), 4, none, []⟩,
   ⟨(some 155), .move (.tmp 18), 4, (some ((some 154), true)), []⟩,
   ⟨(some 156), .unOp .not 4 (.tmp 155), 4, (some ((some 154), true)), []⟩,
   ⟨(some 157), .pick (.tmp 154) (.tmp 156) (.const (.bool false)), 4, none, []⟩,
   ⟨(some 158), .move (.tmp 157), 4, none, []⟩,
   ⟨(some 159), .move (.tmp 19), 4, (some ((some 158), true)), []⟩,
   ⟨(some 160), .pick (.tmp 158) (.tmp 159) (.const (.bool false)), 4, none, []⟩,
   ⟨(some 161), .move (.tmp 160), 4, none, []⟩,
   ⟨(some 162), .move (.tmp 16), 3, (some ((some 161), true)), []⟩,
   ⟨(some 163), .binOp .eql 3 (.tmp 162) (.const (.int .i64 1)) 3, 4, (some ((some 161), true)), []⟩,
   ⟨(some 164), .pick (.tmp 161) (.tmp 163) (.const (.bool false)), 4, none, []⟩,
   ⟨(some 165), .move (.tmp 164), 4, none, []⟩,
   ⟨(some 166), .move (.tmp 17), 3, (some ((some 165), true)), []⟩,
   ⟨(some 167), .binOp .eql 3 (.tmp 166) (.const (.int .i64 2)) 3, 4, (some ((some 165), true)), []⟩,
   ⟨(some 168), .pick (.tmp 165) (.tmp 167) (.const (.bool false)), 4, none, []⟩,
   ⟨(some 169), .move (.tmp 168), 4, none, []⟩,
   ⟨(some 170), .move (.tmp 9), 43, (some ((some 169), true)), []⟩,
   ⟨(some 171), .call ⟨.builtin .len, #[(.tmp 170)], #[43]⟩, 3, (some ((some 169), true)), []⟩,
   ⟨(some 172), .binOp .eql 3 (.tmp 171) (.const (.int .i64 6)) 3, 4, (some ((some 169), true)), []⟩,
   ⟨(some 173), .pick (.tmp 169) (.tmp 172) (.const (.bool false)), 4, none, []⟩,
   ⟨(some 174), .move (.tmp 173), 4, none, []⟩,
   ⟨(some 175), .move (.tmp 11), 25, (some ((some 174), true)), []⟩,
   ⟨(some 176), .call ⟨.builtin .len, #[(.tmp 175)], #[25]⟩, 3, (some ((some 174), true)), []⟩,
   ⟨(some 177), .binOp .eql 3 (.tmp 176) (.const (.int .i64 0)) 3, 4, (some ((some 174), true)), []⟩,
   ⟨(some 178), .pick (.tmp 174) (.tmp 177) (.const (.bool false)), 4, none, []⟩,
   ⟨(some 179), .move (.tmp 178), 4, none, []⟩,
   ⟨(some 180), .move (.tmp 1), 25, (some ((some 179), true)), []⟩,
   ⟨(some 181), .buildSlice 25 3 #[(0, (.const (.int .i64 (-1)))), (1, (.const (.int .i64 4))), (2, (.const (.int .i64 9)))], 25, (some ((some 179), true)), []⟩,
   ⟨(some 182), .call ⟨.value (.func 14), #[(.tmp 181)], #[25]⟩, 25, (some ((some 179), true)), []⟩,
   ⟨(some 183), .call ⟨.value (.func 8), #[(.tmp 180), (.tmp 182)], #[25, 25]⟩, 4, (some ((some 179), true)), []⟩,
   ⟨(some 184), .pick (.tmp 179) (.tmp 183) (.const (.bool false)), 4, none, []⟩,
   ⟨(some 185), .move (.tmp 184), 4, none, []⟩,
   ⟨(some 186), .move (.tmp 7), 25, (some ((some 185), true)), []⟩,
   ⟨(some 187), .buildSlice 25 4 #[(0, (.const (.int .i64 0))), (1, (.const (.int .i64 1))), (2, (.const (.int .i64 0))), (3, (.const (.int .i64 1)))], 25, (some ((some 185), true)), []⟩,
   ⟨(some 188), .call ⟨.value (.func 14), #[(.tmp 187)], #[25]⟩, 25, (some ((some 185), true)), []⟩,
   ⟨(some 189), .call ⟨.value (.func 8), #[(.tmp 186), (.tmp 188)], #[25, 25]⟩, 4, (some ((some 185), true)), []⟩,
   ⟨(some 190), .pick (.tmp 185) (.tmp 189) (.const (.bool false)), 4, none, []⟩,
   ⟨(some 191), .move (.tmp 190), 4, none, []⟩,
   ⟨(some 192), .move (.tmp 13), 25, (some ((some 191), true)), []⟩,
   ⟨(some 193), .buildSlice 25 3 #[(0, (.const (.int .i64 0))), (1, (.const (.int .i64 1))), (2, (.const (.int .i64 2)))], 25, (some ((some 191), true)), []⟩,
   ⟨(some 194), .call ⟨.value (.func 14), #[(.tmp 193)], #[25]⟩, 25, (some ((some 191), true)), []⟩,
   ⟨(some 195), .call ⟨.value (.func 8), #[(.tmp 192), (.tmp 194)], #[25, 25]⟩, 4, (some ((some 191), true)), []⟩,
   ⟨(some 196), .pick (.tmp 191) (.tmp 195) (.const (.bool false)), 4, none, []⟩,
   ⟨(some 197), .move (.tmp 196), 4, none, []⟩,
   ⟨(some 198), .move (.tmp 15), 43, (some ((some 197), true)), []⟩,
   ⟨(some 199), .buildSlice 25 2 #[(0, (.const (.int .i64 0))), (1, (.const (.int .i64 1)))], 25, (some ((some 197), true)), []⟩,
   ⟨(some 200), .call ⟨.value (.func 14), #[(.tmp 199)], #[25]⟩, 25, (some ((some 197), true)), []⟩,
   ⟨(some 201), .buildSlice 25 2 #[(0, (.const (.int .i64 2))), (1, (.const (.int .i64 3)))], 25, (some ((some 197), true)), []⟩,
   ⟨(some 202), .call ⟨.value (.func 14), #[(.tmp 201)], #[25]⟩, 25, (some ((some 197), true)), []⟩,
   ⟨(some 203), .buildSlice 43 2 #[(0, (.tmp 200)), (1, (.tmp 202))], 43, (some ((some 197), true)), []⟩,
   ⟨(some 204), .call ⟨.value (.func 27), #[(.tmp 203)], #[43]⟩, 43, (some ((some 197), true)), []⟩,
   ⟨(some 205), .call ⟨.value (.func 26), #[(.tmp 198), (.tmp 204)], #[43, 43]⟩, 4, (some ((some 197), true)), []⟩,
   ⟨(some 206), .pick (.tmp 197) (.tmp 205) (.const (.bool false)), 4, none, []⟩,
   ⟨(some 207), .move (.tmp 206), 4, none, []⟩,
   ⟨(some 208), .move (.tmp 20), 22, (some ((some 207), true)), []⟩,
   ⟨(some 209), .build 55 #[(0, (.const (.int .i64 1))), (1, (.const (.int .i64 2)))], 55, (some ((some 207), true)), []⟩,
   ⟨(some 210), .buildSlice 22 1 #[(0, (.tmp 209))], 22, (some ((some 207), true)), []⟩,
   ⟨(some 211), .call ⟨.value (.func 28), #[(.tmp 208), (.tmp 210)], #[22, 22]⟩, 4, (some ((some 207), true)), []⟩,
   ⟨(some 212), .pick (.tmp 207) (.tmp 211) (.const (.bool false)), 4, none, []⟩,
   ⟨(some 213), .move (.tmp 212), 4, none, []⟩,
   ⟨(some 214), .move (.tmp 21), 22, (some ((some 213), true)), []⟩,
   ⟨(some 215), .build 55 #[(0, (.const (.int .i64 0))), (1, (.const (.int .i64 1)))], 55, (some ((some 213), true)), []⟩,
   ⟨(some 216), .build 55 #[(0, (.const (.int .i64 0))), (1, (.const (.int .i64 2)))], 55, (some ((some 213), true)), []⟩,
   ⟨(some 217), .build 55 #[(0, (.const (.int .i64 1))), (1, (.const (.int .i64 2)))], 55, (some ((some 213), true)), []⟩,
   ⟨(some 218), .buildSlice 22 3 #[(0, (.tmp 215)), (1, (.tmp 216)), (2, (.tmp 217))], 22, (some ((some 213), true)), []⟩,
   ⟨(some 219), .call ⟨.value (.func 28), #[(.tmp 214), (.tmp 218)], #[22, 22]⟩, 4, (some ((some 213), true)), []⟩,
   ⟨(some 220), .pick (.tmp 213) (.tmp 219) (.const (.bool false)), 4, none, []⟩,
   ⟨(some 221), .move (.tmp 220), 4, none, []⟩,
   ⟨(some 222), .call ⟨.value (.func 16), #[], #[]⟩, 24, (some ((some 221), true)), []⟩,
   ⟨(some 223), .buildSlice 25 4 #[(0, (.const (.int .i64 0))), (1, (.const (.int .i64 1))), (2, (.const (.int .i64 0))), (3, (.const (.int .i64 1)))], 25, (some ((some 221), true)), []⟩,
   ⟨(some 224), .call ⟨.value (.func 14), #[(.tmp 223)], #[25]⟩, 25, (some ((some 221), true)), []⟩,
   ⟨(some 225), .call ⟨.value (.func 11), #[(.tmp 222), (.tmp 224)], #[24, 25]⟩, 29, (some ((some 221), true)), []⟩,
   ⟨(some 226), .binOp .eql 29 (.tmp 225) (.const (.int .i64 0)) 29, 4, (some ((some 221), true)), []⟩,
   ⟨(some 227), .pick (.tmp 221) (.tmp 226) (.const (.bool false)), 4, none, []⟩,
   ⟨(some 228), .move (.tmp 227), 4, none, []⟩,
   ⟨(some 229), .call ⟨.value (.func 16), #[], #[]⟩, 24, (some ((some 228), true)), []⟩,
   ⟨(some 230), .buildSlice 25 4 #[(0, (.const (.int .i64 4))), (1, (.const (.int .i64 3))), (2, (.const (.int .i64 2))), (3, (.const (.int .i64 1)))], 25, (some ((some 228), true)), []⟩,
   ⟨(some 231), .call ⟨.value (.func 14), #[(.tmp 230)], #[25]⟩, 25, (some ((some 228), true)), []⟩,
   ⟨(some 232), .call ⟨.value (.func 11), #[(.tmp 229), (.tmp 231)], #[24, 25]⟩, 29, (some ((some 228), true)), []⟩,
   ⟨(some 233), .binOp .eql 29 (.tmp 232) (.const (.int .i64 14)) 29, 4, (some ((some 228), true)), []⟩,
   ⟨(some 234), .pick (.tmp 228) (.tmp 233) (.const (.bool false)), 4, none, []⟩,
   ⟨(some 0), .assign (.tmp 234), 4, none, []⟩])
 (.ret)))))))))))))))))
/-- spadille/table.Run -/
def c6 : RC :=
  .seq (.reg [] [
   ⟨(some 2), .box 24 (.tmp 0), 0, none, []⟩,
   ⟨(some 4), .assign (.const (.slice none 0 0)), 25, none, []⟩,
   ⟨(some 5), .assign (.const (.int .i64 0)), 29, none, []⟩])
 (.seq (.reg [] [
   ⟨(some 10), .load 24 (.tmp 2), 24, none, []⟩,
   ⟨(some 11), .call ⟨.value (.func 9), #[(.tmp 10)], #[24]⟩, 29, none, []⟩,
   ⟨(some 6), .assign (.tmp 11), 29, none, []⟩])
 (.seq (.block 0 (.seq (.reg [] [
    ⟨(some 13), .move (.tmp 6), 29, none, []⟩,
    ⟨(some 14), .binOp .neq 29 (.tmp 13) (.const (.int .i64 0)) 29, 4, none, []⟩,
    ⟨(some 12), .assign (.tmp 14), 4, none, []⟩])
  (.cond (.tmp 12) (.seq (.reg [] [
     ⟨(some 15), .move (.tmp 6), 29, none, []⟩,
     ⟨(some 4), .assign (.const (.slice none 0 0)), 25, none, []⟩,
     ⟨(some 5), .assign (.tmp 15), 29, none, []⟩])
   (.ret))
  (.seq (.reg [] [
     ⟨(some 17), .move (.tmp 1), 25, none, []⟩,
     ⟨(some 18), .call ⟨.builtin .len, #[(.tmp 17)], #[25]⟩, 3, none, []⟩,
     ⟨(some 19), .fieldAddr 24 (.tmp 2) 0, 0, none, []⟩,
     ⟨(some 20), .load 3 (.tmp 19), 3, none, []⟩,
     ⟨(some 21), .binOp .neq 3 (.tmp 18) (.tmp 20) 3, 4, none, []⟩,
     ⟨(some 16), .assign (.tmp 21), 4, none, []⟩])
   (.cond (.tmp 16) (.seq (.reg [] [
      ⟨(some 4), .assign (.const (.slice none 0 0)), 25, none, []⟩,
      ⟨(some 5), .assign (.const (.int .i64 5)), 29, none, []⟩])
    (.ret))
   (.skip))))))
 (.seq (.reg [] [
   ⟨(some 22), .move (.tmp 1), 25, none, []⟩,
   ⟨(some 23), .call ⟨.value (.func 29), #[(.tmp 22)], #[25]⟩, 25, none, []⟩,
   ⟨(some 7), .assign (.tmp 23), 25, none, []⟩])
 (.seq (.seq (.reg [] [
   ⟨(some 24), .fieldAddr 24 (.tmp 2) 1, 0, none, []⟩,
   ⟨(some 25), .load 22 (.tmp 24), 22, none, []⟩,
   ⟨(some 26), .call ⟨.builtin .len, #[(.tmp 25)], #[22]⟩, 3, none, []⟩,
   ⟨(some 27), .move (.const (.int .i64 0)), 3, none, []⟩])
 (.block 1 (.loop (.seq (.reg [] [
     ⟨(some 28), .binOp .lss 3 (.tmp 27) (.tmp 26) 3, 0, none, []⟩])
   (.seq (.cond (.tmp 28) (.skip)
   (.exit 1))
   (.seq (.block 2 (.seq (.reg [] [
      ⟨(some 29), .indexAddr 22 (.tmp 25) (.tmp 27), 0, none, []⟩,
      ⟨(some 30), .load 55 (.tmp 29), 55, none, []⟩,
      ⟨(some 9), .alloc 55, 0, none, []⟩,
      ⟨none, .store 55 (.tmp 9) (.tmp 30), 0, none, []⟩])
    (.reg [0, 1, 2, 3, 4, 5, 6, 7, 8, 9, 10, 11, 12, 13, 14, 15, 16, 17, 18, 19, 20, 21, 22, 23, 24, 25, 26, 27, 28, 29, 30, 31] [
      ⟨(some 31), .move (.tmp 7), 25, none, []⟩,
      ⟨(some 32), .indexAddr 55 (.tmp 9) (.const (.int .i64 0)), 0, none, []⟩,
      ⟨(some 33), .load 3 (.tmp 32), 3, none, []⟩,
      ⟨(some 34), .move (.tmp 7), 25, none, []⟩,
      ⟨(some 35), .indexAddr 55 (.tmp 9) (.const (.int .i64 1)), 0, none, []⟩,
      ⟨(some 36), .load 3 (.tmp 35), 3, none, []⟩,
      ⟨(some 37), .move (.tmp 7), 25, none, []⟩,
      ⟨(some 38), .indexAddr 55 (.tmp 9) (.const (.int .i64 0)), 0, none, []⟩,
      ⟨(some 39), .load 3 (.tmp 38), 3, none, []⟩,
      ⟨(some 40), .indexAddr 25 (.tmp 37) (.tmp 39), 0, none, []⟩,
      ⟨(some 41), .load 3 (.tmp 40), 3, none, []⟩,
      ⟨(some 42), .move (.tmp 7), 25, none, []⟩,
      ⟨(some 43), .indexAddr 55 (.tmp 9) (.const (.int .i64 1)), 0, none, []⟩,
      ⟨(some 44), .load 3 (.tmp 43), 3, none, []⟩,
      ⟨(some 45), .indexAddr 25 (.tmp 42) (.tmp 44), 0, none, []⟩,
      ⟨(some 46), .load 3 (.tmp 45), 3, none, []⟩,
      ⟨(some 47), .call ⟨.builtin .min, #[(.tmp 41), (.tmp 46)], #[3, 3]⟩, 3, none, []⟩,
      ⟨(some 48), .move (.tmp 7), 25, none, []⟩,
      ⟨(some 49), .indexAddr 55 (.tmp 9) (.const (.int .i64 0)), 0, none, []⟩,
      ⟨(some 50), .load 3 (.tmp 49), 3, none, []⟩,
      ⟨(some 51), .indexAddr 25 (.tmp 48) (.tmp 50), 0, none, []⟩,
      ⟨(some 52), .load 3 (.tmp 51), 3, none, []⟩,
      ⟨(some 53), .move (.tmp 7), 25, none, []⟩,
      ⟨(some 54), .indexAddr 55 (.tmp 9) (.const (.int .i64 1)), 0, none, []⟩,
      ⟨(some 55), .load 3 (.tmp 54), 3, none, []⟩,
      ⟨(some 56), .indexAddr 25 (.tmp 53) (.tmp 55), 0, none, []⟩,
      ⟨(some 57), .load 3 (.tmp 56), 3, none, []⟩,
      ⟨(some 58), .call ⟨.builtin .max, #[(.tmp 52), (.tmp 57)], #[3, 3]⟩, 3, none, []⟩,
      ⟨(some 59), .indexAddr 25 (.tmp 31) (.tmp 33), 0, none, []⟩,
      ⟨none, .store 3 (.tmp 59) (.tmp 47), 0, none, [(.tmp 35)]⟩,
      ⟨(some 60), .indexAddr 25 (.tmp 34) (.tmp 36), 0, none, []⟩,
      ⟨none, .store 3 (.tmp 60) (.tmp 58), 0, none, []⟩])))
   (.reg [] [
     ⟨(some 61), .binOp .add 3 (.tmp 27) (.const (.int .i64 1)) 3, 3, none, []⟩,
     ⟨(some 27), .move (.tmp 61), 3, none, []⟩])))))))
 (.seq (.reg [] [
   ⟨(some 62), .move (.tmp 7), 25, none, []⟩,
   ⟨(some 4), .assign (.tmp 62), 25, none, []⟩,
   ⟨(some 5), .assign (.const (.int .i64 0)), 29, none, []⟩])
 (.ret))))))
/-- spadille/spadilleref07.Run -/
def c7 : RC :=
  .seq (.reg [] [
   ⟨(some 2), .box 28 (.tmp 0), 0, none, []⟩,
   ⟨(some 4), .assign (.const (.slice none 0 0)), 25, none, []⟩,
   ⟨(some 5), .assign (.const (.int .i64 0)), 29, none, []⟩])
 (.seq (.reg [] [
   ⟨(some 7), .load 28 (.tmp 2), 28, none, []⟩,
   ⟨(some 8), .call ⟨.value (.func 10), #[(.tmp 7)], #[28]⟩, 29, none, []⟩,
   ⟨(some 6), .assign (.tmp 8), 29, none, []⟩])
 (.seq (.seq (.reg [] [
   ⟨(some 9), .move (.tmp 6), 29, none, []⟩,
   ⟨(some 10), .binOp .eql 29 (.tmp 9) (.const (.int .i64 0)) 29, 4, none, []⟩,
   ⟨(some 11), .move (.tmp 10), 4, none, []⟩,
   ⟨(some 12), .move (.tmp 1), 25, (some ((some 11), true)), []⟩,
   ⟨(some 13), .call ⟨.builtin .len, #[(.tmp 12)], #[25]⟩, 3, (some ((some 11), true)), []⟩,
   ⟨(some 14), .fieldAddr 28 (.tmp 2) 0, 0, (some ((some 11), true)), []⟩,
   ⟨(some 15), .load 3 (.tmp 14), 3, (some ((some 11), true)), []⟩,
   ⟨(some 16), .binOp .neq 3 (.tmp 13) (.tmp 15) 3, 4, (some ((some 11), true)), []⟩,
   ⟨(some 17), .pick (.tmp 11) (.tmp 16) (.const (.bool false)), 4, none, []⟩])
 (.cond (.tmp 17) (.reg [] [
    ⟨(some 6), .assign (.const (.int .i64 5)), 29, none, []⟩])
 (.skip)))
 (.seq (.seq (.reg [] [
   ⟨(some 18), .move (.tmp 6), 29, none, []⟩,
   ⟨(some 19), .binOp .neq 29 (.tmp 18) (.const (.int .i64 0)) 29, 4, none, []⟩])
 (.cond (.tmp 19) (.seq (.reg [] [
    ⟨(some 20), .move (.tmp 6), 29, none, []⟩,
    ⟨(some 4), .assign (.const (.slice none 0 0)), 25, none, []⟩,
    ⟨(some 5), .assign (.tmp 20), 29, none, []⟩])
  (.ret))
 (.skip)))
 (.seq (.reg [] [
   ⟨(some 21), .load 28 (.tmp 2), 28, none, []⟩,
   ⟨(some 22), .move (.tmp 1), 25, none, []⟩,
   ⟨(some 23), .call ⟨.value (.func 30), #[(.tmp 21), (.tmp 22), (.const (.int .i64 (-1)))], #[28, 25, 3]⟩, 25, none, []⟩,
   ⟨(some 4), .assign (.tmp 23), 25, none, []⟩,
   ⟨(some 5), .assign (.const (.int .i64 0)), 29, none, []⟩])
 (.ret)))))
/-- spadille/spadillelaw07.same -/
def c8 : RC :=
  .seq (.reg [] [
   ⟨(some 4), .assign (.const (.bool false)), 4, none, []⟩])
 (.seq (.seq (.reg [] [
   ⟨(some 6), .move (.tmp 0), 25, none, []⟩,
   ⟨(some 7), .call ⟨.builtin .len, #[(.tmp 6)], #[25]⟩, 3, none, []⟩,
   ⟨(some 8), .move (.tmp 1), 25, none, []⟩,
   ⟨(some 9), .call ⟨.builtin .len, #[(.tmp 8)], #[25]⟩, 3, none, []⟩,
   ⟨(some 10), .binOp .neq 3 (.tmp 7) (.tmp 9) 3, 4, none, []⟩])
 (.cond (.tmp 10) (.seq (.reg [] [
    ⟨(some 4), .assign (.const (.bool false)), 4, none, []⟩])
  (.ret))
 (.skip)))
 (.seq (.seq (.reg [] [
   ⟨(some 5), .assign (.const (.int .i64 0)), 3, none, []⟩])
 (.block 0 (.loop (.seq (.seq (.reg [] [
     ⟨(some 11), .move (.tmp 5), 3, none, []⟩,
     ⟨(some 12), .move (.tmp 0), 25, none, []⟩,
     ⟨(some 13), .call ⟨.builtin .len, #[(.tmp 12)], #[25]⟩, 3, none, []⟩,
     ⟨(some 14), .binOp .lss 3 (.tmp 11) (.tmp 13) 3, 4, none, []⟩])
   (.cond (.tmp 14) (.skip)
   (.exit 0)))
   (.seq (.block 1 (.seq (.reg [0, 1, 2, 3, 4, 5, 6, 7, 8] [
      ⟨(some 17), .move (.tmp 0), 25, none, []⟩,
      ⟨(some 18), .move (.tmp 5), 3, none, []⟩,
      ⟨(some 19), .indexAddr 25 (.tmp 17) (.tmp 18), 0, none, []⟩,
      ⟨(some 20), .load 3 (.tmp 19), 3, none, []⟩,
      ⟨(some 21), .move (.tmp 1), 25, none, []⟩,
      ⟨(some 22), .move (.tmp 5), 3, none, []⟩,
      ⟨(some 23), .indexAddr 25 (.tmp 21) (.tmp 22), 0, none, []⟩,
      ⟨(some 24), .load 3 (.tmp 23), 3, none, []⟩,
      ⟨(some 25), .binOp .neq 3 (.tmp 20) (.tmp 24) 3, 4, none, []⟩])
    (.cond (.tmp 25) (.seq (.reg [] [
       ⟨(some 4), .assign (.const (.bool false)), 4, none, []⟩])
     (.ret))
    (.skip))))
   (.reg [] [
     ⟨(some 15), .move (.tmp 5), 3, none, []⟩,
     ⟨(some 16), .binOp .add 3 (.tmp 15) (.const (.int .i64 1)) 3, 3, none, []⟩,
     ⟨(some 5), .assign (.tmp 16), 3, none, []⟩]))))))
 (.seq (.reg [] [
   ⟨(some 4), .assign (.const (.bool true)), 4, none, []⟩])
 (.ret))))
/-- spadille/table.Check -/
def c9 : RC :=
  .seq (.reg [] [
   ⟨(some 1), .box 24 (.tmp 0), 0, none, []⟩,
   ⟨(some 2), .assign (.const (.int .i64 0)), 29, none, []⟩])
 (.seq (.block 0 (.seq (.reg [] [
    ⟨(some 6), .fieldAddr 24 (.tmp 1) 0, 0, none, []⟩,
    ⟨(some 7), .load 3 (.tmp 6), 3, none, []⟩,
    ⟨(some 8), .call ⟨.value (.func 31), #[(.const (.int .i64 1)), (.tmp 7), (.const (.int .i64 7))], #[3, 3, 3]⟩, 4, none, []⟩,
    ⟨(some 9), .unOp .not 4 (.tmp 8), 4, none, []⟩,
    ⟨(some 5), .assign (.tmp 9), 4, none, []⟩])
  (.cond (.tmp 5) (.seq (.reg [] [
     ⟨(some 2), .assign (.const (.int .i64 1)), 29, none, []⟩])
   (.ret))
  (.seq (.reg [] [
     ⟨(some 11), .fieldAddr 24 (.tmp 1) 1, 0, none, []⟩,
     ⟨(some 12), .load 22 (.tmp 11), 22, none, []⟩,
     ⟨(some 13), .call ⟨.builtin .len, #[(.tmp 12)], #[22]⟩, 3, none, []⟩,
     ⟨(some 14), .binOp .gtr 3 (.tmp 13) (.const (.int .i64 24)) 3, 4, none, []⟩,
     ⟨(some 10), .assign (.tmp 14), 4, none, []⟩])
   (.cond (.tmp 10) (.seq (.reg [] [
      ⟨(some 2), .assign (.const (.int .i64 3)), 29, none, []⟩])
    (.ret))
   (.skip))))))
 (.seq (.seq (.reg [] [
   ⟨(some 15), .fieldAddr 24 (.tmp 1) 1, 0, none, []⟩,
   ⟨(some 16), .load 22 (.tmp 15), 22, none, []⟩,
   ⟨(some 17), .call ⟨.builtin .len, #[(.tmp 16)], #[22]⟩, 3, none, []⟩,
   ⟨(some 18), .move (.const (.int .i64 0)), 3, none, []⟩])
 (.block 1 (.loop (.seq (.reg [] [
     ⟨(some 19), .binOp .lss 3 (.tmp 18) (.tmp 17) 3, 0, none, []⟩])
   (.seq (.cond (.tmp 19) (.skip)
   (.exit 1))
   (.seq (.block 2 (.seq (.reg [] [
      ⟨(some 20), .indexAddr 22 (.tmp 16) (.tmp 18), 0, none, []⟩,
      ⟨(some 21), .load 55 (.tmp 20), 55, none, []⟩,
      ⟨(some 4), .alloc 55, 0, none, []⟩,
      ⟨none, .store 55 (.tmp 4) (.tmp 21), 0, none, []⟩])
    (.block 3 (.seq (.reg [] [
       ⟨(some 23), .indexAddr 55 (.tmp 4) (.const (.int .i64 0)), 0, none, []⟩,
       ⟨(some 24), .load 3 (.tmp 23), 3, none, []⟩,
       ⟨(some 25), .indexAddr 55 (.tmp 4) (.const (.int .i64 1)), 0, none, []⟩,
       ⟨(some 26), .load 3 (.tmp 25), 3, none, []⟩,
       ⟨(some 27), .call ⟨.builtin .min, #[(.tmp 24), (.tmp 26)], #[3, 3]⟩, 3, none, []⟩,
       ⟨(some 28), .binOp .lss 3 (.tmp 27) (.const (.int .i64 0)) 3, 4, none, []⟩,
       ⟨(some 29), .move (.tmp 28), 4, none, []⟩,
       ⟨(some 30), .indexAddr 55 (.tmp 4) (.const (.int .i64 0)), 0, (some ((some 29), false)), []⟩,
       ⟨(some 31), .load 3 (.tmp 30), 3, (some ((some 29), false)), []⟩,
       ⟨(some 32), .indexAddr 55 (.tmp 4) (.const (.int .i64 1)), 0, (some ((some 29), false)), []⟩,
       ⟨(some 33), .load 3 (.tmp 32), 3, (some ((some 29), false)), []⟩,
       ⟨(some 34), .call ⟨.builtin .max, #[(.tmp 31), (.tmp 33)], #[3, 3]⟩, 3, (some ((some 29), false)), []⟩,
       ⟨(some 35), .fieldAddr 24 (.tmp 1) 0, 0, (some ((some 29), false)), []⟩,
       ⟨(some 36), .load 3 (.tmp 35), 3, (some ((some 29), false)), []⟩,
       ⟨(some 37), .binOp .geq 3 (.tmp 34) (.tmp 36) 3, 4, (some ((some 29), false)), []⟩,
       ⟨(some 38), .pick (.tmp 29) (.const (.bool true)) (.tmp 37), 4, none, []⟩,
       ⟨(some 22), .assign (.tmp 38), 4, none, []⟩])
     (.cond (.tmp 22) (.seq (.reg [] [
        ⟨(some 2), .assign (.const (.int .i64 2)), 29, none, []⟩])
      (.ret))
     (.seq (.reg [] [
        ⟨(some 40), .indexAddr 55 (.tmp 4) (.const (.int .i64 0)), 0, none, []⟩,
        ⟨(some 41), .load 3 (.tmp 40), 3, none, []⟩,
        ⟨(some 42), .indexAddr 55 (.tmp 4) (.const (.int .i64 1)), 0, none, []⟩,
        ⟨(some 43), .load 3 (.tmp 42), 3, none, []⟩,
        ⟨(some 44), .binOp .geq 3 (.tmp 41) (.tmp 43) 3, 4, none, []⟩,
        ⟨(some 39), .assign (.tmp 44), 4, none, []⟩])
      (.cond (.tmp 39) (.seq (.reg [] [
         ⟨(some 2), .assign (.const (.int .i64 7)), 29, none, []⟩])
       (.ret))
      (.skip))))))))
   (.reg [] [
     ⟨(some 45), .binOp .add 3 (.tmp 18) (.const (.int .i64 1)) 3, 3, none, []⟩,
     ⟨(some 18), .move (.tmp 45), 3, none, []⟩])))))))
 (.seq (.reg [] [
   ⟨(some 2), .assign (.const (.int .i64 0)), 29, none, []⟩])
 (.ret))))
/-- spadille/spadilleref07.Check -/
def c10 : RC :=
  .seq (.reg [] [
   ⟨(some 1), .box 28 (.tmp 0), 0, none, []⟩,
   ⟨(some 2), .assign (.const (.int .i64 0)), 29, none, []⟩])
 (.seq (.seq (.reg [] [
   ⟨(some 5), .fieldAddr 28 (.tmp 1) 0, 0, none, []⟩,
   ⟨(some 6), .load 3 (.tmp 5), 3, none, []⟩,
   ⟨(some 7), .call ⟨.value (.func 32), #[(.tmp 6), (.const (.int .i64 1)), (.const (.int .i64 7))], #[3, 3, 3]⟩, 4, none, []⟩,
   ⟨(some 8), .unOp .not 4 (.tmp 7), 4, none, []⟩])
 (.cond (.tmp 8) (.seq (.reg [] [
    ⟨(some 2), .assign (.const (.int .i64 1)), 29, none, []⟩])
  (.ret))
 (.skip)))
 (.seq (.seq (.reg [] [
   ⟨(some 9), .fieldAddr 28 (.tmp 1) 1, 0, none, []⟩,
   ⟨(some 10), .load 22 (.tmp 9), 22, none, []⟩,
   ⟨(some 11), .call ⟨.builtin .len, #[(.tmp 10)], #[22]⟩, 3, none, []⟩,
   ⟨(some 12), .binOp .gtr 3 (.tmp 11) (.const (.int .i64 24)) 3, 4, none, []⟩])
 (.cond (.tmp 12) (.seq (.reg [] [
    ⟨(some 2), .assign (.const (.int .i64 3)), 29, none, []⟩])
  (.ret))
 (.skip)))
 (.seq (.seq (.reg [] [
   ⟨(some 3), .assign (.const (.int .i64 0)), 3, none, []⟩])
 (.block 0 (.loop (.seq (.seq (.reg [] [
     ⟨(some 13), .move (.tmp 3), 3, none, []⟩,
     ⟨(some 14), .fieldAddr 28 (.tmp 1) 1, 0, none, []⟩,
     ⟨(some 15), .load 22 (.tmp 14), 22, none, []⟩,
     ⟨(some 16), .call ⟨.builtin .len, #[(.tmp 15)], #[22]⟩, 3, none, []⟩,
     ⟨(some 17), .binOp .lss 3 (.tmp 13) (.tmp 16) 3, 4, none, []⟩])
   (.cond (.tmp 17) (.skip)
   (.exit 0)))
   (.seq (.block 1 (.seq (.reg [] [
      ⟨(some 20), .fieldAddr 28 (.tmp 1) 1, 0, none, []⟩,
      ⟨(some 21), .load 22 (.tmp 20), 22, none, []⟩,
      ⟨(some 22), .move (.tmp 3), 3, none, []⟩,
      ⟨(some 23), .indexAddr 22 (.tmp 21) (.tmp 22), 0, none, []⟩,
      ⟨(some 24), .load 55 (.tmp 23), 55, none, []⟩,
      ⟨(some 4), .alloc 55, 0, none, []⟩,
      ⟨none, .store 55 (.tmp 4) (.tmp 24), 0, none, []⟩])
    (.seq (.seq (.reg [] [
      ⟨(some 25), .indexAddr 55 (.tmp 4) (.const (.int .i64 0)), 0, none, []⟩,
      ⟨(some 26), .load 3 (.tmp 25), 3, none, []⟩,
      ⟨(some 27), .fieldAddr 28 (.tmp 1) 0, 0, none, []⟩,
      ⟨(some 28), .load 3 (.tmp 27), 3, none, []⟩,
      ⟨(some 29), .binOp .sub 3 (.tmp 28) (.const (.int .i64 1)) 3, 3, none, []⟩,
      ⟨(some 30), .call ⟨.value (.func 32), #[(.tmp 26), (.const (.int .i64 0)), (.tmp 29)], #[3, 3, 3]⟩, 4, none, []⟩,
      ⟨(some 31), .unOp .not 4 (.tmp 30), 4, none, []⟩,
      ⟨(some 32), .move (.tmp 31), 4, none, []⟩,
      ⟨(some 33), .indexAddr 55 (.tmp 4) (.const (.int .i64 1)), 0, (some ((some 32), false)), []⟩,
      ⟨(some 34), .load 3 (.tmp 33), 3, (some ((some 32), false)), []⟩,
      ⟨(some 35), .fieldAddr 28 (.tmp 1) 0, 0, (some ((some 32), false)), []⟩,
      ⟨(some 36), .load 3 (.tmp 35), 3, (some ((some 32), false)), []⟩,
      ⟨(some 37), .binOp .sub 3 (.tmp 36) (.const (.int .i64 1)) 3, 3, (some ((some 32), false)), []⟩,
      ⟨(some 38), .call ⟨.value (.func 32), #[(.tmp 34), (.const (.int .i64 0)), (.tmp 37)], #[3, 3, 3]⟩, 4, (some ((some 32), false)), []⟩,
      ⟨(some 39), .unOp .not 4 (.tmp 38), 4, (some ((some 32), false)), []⟩,
      ⟨(some 40), .pick (.tmp 32) (.const (.bool true)) (.tmp 39), 4, none, []⟩])
    (.cond (.tmp 40) (.seq (.reg [] [
       ⟨(some 2), .assign (.const (.int .i64 2)), 29, none, []⟩])
     (.ret))
    (.skip)))
    (.seq (.reg [] [
      ⟨(some 41), .indexAddr 55 (.tmp 4) (.const (.int .i64 0)), 0, none, []⟩,
      ⟨(some 42), .load 3 (.tmp 41), 3, none, []⟩,
      ⟨(some 43), .indexAddr 55 (.tmp 4) (.const (.int .i64 1)), 0, none, []⟩,
      ⟨(some 44), .load 3 (.tmp 43), 3, none, []⟩,
      ⟨(some 45), .binOp .geq 3 (.tmp 42) (.tmp 44) 3, 4, none, []⟩])
    (.cond (.tmp 45) (.seq (.reg [] [
       ⟨(some 2), .assign (.const (.int .i64 7)), 29, none, []⟩])
     (.ret))
    (.skip))))))
   (.reg [] [
     ⟨(some 18), .move (.tmp 3), 3, none, []⟩,
     ⟨(some 19), .binOp .add 3 (.tmp 18) (.const (.int .i64 1)) 3, 3, none, []⟩,
     ⟨(some 3), .assign (.tmp 19), 3, none, []⟩]))))))
 (.seq (.reg [] [
   ⟨(some 2), .assign (.const (.int .i64 0)), 29, none, []⟩])
 (.ret)))))
/-- spadille/table.Fails -/
def c11 : RC :=
  .seq (.reg [] [
   ⟨(some 2), .box 24 (.tmp 0), 0, none, []⟩,
   ⟨(some 4), .assign (.const (.int .i64 0)), 29, none, []⟩])
 (.seq (.reg [] [
   ⟨(some 8), .load 24 (.tmp 2), 24, none, []⟩,
   ⟨(some 9), .move (.tmp 1), 25, none, []⟩,
   ⟨(some 10), .call ⟨.value (.func 6), #[(.tmp 8), (.tmp 9)], #[24, 25]⟩, 30, none, []⟩,
   ⟨(some 7), .move (.tmp 10), 30, none, []⟩,
   ⟨(some 11), .extract (.tmp 7) 0, 25, none, []⟩,
   ⟨(some 12), .extract (.tmp 7) 1, 29, none, []⟩,
   ⟨(some 5), .assign (.tmp 11), 25, none, []⟩,
   ⟨(some 6), .assign (.tmp 12), 29, none, []⟩])
 (.seq (.seq (.reg [] [
   ⟨(some 13), .move (.tmp 6), 29, none, []⟩,
   ⟨(some 14), .binOp .eql 29 (.tmp 13) (.const (.int .i64 0)) 29, 4, none, []⟩,
   ⟨(some 15), .move (.tmp 14), 4, none, []⟩,
   ⟨(some 16), .move (.tmp 5), 25, (some ((some 15), true)), []⟩,
   ⟨(some 17), .call ⟨.value (.func 33), #[(.tmp 16)], #[25]⟩, 4, (some ((some 15), true)), []⟩,
   ⟨(some 18), .pick (.tmp 15) (.tmp 17) (.const (.bool false)), 4, none, []⟩])
 (.cond (.tmp 18) (.seq (.reg [] [
    ⟨(some 4), .assign (.const (.int .i64 14)), 29, none, []⟩])
  (.ret))
 (.skip)))
 (.seq (.reg [] [
   ⟨(some 19), .move (.tmp 6), 29, none, []⟩,
   ⟨(some 4), .assign (.tmp 19), 29, none, []⟩])
 (.ret))))
/-- spadille/spadilleref07.Fails -/
def c12 : RC :=
  .seq (.reg [] [
   ⟨(some 2), .box 28 (.tmp 0), 0, none, []⟩,
   ⟨(some 4), .assign (.const (.int .i64 0)), 29, none, []⟩])
 (.seq (.reg [] [
   ⟨(some 8), .load 28 (.tmp 2), 28, none, []⟩,
   ⟨(some 9), .move (.tmp 1), 25, none, []⟩,
   ⟨(some 10), .call ⟨.value (.func 7), #[(.tmp 8), (.tmp 9)], #[28, 25]⟩, 30, none, []⟩,
   ⟨(some 7), .move (.tmp 10), 30, none, []⟩,
   ⟨(some 11), .extract (.tmp 7) 0, 25, none, []⟩,
   ⟨(some 12), .extract (.tmp 7) 1, 29, none, []⟩,
   ⟨(some 5), .assign (.tmp 11), 25, none, []⟩,
   ⟨(some 6), .assign (.tmp 12), 29, none, []⟩])
 (.seq (.seq (.reg [] [
   ⟨(some 13), .move (.tmp 6), 29, none, []⟩,
   ⟨(some 14), .binOp .eql 29 (.tmp 13) (.const (.int .i64 0)) 29, 4, none, []⟩,
   ⟨(some 15), .move (.tmp 14), 4, none, []⟩,
   ⟨(some 16), .move (.tmp 5), 25, (some ((some 15), true)), []⟩,
   ⟨(some 17), .call ⟨.value (.func 34), #[(.tmp 16)], #[25]⟩, 4, (some ((some 15), true)), []⟩,
   ⟨(some 18), .pick (.tmp 15) (.tmp 17) (.const (.bool false)), 4, none, []⟩])
 (.cond (.tmp 18) (.reg [] [
    ⟨(some 6), .assign (.const (.int .i64 14)), 29, none, []⟩])
 (.skip)))
 (.seq (.reg [] [
   ⟨(some 19), .move (.tmp 6), 29, none, []⟩,
   ⟨(some 4), .assign (.tmp 19), 29, none, []⟩])
 (.ret))))
/-- spadille/spadillelaw07.B -/
def c13 : RC :=
  .seq (.reg [] [
   ⟨(some 0), .alloc 24, 0, none, []⟩])
 (.seq (.reg [] [
   ⟨(some 1), .buildSlice 25 6 #[(0, (.const (.int .i64 0))), (1, (.const (.int .i64 1))), (2, (.const (.int .i64 1))), (3, (.const (.int .i64 2))), (4, (.const (.int .i64 0))), (5, (.const (.int .i64 1)))], 25, none, []⟩,
   ⟨(some 2), .call ⟨.value (.func 25), #[(.const (.int .i64 3)), (.tmp 1)], #[3, 25]⟩, 24, none, []⟩,
   ⟨none, .store 24 (.tmp 0) (.tmp 2), 0, none, []⟩])
 (.ret))
/-- spadille/spadillelaw07.list -/
def c14 : RC :=
  .seq (.reg [] [
   ⟨(some 2), .assign (.const (.slice none 0 0)), 25, none, []⟩])
 (.seq (.reg [] [
   ⟨(some 3), .move (.tmp 0), 25, none, []⟩,
   ⟨(some 2), .assign (.tmp 3), 25, none, []⟩])
 (.ret))
/-- spadille/table.Sorts -/
def c15 : RC :=
  .seq (.reg [] [
   ⟨(some 1), .box 24 (.tmp 0), 0, none, []⟩,
   ⟨(some 2), .assign (.const (.bool false)), 4, none, []⟩,
   ⟨(some 3), .assign (.const (.int .i64 0)), 29, none, []⟩])
 (.seq (.reg [] [
   ⟨(some 7), .load 24 (.tmp 1), 24, none, []⟩,
   ⟨(some 8), .call ⟨.value (.func 35), #[(.tmp 7)], #[24]⟩, 64, none, []⟩,
   ⟨(some 6), .move (.tmp 8), 64, none, []⟩,
   ⟨(some 9), .extract (.tmp 6) 0, 63, none, []⟩,
   ⟨(some 10), .extract (.tmp 6) 1, 29, none, []⟩,
   ⟨(some 4), .alloc 63, 0, none, []⟩,
   ⟨none, .store 63 (.tmp 4) (.tmp 9), 0, none, []⟩,
   ⟨(some 5), .assign (.tmp 10), 29, none, []⟩])
 (.seq (.seq (.reg [] [
   ⟨(some 11), .move (.tmp 5), 29, none, []⟩,
   ⟨(some 12), .binOp .neq 29 (.tmp 11) (.const (.int .i64 0)) 29, 4, none, []⟩])
 (.cond (.tmp 12) (.seq (.reg [] [
    ⟨(some 13), .move (.tmp 5), 29, none, []⟩,
    ⟨(some 2), .assign (.const (.bool false)), 4, none, []⟩,
    ⟨(some 3), .assign (.tmp 13), 29, none, []⟩])
  (.ret))
 (.skip)))
 (.seq (.reg [] [
   ⟨(some 14), .load 63 (.tmp 4), 63, none, []⟩,
   ⟨(some 15), .fieldAddr 24 (.tmp 1) 0, 0, none, []⟩,
   ⟨(some 16), .load 3 (.tmp 15), 3, none, []⟩,
   ⟨(some 17), .call ⟨.value (.func 36), #[(.tmp 14), (.tmp 16)], #[63, 3]⟩, 3, none, []⟩,
   ⟨(some 18), .binOp .lss 3 (.tmp 17) (.const (.int .i64 0)) 3, 4, none, []⟩,
   ⟨(some 2), .assign (.tmp 18), 4, none, []⟩,
   ⟨(some 3), .assign (.const (.int .i64 0)), 29, none, []⟩])
 (.ret))))
/-- spadille/spadillelaw07.C -/
def c16 : RC :=
  .seq (.reg [] [
   ⟨(some 0), .alloc 24, 0, none, []⟩])
 (.seq (.reg [] [
   ⟨(some 1), .buildSlice 25 8 #[(0, (.const (.int .i64 0))), (1, (.const (.int .i64 1))), (2, (.const (.int .i64 2))), (3, (.const (.int .i64 3))), (4, (.const (.int .i64 0))), (5, (.const (.int .i64 2))), (6, (.const (.int .i64 1))), (7, (.const (.int .i64 3)))], 25, none, []⟩,
   ⟨(some 2), .call ⟨.value (.func 25), #[(.const (.int .i64 4)), (.tmp 1)], #[3, 25]⟩, 24, none, []⟩,
   ⟨none, .store 24 (.tmp 0) (.tmp 2), 0, none, []⟩])
 (.ret))
/-- spadille/table.Unsorted -/
def c17 : RC :=
  .seq (.reg [] [
   ⟨(some 1), .box 24 (.tmp 0), 0, none, []⟩,
   ⟨(some 2), .assign (.const (.slice none 0 0)), 25, none, []⟩,
   ⟨(some 3), .assign (.const (.int .i64 0)), 29, none, []⟩])
 (.seq (.reg [] [
   ⟨(some 8), .load 24 (.tmp 1), 24, none, []⟩,
   ⟨(some 9), .call ⟨.value (.func 35), #[(.tmp 8)], #[24]⟩, 64, none, []⟩,
   ⟨(some 7), .move (.tmp 9), 64, none, []⟩,
   ⟨(some 10), .extract (.tmp 7) 0, 63, none, []⟩,
   ⟨(some 11), .extract (.tmp 7) 1, 29, none, []⟩,
   ⟨(some 4), .alloc 63, 0, none, []⟩,
   ⟨none, .store 63 (.tmp 4) (.tmp 10), 0, none, []⟩,
   ⟨(some 5), .assign (.tmp 11), 29, none, []⟩])
 (.seq (.seq (.reg [] [
   ⟨(some 12), .move (.tmp 5), 29, none, []⟩,
   ⟨(some 13), .binOp .neq 29 (.tmp 12) (.const (.int .i64 0)) 29, 4, none, []⟩])
 (.cond (.tmp 13) (.seq (.reg [] [
    ⟨(some 14), .move (.tmp 5), 29, none, []⟩,
    ⟨(some 2), .assign (.const (.slice none 0 0)), 25, none, []⟩,
    ⟨(some 3), .assign (.tmp 14), 29, none, []⟩])
  (.ret))
 (.skip)))
 (.seq (.reg [] [
   ⟨(some 15), .load 63 (.tmp 4), 63, none, []⟩,
   ⟨(some 16), .fieldAddr 24 (.tmp 1) 0, 0, none, []⟩,
   ⟨(some 17), .load 3 (.tmp 16), 3, none, []⟩,
   ⟨(some 18), .call ⟨.value (.func 36), #[(.tmp 15), (.tmp 17)], #[63, 3]⟩, 3, none, []⟩,
   ⟨(some 6), .assign (.tmp 18), 3, none, []⟩])
 (.seq (.seq (.reg [] [
   ⟨(some 19), .move (.tmp 6), 3, none, []⟩,
   ⟨(some 20), .binOp .lss 3 (.tmp 19) (.const (.int .i64 0)) 3, 4, none, []⟩])
 (.cond (.tmp 20) (.seq (.reg [] [
    ⟨(some 2), .assign (.const (.slice none 0 0)), 25, none, []⟩,
    ⟨(some 3), .assign (.const (.int .i64 13)), 29, none, []⟩])
  (.ret))
 (.skip)))
 (.seq (.reg [] [
   ⟨(some 21), .fieldAddr 24 (.tmp 1) 0, 0, none, []⟩,
   ⟨(some 22), .load 3 (.tmp 21), 3, none, []⟩,
   ⟨(some 23), .move (.tmp 6), 3, none, []⟩,
   ⟨(some 24), .call ⟨.value (.func 37), #[(.tmp 22), (.tmp 23)], #[3, 3]⟩, 25, none, []⟩,
   ⟨(some 2), .assign (.tmp 24), 25, none, []⟩,
   ⟨(some 3), .assign (.const (.int .i64 0)), 29, none, []⟩])
 (.ret))))))
/-- spadille/table.Outcomes -/
def c18 : RC :=
  .seq (.reg [] [
   ⟨(some 1), .box 24 (.tmp 0), 0, none, []⟩,
   ⟨(some 2), .assign (.const (.slice none 0 0)), 43, none, []⟩,
   ⟨(some 3), .assign (.const (.int .i64 0)), 29, none, []⟩])
 (.seq (.reg [] [
   ⟨(some 11), .load 24 (.tmp 1), 24, none, []⟩,
   ⟨(some 12), .call ⟨.value (.func 35), #[(.tmp 11)], #[24]⟩, 64, none, []⟩,
   ⟨(some 10), .move (.tmp 12), 64, none, []⟩,
   ⟨(some 13), .extract (.tmp 10) 0, 63, none, []⟩,
   ⟨(some 14), .extract (.tmp 10) 1, 29, none, []⟩,
   ⟨(some 4), .alloc 63, 0, none, []⟩,
   ⟨none, .store 63 (.tmp 4) (.tmp 13), 0, none, []⟩,
   ⟨(some 5), .assign (.tmp 14), 29, none, []⟩])
 (.seq (.seq (.reg [] [
   ⟨(some 15), .move (.tmp 5), 29, none, []⟩,
   ⟨(some 16), .binOp .neq 29 (.tmp 15) (.const (.int .i64 0)) 29, 4, none, []⟩])
 (.cond (.tmp 16) (.seq (.reg [] [
    ⟨(some 17), .move (.tmp 5), 29, none, []⟩,
    ⟨(some 2), .assign (.const (.slice none 0 0)), 43, none, []⟩,
    ⟨(some 3), .assign (.tmp 17), 29, none, []⟩])
  (.ret))
 (.skip)))
 (.seq (.reg [] [
   ⟨(some 18), .load 63 (.tmp 4), 63, none, []⟩,
   ⟨(some 19), .fieldAddr 24 (.tmp 1) 0, 0, none, []⟩,
   ⟨(some 20), .load 3 (.tmp 19), 3, none, []⟩,
   ⟨(some 21), .call ⟨.value (.func 38), #[(.tmp 18), (.tmp 20)], #[63, 3]⟩, 25, none, []⟩,
   ⟨(some 6), .assign (.tmp 21), 25, none, []⟩])
 (.seq (.reg [] [
   ⟨(some 22), .move (.tmp 6), 25, none, []⟩,
   ⟨(some 23), .call ⟨.value (.func 39), #[(.tmp 22)], #[25]⟩, 0, none, []⟩])
 (.seq (.reg [] [
   ⟨(some 7), .assign (.const (.slice none 0 0)), 43, none, []⟩])
 (.seq (.seq (.reg [] [
   ⟨(some 24), .move (.tmp 6), 25, none, []⟩,
   ⟨(some 25), .call ⟨.value (.func 40), #[(.tmp 24)], #[25]⟩, 25, none, []⟩,
   ⟨(some 26), .call ⟨.builtin .len, #[(.tmp 25)], #[25]⟩, 3, none, []⟩,
   ⟨(some 27), .move (.const (.int .i64 0)), 3, none, []⟩])
 (.block 0 (.loop (.seq (.reg [] [
     ⟨(some 28), .binOp .lss 3 (.tmp 27) (.tmp 26) 3, 0, none, []⟩])
   (.seq (.cond (.tmp 28) (.skip)
   (.exit 0))
   (.seq (.block 1 (.seq (.reg [] [
      ⟨(some 29), .indexAddr 25 (.tmp 25) (.tmp 27), 0, none, []⟩,
      ⟨(some 30), .load 3 (.tmp 29), 3, none, []⟩,
      ⟨(some 9), .assign (.tmp 30), 3, none, []⟩])
    (.reg [] [
      ⟨(some 31), .move (.tmp 7), 43, none, []⟩,
      ⟨(some 32), .fieldAddr 24 (.tmp 1) 0, 0, none, []⟩,
      ⟨(some 33), .load 3 (.tmp 32), 3, none, []⟩,
      ⟨(some 34), .move (.tmp 9), 3, none, []⟩,
      ⟨(some 35), .call ⟨.value (.func 37), #[(.tmp 33), (.tmp 34)], #[3, 3]⟩, 25, none, []⟩,
      ⟨(some 36), .buildSlice 43 1 #[(0, (.tmp 35))], 43, none, []⟩,
      ⟨(some 37), .call ⟨.builtin .append, #[(.tmp 31), (.tmp 36)], #[43, 43]⟩, 43, none, []⟩,
      ⟨(some 7), .assign (.tmp 37), 43, none, []⟩])))
   (.reg [] [
     ⟨(some 38), .binOp .add 3 (.tmp 27) (.const (.int .i64 1)) 3, 3, none, []⟩,
     ⟨(some 27), .move (.tmp 38), 3, none, []⟩])))))))
 (.seq (.reg [] [
   ⟨(some 39), .move (.tmp 7), 43, none, []⟩,
   ⟨(some 2), .assign (.tmp 39), 43, none, []⟩,
   ⟨(some 3), .assign (.const (.int .i64 0)), 29, none, []⟩])
 (.ret))))))))
/-- spadille/table.Idle -/
def c19 : RC :=
  .seq (.reg [] [
   ⟨(some 1), .box 24 (.tmp 0), 0, none, []⟩,
   ⟨(some 2), .assign (.const (.slice none 0 0)), 25, none, []⟩,
   ⟨(some 3), .assign (.const (.int .i64 0)), 29, none, []⟩])
 (.seq (.seq (.reg [] [
   ⟨(some 10), .load 24 (.tmp 1), 24, none, []⟩,
   ⟨(some 11), .call ⟨.value (.func 9), #[(.tmp 10)], #[24]⟩, 29, none, []⟩,
   ⟨(some 4), .assign (.tmp 11), 29, none, []⟩])
 (.seq (.reg [] [
   ⟨(some 12), .move (.tmp 4), 29, none, []⟩,
   ⟨(some 13), .binOp .neq 29 (.tmp 12) (.const (.int .i64 0)) 29, 4, none, []⟩])
 (.cond (.tmp 13) (.seq (.reg [] [
    ⟨(some 14), .move (.tmp 4), 29, none, []⟩,
    ⟨(some 2), .assign (.const (.slice none 0 0)), 25, none, []⟩,
    ⟨(some 3), .assign (.tmp 14), 29, none, []⟩])
  (.ret))
 (.skip))))
 (.seq (.reg [] [
   ⟨(some 5), .assign (.const (.slice none 0 0)), 25, none, []⟩])
 (.seq (.reg [] [
   ⟨(some 15), .fieldAddr 24 (.tmp 1) 0, 0, none, []⟩,
   ⟨(some 16), .load 3 (.tmp 15), 3, none, []⟩,
   ⟨(some 17), .call ⟨.value (.func 41), #[(.tmp 16)], #[3]⟩, 63, none, []⟩,
   ⟨(some 6), .alloc 63, 0, none, []⟩,
   ⟨none, .store 63 (.tmp 6) (.tmp 17), 0, none, []⟩])
 (.seq (.seq (.reg [] [
   ⟨(some 18), .fieldAddr 24 (.tmp 1) 1, 0, none, []⟩,
   ⟨(some 19), .load 22 (.tmp 18), 22, none, []⟩,
   ⟨(some 20), .call ⟨.builtin .len, #[(.tmp 19)], #[22]⟩, 3, none, []⟩,
   ⟨(some 21), .move (.const (.int .i64 0)), 3, none, []⟩])
 (.block 0 (.loop (.seq (.reg [] [
     ⟨(some 22), .binOp .lss 3 (.tmp 21) (.tmp 20) 3, 0, none, []⟩])
   (.seq (.cond (.tmp 22) (.skip)
   (.exit 0))
   (.seq (.block 1 (.seq (.reg [] [
      ⟨(some 23), .move (.tmp 21), 3, none, []⟩,
      ⟨(some 24), .indexAddr 22 (.tmp 19) (.tmp 21), 0, none, []⟩,
      ⟨(some 25), .load 55 (.tmp 24), 55, none, []⟩,
      ⟨(some 8), .alloc 55, 0, none, []⟩,
      ⟨(some 7), .assign (.tmp 23), 3, none, []⟩,
      ⟨none, .store 55 (.tmp 8) (.tmp 25), 0, none, []⟩])
    (.seq (.reg [] [
      ⟨(some 26), .load 63 (.tmp 6), 63, none, []⟩,
      ⟨(some 27), .load 55 (.tmp 8), 55, none, []⟩,
      ⟨(some 28), .call ⟨.value (.func 42), #[(.tmp 26), (.tmp 27)], #[63, 55]⟩, 63, none, []⟩,
      ⟨(some 9), .alloc 63, 0, none, []⟩,
      ⟨none, .store 63 (.tmp 9) (.tmp 28), 0, none, []⟩])
    (.seq (.seq (.reg [] [
      ⟨(some 29), .load 63 (.tmp 9), 63, none, []⟩,
      ⟨(some 30), .load 63 (.tmp 6), 63, none, []⟩,
      ⟨(some 31), .binOp .eql 63 (.tmp 29) (.tmp 30) 63, 4, none, []⟩])
    (.cond (.tmp 31) (.reg [] [
       ⟨(some 32), .move (.tmp 5), 25, none, []⟩,
       ⟨(some 33), .move (.tmp 7), 3, none, []⟩,
       ⟨(some 34), .buildSlice 25 1 #[(0, (.tmp 33))], 25, none, []⟩,
       ⟨(some 35), .call ⟨.builtin .append, #[(.tmp 32), (.tmp 34)], #[25, 25]⟩, 25, none, []⟩,
       ⟨(some 5), .assign (.tmp 35), 25, none, []⟩])
    (.skip)))
    (.reg [] [
      ⟨(some 36), .load 63 (.tmp 9), 63, none, []⟩,
      ⟨none, .store 63 (.tmp 6) (.tmp 36), 0, none, []⟩])))))
   (.reg [] [
     ⟨(some 37), .binOp .add 3 (.tmp 21) (.const (.int .i64 1)) 3, 3, none, []⟩,
     ⟨(some 21), .move (.tmp 37), 3, none, []⟩])))))))
 (.seq (.reg [] [
   ⟨(some 38), .move (.tmp 5), 25, none, []⟩,
   ⟨(some 2), .assign (.tmp 38), 25, none, []⟩,
   ⟨(some 3), .assign (.const (.int .i64 0)), 29, none, []⟩])
 (.ret))))))
/-- spadille/table.Needed -/
def c20 : RC :=
  .seq (.reg [] [
   ⟨(some 1), .box 24 (.tmp 0), 0, none, []⟩,
   ⟨(some 2), .assign (.const (.slice none 0 0)), 25, none, []⟩,
   ⟨(some 3), .assign (.const (.int .i64 0)), 29, none, []⟩])
 (.seq (.reg [] [
   ⟨(some 11), .load 24 (.tmp 1), 24, none, []⟩,
   ⟨(some 12), .call ⟨.value (.func 15), #[(.tmp 11)], #[24]⟩, 40, none, []⟩,
   ⟨(some 10), .move (.tmp 12), 40, none, []⟩,
   ⟨(some 13), .extract (.tmp 10) 0, 4, none, []⟩,
   ⟨(some 14), .extract (.tmp 10) 1, 29, none, []⟩,
   ⟨(some 4), .assign (.tmp 13), 4, none, []⟩,
   ⟨(some 5), .assign (.tmp 14), 29, none, []⟩])
 (.seq (.block 0 (.seq (.reg [] [
    ⟨(some 16), .move (.tmp 5), 29, none, []⟩,
    ⟨(some 17), .binOp .neq 29 (.tmp 16) (.const (.int .i64 0)) 29, 4, none, []⟩,
    ⟨(some 15), .assign (.tmp 17), 4, none, []⟩])
  (.cond (.tmp 15) (.seq (.reg [] [
     ⟨(some 18), .move (.tmp 5), 29, none, []⟩,
     ⟨(some 2), .assign (.const (.slice none 0 0)), 25, none, []⟩,
     ⟨(some 3), .assign (.tmp 18), 29, none, []⟩])
   (.ret))
  (.seq (.reg [] [
     ⟨(some 20), .move (.tmp 4), 4, none, []⟩,
     ⟨(some 21), .unOp .not 4 (.tmp 20), 4, none, []⟩,
     ⟨(some 19), .assign (.tmp 21), 4, none, []⟩])
   (.cond (.tmp 19) (.seq (.reg [] [
      ⟨(some 2), .assign (.const (.slice none 0 0)), 25, none, []⟩,
      ⟨(some 3), .assign (.const (.int .i64 12)), 29, none, []⟩])
    (.ret))
   (.skip))))))
 (.seq (.reg [] [
   ⟨(some 6), .assign (.const (.slice none 0 0)), 25, none, []⟩])
 (.seq (.reg [] [
   ⟨(some 22), .fieldAddr 24 (.tmp 1) 0, 0, none, []⟩,
   ⟨(some 23), .load 3 (.tmp 22), 3, none, []⟩,
   ⟨(some 24), .call ⟨.value (.func 41), #[(.tmp 23)], #[3]⟩, 63, none, []⟩,
   ⟨(some 7), .alloc 63, 0, none, []⟩,
   ⟨none, .store 63 (.tmp 7) (.tmp 24), 0, none, []⟩])
 (.seq (.seq (.reg [] [
   ⟨(some 25), .fieldAddr 24 (.tmp 1) 1, 0, none, []⟩,
   ⟨(some 26), .load 22 (.tmp 25), 22, none, []⟩,
   ⟨(some 27), .call ⟨.builtin .len, #[(.tmp 26)], #[22]⟩, 3, none, []⟩,
   ⟨(some 28), .move (.const (.int .i64 0)), 3, none, []⟩])
 (.block 1 (.loop (.seq (.reg [] [
     ⟨(some 29), .binOp .lss 3 (.tmp 28) (.tmp 27) 3, 0, none, []⟩])
   (.seq (.cond (.tmp 29) (.skip)
   (.exit 1))
   (.seq (.block 2 (.seq (.reg [] [
      ⟨(some 30), .move (.tmp 28), 3, none, []⟩,
      ⟨(some 31), .indexAddr 22 (.tmp 26) (.tmp 28), 0, none, []⟩,
      ⟨(some 32), .load 55 (.tmp 31), 55, none, []⟩,
      ⟨(some 9), .alloc 55, 0, none, []⟩,
      ⟨(some 8), .assign (.tmp 30), 3, none, []⟩,
      ⟨none, .store 55 (.tmp 9) (.tmp 32), 0, none, []⟩])
    (.seq (.seq (.reg [0, 1, 2, 3, 4, 5, 7, 8, 6, 9, 10] [
      ⟨(some 33), .load 63 (.tmp 7), 63, none, []⟩,
      ⟨(some 34), .fieldAddr 24 (.tmp 1) 1, 0, none, []⟩,
      ⟨(some 35), .load 22 (.tmp 34), 22, none, []⟩,
      ⟨(some 36), .move (.tmp 8), 3, none, []⟩,
      ⟨(some 37), .binOp .add 3 (.tmp 36) (.const (.int .i64 1)) 3, 3, none, []⟩,
      ⟨(some 38), .slice 22 (.tmp 35) (some (.tmp 37)) none none, 22, none, []⟩,
      ⟨(some 40), .fieldAddr 24 (.tmp 1) 0, 0, none, []⟩,
      ⟨(some 41), .load 3 (.tmp 40), 3, none, []⟩,
      ⟨(some 39), .call ⟨.value (.func 43), #[(.tmp 33), (.tmp 38)], #[63, 22]⟩, 63, none, [(.tmp 40)]⟩,
      ⟨(some 42), .call ⟨.value (.func 36), #[(.tmp 39), (.tmp 41)], #[63, 3]⟩, 3, none, []⟩,
      ⟨(some 43), .binOp .geq 3 (.tmp 42) (.const (.int .i64 0)) 3, 4, none, []⟩])
    (.cond (.tmp 43) (.reg [] [
       ⟨(some 44), .move (.tmp 6), 25, none, []⟩,
       ⟨(some 45), .move (.tmp 8), 3, none, []⟩,
       ⟨(some 46), .buildSlice 25 1 #[(0, (.tmp 45))], 25, none, []⟩,
       ⟨(some 47), .call ⟨.builtin .append, #[(.tmp 44), (.tmp 46)], #[25, 25]⟩, 25, none, []⟩,
       ⟨(some 6), .assign (.tmp 47), 25, none, []⟩])
    (.skip)))
    (.reg [] [
      ⟨(some 48), .load 63 (.tmp 7), 63, none, []⟩,
      ⟨(some 49), .load 55 (.tmp 9), 55, none, []⟩,
      ⟨(some 50), .call ⟨.value (.func 42), #[(.tmp 48), (.tmp 49)], #[63, 55]⟩, 63, none, []⟩,
      ⟨none, .store 63 (.tmp 7) (.tmp 50), 0, none, []⟩]))))
   (.reg [] [
     ⟨(some 51), .binOp .add 3 (.tmp 28) (.const (.int .i64 1)) 3, 3, none, []⟩,
     ⟨(some 28), .move (.tmp 51), 3, none, []⟩])))))))
 (.seq (.reg [] [
   ⟨(some 52), .move (.tmp 6), 25, none, []⟩,
   ⟨(some 2), .assign (.tmp 52), 25, none, []⟩,
   ⟨(some 3), .assign (.const (.int .i64 0)), 29, none, []⟩])
 (.ret)))))))
/-- spadille/table.Layers -/
def c21 : RC :=
  .seq (.reg [] [
   ⟨(some 1), .box 24 (.tmp 0), 0, none, []⟩,
   ⟨(some 2), .assign (.const (.slice none 0 0)), 43, none, []⟩,
   ⟨(some 3), .assign (.const (.int .i64 0)), 29, none, []⟩])
 (.seq (.seq (.reg [] [
   ⟨(some 10), .load 24 (.tmp 1), 24, none, []⟩,
   ⟨(some 11), .call ⟨.value (.func 9), #[(.tmp 10)], #[24]⟩, 29, none, []⟩,
   ⟨(some 4), .assign (.tmp 11), 29, none, []⟩])
 (.seq (.reg [] [
   ⟨(some 12), .move (.tmp 4), 29, none, []⟩,
   ⟨(some 13), .binOp .neq 29 (.tmp 12) (.const (.int .i64 0)) 29, 4, none, []⟩])
 (.cond (.tmp 13) (.seq (.reg [] [
    ⟨(some 14), .move (.tmp 4), 29, none, []⟩,
    ⟨(some 2), .assign (.const (.slice none 0 0)), 43, none, []⟩,
    ⟨(some 3), .assign (.tmp 14), 29, none, []⟩])
  (.ret))
 (.skip))))
 (.seq (.reg [] [
   ⟨(some 5), .assign (.const (.slice none 0 0)), 43, none, []⟩])
 (.seq (.reg [] [
   ⟨(some 6), .alloc 73, 0, none, []⟩])
 (.seq (.seq (.reg [] [
   ⟨(some 15), .fieldAddr 24 (.tmp 1) 1, 0, none, []⟩,
   ⟨(some 16), .load 22 (.tmp 15), 22, none, []⟩,
   ⟨(some 17), .call ⟨.builtin .len, #[(.tmp 16)], #[22]⟩, 3, none, []⟩,
   ⟨(some 18), .move (.const (.int .i64 0)), 3, none, []⟩])
 (.block 0 (.loop (.seq (.reg [] [
     ⟨(some 19), .binOp .lss 3 (.tmp 18) (.tmp 17) 3, 0, none, []⟩])
   (.seq (.cond (.tmp 19) (.skip)
   (.exit 0))
   (.seq (.block 1 (.seq (.reg [] [
      ⟨(some 20), .move (.tmp 18), 3, none, []⟩,
      ⟨(some 21), .indexAddr 22 (.tmp 16) (.tmp 18), 0, none, []⟩,
      ⟨(some 22), .load 55 (.tmp 21), 55, none, []⟩,
      ⟨(some 8), .alloc 55, 0, none, []⟩,
      ⟨(some 7), .assign (.tmp 20), 3, none, []⟩,
      ⟨none, .store 55 (.tmp 8) (.tmp 22), 0, none, []⟩])
    (.seq (.reg [0, 1, 2, 3, 4, 5, 6, 7, 8, 9] [
      ⟨(some 23), .indexAddr 55 (.tmp 8) (.const (.int .i64 0)), 0, none, []⟩,
      ⟨(some 24), .load 3 (.tmp 23), 3, none, []⟩,
      ⟨(some 25), .indexAddr 73 (.tmp 6) (.tmp 24), 0, none, []⟩,
      ⟨(some 26), .load 3 (.tmp 25), 3, none, []⟩,
      ⟨(some 27), .indexAddr 55 (.tmp 8) (.const (.int .i64 1)), 0, none, []⟩,
      ⟨(some 28), .load 3 (.tmp 27), 3, none, []⟩,
      ⟨(some 29), .indexAddr 73 (.tmp 6) (.tmp 28), 0, none, []⟩,
      ⟨(some 30), .load 3 (.tmp 29), 3, none, []⟩,
      ⟨(some 31), .call ⟨.builtin .max, #[(.tmp 26), (.tmp 30)], #[3, 3]⟩, 3, none, []⟩,
      ⟨(some 9), .assign (.tmp 31), 3, none, []⟩])
    (.seq (.seq (.reg [] [
      ⟨(some 32), .move (.tmp 9), 3, none, []⟩,
      ⟨(some 33), .move (.tmp 5), 43, none, []⟩,
      ⟨(some 34), .call ⟨.builtin .len, #[(.tmp 33)], #[43]⟩, 3, none, []⟩,
      ⟨(some 35), .binOp .eql 3 (.tmp 32) (.tmp 34) 3, 4, none, []⟩])
    (.cond (.tmp 35) (.reg [] [
       ⟨(some 36), .move (.tmp 5), 43, none, []⟩,
       ⟨(some 37), .buildSlice 43 1 #[(0, (.const (.slice none 0 0)))], 43, none, []⟩,
       ⟨(some 38), .call ⟨.builtin .append, #[(.tmp 36), (.tmp 37)], #[43, 43]⟩, 43, none, []⟩,
       ⟨(some 5), .assign (.tmp 38), 43, none, []⟩])
    (.skip)))
    (.seq (.reg [] [
      ⟨(some 39), .move (.tmp 5), 43, none, []⟩,
      ⟨(some 40), .move (.tmp 9), 3, none, []⟩,
      ⟨(some 41), .move (.tmp 5), 43, none, []⟩,
      ⟨(some 42), .move (.tmp 9), 3, none, []⟩,
      ⟨(some 43), .indexAddr 43 (.tmp 41) (.tmp 42), 0, none, []⟩,
      ⟨(some 44), .load 25 (.tmp 43), 25, none, []⟩,
      ⟨(some 45), .move (.tmp 7), 3, none, []⟩,
      ⟨(some 46), .buildSlice 25 1 #[(0, (.tmp 45))], 25, none, []⟩,
      ⟨(some 47), .call ⟨.builtin .append, #[(.tmp 44), (.tmp 46)], #[25, 25]⟩, 25, none, []⟩,
      ⟨(some 48), .indexAddr 43 (.tmp 39) (.tmp 40), 0, none, []⟩,
      ⟨none, .store 25 (.tmp 48) (.tmp 47), 0, none, []⟩])
    (.reg [0, 1, 2, 3, 4, 5, 6, 7, 8, 9, 10, 11] [
      ⟨(some 49), .indexAddr 55 (.tmp 8) (.const (.int .i64 0)), 0, none, []⟩,
      ⟨(some 50), .load 3 (.tmp 49), 3, none, []⟩,
      ⟨(some 51), .indexAddr 55 (.tmp 8) (.const (.int .i64 1)), 0, none, []⟩,
      ⟨(some 52), .load 3 (.tmp 51), 3, none, []⟩,
      ⟨(some 53), .move (.tmp 9), 3, none, []⟩,
      ⟨(some 54), .binOp .add 3 (.tmp 53) (.const (.int .i64 1)) 3, 3, none, []⟩,
      ⟨(some 55), .move (.tmp 9), 3, none, []⟩,
      ⟨(some 56), .binOp .add 3 (.tmp 55) (.const (.int .i64 1)) 3, 3, none, []⟩,
      ⟨(some 57), .indexAddr 73 (.tmp 6) (.tmp 50), 0, none, []⟩,
      ⟨none, .store 3 (.tmp 57) (.tmp 54), 0, none, [(.tmp 51)]⟩,
      ⟨(some 58), .indexAddr 73 (.tmp 6) (.tmp 52), 0, none, []⟩,
      ⟨none, .store 3 (.tmp 58) (.tmp 56), 0, none, []⟩]))))))
   (.reg [] [
     ⟨(some 59), .binOp .add 3 (.tmp 18) (.const (.int .i64 1)) 3, 3, none, []⟩,
     ⟨(some 18), .move (.tmp 59), 3, none, []⟩])))))))
 (.seq (.reg [] [
   ⟨(some 60), .move (.tmp 5), 43, none, []⟩,
   ⟨(some 2), .assign (.tmp 60), 43, none, []⟩,
   ⟨(some 3), .assign (.const (.int .i64 0)), 29, none, []⟩])
 (.ret))))))
/-- spadille/table.Place -/
def c22 : RC :=
  .seq (.reg [] [
   ⟨(some 2), .box 24 (.tmp 0), 0, none, []⟩,
   ⟨(some 4), .assign (.const (.int .i64 0)), 3, none, []⟩,
   ⟨(some 5), .assign (.const (.int .i64 0)), 3, none, []⟩,
   ⟨(some 6), .assign (.const (.int .i64 0)), 29, none, []⟩])
 (.seq (.reg [] [
   ⟨(some 11), .load 24 (.tmp 2), 24, none, []⟩,
   ⟨(some 12), .call ⟨.value (.func 35), #[(.tmp 11)], #[24]⟩, 64, none, []⟩,
   ⟨(some 10), .move (.tmp 12), 64, none, []⟩,
   ⟨(some 13), .extract (.tmp 10) 0, 63, none, []⟩,
   ⟨(some 14), .extract (.tmp 10) 1, 29, none, []⟩,
   ⟨(some 7), .alloc 63, 0, none, []⟩,
   ⟨none, .store 63 (.tmp 7) (.tmp 13), 0, none, []⟩,
   ⟨(some 6), .assign (.tmp 14), 29, none, []⟩])
 (.seq (.block 0 (.seq (.reg [] [
    ⟨(some 16), .move (.tmp 6), 29, none, []⟩,
    ⟨(some 17), .binOp .neq 29 (.tmp 16) (.const (.int .i64 0)) 29, 4, none, []⟩,
    ⟨(some 15), .assign (.tmp 17), 4, none, []⟩])
  (.cond (.tmp 15) (.seq (.reg [] [
     ⟨(some 18), .move (.tmp 6), 29, none, []⟩,
     ⟨(some 4), .assign (.const (.int .i64 0)), 3, none, []⟩,
     ⟨(some 5), .assign (.const (.int .i64 0)), 3, none, []⟩,
     ⟨(some 6), .assign (.tmp 18), 29, none, []⟩])
   (.ret))
  (.seq (.reg [] [
     ⟨(some 20), .move (.tmp 1), 3, none, []⟩,
     ⟨(some 21), .fieldAddr 24 (.tmp 2) 0, 0, none, []⟩,
     ⟨(some 22), .load 3 (.tmp 21), 3, none, []⟩,
     ⟨(some 23), .binOp .sub 3 (.tmp 22) (.const (.int .i64 1)) 3, 3, none, []⟩,
     ⟨(some 24), .call ⟨.value (.func 31), #[(.const (.int .i64 0)), (.tmp 20), (.tmp 23)], #[3, 3, 3]⟩, 4, none, []⟩,
     ⟨(some 25), .unOp .not 4 (.tmp 24), 4, none, []⟩,
     ⟨(some 19), .assign (.tmp 25), 4, none, []⟩])
   (.cond (.tmp 19) (.seq (.reg [] [
      ⟨(some 4), .assign (.const (.int .i64 0)), 3, none, []⟩,
      ⟨(some 5), .assign (.const (.int .i64 0)), 3, none, []⟩,
      ⟨(some 6), .assign (.const (.int .i64 2)), 29, none, []⟩])
    (.ret))
   (.skip))))))
 (.seq (.reg [] [
   ⟨(some 26), .fieldAddr 24 (.tmp 2) 0, 0, none, []⟩,
   ⟨(some 27), .load 3 (.tmp 26), 3, none, []⟩,
   ⟨(some 4), .assign (.tmp 27), 3, none, []⟩])
 (.seq (.seq (.reg [] [
   ⟨(some 28), .fieldAddr 24 (.tmp 2) 0, 0, none, []⟩,
   ⟨(some 29), .load 3 (.tmp 28), 3, none, []⟩,
   ⟨(some 30), .binOp .shl 3 (.const (.int .i64 1)) (.tmp 29) 3, 3, none, []⟩,
   ⟨(some 31), .move (.const (.int .i64 0)), 3, none, []⟩])
 (.block 1 (.loop (.seq (.reg [] [
     ⟨(some 32), .binOp .lss 3 (.tmp 31) (.tmp 30) 3, 4, none, []⟩])
   (.seq (.cond (.tmp 32) (.skip)
   (.exit 1))
   (.seq (.block 2 (.seq (.reg [] [
      ⟨(some 33), .move (.tmp 31), 3, none, []⟩,
      ⟨(some 8), .assign (.tmp 33), 3, none, []⟩])
    (.seq (.reg [0, 1, 2, 3, 4, 5, 6] [
      ⟨(some 34), .fieldAddr 24 (.tmp 2) 0, 0, none, []⟩,
      ⟨(some 35), .load 3 (.tmp 34), 3, none, []⟩,
      ⟨(some 36), .move (.tmp 8), 3, none, []⟩,
      ⟨(some 37), .convert 3 75 (.tmp 36), 75, none, []⟩,
      ⟨(some 38), .call ⟨.value (.func 44), #[(.tmp 37)], #[75]⟩, 3, none, [(.tmp 34)]⟩,
      ⟨(some 39), .binOp .sub 3 (.tmp 35) (.tmp 38) 3, 3, none, []⟩,
      ⟨(some 9), .assign (.tmp 39), 3, none, []⟩])
    (.seq (.reg [] [
      ⟨(some 40), .move (.tmp 1), 3, none, []⟩,
      ⟨(some 41), .move (.tmp 8), 3, none, []⟩,
      ⟨(some 42), .binOp .quo 3 (.tmp 41) (.const (.int .i64 64)) 3, 3, none, []⟩,
      ⟨(some 43), .indexAddr 63 (.tmp 7) (.tmp 40), 0, none, []⟩,
      ⟨(some 44), .indexAddr 61 (.tmp 43) (.tmp 42), 0, none, []⟩,
      ⟨(some 45), .load 60 (.tmp 44), 60, none, []⟩,
      ⟨(some 46), .move (.tmp 8), 3, none, []⟩,
      ⟨(some 47), .binOp .rem 3 (.tmp 46) (.const (.int .i64 64)) 3, 3, none, []⟩,
      ⟨(some 48), .binOp .shr 60 (.tmp 45) (.tmp 47) 3, 60, none, []⟩,
      ⟨(some 49), .binOp .and 60 (.tmp 48) (.const (.int .u64 1)) 60, 60, none, []⟩,
      ⟨(some 50), .binOp .eql 60 (.tmp 49) (.const (.int .u64 0)) 60, 4, none, []⟩])
    (.cond (.tmp 50) (.reg [] [
       ⟨(some 51), .move (.tmp 4), 3, none, []⟩,
       ⟨(some 52), .move (.tmp 9), 3, none, []⟩,
       ⟨(some 53), .binOp .sub 3 (.tmp 52) (.const (.int .i64 1)) 3, 3, none, []⟩,
       ⟨(some 54), .call ⟨.builtin .min, #[(.tmp 51), (.tmp 53)], #[3, 3]⟩, 3, none, []⟩,
       ⟨(some 4), .assign (.tmp 54), 3, none, []⟩])
    (.reg [] [
       ⟨(some 55), .move (.tmp 5), 3, none, []⟩,
       ⟨(some 56), .move (.tmp 9), 3, none, []⟩,
       ⟨(some 57), .call ⟨.builtin .max, #[(.tmp 55), (.tmp 56)], #[3, 3]⟩, 3, none, []⟩,
       ⟨(some 5), .assign (.tmp 57), 3, none, []⟩]))))))
   (.reg [] [
     ⟨(some 58), .binOp .add 3 (.tmp 31) (.const (.int .i64 1)) 3, 3, none, []⟩,
     ⟨(some 31), .move (.tmp 58), 3, none, []⟩])))))))
 (.seq (.reg [] [
   ⟨(some 59), .move (.tmp 4), 3, none, []⟩,
   ⟨(some 60), .move (.tmp 5), 3, none, []⟩,
   ⟨(some 4), .assign (.tmp 59), 3, none, []⟩,
   ⟨(some 5), .assign (.tmp 60), 3, none, []⟩,
   ⟨(some 6), .assign (.const (.int .i64 0)), 29, none, []⟩])
 (.ret))))))
/-- spadille/table.Merges -/
def c23 : RC :=
  .seq (.reg [] [
   ⟨(some 2), .box 24 (.tmp 0), 0, none, []⟩,
   ⟨(some 4), .assign (.const (.bool false)), 4, none, []⟩,
   ⟨(some 5), .assign (.const (.int .i64 0)), 29, none, []⟩])
 (.seq (.reg [] [
   ⟨(some 12), .load 24 (.tmp 2), 24, none, []⟩,
   ⟨(some 13), .call ⟨.value (.func 9), #[(.tmp 12)], #[24]⟩, 29, none, []⟩,
   ⟨(some 6), .assign (.tmp 13), 29, none, []⟩])
 (.seq (.block 0 (.seq (.reg [] [
    ⟨(some 15), .move (.tmp 6), 29, none, []⟩,
    ⟨(some 16), .binOp .neq 29 (.tmp 15) (.const (.int .i64 0)) 29, 4, none, []⟩,
    ⟨(some 14), .assign (.tmp 16), 4, none, []⟩])
  (.cond (.tmp 14) (.seq (.reg [] [
     ⟨(some 17), .move (.tmp 6), 29, none, []⟩,
     ⟨(some 4), .assign (.const (.bool false)), 4, none, []⟩,
     ⟨(some 5), .assign (.tmp 17), 29, none, []⟩])
   (.ret))
  (.seq (.reg [] [
     ⟨(some 19), .move (.tmp 1), 3, none, []⟩,
     ⟨(some 20), .fieldAddr 24 (.tmp 2) 0, 0, none, []⟩,
     ⟨(some 21), .load 3 (.tmp 20), 3, none, []⟩,
     ⟨(some 22), .call ⟨.value (.func 31), #[(.const (.int .i64 0)), (.tmp 19), (.tmp 21)], #[3, 3, 3]⟩, 4, none, []⟩,
     ⟨(some 23), .unOp .not 4 (.tmp 22), 4, none, []⟩,
     ⟨(some 18), .assign (.tmp 23), 4, none, []⟩])
   (.cond (.tmp 18) (.seq (.reg [] [
      ⟨(some 4), .assign (.const (.bool false)), 4, none, []⟩,
      ⟨(some 5), .assign (.const (.int .i64 1)), 29, none, []⟩])
    (.ret))
   (.skip))))))
 (.seq (.seq (.reg [] [
   ⟨(some 24), .move (.tmp 1), 3, none, []⟩,
   ⟨(some 25), .binOp .add 3 (.tmp 24) (.const (.int .i64 1)) 3, 3, none, []⟩,
   ⟨(some 26), .move (.const (.int .i64 0)), 3, none, []⟩])
 (.block 1 (.loop (.seq (.reg [] [
     ⟨(some 27), .binOp .lss 3 (.tmp 26) (.tmp 25) 3, 4, none, []⟩])
   (.seq (.cond (.tmp 27) (.skip)
   (.exit 1))
   (.seq (.block 2 (.seq (.reg [] [
      ⟨(some 28), .move (.tmp 26), 3, none, []⟩,
      ⟨(some 7), .assign (.tmp 28), 3, none, []⟩])
    (.seq (.reg [] [
      ⟨(some 29), .fieldAddr 24 (.tmp 2) 0, 0, none, []⟩,
      ⟨(some 30), .load 3 (.tmp 29), 3, none, []⟩,
      ⟨(some 31), .move (.tmp 1), 3, none, []⟩,
      ⟨(some 32), .binOp .sub 3 (.tmp 30) (.tmp 31) 3, 3, none, []⟩,
      ⟨(some 33), .binOp .add 3 (.tmp 32) (.const (.int .i64 1)) 3, 3, none, []⟩,
      ⟨(some 34), .move (.const (.int .i64 0)), 3, none, []⟩])
    (.block 3 (.loop (.seq (.reg [] [
        ⟨(some 35), .binOp .lss 3 (.tmp 34) (.tmp 33) 3, 4, none, []⟩])
      (.seq (.cond (.tmp 35) (.skip)
      (.exit 3))
      (.seq (.block 4 (.seq (.reg [] [
         ⟨(some 36), .move (.tmp 34), 3, none, []⟩,
         ⟨(some 8), .assign (.tmp 36), 3, none, []⟩])
       (.seq (.reg [0, 1, 2, 3, 4, 5, 6, 7, 8, 9, 10, 11, 12] [
         ⟨(some 37), .move (.tmp 7), 3, none, []⟩,
         ⟨(some 38), .binOp .shl 3 (.const (.int .i64 1)) (.tmp 37) 3, 3, none, []⟩,
         ⟨(some 39), .binOp .sub 3 (.tmp 38) (.const (.int .i64 1)) 3, 3, none, []⟩,
         ⟨(some 40), .fieldAddr 24 (.tmp 2) 0, 0, none, []⟩,
         ⟨(some 41), .load 3 (.tmp 40), 3, none, []⟩,
         ⟨(some 42), .move (.tmp 1), 3, none, []⟩,
         ⟨(some 43), .binOp .sub 3 (.tmp 41) (.tmp 42) 3, 3, none, []⟩,
         ⟨(some 44), .binOp .shl 3 (.tmp 39) (.tmp 43) 3, 3, none, []⟩,
         ⟨(some 45), .move (.tmp 8), 3, none, []⟩,
         ⟨(some 46), .binOp .shl 3 (.const (.int .i64 1)) (.tmp 45) 3, 3, none, []⟩,
         ⟨(some 47), .binOp .sub 3 (.tmp 46) (.const (.int .i64 1)) 3, 3, none, []⟩,
         ⟨(some 48), .binOp .or 3 (.tmp 44) (.tmp 47) 3, 3, none, []⟩,
         ⟨(some 9), .assign (.tmp 48), 3, none, []⟩])
       (.seq (.reg [0, 1, 2, 3, 4, 5, 6, 7, 8, 9, 10] [
         ⟨(some 50), .load 24 (.tmp 2), 24, none, []⟩,
         ⟨(some 51), .fieldAddr 24 (.tmp 2) 0, 0, none, []⟩,
         ⟨(some 52), .load 3 (.tmp 51), 3, none, []⟩,
         ⟨(some 53), .move (.tmp 9), 3, none, []⟩,
         ⟨(some 54), .call ⟨.value (.func 37), #[(.tmp 52), (.tmp 53)], #[3, 3]⟩, 25, none, [(.tmp 2)]⟩,
         ⟨(some 55), .call ⟨.value (.func 6), #[(.tmp 50), (.tmp 54)], #[24, 25]⟩, 30, none, []⟩,
         ⟨(some 49), .move (.tmp 55), 30, none, []⟩,
         ⟨(some 56), .extract (.tmp 49) 0, 25, none, []⟩,
         ⟨(some 57), .extract (.tmp 49) 1, 29, none, []⟩,
         ⟨(some 10), .assign (.tmp 56), 25, none, []⟩,
         ⟨(some 11), .assign (.tmp 57), 29, none, []⟩])
       (.seq (.reg [] [
         ⟨(some 58), .move (.tmp 10), 25, none, []⟩,
         ⟨(some 59), .call ⟨.value (.func 33), #[(.tmp 58)], #[25]⟩, 4, none, []⟩,
         ⟨(some 60), .unOp .not 4 (.tmp 59), 4, none, []⟩])
       (.cond (.tmp 60) (.seq (.reg [] [
          ⟨(some 4), .assign (.const (.bool false)), 4, none, []⟩,
          ⟨(some 5), .assign (.const (.int .i64 0)), 29, none, []⟩])
        (.ret))
       (.skip)))))))
      (.reg [] [
        ⟨(some 61), .binOp .add 3 (.tmp 34) (.const (.int .i64 1)) 3, 3, none, []⟩,
        ⟨(some 34), .move (.tmp 61), 3, none, []⟩])))))))))
   (.reg [] [
     ⟨(some 62), .binOp .add 3 (.tmp 26) (.const (.int .i64 1)) 3, 3, none, []⟩,
     ⟨(some 26), .move (.tmp 62), 3, none, []⟩])))))))
 (.seq (.reg [] [
   ⟨(some 4), .assign (.const (.bool true)), 4, none, []⟩,
   ⟨(some 5), .assign (.const (.int .i64 0)), 29, none, []⟩])
 (.ret)))))
/-- spadille/table.Finish -/
def c24 : RC :=
  .seq (.reg [] [
   ⟨(some 1), .box 24 (.tmp 0), 0, none, []⟩,
   ⟨(some 2), .assign (.const (.slice none 0 0)), 22, none, []⟩,
   ⟨(some 3), .assign (.const (.int .i64 0)), 29, none, []⟩])
 (.seq (.reg [] [
   ⟨(some 13), .load 24 (.tmp 1), 24, none, []⟩,
   ⟨(some 14), .call ⟨.value (.func 35), #[(.tmp 13)], #[24]⟩, 64, none, []⟩,
   ⟨(some 12), .move (.tmp 14), 64, none, []⟩,
   ⟨(some 15), .extract (.tmp 12) 0, 63, none, []⟩,
   ⟨(some 16), .extract (.tmp 12) 1, 29, none, []⟩,
   ⟨(some 4), .alloc 63, 0, none, []⟩,
   ⟨none, .store 63 (.tmp 4) (.tmp 15), 0, none, []⟩,
   ⟨(some 5), .assign (.tmp 16), 29, none, []⟩])
 (.seq (.block 0 (.seq (.reg [] [
    ⟨(some 18), .move (.tmp 5), 29, none, []⟩,
    ⟨(some 19), .binOp .neq 29 (.tmp 18) (.const (.int .i64 0)) 29, 4, none, []⟩,
    ⟨(some 17), .assign (.tmp 19), 4, none, []⟩])
  (.cond (.tmp 17) (.seq (.reg [] [
     ⟨(some 20), .move (.tmp 5), 29, none, []⟩,
     ⟨(some 2), .assign (.const (.slice none 0 0)), 22, none, []⟩,
     ⟨(some 3), .assign (.tmp 20), 29, none, []⟩])
   (.ret))
  (.seq (.reg [] [
     ⟨(some 22), .fieldAddr 24 (.tmp 1) 0, 0, none, []⟩,
     ⟨(some 23), .load 3 (.tmp 22), 3, none, []⟩,
     ⟨(some 24), .binOp .gtr 3 (.tmp 23) (.const (.int .i64 4)) 3, 4, none, []⟩,
     ⟨(some 21), .assign (.tmp 24), 4, none, []⟩])
   (.cond (.tmp 21) (.seq (.reg [] [
      ⟨(some 2), .assign (.const (.slice none 0 0)), 22, none, []⟩,
      ⟨(some 3), .assign (.const (.int .i64 3)), 29, none, []⟩])
    (.ret))
   (.skip))))))
 (.seq (.reg [] [
   ⟨(some 25), .makeMap 76 none, 76, none, []⟩,
   ⟨(some 26), .load 63 (.tmp 4), 63, none, []⟩,
   ⟨none, .insert 76 (.tmp 25) (.tmp 26) (.const (.bool true)), 0, none, []⟩,
   ⟨(some 27), .move (.tmp 25), 76, none, []⟩,
   ⟨(some 6), .assign (.tmp 27), 76, none, []⟩])
 (.seq (.reg [] [
   ⟨(some 28), .load 63 (.tmp 4), 63, none, []⟩,
   ⟨(some 29), .build 78 #[(0, (.tmp 28))], 78, none, []⟩,
   ⟨(some 30), .buildSlice 79 1 #[(0, (.tmp 29))], 79, none, []⟩,
   ⟨(some 7), .assign (.tmp 30), 79, none, []⟩])
 (.block 1 (.loop (.seq (.block 2 (.seq (.reg [] [
      ⟨(some 33), .move (.tmp 7), 79, none, []⟩,
      ⟨(some 34), .indexAddr 79 (.tmp 33) (.const (.int .i64 0)), 0, none, []⟩,
      ⟨(some 35), .load 78 (.tmp 34), 78, none, []⟩,
      ⟨(some 8), .alloc 78, 0, none, []⟩,
      ⟨none, .store 78 (.tmp 8) (.tmp 35), 0, none, []⟩])
    (.seq (.seq (.reg [] [
      ⟨(some 36), .fieldAddr 78 (.tmp 8) 0, 0, none, []⟩,
      ⟨(some 37), .load 63 (.tmp 36), 63, none, []⟩,
      ⟨(some 38), .fieldAddr 24 (.tmp 1) 0, 0, none, []⟩,
      ⟨(some 39), .load 3 (.tmp 38), 3, none, []⟩,
      ⟨(some 40), .call ⟨.value (.func 36), #[(.tmp 37), (.tmp 39)], #[63, 3]⟩, 3, none, []⟩,
      ⟨(some 41), .binOp .lss 3 (.tmp 40) (.const (.int .i64 0)) 3, 4, none, []⟩])
    (.cond (.tmp 41) (.seq (.reg [] [
       ⟨(some 42), .fieldAddr 78 (.tmp 8) 1, 0, none, []⟩,
       ⟨(some 43), .load 22 (.tmp 42), 22, none, []⟩,
       ⟨(some 2), .assign (.tmp 43), 22, none, []⟩,
       ⟨(some 3), .assign (.const (.int .i64 0)), 29, none, []⟩])
     (.ret))
    (.skip)))
    (.seq (.reg [] [
      ⟨(some 44), .fieldAddr 24 (.tmp 1) 0, 0, none, []⟩,
      ⟨(some 45), .load 3 (.tmp 44), 3, none, []⟩,
      ⟨(some 46), .move (.const (.int .i64 0)), 3, none, []⟩])
    (.block 3 (.loop (.seq (.reg [] [
        ⟨(some 47), .binOp .lss 3 (.tmp 46) (.tmp 45) 3, 4, none, []⟩])
      (.seq (.cond (.tmp 47) (.skip)
      (.exit 3))
      (.seq (.block 4 (.seq (.reg [] [
         ⟨(some 48), .move (.tmp 46), 3, none, []⟩,
         ⟨(some 9), .assign (.tmp 48), 3, none, []⟩])
       (.seq (.reg [] [
         ⟨(some 49), .move (.tmp 9), 3, none, []⟩,
         ⟨(some 50), .binOp .add 3 (.tmp 49) (.const (.int .i64 1)) 3, 3, none, []⟩,
         ⟨(some 10), .assign (.tmp 50), 3, none, []⟩])
       (.block 5 (.loop (.seq (.seq (.reg [] [
           ⟨(some 51), .move (.tmp 10), 3, none, []⟩,
           ⟨(some 52), .fieldAddr 24 (.tmp 1) 0, 0, none, []⟩,
           ⟨(some 53), .load 3 (.tmp 52), 3, none, []⟩,
           ⟨(some 54), .binOp .lss 3 (.tmp 51) (.tmp 53) 3, 4, none, []⟩])
         (.cond (.tmp 54) (.skip)
         (.exit 5)))
         (.seq (.block 6 (.seq (.reg [] [
            ⟨(some 57), .fieldAddr 78 (.tmp 8) 0, 0, none, []⟩,
            ⟨(some 58), .load 63 (.tmp 57), 63, none, []⟩,
            ⟨(some 59), .move (.tmp 9), 3, none, []⟩,
            ⟨(some 60), .move (.tmp 10), 3, none, []⟩,
            ⟨(some 61), .build 55 #[(0, (.tmp 59)), (1, (.tmp 60))], 55, none, []⟩,
            ⟨(some 62), .call ⟨.value (.func 42), #[(.tmp 58), (.tmp 61)], #[63, 55]⟩, 63, none, []⟩,
            ⟨(some 11), .alloc 63, 0, none, []⟩,
            ⟨none, .store 63 (.tmp 11) (.tmp 62), 0, none, []⟩])
          (.seq (.reg [] [
            ⟨(some 63), .move (.tmp 6), 76, none, []⟩,
            ⟨(some 64), .load 63 (.tmp 11), 63, none, []⟩,
            ⟨(some 65), .lookup 76 (.tmp 63) (.tmp 64) false, 4, none, []⟩,
            ⟨(some 66), .unOp .not 4 (.tmp 65), 4, none, []⟩])
          (.cond (.tmp 66) (.seq (.reg [] [
             ⟨(some 67), .move (.tmp 6), 76, none, []⟩,
             ⟨(some 68), .load 63 (.tmp 11), 63, none, []⟩,
             ⟨none, .mapUpdate 76 (.tmp 67) (.tmp 68) (.const (.bool true)), 0, none, []⟩])
           (.reg [0, 1, 2, 3, 5, 6, 7, 8, 4, 9, 10, 11, 12, 13] [
             ⟨(some 69), .move (.tmp 7), 79, none, []⟩,
             ⟨(some 70), .load 63 (.tmp 11), 63, none, []⟩,
             ⟨(some 71), .fieldAddr 78 (.tmp 8) 1, 0, none, []⟩,
             ⟨(some 72), .load 22 (.tmp 71), 22, none, []⟩,
             ⟨(some 74), .move (.tmp 9), 3, none, []⟩,
             ⟨(some 75), .move (.tmp 10), 3, none, []⟩,
             ⟨(some 76), .build 55 #[(0, (.tmp 74)), (1, (.tmp 75))], 55, none, []⟩,
             ⟨(some 77), .buildSlice 22 1 #[(0, (.tmp 76))], 22, none, []⟩,
             ⟨(some 73), .call ⟨.value (.func 45), #[(.tmp 72)], #[22]⟩, 22, none, [(.tmp 11)]⟩,
             ⟨(some 78), .call ⟨.builtin .append, #[(.tmp 73), (.tmp 77)], #[22, 22]⟩, 22, none, [(.tmp 11)]⟩,
             ⟨(some 79), .build 78 #[(0, (.tmp 70)), (1, (.tmp 78))], 78, none, []⟩,
             ⟨(some 80), .buildSlice 79 1 #[(0, (.tmp 79))], 79, none, []⟩,
             ⟨(some 81), .call ⟨.builtin .append, #[(.tmp 69), (.tmp 80)], #[79, 79]⟩, 79, none, []⟩,
             ⟨(some 7), .assign (.tmp 81), 79, none, []⟩]))
          (.skip)))))
         (.reg [] [
           ⟨(some 55), .move (.tmp 10), 3, none, []⟩,
           ⟨(some 56), .binOp .add 3 (.tmp 55) (.const (.int .i64 1)) 3, 3, none, []⟩,
           ⟨(some 10), .assign (.tmp 56), 3, none, []⟩]))))))))
      (.reg [] [
        ⟨(some 82), .binOp .add 3 (.tmp 46) (.const (.int .i64 1)) 3, 3, none, []⟩,
        ⟨(some 46), .move (.tmp 82), 3, none, []⟩]))))))))))
   (.reg [] [
     ⟨(some 31), .move (.tmp 7), 79, none, []⟩,
     ⟨(some 32), .slice 79 (.tmp 31) (some (.const (.int .i64 1))) none none, 79, none, []⟩,
     ⟨(some 7), .assign (.tmp 32), 79, none, []⟩]))))))))
/-- spadille/spadillelaw07.made -/
def c25 : RC :=
  .seq (.reg [] [
   ⟨(some 4), .alloc 24, 0, none, []⟩])
 (.seq (.reg [] [
   ⟨(some 7), .move (.tmp 0), 3, none, []⟩,
   ⟨(some 8), .build 24 #[(0, (.tmp 7))], 24, none, []⟩,
   ⟨(some 5), .alloc 24, 0, none, []⟩,
   ⟨none, .store 24 (.tmp 5) (.tmp 8), 0, none, []⟩])
 (.seq (.seq (.reg [] [
   ⟨(some 6), .assign (.const (.int .i64 0)), 3, none, []⟩])
 (.block 0 (.loop (.seq (.seq (.reg [] [
     ⟨(some 9), .move (.tmp 6), 3, none, []⟩,
     ⟨(some 10), .binOp .add 3 (.tmp 9) (.const (.int .i64 1)) 3, 3, none, []⟩,
     ⟨(some 11), .move (.tmp 1), 25, none, []⟩,
     ⟨(some 12), .call ⟨.builtin .len, #[(.tmp 11)], #[25]⟩, 3, none, []⟩,
     ⟨(some 13), .binOp .lss 3 (.tmp 10) (.tmp 12) 3, 4, none, []⟩])
   (.cond (.tmp 13) (.skip)
   (.exit 0)))
   (.seq (.block 1 (.reg [0, 1, 2, 3, 4, 5, 6, 7, 8, 9, 10, 11, 12, 13, 14, 15] [
      ⟨(some 16), .fieldAddr 24 (.tmp 5) 1, 0, none, []⟩,
      ⟨(some 17), .load 22 (.tmp 16), 22, none, []⟩,
      ⟨(some 18), .move (.tmp 1), 25, none, []⟩,
      ⟨(some 19), .move (.tmp 6), 3, none, []⟩,
      ⟨(some 20), .indexAddr 25 (.tmp 18) (.tmp 19), 0, none, []⟩,
      ⟨(some 21), .load 3 (.tmp 20), 3, none, []⟩,
      ⟨(some 22), .move (.tmp 1), 25, none, []⟩,
      ⟨(some 23), .move (.tmp 6), 3, none, []⟩,
      ⟨(some 24), .binOp .add 3 (.tmp 23) (.const (.int .i64 1)) 3, 3, none, []⟩,
      ⟨(some 25), .indexAddr 25 (.tmp 22) (.tmp 24), 0, none, []⟩,
      ⟨(some 26), .load 3 (.tmp 25), 3, none, []⟩,
      ⟨(some 27), .build 55 #[(0, (.tmp 21)), (1, (.tmp 26))], 55, none, []⟩,
      ⟨(some 28), .buildSlice 22 1 #[(0, (.tmp 27))], 22, none, []⟩,
      ⟨(some 29), .call ⟨.builtin .append, #[(.tmp 17), (.tmp 28)], #[22, 22]⟩, 22, none, []⟩,
      ⟨(some 30), .fieldAddr 24 (.tmp 5) 1, 0, none, []⟩,
      ⟨none, .store 22 (.tmp 30) (.tmp 29), 0, none, []⟩]))
   (.reg [] [
     ⟨(some 14), .move (.tmp 6), 3, none, []⟩,
     ⟨(some 15), .binOp .add 3 (.tmp 14) (.const (.int .i64 2)) 3, 3, none, []⟩,
     ⟨(some 6), .assign (.tmp 15), 3, none, []⟩]))))))
 (.seq (.reg [] [
   ⟨(some 31), .load 24 (.tmp 5), 24, none, []⟩,
   ⟨none, .store 24 (.tmp 4) (.tmp 31), 0, none, []⟩])
 (.ret))))
/-- spadille/spadillelaw07.alike -/
def c26 : RC :=
  .seq (.reg [] [
   ⟨(some 4), .assign (.const (.bool false)), 4, none, []⟩])
 (.seq (.seq (.reg [] [
   ⟨(some 6), .move (.tmp 0), 43, none, []⟩,
   ⟨(some 7), .call ⟨.builtin .len, #[(.tmp 6)], #[43]⟩, 3, none, []⟩,
   ⟨(some 8), .move (.tmp 1), 43, none, []⟩,
   ⟨(some 9), .call ⟨.builtin .len, #[(.tmp 8)], #[43]⟩, 3, none, []⟩,
   ⟨(some 10), .binOp .neq 3 (.tmp 7) (.tmp 9) 3, 4, none, []⟩])
 (.cond (.tmp 10) (.seq (.reg [] [
    ⟨(some 4), .assign (.const (.bool false)), 4, none, []⟩])
  (.ret))
 (.skip)))
 (.seq (.seq (.reg [] [
   ⟨(some 5), .assign (.const (.int .i64 0)), 3, none, []⟩])
 (.block 0 (.loop (.seq (.seq (.reg [] [
     ⟨(some 11), .move (.tmp 5), 3, none, []⟩,
     ⟨(some 12), .move (.tmp 0), 43, none, []⟩,
     ⟨(some 13), .call ⟨.builtin .len, #[(.tmp 12)], #[43]⟩, 3, none, []⟩,
     ⟨(some 14), .binOp .lss 3 (.tmp 11) (.tmp 13) 3, 4, none, []⟩])
   (.cond (.tmp 14) (.skip)
   (.exit 0)))
   (.seq (.block 1 (.seq (.reg [0, 1, 2, 3, 4, 5, 6, 7, 8, 9] [
      ⟨(some 17), .move (.tmp 0), 43, none, []⟩,
      ⟨(some 18), .move (.tmp 5), 3, none, []⟩,
      ⟨(some 19), .indexAddr 43 (.tmp 17) (.tmp 18), 0, none, []⟩,
      ⟨(some 20), .load 25 (.tmp 19), 25, none, []⟩,
      ⟨(some 21), .move (.tmp 1), 43, none, []⟩,
      ⟨(some 22), .move (.tmp 5), 3, none, []⟩,
      ⟨(some 23), .indexAddr 43 (.tmp 21) (.tmp 22), 0, none, []⟩,
      ⟨(some 24), .load 25 (.tmp 23), 25, none, []⟩,
      ⟨(some 25), .call ⟨.value (.func 8), #[(.tmp 20), (.tmp 24)], #[25, 25]⟩, 4, none, []⟩,
      ⟨(some 26), .unOp .not 4 (.tmp 25), 4, none, []⟩])
    (.cond (.tmp 26) (.seq (.reg [] [
       ⟨(some 4), .assign (.const (.bool false)), 4, none, []⟩])
     (.ret))
    (.skip))))
   (.reg [] [
     ⟨(some 15), .move (.tmp 5), 3, none, []⟩,
     ⟨(some 16), .binOp .add 3 (.tmp 15) (.const (.int .i64 1)) 3, 3, none, []⟩,
     ⟨(some 5), .assign (.tmp 16), 3, none, []⟩]))))))
 (.seq (.reg [] [
   ⟨(some 4), .assign (.const (.bool true)), 4, none, []⟩])
 (.ret))))
/-- spadille/spadillelaw07.lists -/
def c27 : RC :=
  .seq (.reg [] [
   ⟨(some 2), .assign (.const (.slice none 0 0)), 43, none, []⟩])
 (.seq (.reg [] [
   ⟨(some 3), .move (.tmp 0), 43, none, []⟩,
   ⟨(some 2), .assign (.tmp 3), 43, none, []⟩])
 (.ret))
/-- spadille/spadillelaw07.pairs -/
def c28 : RC :=
  .seq (.reg [] [
   ⟨(some 4), .assign (.const (.bool false)), 4, none, []⟩])
 (.seq (.seq (.reg [] [
   ⟨(some 6), .move (.tmp 0), 22, none, []⟩,
   ⟨(some 7), .call ⟨.builtin .len, #[(.tmp 6)], #[22]⟩, 3, none, []⟩,
   ⟨(some 8), .move (.tmp 1), 22, none, []⟩,
   ⟨(some 9), .call ⟨.builtin .len, #[(.tmp 8)], #[22]⟩, 3, none, []⟩,
   ⟨(some 10), .binOp .neq 3 (.tmp 7) (.tmp 9) 3, 4, none, []⟩])
 (.cond (.tmp 10) (.seq (.reg [] [
    ⟨(some 4), .assign (.const (.bool false)), 4, none, []⟩])
  (.ret))
 (.skip)))
 (.seq (.seq (.reg [] [
   ⟨(some 5), .assign (.const (.int .i64 0)), 3, none, []⟩])
 (.block 0 (.loop (.seq (.seq (.reg [] [
     ⟨(some 11), .move (.tmp 5), 3, none, []⟩,
     ⟨(some 12), .move (.tmp 0), 22, none, []⟩,
     ⟨(some 13), .call ⟨.builtin .len, #[(.tmp 12)], #[22]⟩, 3, none, []⟩,
     ⟨(some 14), .binOp .lss 3 (.tmp 11) (.tmp 13) 3, 4, none, []⟩])
   (.cond (.tmp 14) (.skip)
   (.exit 0)))
   (.seq (.block 1 (.seq (.reg [0, 1, 2, 3, 4, 5, 6, 7, 8] [
      ⟨(some 17), .move (.tmp 0), 22, none, []⟩,
      ⟨(some 18), .move (.tmp 5), 3, none, []⟩,
      ⟨(some 19), .indexAddr 22 (.tmp 17) (.tmp 18), 0, none, []⟩,
      ⟨(some 20), .load 55 (.tmp 19), 55, none, []⟩,
      ⟨(some 21), .move (.tmp 1), 22, none, []⟩,
      ⟨(some 22), .move (.tmp 5), 3, none, []⟩,
      ⟨(some 23), .indexAddr 22 (.tmp 21) (.tmp 22), 0, none, []⟩,
      ⟨(some 24), .load 55 (.tmp 23), 55, none, []⟩,
      ⟨(some 25), .binOp .neq 55 (.tmp 20) (.tmp 24) 55, 4, none, []⟩])
    (.cond (.tmp 25) (.seq (.reg [] [
       ⟨(some 4), .assign (.const (.bool false)), 4, none, []⟩])
     (.ret))
    (.skip))))
   (.reg [] [
     ⟨(some 15), .move (.tmp 5), 3, none, []⟩,
     ⟨(some 16), .binOp .add 3 (.tmp 15) (.const (.int .i64 1)) 3, 3, none, []⟩,
     ⟨(some 5), .assign (.tmp 16), 3, none, []⟩]))))))
 (.seq (.reg [] [
   ⟨(some 4), .assign (.const (.bool true)), 4, none, []⟩])
 (.ret))))
/-- slices.Clone[[]int,int] -/
def c29 : RC :=
  .seq (.reg [] [
   ⟨(some 2), .assign (.const (.slice none 0 0)), 25, none, []⟩])
 (.seq (.seq (.reg [] [
   ⟨(some 3), .move (.tmp 0), 25, none, []⟩,
   ⟨(some 4), .binOp .eql 25 (.tmp 3) (.const (.slice none 0 0)) 25, 4, none, []⟩])
 (.cond (.tmp 4) (.seq (.reg [] [
    ⟨(some 2), .assign (.const (.slice none 0 0)), 25, none, []⟩])
  (.ret))
 (.skip)))
 (.seq (.reg [] [
   ⟨(some 5), .buildSlice 25 0 #[], 25, none, []⟩,
   ⟨(some 6), .move (.tmp 0), 25, none, []⟩,
   ⟨(some 7), .call ⟨.builtin .append, #[(.tmp 5), (.tmp 6)], #[25, 25]⟩, 25, none, []⟩,
   ⟨(some 2), .assign (.tmp 7), 25, none, []⟩])
 (.ret)))
/-- spadille/spadilleref07.run -/
def c30 : RC :=
  .seq (.reg [] [
   ⟨(some 3), .box 28 (.tmp 0), 0, none, []⟩,
   ⟨(some 6), .assign (.const (.slice none 0 0)), 25, none, []⟩])
 (.seq (.reg [] [
   ⟨(some 11), .buildSlice 25 0 #[], 25, none, []⟩,
   ⟨(some 12), .move (.tmp 1), 25, none, []⟩,
   ⟨(some 13), .call ⟨.builtin .append, #[(.tmp 11), (.tmp 12)], #[25, 25]⟩, 25, none, []⟩,
   ⟨(some 7), .assign (.tmp 13), 25, none, []⟩])
 (.seq (.seq (.reg [] [
   ⟨(some 8), .assign (.const (.int .i64 0)), 3, none, []⟩])
 (.block 0 (.loop (.seq (.seq (.reg [] [
     ⟨(some 14), .move (.tmp 8), 3, none, []⟩,
     ⟨(some 15), .fieldAddr 28 (.tmp 3) 1, 0, none, []⟩,
     ⟨(some 16), .load 22 (.tmp 15), 22, none, []⟩,
     ⟨(some 17), .call ⟨.builtin .len, #[(.tmp 16)], #[22]⟩, 3, none, []⟩,
     ⟨(some 18), .binOp .lss 3 (.tmp 14) (.tmp 17) 3, 4, none, []⟩])
   (.cond (.tmp 18) (.skip)
   (.exit 0)))
   (.seq (.block 1 (.seq (.reg [0, 1, 2, 3, 4, 5, 6, 7, 8, 9, 10, 11, 12, 13] [
      ⟨(some 21), .fieldAddr 28 (.tmp 3) 1, 0, none, []⟩,
      ⟨(some 22), .load 22 (.tmp 21), 22, none, []⟩,
      ⟨(some 23), .move (.tmp 8), 3, none, []⟩,
      ⟨(some 24), .indexAddr 22 (.tmp 22) (.tmp 23), 0, none, []⟩,
      ⟨(some 25), .indexAddr 55 (.tmp 24) (.const (.int .i64 0)), 0, none, []⟩,
      ⟨(some 26), .load 3 (.tmp 25), 3, none, []⟩,
      ⟨(some 27), .fieldAddr 28 (.tmp 3) 1, 0, none, []⟩,
      ⟨(some 28), .load 22 (.tmp 27), 22, none, []⟩,
      ⟨(some 29), .move (.tmp 8), 3, none, []⟩,
      ⟨(some 30), .indexAddr 22 (.tmp 28) (.tmp 29), 0, none, []⟩,
      ⟨(some 31), .indexAddr 55 (.tmp 30) (.const (.int .i64 1)), 0, none, []⟩,
      ⟨(some 32), .load 3 (.tmp 31), 3, none, []⟩,
      ⟨(some 9), .assign (.tmp 26), 3, none, []⟩,
      ⟨(some 10), .assign (.tmp 32), 3, none, []⟩])
    (.seq (.reg [0, 1, 2, 3, 4, 5, 6, 7, 8, 9, 10, 11, 12, 13] [
      ⟨(some 33), .move (.tmp 8), 3, none, []⟩,
      ⟨(some 34), .move (.tmp 2), 3, none, []⟩,
      ⟨(some 35), .binOp .neq 3 (.tmp 33) (.tmp 34) 3, 4, none, []⟩,
      ⟨(some 36), .move (.tmp 35), 4, none, []⟩,
      ⟨(some 37), .move (.tmp 7), 25, (some ((some 36), true)), []⟩,
      ⟨(some 38), .move (.tmp 9), 3, (some ((some 36), true)), []⟩,
      ⟨(some 39), .indexAddr 25 (.tmp 37) (.tmp 38), 0, (some ((some 36), true)), []⟩,
      ⟨(some 40), .load 3 (.tmp 39), 3, (some ((some 36), true)), []⟩,
      ⟨(some 41), .move (.tmp 7), 25, (some ((some 36), true)), []⟩,
      ⟨(some 42), .move (.tmp 10), 3, (some ((some 36), true)), []⟩,
      ⟨(some 43), .indexAddr 25 (.tmp 41) (.tmp 42), 0, (some ((some 36), true)), []⟩,
      ⟨(some 44), .load 3 (.tmp 43), 3, (some ((some 36), true)), []⟩,
      ⟨(some 45), .binOp .gtr 3 (.tmp 40) (.tmp 44) 3, 4, (some ((some 36), true)), []⟩,
      ⟨(some 46), .pick (.tmp 36) (.tmp 45) (.const (.bool false)), 4, none, []⟩])
    (.cond (.tmp 46) (.reg [0, 1, 2, 3, 4, 5, 6, 7, 8, 9, 10, 11, 12, 13, 14, 15] [
       ⟨(some 47), .move (.tmp 7), 25, none, []⟩,
       ⟨(some 48), .move (.tmp 9), 3, none, []⟩,
       ⟨(some 49), .move (.tmp 7), 25, none, []⟩,
       ⟨(some 50), .move (.tmp 10), 3, none, []⟩,
       ⟨(some 51), .move (.tmp 7), 25, none, []⟩,
       ⟨(some 52), .move (.tmp 10), 3, none, []⟩,
       ⟨(some 53), .indexAddr 25 (.tmp 51) (.tmp 52), 0, none, []⟩,
       ⟨(some 54), .load 3 (.tmp 53), 3, none, []⟩,
       ⟨(some 55), .move (.tmp 7), 25, none, []⟩,
       ⟨(some 56), .move (.tmp 9), 3, none, []⟩,
       ⟨(some 57), .indexAddr 25 (.tmp 55) (.tmp 56), 0, none, []⟩,
       ⟨(some 58), .load 3 (.tmp 57), 3, none, []⟩,
       ⟨(some 59), .indexAddr 25 (.tmp 47) (.tmp 48), 0, none, []⟩,
       ⟨none, .store 3 (.tmp 59) (.tmp 54), 0, none, []⟩,
       ⟨(some 60), .indexAddr 25 (.tmp 49) (.tmp 50), 0, none, []⟩,
       ⟨none, .store 3 (.tmp 60) (.tmp 58), 0, none, []⟩])
    (.skip)))))
   (.reg [] [
     ⟨(some 19), .move (.tmp 8), 3, none, []⟩,
     ⟨(some 20), .binOp .add 3 (.tmp 19) (.const (.int .i64 1)) 3, 3, none, []⟩,
     ⟨(some 8), .assign (.tmp 20), 3, none, []⟩]))))))
 (.seq (.reg [] [
   ⟨(some 61), .move (.tmp 7), 25, none, []⟩,
   ⟨(some 6), .assign (.tmp 61), 25, none, []⟩])
 (.ret))))
/-- spadille/table.between -/
def c31 : RC :=
  .seq (.reg [] [
   ⟨(some 6), .assign (.const (.bool false)), 4, none, []⟩])
 (.seq (.reg [] [
   ⟨(some 7), .move (.tmp 0), 3, none, []⟩,
   ⟨(some 8), .move (.tmp 1), 3, none, []⟩,
   ⟨(some 9), .binOp .leq 3 (.tmp 7) (.tmp 8) 3, 4, none, []⟩,
   ⟨(some 10), .move (.tmp 9), 4, none, []⟩,
   ⟨(some 11), .move (.tmp 1), 3, (some ((some 10), true)), []⟩,
   ⟨(some 12), .move (.tmp 2), 3, (some ((some 10), true)), []⟩,
   ⟨(some 13), .binOp .leq 3 (.tmp 11) (.tmp 12) 3, 4, (some ((some 10), true)), []⟩,
   ⟨(some 14), .pick (.tmp 10) (.tmp 13) (.const (.bool false)), 4, none, []⟩,
   ⟨(some 6), .assign (.tmp 14), 4, none, []⟩])
 (.ret))
/-- spadille/spadilleref07.in -/
def c32 : RC :=
  .seq (.reg [] [
   ⟨(some 6), .assign (.const (.bool false)), 4, none, []⟩])
 (.seq (.reg [] [
   ⟨(some 7), .move (.tmp 0), 3, none, []⟩,
   ⟨(some 8), .move (.tmp 1), 3, none, []⟩,
   ⟨(some 9), .binOp .geq 3 (.tmp 7) (.tmp 8) 3, 4, none, []⟩,
   ⟨(some 10), .move (.tmp 9), 4, none, []⟩,
   ⟨(some 11), .move (.tmp 0), 3, (some ((some 10), true)), []⟩,
   ⟨(some 12), .move (.tmp 2), 3, (some ((some 10), true)), []⟩,
   ⟨(some 13), .binOp .leq 3 (.tmp 11) (.tmp 12) 3, 4, (some ((some 10), true)), []⟩,
   ⟨(some 14), .pick (.tmp 10) (.tmp 13) (.const (.bool false)), 4, none, []⟩,
   ⟨(some 6), .assign (.tmp 14), 4, none, []⟩])
 (.ret))
/-- slices.IsSorted[[]int,int] -/
def c33 : RC :=
  .seq (.reg [] [
   ⟨(some 2), .assign (.const (.bool false)), 4, none, []⟩])
 (.seq (.seq (.reg [] [
   ⟨(some 4), .move (.tmp 0), 25, none, []⟩,
   ⟨(some 5), .call ⟨.builtin .len, #[(.tmp 4)], #[25]⟩, 3, none, []⟩,
   ⟨(some 6), .binOp .sub 3 (.tmp 5) (.const (.int .i64 1)) 3, 3, none, []⟩,
   ⟨(some 3), .assign (.tmp 6), 3, none, []⟩])
 (.block 0 (.loop (.seq (.seq (.reg [] [
     ⟨(some 7), .move (.tmp 3), 3, none, []⟩,
     ⟨(some 8), .binOp .gtr 3 (.tmp 7) (.const (.int .i64 0)) 3, 4, none, []⟩])
   (.cond (.tmp 8) (.skip)
   (.exit 0)))
   (.seq (.block 1 (.seq (.reg [0, 1, 2, 3, 4, 5, 6, 7, 8, 9] [
      ⟨(some 11), .move (.tmp 0), 25, none, []⟩,
      ⟨(some 12), .move (.tmp 3), 3, none, []⟩,
      ⟨(some 13), .indexAddr 25 (.tmp 11) (.tmp 12), 0, none, []⟩,
      ⟨(some 14), .load 3 (.tmp 13), 3, none, []⟩,
      ⟨(some 15), .move (.tmp 0), 25, none, []⟩,
      ⟨(some 16), .move (.tmp 3), 3, none, []⟩,
      ⟨(some 17), .binOp .sub 3 (.tmp 16) (.const (.int .i64 1)) 3, 3, none, []⟩,
      ⟨(some 18), .indexAddr 25 (.tmp 15) (.tmp 17), 0, none, []⟩,
      ⟨(some 19), .load 3 (.tmp 18), 3, none, []⟩,
      ⟨(some 20), .call ⟨.value (.func 46), #[(.tmp 14), (.tmp 19)], #[3, 3]⟩, 4, none, []⟩])
    (.cond (.tmp 20) (.seq (.reg [] [
       ⟨(some 2), .assign (.const (.bool false)), 4, none, []⟩])
     (.ret))
    (.skip))))
   (.reg [] [
     ⟨(some 9), .move (.tmp 3), 3, none, []⟩,
     ⟨(some 10), .binOp .sub 3 (.tmp 9) (.const (.int .i64 1)) 3, 3, none, []⟩,
     ⟨(some 3), .assign (.tmp 10), 3, none, []⟩]))))))
 (.seq (.reg [] [
   ⟨(some 2), .assign (.const (.bool true)), 4, none, []⟩])
 (.ret)))
/-- spadille/spadilleref07.sorted -/
def c34 : RC :=
  .seq (.reg [] [
   ⟨(some 2), .assign (.const (.bool false)), 4, none, []⟩])
 (.seq (.seq (.reg [] [
   ⟨(some 3), .assign (.const (.int .i64 1)), 3, none, []⟩])
 (.block 0 (.loop (.seq (.seq (.reg [] [
     ⟨(some 4), .move (.tmp 3), 3, none, []⟩,
     ⟨(some 5), .move (.tmp 0), 25, none, []⟩,
     ⟨(some 6), .call ⟨.builtin .len, #[(.tmp 5)], #[25]⟩, 3, none, []⟩,
     ⟨(some 7), .binOp .lss 3 (.tmp 4) (.tmp 6) 3, 4, none, []⟩])
   (.cond (.tmp 7) (.skip)
   (.exit 0)))
   (.seq (.block 1 (.seq (.reg [0, 1, 2, 3, 4, 5, 6, 7, 8, 9] [
      ⟨(some 10), .move (.tmp 0), 25, none, []⟩,
      ⟨(some 11), .move (.tmp 3), 3, none, []⟩,
      ⟨(some 12), .indexAddr 25 (.tmp 10) (.tmp 11), 0, none, []⟩,
      ⟨(some 13), .load 3 (.tmp 12), 3, none, []⟩,
      ⟨(some 14), .move (.tmp 0), 25, none, []⟩,
      ⟨(some 15), .move (.tmp 3), 3, none, []⟩,
      ⟨(some 16), .binOp .sub 3 (.tmp 15) (.const (.int .i64 1)) 3, 3, none, []⟩,
      ⟨(some 17), .indexAddr 25 (.tmp 14) (.tmp 16), 0, none, []⟩,
      ⟨(some 18), .load 3 (.tmp 17), 3, none, []⟩,
      ⟨(some 19), .binOp .lss 3 (.tmp 13) (.tmp 18) 3, 4, none, []⟩])
    (.cond (.tmp 19) (.seq (.reg [] [
       ⟨(some 2), .assign (.const (.bool false)), 4, none, []⟩])
     (.ret))
    (.skip))))
   (.reg [] [
     ⟨(some 8), .move (.tmp 3), 3, none, []⟩,
     ⟨(some 9), .binOp .add 3 (.tmp 8) (.const (.int .i64 1)) 3, 3, none, []⟩,
     ⟨(some 3), .assign (.tmp 9), 3, none, []⟩]))))))
 (.seq (.reg [] [
   ⟨(some 2), .assign (.const (.bool true)), 4, none, []⟩])
 (.ret)))
/-- spadille/table.checked -/
def c35 : RC :=
  .seq (.reg [] [
   ⟨(some 1), .box 24 (.tmp 0), 0, none, []⟩,
   ⟨(some 2), .alloc 63, 0, none, []⟩,
   ⟨(some 3), .assign (.const (.int .i64 0)), 29, none, []⟩])
 (.seq (.seq (.reg [] [
   ⟨(some 5), .load 24 (.tmp 1), 24, none, []⟩,
   ⟨(some 6), .call ⟨.value (.func 9), #[(.tmp 5)], #[24]⟩, 29, none, []⟩,
   ⟨(some 4), .assign (.tmp 6), 29, none, []⟩])
 (.seq (.reg [] [
   ⟨(some 7), .move (.tmp 4), 29, none, []⟩,
   ⟨(some 8), .binOp .neq 29 (.tmp 7) (.const (.int .i64 0)) 29, 4, none, []⟩])
 (.cond (.tmp 8) (.seq (.reg [] [
    ⟨(some 9), .build 63 #[], 63, none, []⟩,
    ⟨(some 10), .move (.tmp 4), 29, none, []⟩,
    ⟨none, .store 63 (.tmp 2) (.tmp 9), 0, none, []⟩,
    ⟨(some 3), .assign (.tmp 10), 29, none, []⟩])
  (.ret))
 (.skip))))
 (.seq (.reg [0, 1, 3, 4, 2, 5, 6, 7] [
   ⟨(some 11), .fieldAddr 24 (.tmp 1) 0, 0, none, []⟩,
   ⟨(some 12), .load 3 (.tmp 11), 3, none, []⟩,
   ⟨(some 14), .fieldAddr 24 (.tmp 1) 1, 0, none, []⟩,
   ⟨(some 15), .load 22 (.tmp 14), 22, none, []⟩,
   ⟨(some 13), .call ⟨.value (.func 41), #[(.tmp 12)], #[3]⟩, 63, none, [(.tmp 14)]⟩,
   ⟨(some 16), .call ⟨.value (.func 43), #[(.tmp 13), (.tmp 15)], #[63, 22]⟩, 63, none, []⟩,
   ⟨none, .store 63 (.tmp 2) (.tmp 16), 0, none, []⟩,
   ⟨(some 3), .assign (.const (.int .i64 0)), 29, none, []⟩])
 (.ret)))
/-- (spadille/table.bunch).bad -/
def c36 : RC :=
  .seq (.reg [] [
   ⟨(some 2), .box 63 (.tmp 0), 0, none, []⟩,
   ⟨(some 4), .assign (.const (.int .i64 0)), 3, none, []⟩])
 (.seq (.seq (.reg [] [
   ⟨(some 8), .move (.const (.int .i64 0)), 3, none, []⟩])
 (.block 0 (.loop (.seq (.reg [] [
     ⟨(some 9), .binOp .lss 3 (.tmp 8) (.const (.int .i64 2)) 3, 0, none, []⟩])
   (.seq (.cond (.tmp 9) (.skip)
   (.exit 0))
   (.seq (.block 1 (.seq (.reg [] [
      ⟨(some 10), .move (.tmp 8), 3, none, []⟩,
      ⟨(some 5), .assign (.tmp 10), 3, none, []⟩])
    (.seq (.reg [] [
      ⟨(some 6), .assign (.const (.int .u64 0)), 60, none, []⟩])
    (.seq (.seq (.reg [] [
      ⟨(some 7), .assign (.const (.int .i64 1)), 3, none, []⟩])
    (.block 2 (.loop (.seq (.seq (.reg [] [
        ⟨(some 11), .move (.tmp 7), 3, none, []⟩,
        ⟨(some 12), .move (.tmp 1), 3, none, []⟩,
        ⟨(some 13), .binOp .lss 3 (.tmp 11) (.tmp 12) 3, 4, none, []⟩])
      (.cond (.tmp 13) (.skip)
      (.exit 2)))
      (.seq (.block 3 (.reg [0, 1, 2, 3, 4, 5, 6, 7, 8, 9, 10, 11, 12, 13, 14] [
         ⟨(some 16), .move (.tmp 6), 60, none, []⟩,
         ⟨(some 17), .move (.tmp 7), 3, none, []⟩,
         ⟨(some 18), .binOp .sub 3 (.tmp 17) (.const (.int .i64 1)) 3, 3, none, []⟩,
         ⟨(some 19), .move (.tmp 5), 3, none, []⟩,
         ⟨(some 20), .indexAddr 63 (.tmp 2) (.tmp 18), 0, none, []⟩,
         ⟨(some 21), .indexAddr 61 (.tmp 20) (.tmp 19), 0, none, []⟩,
         ⟨(some 22), .load 60 (.tmp 21), 60, none, []⟩,
         ⟨(some 23), .move (.tmp 7), 3, none, []⟩,
         ⟨(some 24), .move (.tmp 5), 3, none, []⟩,
         ⟨(some 25), .indexAddr 63 (.tmp 2) (.tmp 23), 0, none, []⟩,
         ⟨(some 26), .indexAddr 61 (.tmp 25) (.tmp 24), 0, none, []⟩,
         ⟨(some 27), .load 60 (.tmp 26), 60, none, []⟩,
         ⟨(some 28), .binOp .andNot 60 (.tmp 22) (.tmp 27) 60, 60, none, []⟩,
         ⟨(some 29), .binOp .or 60 (.tmp 16) (.tmp 28) 60, 60, none, []⟩,
         ⟨(some 6), .assign (.tmp 29), 60, none, []⟩]))
      (.reg [] [
        ⟨(some 14), .move (.tmp 7), 3, none, []⟩,
        ⟨(some 15), .binOp .add 3 (.tmp 14) (.const (.int .i64 1)) 3, 3, none, []⟩,
        ⟨(some 7), .assign (.tmp 15), 3, none, []⟩]))))))
    (.seq (.reg [] [
      ⟨(some 30), .move (.tmp 6), 60, none, []⟩,
      ⟨(some 31), .binOp .neq 60 (.tmp 30) (.const (.int .u64 0)) 60, 4, none, []⟩])
    (.cond (.tmp 31) (.seq (.reg [] [
       ⟨(some 32), .move (.tmp 5), 3, none, []⟩,
       ⟨(some 33), .binOp .mul 3 (.const (.int .i64 64)) (.tmp 32) 3, 3, none, []⟩,
       ⟨(some 34), .move (.tmp 6), 60, none, []⟩,
       ⟨(some 35), .call ⟨.value (.func 47), #[(.tmp 34)], #[60]⟩, 3, none, []⟩,
       ⟨(some 36), .binOp .add 3 (.tmp 33) (.tmp 35) 3, 3, none, []⟩,
       ⟨(some 4), .assign (.tmp 36), 3, none, []⟩])
     (.ret))
    (.skip)))))))
   (.reg [] [
     ⟨(some 37), .binOp .add 3 (.tmp 8) (.const (.int .i64 1)) 3, 3, none, []⟩,
     ⟨(some 8), .move (.tmp 37), 3, none, []⟩])))))))
 (.seq (.reg [] [
   ⟨(some 4), .assign (.const (.int .i64 (-1))), 3, none, []⟩])
 (.ret)))
/-- spadille/table.row -/
def c37 : RC :=
  .seq (.reg [] [
   ⟨(some 4), .assign (.const (.slice none 0 0)), 25, none, []⟩])
 (.seq (.reg [] [
   ⟨(some 7), .move (.tmp 0), 3, none, []⟩,
   ⟨(some 8), .makeSlice 25 (.tmp 7) (.tmp 7), 25, none, []⟩,
   ⟨(some 5), .assign (.tmp 8), 25, none, []⟩])
 (.seq (.seq (.reg [] [
   ⟨(some 9), .move (.tmp 5), 25, none, []⟩,
   ⟨(some 10), .call ⟨.builtin .len, #[(.tmp 9)], #[25]⟩, 3, none, []⟩,
   ⟨(some 11), .move (.const (.int .i64 0)), 3, none, []⟩])
 (.block 0 (.loop (.seq (.reg [] [
     ⟨(some 12), .binOp .lss 3 (.tmp 11) (.tmp 10) 3, 0, none, []⟩])
   (.seq (.cond (.tmp 12) (.skip)
   (.exit 0))
   (.seq (.block 1 (.seq (.reg [] [
      ⟨(some 13), .move (.tmp 11), 3, none, []⟩,
      ⟨(some 6), .assign (.tmp 13), 3, none, []⟩])
    (.reg [] [
      ⟨(some 14), .move (.tmp 5), 25, none, []⟩,
      ⟨(some 15), .move (.tmp 6), 3, none, []⟩,
      ⟨(some 16), .move (.tmp 1), 3, none, []⟩,
      ⟨(some 17), .move (.tmp 0), 3, none, []⟩,
      ⟨(some 18), .binOp .sub 3 (.tmp 17) (.const (.int .i64 1)) 3, 3, none, []⟩,
      ⟨(some 19), .move (.tmp 6), 3, none, []⟩,
      ⟨(some 20), .binOp .sub 3 (.tmp 18) (.tmp 19) 3, 3, none, []⟩,
      ⟨(some 21), .binOp .shr 3 (.tmp 16) (.tmp 20) 3, 3, none, []⟩,
      ⟨(some 22), .binOp .and 3 (.tmp 21) (.const (.int .i64 1)) 3, 3, none, []⟩,
      ⟨(some 23), .indexAddr 25 (.tmp 14) (.tmp 15), 0, none, []⟩,
      ⟨none, .store 3 (.tmp 23) (.tmp 22), 0, none, []⟩])))
   (.reg [] [
     ⟨(some 24), .binOp .add 3 (.tmp 11) (.const (.int .i64 1)) 3, 3, none, []⟩,
     ⟨(some 11), .move (.tmp 24), 3, none, []⟩])))))))
 (.seq (.reg [] [
   ⟨(some 25), .move (.tmp 5), 25, none, []⟩,
   ⟨(some 4), .assign (.tmp 25), 25, none, []⟩])
 (.ret))))
/-- (spadille/table.bunch).numbers -/
def c38 : RC :=
  .seq (.reg [] [
   ⟨(some 2), .box 63 (.tmp 0), 0, none, []⟩,
   ⟨(some 4), .assign (.const (.slice none 0 0)), 25, none, []⟩])
 (.seq (.reg [] [
   ⟨(some 8), .move (.tmp 1), 3, none, []⟩,
   ⟨(some 9), .binOp .shl 3 (.const (.int .i64 1)) (.tmp 8) 3, 3, none, []⟩,
   ⟨(some 10), .makeSlice 25 (.tmp 9) (.tmp 9), 25, none, []⟩,
   ⟨(some 5), .assign (.tmp 10), 25, none, []⟩])
 (.seq (.seq (.reg [] [
   ⟨(some 11), .move (.tmp 5), 25, none, []⟩,
   ⟨(some 12), .call ⟨.builtin .len, #[(.tmp 11)], #[25]⟩, 3, none, []⟩,
   ⟨(some 13), .move (.const (.int .i64 0)), 3, none, []⟩])
 (.block 0 (.loop (.seq (.reg [] [
     ⟨(some 14), .binOp .lss 3 (.tmp 13) (.tmp 12) 3, 0, none, []⟩])
   (.seq (.cond (.tmp 14) (.skip)
   (.exit 0))
   (.seq (.block 1 (.seq (.reg [] [
      ⟨(some 15), .move (.tmp 13), 3, none, []⟩,
      ⟨(some 6), .assign (.tmp 15), 3, none, []⟩])
    (.seq (.reg [] [
      ⟨(some 16), .move (.tmp 1), 3, none, []⟩,
      ⟨(some 17), .move (.const (.int .i64 0)), 3, none, []⟩])
    (.block 2 (.loop (.seq (.reg [] [
        ⟨(some 18), .binOp .lss 3 (.tmp 17) (.tmp 16) 3, 4, none, []⟩])
      (.seq (.cond (.tmp 18) (.skip)
      (.exit 2))
      (.seq (.block 3 (.seq (.reg [] [
         ⟨(some 19), .move (.tmp 17), 3, none, []⟩,
         ⟨(some 7), .assign (.tmp 19), 3, none, []⟩])
       (.reg [0, 1, 2, 3, 4, 5, 6, 7, 8, 9, 10, 11, 12, 13, 14, 15, 16, 17, 18, 19, 20] [
         ⟨(some 20), .move (.tmp 5), 25, none, []⟩,
         ⟨(some 21), .move (.tmp 6), 3, none, []⟩,
         ⟨(some 22), .move (.tmp 5), 25, none, []⟩,
         ⟨(some 23), .move (.tmp 6), 3, none, []⟩,
         ⟨(some 24), .indexAddr 25 (.tmp 22) (.tmp 23), 0, none, []⟩,
         ⟨(some 25), .load 3 (.tmp 24), 3, none, []⟩,
         ⟨(some 26), .binOp .shl 3 (.tmp 25) (.const (.int .u64 1)) 75, 3, none, []⟩,
         ⟨(some 27), .move (.tmp 7), 3, none, []⟩,
         ⟨(some 28), .move (.tmp 6), 3, none, []⟩,
         ⟨(some 29), .binOp .quo 3 (.tmp 28) (.const (.int .i64 64)) 3, 3, none, []⟩,
         ⟨(some 30), .indexAddr 63 (.tmp 2) (.tmp 27), 0, none, []⟩,
         ⟨(some 31), .indexAddr 61 (.tmp 30) (.tmp 29), 0, none, []⟩,
         ⟨(some 32), .load 60 (.tmp 31), 60, none, []⟩,
         ⟨(some 33), .move (.tmp 6), 3, none, []⟩,
         ⟨(some 34), .binOp .rem 3 (.tmp 33) (.const (.int .i64 64)) 3, 3, none, []⟩,
         ⟨(some 35), .binOp .shr 60 (.tmp 32) (.tmp 34) 3, 60, none, []⟩,
         ⟨(some 36), .binOp .and 60 (.tmp 35) (.const (.int .u64 1)) 60, 60, none, []⟩,
         ⟨(some 37), .convert 60 3 (.tmp 36), 3, none, []⟩,
         ⟨(some 38), .binOp .or 3 (.tmp 26) (.tmp 37) 3, 3, none, []⟩,
         ⟨(some 39), .indexAddr 25 (.tmp 20) (.tmp 21), 0, none, []⟩,
         ⟨none, .store 3 (.tmp 39) (.tmp 38), 0, none, []⟩])))
      (.reg [] [
        ⟨(some 40), .binOp .add 3 (.tmp 17) (.const (.int .i64 1)) 3, 3, none, []⟩,
        ⟨(some 17), .move (.tmp 40), 3, none, []⟩])))))))))
   (.reg [] [
     ⟨(some 41), .binOp .add 3 (.tmp 13) (.const (.int .i64 1)) 3, 3, none, []⟩,
     ⟨(some 13), .move (.tmp 41), 3, none, []⟩])))))))
 (.seq (.reg [] [
   ⟨(some 42), .move (.tmp 5), 25, none, []⟩,
   ⟨(some 4), .assign (.tmp 42), 25, none, []⟩])
 (.ret))))
/-- slices.Sort[[]int,int] -/
def c39 : RC :=
  .seq (.reg [] [
   ⟨(some 3), .move (.tmp 0), 25, none, []⟩,
   ⟨(some 4), .call ⟨.builtin .len, #[(.tmp 3)], #[25]⟩, 3, none, []⟩,
   ⟨(some 2), .assign (.tmp 4), 3, none, []⟩])
 (.reg [] [
   ⟨(some 5), .move (.tmp 0), 25, none, []⟩,
   ⟨(some 6), .move (.tmp 2), 3, none, []⟩,
   ⟨(some 7), .move (.tmp 2), 3, none, []⟩,
   ⟨(some 8), .convert 3 75 (.tmp 7), 75, none, []⟩,
   ⟨(some 9), .call ⟨.value (.func 49), #[(.tmp 8)], #[75]⟩, 3, none, []⟩,
   ⟨(some 10), .call ⟨.value (.func 48), #[(.tmp 5), (.const (.int .i64 0)), (.tmp 6), (.tmp 9)], #[25, 3, 3, 3]⟩, 0, none, []⟩])
/-- slices.Compact[[]int,int] -/
def c40 : RC :=
  .seq (.reg [] [
   ⟨(some 2), .assign (.const (.slice none 0 0)), 25, none, []⟩])
 (.seq (.seq (.reg [] [
   ⟨(some 6), .move (.tmp 0), 25, none, []⟩,
   ⟨(some 7), .call ⟨.builtin .len, #[(.tmp 6)], #[25]⟩, 3, none, []⟩,
   ⟨(some 8), .binOp .lss 3 (.tmp 7) (.const (.int .i64 2)) 3, 4, none, []⟩])
 (.cond (.tmp 8) (.seq (.reg [] [
    ⟨(some 9), .move (.tmp 0), 25, none, []⟩,
    ⟨(some 2), .assign (.tmp 9), 25, none, []⟩])
  (.ret))
 (.skip)))
 (.seq (.seq (.reg [] [
   ⟨(some 3), .assign (.const (.int .i64 1)), 3, none, []⟩])
 (.block 0 (.loop (.seq (.seq (.reg [] [
     ⟨(some 10), .move (.tmp 3), 3, none, []⟩,
     ⟨(some 11), .move (.tmp 0), 25, none, []⟩,
     ⟨(some 12), .call ⟨.builtin .len, #[(.tmp 11)], #[25]⟩, 3, none, []⟩,
     ⟨(some 13), .binOp .lss 3 (.tmp 10) (.tmp 12) 3, 4, none, []⟩])
   (.cond (.tmp 13) (.skip)
   (.exit 0)))
   (.seq (.block 1 (.seq (.reg [0, 1, 2, 3, 4, 5, 6, 7, 8, 9] [
      ⟨(some 16), .move (.tmp 0), 25, none, []⟩,
      ⟨(some 17), .move (.tmp 3), 3, none, []⟩,
      ⟨(some 18), .indexAddr 25 (.tmp 16) (.tmp 17), 0, none, []⟩,
      ⟨(some 19), .load 3 (.tmp 18), 3, none, []⟩,
      ⟨(some 20), .move (.tmp 0), 25, none, []⟩,
      ⟨(some 21), .move (.tmp 3), 3, none, []⟩,
      ⟨(some 22), .binOp .sub 3 (.tmp 21) (.const (.int .i64 1)) 3, 3, none, []⟩,
      ⟨(some 23), .indexAddr 25 (.tmp 20) (.tmp 22), 0, none, []⟩,
      ⟨(some 24), .load 3 (.tmp 23), 3, none, []⟩,
      ⟨(some 25), .binOp .eql 3 (.tmp 19) (.tmp 24) 3, 4, none, []⟩])
    (.cond (.tmp 25) (.seq (.reg [] [
       ⟨(some 26), .move (.tmp 0), 25, none, []⟩,
       ⟨(some 27), .move (.tmp 3), 3, none, []⟩,
       ⟨(some 28), .slice 25 (.tmp 26) (some (.tmp 27)) none none, 25, none, []⟩,
       ⟨(some 4), .assign (.tmp 28), 25, none, []⟩])
     (.seq (.seq (.reg [] [
       ⟨(some 5), .assign (.const (.int .i64 1)), 3, none, []⟩])
     (.block 2 (.loop (.seq (.seq (.reg [] [
         ⟨(some 29), .move (.tmp 5), 3, none, []⟩,
         ⟨(some 30), .move (.tmp 4), 25, none, []⟩,
         ⟨(some 31), .call ⟨.builtin .len, #[(.tmp 30)], #[25]⟩, 3, none, []⟩,
         ⟨(some 32), .binOp .lss 3 (.tmp 29) (.tmp 31) 3, 4, none, []⟩])
       (.cond (.tmp 32) (.skip)
       (.exit 2)))
       (.seq (.block 3 (.seq (.reg [0, 1, 2, 3, 4, 5, 6, 7, 8, 9] [
          ⟨(some 35), .move (.tmp 4), 25, none, []⟩,
          ⟨(some 36), .move (.tmp 5), 3, none, []⟩,
          ⟨(some 37), .indexAddr 25 (.tmp 35) (.tmp 36), 0, none, []⟩,
          ⟨(some 38), .load 3 (.tmp 37), 3, none, []⟩,
          ⟨(some 39), .move (.tmp 4), 25, none, []⟩,
          ⟨(some 40), .move (.tmp 5), 3, none, []⟩,
          ⟨(some 41), .binOp .sub 3 (.tmp 40) (.const (.int .i64 1)) 3, 3, none, []⟩,
          ⟨(some 42), .indexAddr 25 (.tmp 39) (.tmp 41), 0, none, []⟩,
          ⟨(some 43), .load 3 (.tmp 42), 3, none, []⟩,
          ⟨(some 44), .binOp .neq 3 (.tmp 38) (.tmp 43) 3, 4, none, []⟩])
        (.cond (.tmp 44) (.seq (.reg [] [
           ⟨(some 45), .move (.tmp 0), 25, none, []⟩,
           ⟨(some 46), .move (.tmp 3), 3, none, []⟩,
           ⟨(some 47), .move (.tmp 4), 25, none, []⟩,
           ⟨(some 48), .move (.tmp 5), 3, none, []⟩,
           ⟨(some 49), .indexAddr 25 (.tmp 47) (.tmp 48), 0, none, []⟩,
           ⟨(some 50), .load 3 (.tmp 49), 3, none, []⟩,
           ⟨(some 51), .indexAddr 25 (.tmp 45) (.tmp 46), 0, none, []⟩,
           ⟨none, .store 3 (.tmp 51) (.tmp 50), 0, none, []⟩])
         (.reg [] [
           ⟨(some 52), .move (.tmp 3), 3, none, []⟩,
           ⟨(some 53), .binOp .add 3 (.tmp 52) (.const (.int .i64 1)) 3, 3, none, []⟩,
           ⟨(some 3), .assign (.tmp 53), 3, none, []⟩]))
        (.skip))))
       (.reg [] [
         ⟨(some 33), .move (.tmp 5), 3, none, []⟩,
         ⟨(some 34), .binOp .add 3 (.tmp 33) (.const (.int .i64 1)) 3, 3, none, []⟩,
         ⟨(some 5), .assign (.tmp 34), 3, none, []⟩]))))))
     (.seq (.reg [] [
       ⟨(some 54), .move (.tmp 0), 25, none, []⟩,
       ⟨(some 55), .move (.tmp 3), 3, none, []⟩,
       ⟨(some 56), .slice 25 (.tmp 54) (some (.tmp 55)) none none, 25, none, []⟩,
       ⟨none, .call ⟨.builtin .clear, #[(.tmp 56)], #[25]⟩, 0, none, []⟩])
     (.seq (.reg [] [
       ⟨(some 57), .move (.tmp 0), 25, none, []⟩,
       ⟨(some 58), .move (.tmp 3), 3, none, []⟩,
       ⟨(some 59), .slice 25 (.tmp 57) none (some (.tmp 58)) none, 25, none, []⟩,
       ⟨(some 2), .assign (.tmp 59), 25, none, []⟩])
     (.ret)))))
    (.skip))))
   (.reg [] [
     ⟨(some 14), .move (.tmp 3), 3, none, []⟩,
     ⟨(some 15), .binOp .add 3 (.tmp 14) (.const (.int .i64 1)) 3, 3, none, []⟩,
     ⟨(some 3), .assign (.tmp 15), 3, none, []⟩]))))))
 (.seq (.reg [] [
   ⟨(some 60), .move (.tmp 0), 25, none, []⟩,
   ⟨(some 2), .assign (.tmp 60), 25, none, []⟩])
 (.ret))))
/-- spadille/table.all -/
def c41 : RC :=
  .seq (.reg [] [
   ⟨(some 2), .alloc 63, 0, none, []⟩])
 (.seq (.reg [] [
   ⟨(some 3), .alloc 63, 0, none, []⟩])
 (.seq (.seq (.reg [] [
   ⟨(some 6), .move (.tmp 0), 3, none, []⟩,
   ⟨(some 7), .binOp .shl 3 (.const (.int .i64 1)) (.tmp 6) 3, 3, none, []⟩,
   ⟨(some 8), .move (.const (.int .i64 0)), 3, none, []⟩])
 (.block 0 (.loop (.seq (.reg [] [
     ⟨(some 9), .binOp .lss 3 (.tmp 8) (.tmp 7) 3, 4, none, []⟩])
   (.seq (.cond (.tmp 9) (.skip)
   (.exit 0))
   (.seq (.block 1 (.seq (.reg [] [
      ⟨(some 10), .move (.tmp 8), 3, none, []⟩,
      ⟨(some 4), .assign (.tmp 10), 3, none, []⟩])
    (.seq (.reg [] [
      ⟨(some 11), .move (.tmp 0), 3, none, []⟩,
      ⟨(some 12), .move (.const (.int .i64 0)), 3, none, []⟩])
    (.block 2 (.loop (.seq (.reg [] [
        ⟨(some 13), .binOp .lss 3 (.tmp 12) (.tmp 11) 3, 4, none, []⟩])
      (.seq (.cond (.tmp 13) (.skip)
      (.exit 2))
      (.seq (.block 3 (.seq (.reg [] [
         ⟨(some 14), .move (.tmp 12), 3, none, []⟩,
         ⟨(some 5), .assign (.tmp 14), 3, none, []⟩])
       (.reg [0, 1, 2, 3, 4, 5, 6, 7, 8, 9, 10, 11, 12, 13, 14, 15, 16, 17, 18, 19, 20] [
         ⟨(some 15), .move (.tmp 5), 3, none, []⟩,
         ⟨(some 16), .move (.tmp 4), 3, none, []⟩,
         ⟨(some 17), .binOp .quo 3 (.tmp 16) (.const (.int .i64 64)) 3, 3, none, []⟩,
         ⟨(some 18), .indexAddr 63 (.tmp 3) (.tmp 15), 0, none, []⟩,
         ⟨(some 19), .indexAddr 61 (.tmp 18) (.tmp 17), 0, none, []⟩,
         ⟨(some 20), .load 60 (.tmp 19), 60, none, []⟩,
         ⟨(some 21), .move (.tmp 4), 3, none, []⟩,
         ⟨(some 22), .move (.tmp 0), 3, none, []⟩,
         ⟨(some 23), .binOp .sub 3 (.tmp 22) (.const (.int .i64 1)) 3, 3, none, []⟩,
         ⟨(some 24), .move (.tmp 5), 3, none, []⟩,
         ⟨(some 25), .binOp .sub 3 (.tmp 23) (.tmp 24) 3, 3, none, []⟩,
         ⟨(some 26), .binOp .shr 3 (.tmp 21) (.tmp 25) 3, 3, none, []⟩,
         ⟨(some 27), .binOp .and 3 (.tmp 26) (.const (.int .i64 1)) 3, 3, none, []⟩,
         ⟨(some 28), .convert 3 60 (.tmp 27), 60, none, []⟩,
         ⟨(some 29), .move (.tmp 4), 3, none, []⟩,
         ⟨(some 30), .binOp .rem 3 (.tmp 29) (.const (.int .i64 64)) 3, 3, none, []⟩,
         ⟨(some 31), .binOp .shl 60 (.tmp 28) (.tmp 30) 3, 60, none, []⟩,
         ⟨(some 32), .binOp .or 60 (.tmp 20) (.tmp 31) 60, 60, none, []⟩,
         ⟨(some 33), .indexAddr 63 (.tmp 3) (.tmp 15), 0, none, []⟩,
         ⟨(some 34), .indexAddr 61 (.tmp 33) (.tmp 17), 0, none, []⟩,
         ⟨none, .store 60 (.tmp 34) (.tmp 32), 0, none, []⟩])))
      (.reg [] [
        ⟨(some 35), .binOp .add 3 (.tmp 12) (.const (.int .i64 1)) 3, 3, none, []⟩,
        ⟨(some 12), .move (.tmp 35), 3, none, []⟩])))))))))
   (.reg [] [
     ⟨(some 36), .binOp .add 3 (.tmp 8) (.const (.int .i64 1)) 3, 3, none, []⟩,
     ⟨(some 8), .move (.tmp 36), 3, none, []⟩])))))))
 (.seq (.reg [] [
   ⟨(some 37), .load 63 (.tmp 3), 63, none, []⟩,
   ⟨none, .store 63 (.tmp 2) (.tmp 37), 0, none, []⟩])
 (.ret))))
/-- (spadille/table.bunch).pass -/
def c42 : RC :=
  .seq (.reg [] [
   ⟨(some 2), .box 63 (.tmp 0), 0, none, []⟩,
   ⟨(some 3), .box 55 (.tmp 1), 0, none, []⟩,
   ⟨(some 4), .alloc 63, 0, none, []⟩])
 (.seq (.seq (.reg [] [
   ⟨(some 8), .move (.const (.int .i64 0)), 3, none, []⟩])
 (.block 0 (.loop (.seq (.reg [] [
     ⟨(some 9), .binOp .lss 3 (.tmp 8) (.const (.int .i64 2)) 3, 0, none, []⟩])
   (.seq (.cond (.tmp 9) (.skip)
   (.exit 0))
   (.seq (.block 1 (.seq (.reg [] [
      ⟨(some 10), .move (.tmp 8), 3, none, []⟩,
      ⟨(some 5), .assign (.tmp 10), 3, none, []⟩])
    (.seq (.reg [0, 1, 2, 3, 4, 5, 6, 7, 8, 9, 10, 11, 12, 13] [
      ⟨(some 11), .indexAddr 55 (.tmp 3) (.const (.int .i64 0)), 0, none, []⟩,
      ⟨(some 12), .load 3 (.tmp 11), 3, none, []⟩,
      ⟨(some 13), .move (.tmp 5), 3, none, []⟩,
      ⟨(some 14), .indexAddr 63 (.tmp 2) (.tmp 12), 0, none, []⟩,
      ⟨(some 15), .indexAddr 61 (.tmp 14) (.tmp 13), 0, none, []⟩,
      ⟨(some 16), .load 60 (.tmp 15), 60, none, []⟩,
      ⟨(some 17), .indexAddr 55 (.tmp 3) (.const (.int .i64 1)), 0, none, []⟩,
      ⟨(some 18), .load 3 (.tmp 17), 3, none, []⟩,
      ⟨(some 19), .move (.tmp 5), 3, none, []⟩,
      ⟨(some 20), .indexAddr 63 (.tmp 2) (.tmp 18), 0, none, []⟩,
      ⟨(some 21), .indexAddr 61 (.tmp 20) (.tmp 19), 0, none, []⟩,
      ⟨(some 22), .load 60 (.tmp 21), 60, none, []⟩,
      ⟨(some 6), .assign (.tmp 16), 60, none, []⟩,
      ⟨(some 7), .assign (.tmp 22), 60, none, []⟩])
    (.reg [0, 1, 2, 3, 4, 5, 6, 7, 8, 9, 10, 11, 12, 13, 15, 14, 16, 17] [
      ⟨(some 23), .indexAddr 55 (.tmp 3) (.const (.int .i64 0)), 0, none, []⟩,
      ⟨(some 24), .load 3 (.tmp 23), 3, none, []⟩,
      ⟨(some 25), .move (.tmp 5), 3, none, []⟩,
      ⟨(some 26), .indexAddr 55 (.tmp 3) (.const (.int .i64 1)), 0, none, []⟩,
      ⟨(some 27), .load 3 (.tmp 26), 3, none, []⟩,
      ⟨(some 28), .move (.tmp 5), 3, none, []⟩,
      ⟨(some 29), .move (.tmp 6), 60, none, []⟩,
      ⟨(some 30), .move (.tmp 7), 60, none, []⟩,
      ⟨(some 31), .binOp .and 60 (.tmp 29) (.tmp 30) 60, 60, none, []⟩,
      ⟨(some 32), .move (.tmp 6), 60, none, []⟩,
      ⟨(some 33), .move (.tmp 7), 60, none, []⟩,
      ⟨(some 34), .binOp .or 60 (.tmp 32) (.tmp 33) 60, 60, none, []⟩,
      ⟨(some 35), .indexAddr 63 (.tmp 2) (.tmp 24), 0, none, []⟩,
      ⟨(some 36), .indexAddr 61 (.tmp 35) (.tmp 25), 0, none, []⟩,
      ⟨(some 37), .indexAddr 63 (.tmp 2) (.tmp 27), 0, none, []⟩,
      ⟨none, .store 60 (.tmp 36) (.tmp 31), 0, none, [(.tmp 26)]⟩,
      ⟨(some 38), .indexAddr 61 (.tmp 37) (.tmp 28), 0, none, []⟩,
      ⟨none, .store 60 (.tmp 38) (.tmp 34), 0, none, []⟩]))))
   (.reg [] [
     ⟨(some 39), .binOp .add 3 (.tmp 8) (.const (.int .i64 1)) 3, 3, none, []⟩,
     ⟨(some 8), .move (.tmp 39), 3, none, []⟩])))))))
 (.seq (.reg [] [
   ⟨(some 40), .load 63 (.tmp 2), 63, none, []⟩,
   ⟨none, .store 63 (.tmp 4) (.tmp 40), 0, none, []⟩])
 (.ret)))
/-- (spadille/table.bunch).through -/
def c43 : RC :=
  .seq (.reg [] [
   ⟨(some 2), .box 63 (.tmp 0), 0, none, []⟩,
   ⟨(some 4), .alloc 63, 0, none, []⟩])
 (.seq (.seq (.reg [] [
   ⟨(some 8), .move (.tmp 1), 22, none, []⟩,
   ⟨(some 9), .call ⟨.builtin .len, #[(.tmp 8)], #[22]⟩, 3, none, []⟩,
   ⟨(some 10), .move (.const (.int .i64 0)), 3, none, []⟩])
 (.block 0 (.loop (.seq (.reg [] [
     ⟨(some 11), .binOp .lss 3 (.tmp 10) (.tmp 9) 3, 0, none, []⟩])
   (.seq (.cond (.tmp 11) (.skip)
   (.exit 0))
   (.seq (.block 1 (.seq (.reg [] [
      ⟨(some 12), .indexAddr 22 (.tmp 8) (.tmp 10), 0, none, []⟩,
      ⟨(some 13), .load 55 (.tmp 12), 55, none, []⟩,
      ⟨(some 6), .alloc 55, 0, none, []⟩,
      ⟨none, .store 55 (.tmp 6) (.tmp 13), 0, none, []⟩])
    (.seq (.reg [] [
      ⟨(some 14), .load 63 (.tmp 2), 63, none, []⟩,
      ⟨(some 15), .makeFunc (.func 42) #[(.tmp 14)] #[], 71, none, []⟩,
      ⟨(some 7), .assign (.tmp 15), 71, none, []⟩])
    (.reg [] [
      ⟨(some 16), .move (.tmp 7), 71, none, []⟩,
      ⟨(some 17), .load 55 (.tmp 6), 55, none, []⟩,
      ⟨(some 18), .call ⟨.value (.tmp 16), #[(.tmp 17)], #[55]⟩, 63, none, []⟩,
      ⟨none, .store 63 (.tmp 2) (.tmp 18), 0, none, []⟩]))))
   (.reg [] [
     ⟨(some 19), .binOp .add 3 (.tmp 10) (.const (.int .i64 1)) 3, 3, none, []⟩,
     ⟨(some 10), .move (.tmp 19), 3, none, []⟩])))))))
 (.seq (.reg [] [
   ⟨(some 20), .load 63 (.tmp 2), 63, none, []⟩,
   ⟨none, .store 63 (.tmp 4) (.tmp 20), 0, none, []⟩])
 (.ret)))
/-- math/bits.OnesCount -/
def c44 : RC :=
  .seq (.reg [] [
   ⟨(some 2), .assign (.const (.int .i64 0)), 3, none, []⟩])
 (.seq (.cond (.const (.bool false)) (.seq (.reg [] [
    ⟨(some 3), .move (.tmp 0), 75, none, []⟩,
    ⟨(some 4), .convert 75 85 (.tmp 3), 85, none, []⟩,
    ⟨(some 5), .call ⟨.value (.func 50), #[(.tmp 4)], #[85]⟩, 3, none, []⟩,
    ⟨(some 2), .assign (.tmp 5), 3, none, []⟩])
  (.ret))
 (.skip))
 (.seq (.reg [] [
   ⟨(some 6), .move (.tmp 0), 75, none, []⟩,
   ⟨(some 7), .call ⟨.value (.func 51), #[(.tmp 6)], #[60]⟩, 3, none, []⟩,
   ⟨(some 2), .assign (.tmp 7), 3, none, []⟩])
 (.ret)))
/-- slices.Clip[[][2]int,[2]int] -/
def c45 : RC :=
  .seq (.reg [] [
   ⟨(some 2), .assign (.const (.slice none 0 0)), 22, none, []⟩])
 (.seq (.reg [] [
   ⟨(some 3), .move (.tmp 0), 22, none, []⟩,
   ⟨(some 4), .move (.tmp 0), 22, none, []⟩,
   ⟨(some 5), .call ⟨.builtin .len, #[(.tmp 4)], #[22]⟩, 3, none, []⟩,
   ⟨(some 6), .move (.tmp 0), 22, none, []⟩,
   ⟨(some 7), .call ⟨.builtin .len, #[(.tmp 6)], #[22]⟩, 3, none, []⟩,
   ⟨(some 8), .slice 22 (.tmp 3) none (some (.tmp 5)) (some (.tmp 7)), 22, none, []⟩,
   ⟨(some 2), .assign (.tmp 8), 22, none, []⟩])
 (.ret))
/-- cmp.Less[int] -/
def c46 : RC :=
  .seq (.reg [] [
   ⟨(some 4), .assign (.const (.bool false)), 4, none, []⟩])
 (.seq (.reg [] [
   ⟨(some 5), .move (.tmp 0), 3, none, []⟩,
   ⟨(some 6), .call ⟨.value (.func 52), #[(.tmp 5)], #[3]⟩, 4, none, []⟩,
   ⟨(some 7), .move (.tmp 6), 4, none, []⟩,
   ⟨(some 8), .move (.tmp 1), 3, (some ((some 7), true)), []⟩,
   ⟨(some 9), .call ⟨.value (.func 52), #[(.tmp 8)], #[3]⟩, 4, (some ((some 7), true)), []⟩,
   ⟨(some 10), .unOp .not 4 (.tmp 9), 4, (some ((some 7), true)), []⟩,
   ⟨(some 11), .pick (.tmp 7) (.tmp 10) (.const (.bool false)), 4, none, []⟩,
   ⟨(some 12), .move (.tmp 11), 4, none, []⟩,
   ⟨(some 13), .move (.tmp 0), 3, (some ((some 12), false)), []⟩,
   ⟨(some 14), .move (.tmp 1), 3, (some ((some 12), false)), []⟩,
   ⟨(some 15), .binOp .lss 3 (.tmp 13) (.tmp 14) 3, 4, (some ((some 12), false)), []⟩,
   ⟨(some 16), .pick (.tmp 12) (.const (.bool true)) (.tmp 15), 4, none, []⟩,
   ⟨(some 4), .assign (.tmp 16), 4, none, []⟩])
 (.ret))
/-- math/bits.TrailingZeros64 -/
def c47 : RC :=
  .seq (.reg [] [
   ⟨(some 2), .assign (.const (.int .i64 0)), 3, none, []⟩])
 (.seq (.seq (.reg [] [
   ⟨(some 3), .move (.tmp 0), 60, none, []⟩,
   ⟨(some 4), .binOp .eql 60 (.tmp 3) (.const (.int .u64 0)) 60, 4, none, []⟩])
 (.cond (.tmp 4) (.seq (.reg [] [
    ⟨(some 2), .assign (.const (.int .i64 64)), 3, none, []⟩])
  (.ret))
 (.skip)))
 (.seq (.reg [] [
   ⟨(some 5), .move (.tmp 0), 60, none, []⟩,
   ⟨(some 6), .move (.tmp 0), 60, none, []⟩,
   ⟨(some 7), .unOp .neg 60 (.tmp 6), 60, none, []⟩,
   ⟨(some 8), .binOp .and 60 (.tmp 5) (.tmp 7) 60, 60, none, []⟩,
   ⟨(some 9), .binOp .mul 60 (.tmp 8) (.const (.int .u64 285870213051353865)) 60, 60, none, []⟩,
   ⟨(some 10), .binOp .shr 60 (.tmp 9) (.const (.int .u64 58)) 75, 60, none, []⟩,
   ⟨(some 11), .indexAddr 87 (.global 0) (.tmp 10), 0, none, []⟩,
   ⟨(some 12), .load 5 (.tmp 11), 5, none, []⟩,
   ⟨(some 13), .convert 5 3 (.tmp 12), 3, none, []⟩,
   ⟨(some 2), .assign (.tmp 13), 3, none, []⟩])
 (.ret)))
/-- slices.pdqsortOrdered[int] -/
def c48 : RC :=
  .seq (.reg [] [
   ⟨(some 8), .assign (.const (.bool true)), 4, none, []⟩])
 (.seq (.reg [] [
   ⟨(some 9), .assign (.const (.bool true)), 4, none, []⟩])
 (.block 0 (.loop (.block 1 (.seq (.reg [] [
      ⟨(some 19), .move (.tmp 2), 3, none, []⟩,
      ⟨(some 20), .move (.tmp 1), 3, none, []⟩,
      ⟨(some 21), .binOp .sub 3 (.tmp 19) (.tmp 20) 3, 3, none, []⟩,
      ⟨(some 10), .assign (.tmp 21), 3, none, []⟩])
    (.seq (.seq (.reg [] [
      ⟨(some 22), .move (.tmp 10), 3, none, []⟩,
      ⟨(some 23), .binOp .leq 3 (.tmp 22) (.const (.int .i64 12)) 3, 4, none, []⟩])
    (.cond (.tmp 23) (.seq (.reg [] [
       ⟨(some 24), .move (.tmp 0), 25, none, []⟩,
       ⟨(some 25), .move (.tmp 1), 3, none, []⟩,
       ⟨(some 26), .move (.tmp 2), 3, none, []⟩,
       ⟨(some 27), .call ⟨.value (.func 53), #[(.tmp 24), (.tmp 25), (.tmp 26)], #[25, 3, 3]⟩, 0, none, []⟩])
     (.ret))
    (.skip)))
    (.seq (.seq (.reg [] [
      ⟨(some 28), .move (.tmp 3), 3, none, []⟩,
      ⟨(some 29), .binOp .eql 3 (.tmp 28) (.const (.int .i64 0)) 3, 4, none, []⟩])
    (.cond (.tmp 29) (.seq (.reg [] [
       ⟨(some 30), .move (.tmp 0), 25, none, []⟩,
       ⟨(some 31), .move (.tmp 1), 3, none, []⟩,
       ⟨(some 32), .move (.tmp 2), 3, none, []⟩,
       ⟨(some 33), .call ⟨.value (.func 54), #[(.tmp 30), (.tmp 31), (.tmp 32)], #[25, 3, 3]⟩, 0, none, []⟩])
     (.ret))
    (.skip)))
    (.seq (.seq (.reg [] [
      ⟨(some 34), .move (.tmp 8), 4, none, []⟩,
      ⟨(some 35), .unOp .not 4 (.tmp 34), 4, none, []⟩])
    (.cond (.tmp 35) (.seq (.reg [] [
       ⟨(some 36), .move (.tmp 0), 25, none, []⟩,
       ⟨(some 37), .move (.tmp 1), 3, none, []⟩,
       ⟨(some 38), .move (.tmp 2), 3, none, []⟩,
       ⟨(some 39), .call ⟨.value (.func 55), #[(.tmp 36), (.tmp 37), (.tmp 38)], #[25, 3, 3]⟩, 0, none, []⟩])
     (.reg [] [
       ⟨(some 40), .move (.tmp 3), 3, none, []⟩,
       ⟨(some 41), .binOp .sub 3 (.tmp 40) (.const (.int .i64 1)) 3, 3, none, []⟩,
       ⟨(some 3), .assign (.tmp 41), 3, none, []⟩]))
    (.skip)))
    (.seq (.reg [] [
      ⟨(some 43), .move (.tmp 0), 25, none, []⟩,
      ⟨(some 44), .move (.tmp 1), 3, none, []⟩,
      ⟨(some 45), .move (.tmp 2), 3, none, []⟩,
      ⟨(some 46), .call ⟨.value (.func 56), #[(.tmp 43), (.tmp 44), (.tmp 45)], #[25, 3, 3]⟩, 90, none, []⟩,
      ⟨(some 42), .move (.tmp 46), 90, none, []⟩,
      ⟨(some 47), .extract (.tmp 42) 0, 3, none, []⟩,
      ⟨(some 48), .extract (.tmp 42) 1, 89, none, []⟩,
      ⟨(some 11), .assign (.tmp 47), 3, none, []⟩,
      ⟨(some 12), .assign (.tmp 48), 89, none, []⟩])
    (.seq (.seq (.reg [] [
      ⟨(some 49), .move (.tmp 12), 89, none, []⟩,
      ⟨(some 50), .binOp .eql 89 (.tmp 49) (.const (.int .i64 2)) 89, 4, none, []⟩])
    (.cond (.tmp 50) (.seq (.reg [] [
       ⟨(some 51), .move (.tmp 0), 25, none, []⟩,
       ⟨(some 52), .move (.tmp 1), 3, none, []⟩,
       ⟨(some 53), .move (.tmp 2), 3, none, []⟩,
       ⟨(some 54), .call ⟨.value (.func 57), #[(.tmp 51), (.tmp 52), (.tmp 53)], #[25, 3, 3]⟩, 0, none, []⟩])
     (.seq (.reg [] [
       ⟨(some 55), .move (.tmp 2), 3, none, []⟩,
       ⟨(some 56), .binOp .sub 3 (.tmp 55) (.const (.int .i64 1)) 3, 3, none, []⟩,
       ⟨(some 57), .move (.tmp 11), 3, none, []⟩,
       ⟨(some 58), .move (.tmp 1), 3, none, []⟩,
       ⟨(some 59), .binOp .sub 3 (.tmp 57) (.tmp 58) 3, 3, none, []⟩,
       ⟨(some 60), .binOp .sub 3 (.tmp 56) (.tmp 59) 3, 3, none, []⟩,
       ⟨(some 11), .assign (.tmp 60), 3, none, []⟩])
     (.reg [] [
       ⟨(some 12), .assign (.const (.int .i64 1)), 89, none, []⟩])))
    (.skip)))
    (.seq (.seq (.reg [] [
      ⟨(some 61), .move (.tmp 8), 4, none, []⟩,
      ⟨(some 62), .move (.tmp 61), 4, none, []⟩,
      ⟨(some 63), .move (.tmp 9), 4, (some ((some 62), true)), []⟩,
      ⟨(some 64), .pick (.tmp 62) (.tmp 63) (.const (.bool false)), 4, none, []⟩,
      ⟨(some 65), .move (.tmp 64), 4, none, []⟩,
      ⟨(some 66), .move (.tmp 12), 89, (some ((some 65), true)), []⟩,
      ⟨(some 67), .binOp .eql 89 (.tmp 66) (.const (.int .i64 1)) 89, 4, (some ((some 65), true)), []⟩,
      ⟨(some 68), .pick (.tmp 65) (.tmp 67) (.const (.bool false)), 4, none, []⟩])
    (.cond (.tmp 68) (.seq (.reg [] [
       ⟨(some 69), .move (.tmp 0), 25, none, []⟩,
       ⟨(some 70), .move (.tmp 1), 3, none, []⟩,
       ⟨(some 71), .move (.tmp 2), 3, none, []⟩,
       ⟨(some 72), .call ⟨.value (.func 58), #[(.tmp 69), (.tmp 70), (.tmp 71)], #[25, 3, 3]⟩, 4, none, []⟩])
     (.cond (.tmp 72) (.ret)
     (.skip)))
    (.skip)))
    (.seq (.seq (.reg [0, 1, 2, 3, 4, 5, 6, 7, 8, 9, 10, 11, 12, 13, 14] [
      ⟨(some 73), .move (.tmp 1), 3, none, []⟩,
      ⟨(some 74), .binOp .gtr 3 (.tmp 73) (.const (.int .i64 0)) 3, 4, none, []⟩,
      ⟨(some 75), .move (.tmp 74), 4, none, []⟩,
      ⟨(some 76), .move (.tmp 0), 25, (some ((some 75), true)), []⟩,
      ⟨(some 77), .move (.tmp 1), 3, (some ((some 75), true)), []⟩,
      ⟨(some 78), .binOp .sub 3 (.tmp 77) (.const (.int .i64 1)) 3, 3, (some ((some 75), true)), []⟩,
      ⟨(some 79), .indexAddr 25 (.tmp 76) (.tmp 78), 0, (some ((some 75), true)), []⟩,
      ⟨(some 80), .load 3 (.tmp 79), 3, (some ((some 75), true)), []⟩,
      ⟨(some 81), .move (.tmp 0), 25, (some ((some 75), true)), []⟩,
      ⟨(some 82), .move (.tmp 11), 3, (some ((some 75), true)), []⟩,
      ⟨(some 83), .indexAddr 25 (.tmp 81) (.tmp 82), 0, (some ((some 75), true)), []⟩,
      ⟨(some 84), .load 3 (.tmp 83), 3, (some ((some 75), true)), []⟩,
      ⟨(some 85), .call ⟨.value (.func 46), #[(.tmp 80), (.tmp 84)], #[3, 3]⟩, 4, (some ((some 75), true)), []⟩,
      ⟨(some 86), .unOp .not 4 (.tmp 85), 4, (some ((some 75), true)), []⟩,
      ⟨(some 87), .pick (.tmp 75) (.tmp 86) (.const (.bool false)), 4, none, []⟩])
    (.cond (.tmp 87) (.seq (.reg [] [
       ⟨(some 88), .move (.tmp 0), 25, none, []⟩,
       ⟨(some 89), .move (.tmp 1), 3, none, []⟩,
       ⟨(some 90), .move (.tmp 2), 3, none, []⟩,
       ⟨(some 91), .move (.tmp 11), 3, none, []⟩,
       ⟨(some 92), .call ⟨.value (.func 59), #[(.tmp 88), (.tmp 89), (.tmp 90), (.tmp 91)], #[25, 3, 3, 3]⟩, 3, none, []⟩,
       ⟨(some 13), .assign (.tmp 92), 3, none, []⟩])
     (.seq (.reg [] [
       ⟨(some 93), .move (.tmp 13), 3, none, []⟩,
       ⟨(some 1), .assign (.tmp 93), 3, none, []⟩])
     (.exit 1)))
    (.skip)))
    (.seq (.reg [] [
      ⟨(some 95), .move (.tmp 0), 25, none, []⟩,
      ⟨(some 96), .move (.tmp 1), 3, none, []⟩,
      ⟨(some 97), .move (.tmp 2), 3, none, []⟩,
      ⟨(some 98), .move (.tmp 11), 3, none, []⟩,
      ⟨(some 99), .call ⟨.value (.func 60), #[(.tmp 95), (.tmp 96), (.tmp 97), (.tmp 98)], #[25, 3, 3, 3]⟩, 94, none, []⟩,
      ⟨(some 94), .move (.tmp 99), 94, none, []⟩,
      ⟨(some 100), .extract (.tmp 94) 0, 3, none, []⟩,
      ⟨(some 101), .extract (.tmp 94) 1, 4, none, []⟩,
      ⟨(some 14), .assign (.tmp 100), 3, none, []⟩,
      ⟨(some 15), .assign (.tmp 101), 4, none, []⟩])
    (.seq (.reg [] [
      ⟨(some 102), .move (.tmp 15), 4, none, []⟩,
      ⟨(some 9), .assign (.tmp 102), 4, none, []⟩])
    (.seq (.reg [] [
      ⟨(some 103), .move (.tmp 14), 3, none, []⟩,
      ⟨(some 104), .move (.tmp 1), 3, none, []⟩,
      ⟨(some 105), .binOp .sub 3 (.tmp 103) (.tmp 104) 3, 3, none, []⟩,
      ⟨(some 106), .move (.tmp 2), 3, none, []⟩,
      ⟨(some 107), .move (.tmp 14), 3, none, []⟩,
      ⟨(some 108), .binOp .sub 3 (.tmp 106) (.tmp 107) 3, 3, none, []⟩,
      ⟨(some 16), .assign (.tmp 105), 3, none, []⟩,
      ⟨(some 17), .assign (.tmp 108), 3, none, []⟩])
    (.seq (.reg [] [
      ⟨(some 109), .move (.tmp 10), 3, none, []⟩,
      ⟨(some 110), .binOp .quo 3 (.tmp 109) (.const (.int .i64 8)) 3, 3, none, []⟩,
      ⟨(some 18), .assign (.tmp 110), 3, none, []⟩])
    (.seq (.reg [] [
      ⟨(some 111), .move (.tmp 16), 3, none, []⟩,
      ⟨(some 112), .move (.tmp 17), 3, none, []⟩,
      ⟨(some 113), .binOp .lss 3 (.tmp 111) (.tmp 112) 3, 4, none, []⟩])
    (.cond (.tmp 113) (.seq (.reg [] [
       ⟨(some 114), .move (.tmp 16), 3, none, []⟩,
       ⟨(some 115), .move (.tmp 18), 3, none, []⟩,
       ⟨(some 116), .binOp .geq 3 (.tmp 114) (.tmp 115) 3, 4, none, []⟩,
       ⟨(some 8), .assign (.tmp 116), 4, none, []⟩])
     (.seq (.reg [] [
       ⟨(some 117), .move (.tmp 0), 25, none, []⟩,
       ⟨(some 118), .move (.tmp 1), 3, none, []⟩,
       ⟨(some 119), .move (.tmp 14), 3, none, []⟩,
       ⟨(some 120), .move (.tmp 3), 3, none, []⟩,
       ⟨(some 121), .call ⟨.value (.func 48), #[(.tmp 117), (.tmp 118), (.tmp 119), (.tmp 120)], #[25, 3, 3, 3]⟩, 0, none, []⟩])
     (.reg [] [
       ⟨(some 122), .move (.tmp 14), 3, none, []⟩,
       ⟨(some 123), .binOp .add 3 (.tmp 122) (.const (.int .i64 1)) 3, 3, none, []⟩,
       ⟨(some 1), .assign (.tmp 123), 3, none, []⟩])))
    (.seq (.reg [] [
       ⟨(some 124), .move (.tmp 17), 3, none, []⟩,
       ⟨(some 125), .move (.tmp 18), 3, none, []⟩,
       ⟨(some 126), .binOp .geq 3 (.tmp 124) (.tmp 125) 3, 4, none, []⟩,
       ⟨(some 8), .assign (.tmp 126), 4, none, []⟩])
     (.seq (.reg [] [
       ⟨(some 127), .move (.tmp 0), 25, none, []⟩,
       ⟨(some 128), .move (.tmp 14), 3, none, []⟩,
       ⟨(some 129), .binOp .add 3 (.tmp 128) (.const (.int .i64 1)) 3, 3, none, []⟩,
       ⟨(some 130), .move (.tmp 2), 3, none, []⟩,
       ⟨(some 131), .move (.tmp 3), 3, none, []⟩,
       ⟨(some 132), .call ⟨.value (.func 48), #[(.tmp 127), (.tmp 129), (.tmp 130), (.tmp 131)], #[25, 3, 3, 3]⟩, 0, none, []⟩])
     (.reg [] [
       ⟨(some 133), .move (.tmp 14), 3, none, []⟩,
       ⟨(some 2), .assign (.tmp 133), 3, none, []⟩])))))))))))))))))))))
/-- math/bits.Len -/
def c49 : RC :=
  .seq (.reg [] [
   ⟨(some 2), .assign (.const (.int .i64 0)), 3, none, []⟩])
 (.seq (.cond (.const (.bool false)) (.seq (.reg [] [
    ⟨(some 3), .move (.tmp 0), 75, none, []⟩,
    ⟨(some 4), .convert 75 85 (.tmp 3), 85, none, []⟩,
    ⟨(some 5), .call ⟨.value (.func 61), #[(.tmp 4)], #[85]⟩, 3, none, []⟩,
    ⟨(some 2), .assign (.tmp 5), 3, none, []⟩])
  (.ret))
 (.skip))
 (.seq (.reg [] [
   ⟨(some 6), .move (.tmp 0), 75, none, []⟩,
   ⟨(some 7), .call ⟨.value (.func 62), #[(.tmp 6)], #[60]⟩, 3, none, []⟩,
   ⟨(some 2), .assign (.tmp 7), 3, none, []⟩])
 (.ret)))
/-- math/bits.OnesCount32 -/
def c50 : RC :=
  .seq (.reg [] [
   ⟨(some 2), .assign (.const (.int .i64 0)), 3, none, []⟩])
 (.seq (.reg [0, 1, 2, 3, 4, 5, 6, 7, 8, 9, 10, 11, 12, 13, 14, 15, 16, 17, 18] [
   ⟨(some 3), .move (.tmp 0), 85, none, []⟩,
   ⟨(some 4), .binOp .shr 85 (.tmp 3) (.const (.int .u64 24)) 75, 85, none, []⟩,
   ⟨(some 5), .index 9 (.const (.string ⟨#[0, 1, 1, 2, 1, 2, 2, 3, 1, 2, 2, 3, 2, 3, 3, 4, 1, 2, 2, 3, 2, 3, 3, 4, 2, 3, 3, 4, 3, 4, 4, 5, 1, 2, 2, 3, 2, 3, 3, 4, 2, 3, 3, 4, 3, 4, 4, 5, 2, 3, 3, 4, 3, 4, 4, 5, 3, 4, 4, 5, 4, 5, 5, 6, 1, 2, 2, 3, 2, 3, 3, 4, 2, 3, 3, 4, 3, 4, 4, 5, 2, 3, 3, 4, 3, 4, 4, 5, 3, 4, 4, 5, 4, 5, 5, 6, 2, 3, 3, 4, 3, 4, 4, 5, 3, 4, 4, 5, 4, 5, 5, 6, 3, 4, 4, 5, 4, 5, 5, 6, 4, 5, 5, 6, 5, 6, 6, 7, 1, 2, 2, 3, 2, 3, 3, 4, 2, 3, 3, 4, 3, 4, 4, 5, 2, 3, 3, 4, 3, 4, 4, 5, 3, 4, 4, 5, 4, 5, 5, 6, 2, 3, 3, 4, 3, 4, 4, 5, 3, 4, 4, 5, 4, 5, 5, 6, 3, 4, 4, 5, 4, 5, 5, 6, 4, 5, 5, 6, 5, 6, 6, 7, 2, 3, 3, 4, 3, 4, 4, 5, 3, 4, 4, 5, 4, 5, 5, 6, 3, 4, 4, 5, 4, 5, 5, 6, 4, 5, 5, 6, 5, 6, 6, 7, 3, 4, 4, 5, 4, 5, 5, 6, 4, 5, 5, 6, 5, 6, 6, 7, 4, 5, 5, 6, 5, 6, 6, 7, 5, 6, 6, 7, 6, 7, 7, 8]⟩)) (.tmp 4), 5, none, []⟩,
   ⟨(some 6), .move (.tmp 0), 85, none, []⟩,
   ⟨(some 7), .binOp .shr 85 (.tmp 6) (.const (.int .u64 16)) 75, 85, none, []⟩,
   ⟨(some 8), .binOp .and 85 (.tmp 7) (.const (.int .u32 255)) 85, 85, none, []⟩,
   ⟨(some 9), .index 9 (.const (.string ⟨#[0, 1, 1, 2, 1, 2, 2, 3, 1, 2, 2, 3, 2, 3, 3, 4, 1, 2, 2, 3, 2, 3, 3, 4, 2, 3, 3, 4, 3, 4, 4, 5, 1, 2, 2, 3, 2, 3, 3, 4, 2, 3, 3, 4, 3, 4, 4, 5, 2, 3, 3, 4, 3, 4, 4, 5, 3, 4, 4, 5, 4, 5, 5, 6, 1, 2, 2, 3, 2, 3, 3, 4, 2, 3, 3, 4, 3, 4, 4, 5, 2, 3, 3, 4, 3, 4, 4, 5, 3, 4, 4, 5, 4, 5, 5, 6, 2, 3, 3, 4, 3, 4, 4, 5, 3, 4, 4, 5, 4, 5, 5, 6, 3, 4, 4, 5, 4, 5, 5, 6, 4, 5, 5, 6, 5, 6, 6, 7, 1, 2, 2, 3, 2, 3, 3, 4, 2, 3, 3, 4, 3, 4, 4, 5, 2, 3, 3, 4, 3, 4, 4, 5, 3, 4, 4, 5, 4, 5, 5, 6, 2, 3, 3, 4, 3, 4, 4, 5, 3, 4, 4, 5, 4, 5, 5, 6, 3, 4, 4, 5, 4, 5, 5, 6, 4, 5, 5, 6, 5, 6, 6, 7, 2, 3, 3, 4, 3, 4, 4, 5, 3, 4, 4, 5, 4, 5, 5, 6, 3, 4, 4, 5, 4, 5, 5, 6, 4, 5, 5, 6, 5, 6, 6, 7, 3, 4, 4, 5, 4, 5, 5, 6, 4, 5, 5, 6, 5, 6, 6, 7, 4, 5, 5, 6, 5, 6, 6, 7, 5, 6, 6, 7, 6, 7, 7, 8]⟩)) (.tmp 8), 5, none, []⟩,
   ⟨(some 10), .binOp .add 5 (.tmp 5) (.tmp 9) 5, 5, none, []⟩,
   ⟨(some 11), .move (.tmp 0), 85, none, []⟩,
   ⟨(some 12), .binOp .shr 85 (.tmp 11) (.const (.int .u64 8)) 75, 85, none, []⟩,
   ⟨(some 13), .binOp .and 85 (.tmp 12) (.const (.int .u32 255)) 85, 85, none, []⟩,
   ⟨(some 14), .index 9 (.const (.string ⟨#[0, 1, 1, 2, 1, 2, 2, 3, 1, 2, 2, 3, 2, 3, 3, 4, 1, 2, 2, 3, 2, 3, 3, 4, 2, 3, 3, 4, 3, 4, 4, 5, 1, 2, 2, 3, 2, 3, 3, 4, 2, 3, 3, 4, 3, 4, 4, 5, 2, 3, 3, 4, 3, 4, 4, 5, 3, 4, 4, 5, 4, 5, 5, 6, 1, 2, 2, 3, 2, 3, 3, 4, 2, 3, 3, 4, 3, 4, 4, 5, 2, 3, 3, 4, 3, 4, 4, 5, 3, 4, 4, 5, 4, 5, 5, 6, 2, 3, 3, 4, 3, 4, 4, 5, 3, 4, 4, 5, 4, 5, 5, 6, 3, 4, 4, 5, 4, 5, 5, 6, 4, 5, 5, 6, 5, 6, 6, 7, 1, 2, 2, 3, 2, 3, 3, 4, 2, 3, 3, 4, 3, 4, 4, 5, 2, 3, 3, 4, 3, 4, 4, 5, 3, 4, 4, 5, 4, 5, 5, 6, 2, 3, 3, 4, 3, 4, 4, 5, 3, 4, 4, 5, 4, 5, 5, 6, 3, 4, 4, 5, 4, 5, 5, 6, 4, 5, 5, 6, 5, 6, 6, 7, 2, 3, 3, 4, 3, 4, 4, 5, 3, 4, 4, 5, 4, 5, 5, 6, 3, 4, 4, 5, 4, 5, 5, 6, 4, 5, 5, 6, 5, 6, 6, 7, 3, 4, 4, 5, 4, 5, 5, 6, 4, 5, 5, 6, 5, 6, 6, 7, 4, 5, 5, 6, 5, 6, 6, 7, 5, 6, 6, 7, 6, 7, 7, 8]⟩)) (.tmp 13), 5, none, []⟩,
   ⟨(some 15), .binOp .add 5 (.tmp 10) (.tmp 14) 5, 5, none, []⟩,
   ⟨(some 16), .move (.tmp 0), 85, none, []⟩,
   ⟨(some 17), .binOp .and 85 (.tmp 16) (.const (.int .u32 255)) 85, 85, none, []⟩,
   ⟨(some 18), .index 9 (.const (.string ⟨#[0, 1, 1, 2, 1, 2, 2, 3, 1, 2, 2, 3, 2, 3, 3, 4, 1, 2, 2, 3, 2, 3, 3, 4, 2, 3, 3, 4, 3, 4, 4, 5, 1, 2, 2, 3, 2, 3, 3, 4, 2, 3, 3, 4, 3, 4, 4, 5, 2, 3, 3, 4, 3, 4, 4, 5, 3, 4, 4, 5, 4, 5, 5, 6, 1, 2, 2, 3, 2, 3, 3, 4, 2, 3, 3, 4, 3, 4, 4, 5, 2, 3, 3, 4, 3, 4, 4, 5, 3, 4, 4, 5, 4, 5, 5, 6, 2, 3, 3, 4, 3, 4, 4, 5, 3, 4, 4, 5, 4, 5, 5, 6, 3, 4, 4, 5, 4, 5, 5, 6, 4, 5, 5, 6, 5, 6, 6, 7, 1, 2, 2, 3, 2, 3, 3, 4, 2, 3, 3, 4, 3, 4, 4, 5, 2, 3, 3, 4, 3, 4, 4, 5, 3, 4, 4, 5, 4, 5, 5, 6, 2, 3, 3, 4, 3, 4, 4, 5, 3, 4, 4, 5, 4, 5, 5, 6, 3, 4, 4, 5, 4, 5, 5, 6, 4, 5, 5, 6, 5, 6, 6, 7, 2, 3, 3, 4, 3, 4, 4, 5, 3, 4, 4, 5, 4, 5, 5, 6, 3, 4, 4, 5, 4, 5, 5, 6, 4, 5, 5, 6, 5, 6, 6, 7, 3, 4, 4, 5, 4, 5, 5, 6, 4, 5, 5, 6, 5, 6, 6, 7, 4, 5, 5, 6, 5, 6, 6, 7, 5, 6, 6, 7, 6, 7, 7, 8]⟩)) (.tmp 17), 5, none, []⟩,
   ⟨(some 19), .binOp .add 5 (.tmp 15) (.tmp 18) 5, 5, none, []⟩,
   ⟨(some 20), .convert 5 3 (.tmp 19), 3, none, []⟩,
   ⟨(some 2), .assign (.tmp 20), 3, none, []⟩])
 (.ret))
/-- math/bits.OnesCount64 -/
def c51 : RC :=
  .seq (.reg [] [
   ⟨(some 2), .assign (.const (.int .i64 0)), 3, none, []⟩])
 (.seq (.reg [] [
   ⟨(some 3), .move (.tmp 0), 60, none, []⟩,
   ⟨(some 4), .binOp .shr 60 (.tmp 3) (.const (.int .u64 1)) 75, 60, none, []⟩,
   ⟨(some 5), .binOp .and 60 (.tmp 4) (.const (.int .u64 6148914691236517205)) 60, 60, none, []⟩,
   ⟨(some 6), .move (.tmp 0), 60, none, []⟩,
   ⟨(some 7), .binOp .and 60 (.tmp 6) (.const (.int .u64 6148914691236517205)) 60, 60, none, []⟩,
   ⟨(some 8), .binOp .add 60 (.tmp 5) (.tmp 7) 60, 60, none, []⟩,
   ⟨(some 0), .assign (.tmp 8), 60, none, []⟩])
 (.seq (.reg [] [
   ⟨(some 9), .move (.tmp 0), 60, none, []⟩,
   ⟨(some 10), .binOp .shr 60 (.tmp 9) (.const (.int .u64 2)) 75, 60, none, []⟩,
   ⟨(some 11), .binOp .and 60 (.tmp 10) (.const (.int .u64 3689348814741910323)) 60, 60, none, []⟩,
   ⟨(some 12), .move (.tmp 0), 60, none, []⟩,
   ⟨(some 13), .binOp .and 60 (.tmp 12) (.const (.int .u64 3689348814741910323)) 60, 60, none, []⟩,
   ⟨(some 14), .binOp .add 60 (.tmp 11) (.tmp 13) 60, 60, none, []⟩,
   ⟨(some 0), .assign (.tmp 14), 60, none, []⟩])
 (.seq (.reg [] [
   ⟨(some 15), .move (.tmp 0), 60, none, []⟩,
   ⟨(some 16), .binOp .shr 60 (.tmp 15) (.const (.int .u64 4)) 75, 60, none, []⟩,
   ⟨(some 17), .move (.tmp 0), 60, none, []⟩,
   ⟨(some 18), .binOp .add 60 (.tmp 16) (.tmp 17) 60, 60, none, []⟩,
   ⟨(some 19), .binOp .and 60 (.tmp 18) (.const (.int .u64 1085102592571150095)) 60, 60, none, []⟩,
   ⟨(some 0), .assign (.tmp 19), 60, none, []⟩])
 (.seq (.reg [] [
   ⟨(some 20), .move (.tmp 0), 60, none, []⟩,
   ⟨(some 21), .move (.tmp 0), 60, none, []⟩,
   ⟨(some 22), .binOp .shr 60 (.tmp 21) (.const (.int .u64 8)) 75, 60, none, []⟩,
   ⟨(some 23), .binOp .add 60 (.tmp 20) (.tmp 22) 60, 60, none, []⟩,
   ⟨(some 0), .assign (.tmp 23), 60, none, []⟩])
 (.seq (.reg [] [
   ⟨(some 24), .move (.tmp 0), 60, none, []⟩,
   ⟨(some 25), .move (.tmp 0), 60, none, []⟩,
   ⟨(some 26), .binOp .shr 60 (.tmp 25) (.const (.int .u64 16)) 75, 60, none, []⟩,
   ⟨(some 27), .binOp .add 60 (.tmp 24) (.tmp 26) 60, 60, none, []⟩,
   ⟨(some 0), .assign (.tmp 27), 60, none, []⟩])
 (.seq (.reg [] [
   ⟨(some 28), .move (.tmp 0), 60, none, []⟩,
   ⟨(some 29), .move (.tmp 0), 60, none, []⟩,
   ⟨(some 30), .binOp .shr 60 (.tmp 29) (.const (.int .u64 32)) 75, 60, none, []⟩,
   ⟨(some 31), .binOp .add 60 (.tmp 28) (.tmp 30) 60, 60, none, []⟩,
   ⟨(some 0), .assign (.tmp 31), 60, none, []⟩])
 (.seq (.reg [] [
   ⟨(some 32), .move (.tmp 0), 60, none, []⟩,
   ⟨(some 33), .convert 60 3 (.tmp 32), 3, none, []⟩,
   ⟨(some 34), .binOp .and 3 (.tmp 33) (.const (.int .i64 127)) 3, 3, none, []⟩,
   ⟨(some 2), .assign (.tmp 34), 3, none, []⟩])
 (.ret))))))))
/-- cmp.isNaN[int] -/
def c52 : RC :=
  .seq (.reg [] [
   ⟨(some 2), .assign (.const (.bool false)), 4, none, []⟩])
 (.seq (.reg [] [
   ⟨(some 3), .move (.tmp 0), 3, none, []⟩,
   ⟨(some 4), .move (.tmp 0), 3, none, []⟩,
   ⟨(some 5), .binOp .neq 3 (.tmp 3) (.tmp 4) 3, 4, none, []⟩,
   ⟨(some 2), .assign (.tmp 5), 4, none, []⟩])
 (.ret))
/-- slices.insertionSortOrdered[int] -/
def c53 : RC :=
  .seq (.reg [] [
   ⟨(some 8), .move (.tmp 1), 3, none, []⟩,
   ⟨(some 9), .binOp .add 3 (.tmp 8) (.const (.int .i64 1)) 3, 3, none, []⟩,
   ⟨(some 6), .assign (.tmp 9), 3, none, []⟩])
 (.block 0 (.loop (.seq (.seq (.reg [] [
     ⟨(some 10), .move (.tmp 6), 3, none, []⟩,
     ⟨(some 11), .move (.tmp 2), 3, none, []⟩,
     ⟨(some 12), .binOp .lss 3 (.tmp 10) (.tmp 11) 3, 4, none, []⟩])
   (.cond (.tmp 12) (.skip)
   (.exit 0)))
   (.seq (.block 1 (.seq (.reg [] [
      ⟨(some 15), .move (.tmp 6), 3, none, []⟩,
      ⟨(some 7), .assign (.tmp 15), 3, none, []⟩])
    (.block 2 (.loop (.seq (.seq (.reg [0, 1, 2, 3, 4, 5, 6, 7, 8, 9, 10, 11, 12, 13, 14] [
        ⟨(some 16), .move (.tmp 7), 3, none, []⟩,
        ⟨(some 17), .move (.tmp 1), 3, none, []⟩,
        ⟨(some 18), .binOp .gtr 3 (.tmp 16) (.tmp 17) 3, 4, none, []⟩,
        ⟨(some 19), .move (.tmp 18), 4, none, []⟩,
        ⟨(some 20), .move (.tmp 0), 25, (some ((some 19), true)), []⟩,
        ⟨(some 21), .move (.tmp 7), 3, (some ((some 19), true)), []⟩,
        ⟨(some 22), .indexAddr 25 (.tmp 20) (.tmp 21), 0, (some ((some 19), true)), []⟩,
        ⟨(some 23), .load 3 (.tmp 22), 3, (some ((some 19), true)), []⟩,
        ⟨(some 24), .move (.tmp 0), 25, (some ((some 19), true)), []⟩,
        ⟨(some 25), .move (.tmp 7), 3, (some ((some 19), true)), []⟩,
        ⟨(some 26), .binOp .sub 3 (.tmp 25) (.const (.int .i64 1)) 3, 3, (some ((some 19), true)), []⟩,
        ⟨(some 27), .indexAddr 25 (.tmp 24) (.tmp 26), 0, (some ((some 19), true)), []⟩,
        ⟨(some 28), .load 3 (.tmp 27), 3, (some ((some 19), true)), []⟩,
        ⟨(some 29), .call ⟨.value (.func 46), #[(.tmp 23), (.tmp 28)], #[3, 3]⟩, 4, (some ((some 19), true)), []⟩,
        ⟨(some 30), .pick (.tmp 19) (.tmp 29) (.const (.bool false)), 4, none, []⟩])
      (.cond (.tmp 30) (.skip)
      (.exit 2)))
      (.seq (.block 3 (.reg [0, 1, 2, 3, 4, 5, 6, 7, 8, 9, 10, 11, 12, 13, 14, 15, 16, 17] [
         ⟨(some 33), .move (.tmp 0), 25, none, []⟩,
         ⟨(some 34), .move (.tmp 7), 3, none, []⟩,
         ⟨(some 35), .move (.tmp 0), 25, none, []⟩,
         ⟨(some 36), .move (.tmp 7), 3, none, []⟩,
         ⟨(some 37), .binOp .sub 3 (.tmp 36) (.const (.int .i64 1)) 3, 3, none, []⟩,
         ⟨(some 38), .move (.tmp 0), 25, none, []⟩,
         ⟨(some 39), .move (.tmp 7), 3, none, []⟩,
         ⟨(some 40), .binOp .sub 3 (.tmp 39) (.const (.int .i64 1)) 3, 3, none, []⟩,
         ⟨(some 41), .indexAddr 25 (.tmp 38) (.tmp 40), 0, none, []⟩,
         ⟨(some 42), .load 3 (.tmp 41), 3, none, []⟩,
         ⟨(some 43), .move (.tmp 0), 25, none, []⟩,
         ⟨(some 44), .move (.tmp 7), 3, none, []⟩,
         ⟨(some 45), .indexAddr 25 (.tmp 43) (.tmp 44), 0, none, []⟩,
         ⟨(some 46), .load 3 (.tmp 45), 3, none, []⟩,
         ⟨(some 47), .indexAddr 25 (.tmp 33) (.tmp 34), 0, none, []⟩,
         ⟨none, .store 3 (.tmp 47) (.tmp 42), 0, none, []⟩,
         ⟨(some 48), .indexAddr 25 (.tmp 35) (.tmp 37), 0, none, []⟩,
         ⟨none, .store 3 (.tmp 48) (.tmp 46), 0, none, []⟩]))
      (.reg [] [
        ⟨(some 31), .move (.tmp 7), 3, none, []⟩,
        ⟨(some 32), .binOp .sub 3 (.tmp 31) (.const (.int .i64 1)) 3, 3, none, []⟩,
        ⟨(some 7), .assign (.tmp 32), 3, none, []⟩])))))))
   (.reg [] [
     ⟨(some 13), .move (.tmp 6), 3, none, []⟩,
     ⟨(some 14), .binOp .add 3 (.tmp 13) (.const (.int .i64 1)) 3, 3, none, []⟩,
     ⟨(some 6), .assign (.tmp 14), 3, none, []⟩])))))
/-- slices.heapSortOrdered[int] -/
def c54 : RC :=
  .seq (.reg [] [
   ⟨(some 11), .move (.tmp 1), 3, none, []⟩,
   ⟨(some 6), .assign (.tmp 11), 3, none, []⟩])
 (.seq (.reg [] [
   ⟨(some 7), .assign (.const (.int .i64 0)), 3, none, []⟩])
 (.seq (.reg [] [
   ⟨(some 12), .move (.tmp 2), 3, none, []⟩,
   ⟨(some 13), .move (.tmp 1), 3, none, []⟩,
   ⟨(some 14), .binOp .sub 3 (.tmp 12) (.tmp 13) 3, 3, none, []⟩,
   ⟨(some 8), .assign (.tmp 14), 3, none, []⟩])
 (.seq (.seq (.reg [] [
   ⟨(some 15), .move (.tmp 8), 3, none, []⟩,
   ⟨(some 16), .binOp .sub 3 (.tmp 15) (.const (.int .i64 1)) 3, 3, none, []⟩,
   ⟨(some 17), .binOp .quo 3 (.tmp 16) (.const (.int .i64 2)) 3, 3, none, []⟩,
   ⟨(some 9), .assign (.tmp 17), 3, none, []⟩])
 (.block 0 (.loop (.seq (.seq (.reg [] [
     ⟨(some 18), .move (.tmp 9), 3, none, []⟩,
     ⟨(some 19), .binOp .geq 3 (.tmp 18) (.const (.int .i64 0)) 3, 4, none, []⟩])
   (.cond (.tmp 19) (.skip)
   (.exit 0)))
   (.seq (.block 1 (.reg [] [
      ⟨(some 22), .move (.tmp 0), 25, none, []⟩,
      ⟨(some 23), .move (.tmp 9), 3, none, []⟩,
      ⟨(some 24), .move (.tmp 8), 3, none, []⟩,
      ⟨(some 25), .move (.tmp 6), 3, none, []⟩,
      ⟨(some 26), .call ⟨.value (.func 63), #[(.tmp 22), (.tmp 23), (.tmp 24), (.tmp 25)], #[25, 3, 3, 3]⟩, 0, none, []⟩]))
   (.reg [] [
     ⟨(some 20), .move (.tmp 9), 3, none, []⟩,
     ⟨(some 21), .binOp .sub 3 (.tmp 20) (.const (.int .i64 1)) 3, 3, none, []⟩,
     ⟨(some 9), .assign (.tmp 21), 3, none, []⟩]))))))
 (.seq (.reg [] [
   ⟨(some 27), .move (.tmp 8), 3, none, []⟩,
   ⟨(some 28), .binOp .sub 3 (.tmp 27) (.const (.int .i64 1)) 3, 3, none, []⟩,
   ⟨(some 10), .assign (.tmp 28), 3, none, []⟩])
 (.block 2 (.loop (.seq (.seq (.reg [] [
     ⟨(some 29), .move (.tmp 10), 3, none, []⟩,
     ⟨(some 30), .binOp .geq 3 (.tmp 29) (.const (.int .i64 0)) 3, 4, none, []⟩])
   (.cond (.tmp 30) (.skip)
   (.exit 2)))
   (.seq (.block 3 (.seq (.reg [0, 1, 2, 3, 4, 5, 6, 7, 8, 9, 10, 11, 12, 13, 14, 15, 16, 17, 18, 19] [
      ⟨(some 33), .move (.tmp 0), 25, none, []⟩,
      ⟨(some 34), .move (.tmp 6), 3, none, []⟩,
      ⟨(some 35), .move (.tmp 0), 25, none, []⟩,
      ⟨(some 36), .move (.tmp 6), 3, none, []⟩,
      ⟨(some 37), .move (.tmp 10), 3, none, []⟩,
      ⟨(some 38), .binOp .add 3 (.tmp 36) (.tmp 37) 3, 3, none, []⟩,
      ⟨(some 39), .move (.tmp 0), 25, none, []⟩,
      ⟨(some 40), .move (.tmp 6), 3, none, []⟩,
      ⟨(some 41), .move (.tmp 10), 3, none, []⟩,
      ⟨(some 42), .binOp .add 3 (.tmp 40) (.tmp 41) 3, 3, none, []⟩,
      ⟨(some 43), .indexAddr 25 (.tmp 39) (.tmp 42), 0, none, []⟩,
      ⟨(some 44), .load 3 (.tmp 43), 3, none, []⟩,
      ⟨(some 45), .move (.tmp 0), 25, none, []⟩,
      ⟨(some 46), .move (.tmp 6), 3, none, []⟩,
      ⟨(some 47), .indexAddr 25 (.tmp 45) (.tmp 46), 0, none, []⟩,
      ⟨(some 48), .load 3 (.tmp 47), 3, none, []⟩,
      ⟨(some 49), .indexAddr 25 (.tmp 33) (.tmp 34), 0, none, []⟩,
      ⟨none, .store 3 (.tmp 49) (.tmp 44), 0, none, []⟩,
      ⟨(some 50), .indexAddr 25 (.tmp 35) (.tmp 38), 0, none, []⟩,
      ⟨none, .store 3 (.tmp 50) (.tmp 48), 0, none, []⟩])
    (.reg [] [
      ⟨(some 51), .move (.tmp 0), 25, none, []⟩,
      ⟨(some 52), .move (.tmp 7), 3, none, []⟩,
      ⟨(some 53), .move (.tmp 10), 3, none, []⟩,
      ⟨(some 54), .move (.tmp 6), 3, none, []⟩,
      ⟨(some 55), .call ⟨.value (.func 63), #[(.tmp 51), (.tmp 52), (.tmp 53), (.tmp 54)], #[25, 3, 3, 3]⟩, 0, none, []⟩])))
   (.reg [] [
     ⟨(some 31), .move (.tmp 10), 3, none, []⟩,
     ⟨(some 32), .binOp .sub 3 (.tmp 31) (.const (.int .i64 1)) 3, 3, none, []⟩,
     ⟨(some 10), .assign (.tmp 32), 3, none, []⟩])))))))))
/-- slices.breakPatternsOrdered[int] -/
def c55 : RC :=
  .seq (.reg [] [
   ⟨(some 11), .move (.tmp 2), 3, none, []⟩,
   ⟨(some 12), .move (.tmp 1), 3, none, []⟩,
   ⟨(some 13), .binOp .sub 3 (.tmp 11) (.tmp 12) 3, 3, none, []⟩,
   ⟨(some 6), .assign (.tmp 13), 3, none, []⟩])
 (.seq (.reg [] [
   ⟨(some 14), .move (.tmp 6), 3, none, []⟩,
   ⟨(some 15), .binOp .geq 3 (.tmp 14) (.const (.int .i64 8)) 3, 4, none, []⟩])
 (.cond (.tmp 15) (.seq (.reg [] [
    ⟨(some 16), .move (.tmp 6), 3, none, []⟩,
    ⟨(some 17), .convert 3 96 (.tmp 16), 96, none, []⟩,
    ⟨(some 7), .alloc 96, 0, none, []⟩,
    ⟨none, .store 96 (.tmp 7) (.tmp 17), 0, none, []⟩])
  (.seq (.reg [] [
    ⟨(some 18), .move (.tmp 6), 3, none, []⟩,
    ⟨(some 19), .call ⟨.value (.func 64), #[(.tmp 18)], #[3]⟩, 75, none, []⟩,
    ⟨(some 8), .assign (.tmp 19), 75, none, []⟩])
  (.seq (.reg [] [
    ⟨(some 20), .move (.tmp 1), 3, none, []⟩,
    ⟨(some 21), .move (.tmp 6), 3, none, []⟩,
    ⟨(some 22), .binOp .quo 3 (.tmp 21) (.const (.int .i64 4)) 3, 3, none, []⟩,
    ⟨(some 23), .binOp .mul 3 (.tmp 22) (.const (.int .i64 2)) 3, 3, none, []⟩,
    ⟨(some 24), .binOp .add 3 (.tmp 20) (.tmp 23) 3, 3, none, []⟩,
    ⟨(some 25), .binOp .sub 3 (.tmp 24) (.const (.int .i64 1)) 3, 3, none, []⟩,
    ⟨(some 9), .assign (.tmp 25), 3, none, []⟩])
  (.block 0 (.loop (.seq (.seq (.reg [] [
      ⟨(some 26), .move (.tmp 9), 3, none, []⟩,
      ⟨(some 27), .move (.tmp 1), 3, none, []⟩,
      ⟨(some 28), .move (.tmp 6), 3, none, []⟩,
      ⟨(some 29), .binOp .quo 3 (.tmp 28) (.const (.int .i64 4)) 3, 3, none, []⟩,
      ⟨(some 30), .binOp .mul 3 (.tmp 29) (.const (.int .i64 2)) 3, 3, none, []⟩,
      ⟨(some 31), .binOp .add 3 (.tmp 27) (.tmp 30) 3, 3, none, []⟩,
      ⟨(some 32), .binOp .add 3 (.tmp 31) (.const (.int .i64 1)) 3, 3, none, []⟩,
      ⟨(some 33), .binOp .leq 3 (.tmp 26) (.tmp 32) 3, 4, none, []⟩])
    (.cond (.tmp 33) (.skip)
    (.exit 0)))
    (.seq (.block 1 (.seq (.reg [] [
       ⟨(some 36), .call ⟨.value (.func 65), #[(.tmp 7)], #[96]⟩, 60, none, []⟩,
       ⟨(some 37), .move (.tmp 8), 75, none, []⟩,
       ⟨(some 38), .binOp .sub 75 (.tmp 37) (.const (.int .u64 1)) 75, 75, none, []⟩,
       ⟨(some 39), .binOp .and 75 (.tmp 36) (.tmp 38) 75, 75, none, []⟩,
       ⟨(some 40), .convert 75 3 (.tmp 39), 3, none, []⟩,
       ⟨(some 10), .assign (.tmp 40), 3, none, []⟩])
     (.seq (.seq (.reg [] [
       ⟨(some 41), .move (.tmp 10), 3, none, []⟩,
       ⟨(some 42), .move (.tmp 6), 3, none, []⟩,
       ⟨(some 43), .binOp .geq 3 (.tmp 41) (.tmp 42) 3, 4, none, []⟩])
     (.cond (.tmp 43) (.reg [] [
        ⟨(some 44), .move (.tmp 10), 3, none, []⟩,
        ⟨(some 45), .move (.tmp 6), 3, none, []⟩,
        ⟨(some 46), .binOp .sub 3 (.tmp 44) (.tmp 45) 3, 3, none, []⟩,
        ⟨(some 10), .assign (.tmp 46), 3, none, []⟩])
     (.skip)))
     (.reg [0, 1, 2, 3, 4, 5, 6, 7, 8, 9, 10, 11, 12, 13, 14, 15, 16, 17, 18, 19] [
       ⟨(some 47), .move (.tmp 0), 25, none, []⟩,
       ⟨(some 48), .move (.tmp 9), 3, none, []⟩,
       ⟨(some 49), .move (.tmp 0), 25, none, []⟩,
       ⟨(some 50), .move (.tmp 1), 3, none, []⟩,
       ⟨(some 51), .move (.tmp 10), 3, none, []⟩,
       ⟨(some 52), .binOp .add 3 (.tmp 50) (.tmp 51) 3, 3, none, []⟩,
       ⟨(some 53), .move (.tmp 0), 25, none, []⟩,
       ⟨(some 54), .move (.tmp 1), 3, none, []⟩,
       ⟨(some 55), .move (.tmp 10), 3, none, []⟩,
       ⟨(some 56), .binOp .add 3 (.tmp 54) (.tmp 55) 3, 3, none, []⟩,
       ⟨(some 57), .indexAddr 25 (.tmp 53) (.tmp 56), 0, none, []⟩,
       ⟨(some 58), .load 3 (.tmp 57), 3, none, []⟩,
       ⟨(some 59), .move (.tmp 0), 25, none, []⟩,
       ⟨(some 60), .move (.tmp 9), 3, none, []⟩,
       ⟨(some 61), .indexAddr 25 (.tmp 59) (.tmp 60), 0, none, []⟩,
       ⟨(some 62), .load 3 (.tmp 61), 3, none, []⟩,
       ⟨(some 63), .indexAddr 25 (.tmp 47) (.tmp 48), 0, none, []⟩,
       ⟨none, .store 3 (.tmp 63) (.tmp 58), 0, none, []⟩,
       ⟨(some 64), .indexAddr 25 (.tmp 49) (.tmp 52), 0, none, []⟩,
       ⟨none, .store 3 (.tmp 64) (.tmp 62), 0, none, []⟩]))))
    (.reg [] [
      ⟨(some 34), .move (.tmp 9), 3, none, []⟩,
      ⟨(some 35), .binOp .add 3 (.tmp 34) (.const (.int .i64 1)) 3, 3, none, []⟩,
      ⟨(some 9), .assign (.tmp 35), 3, none, []⟩]))))))))
 (.skip)))
/-- slices.choosePivotOrdered[int] -/
def c56 : RC :=
  .seq (.reg [] [
   ⟨(some 6), .assign (.const (.int .i64 0)), 3, none, []⟩,
   ⟨(some 7), .assign (.const (.int .i64 0)), 89, none, []⟩])
 (.seq (.reg [] [
   ⟨(some 13), .move (.tmp 2), 3, none, []⟩,
   ⟨(some 14), .move (.tmp 1), 3, none, []⟩,
   ⟨(some 15), .binOp .sub 3 (.tmp 13) (.tmp 14) 3, 3, none, []⟩,
   ⟨(some 8), .assign (.tmp 15), 3, none, []⟩])
 (.seq (.reg [] [
   ⟨(some 9), .alloc 3, 0, none, []⟩])
 (.seq (.reg [] [
   ⟨(some 16), .move (.tmp 1), 3, none, []⟩,
   ⟨(some 17), .move (.tmp 8), 3, none, []⟩,
   ⟨(some 18), .binOp .quo 3 (.tmp 17) (.const (.int .i64 4)) 3, 3, none, []⟩,
   ⟨(some 19), .binOp .mul 3 (.tmp 18) (.const (.int .i64 1)) 3, 3, none, []⟩,
   ⟨(some 20), .binOp .add 3 (.tmp 16) (.tmp 19) 3, 3, none, []⟩,
   ⟨(some 10), .assign (.tmp 20), 3, none, []⟩])
 (.seq (.reg [] [
   ⟨(some 21), .move (.tmp 1), 3, none, []⟩,
   ⟨(some 22), .move (.tmp 8), 3, none, []⟩,
   ⟨(some 23), .binOp .quo 3 (.tmp 22) (.const (.int .i64 4)) 3, 3, none, []⟩,
   ⟨(some 24), .binOp .mul 3 (.tmp 23) (.const (.int .i64 2)) 3, 3, none, []⟩,
   ⟨(some 25), .binOp .add 3 (.tmp 21) (.tmp 24) 3, 3, none, []⟩,
   ⟨(some 11), .assign (.tmp 25), 3, none, []⟩])
 (.seq (.reg [] [
   ⟨(some 26), .move (.tmp 1), 3, none, []⟩,
   ⟨(some 27), .move (.tmp 8), 3, none, []⟩,
   ⟨(some 28), .binOp .quo 3 (.tmp 27) (.const (.int .i64 4)) 3, 3, none, []⟩,
   ⟨(some 29), .binOp .mul 3 (.tmp 28) (.const (.int .i64 3)) 3, 3, none, []⟩,
   ⟨(some 30), .binOp .add 3 (.tmp 26) (.tmp 29) 3, 3, none, []⟩,
   ⟨(some 12), .assign (.tmp 30), 3, none, []⟩])
 (.seq (.seq (.reg [] [
   ⟨(some 31), .move (.tmp 8), 3, none, []⟩,
   ⟨(some 32), .binOp .geq 3 (.tmp 31) (.const (.int .i64 8)) 3, 4, none, []⟩])
 (.cond (.tmp 32) (.seq (.seq (.reg [] [
    ⟨(some 33), .move (.tmp 8), 3, none, []⟩,
    ⟨(some 34), .binOp .geq 3 (.tmp 33) (.const (.int .i64 50)) 3, 4, none, []⟩])
  (.cond (.tmp 34) (.seq (.reg [] [
     ⟨(some 35), .move (.tmp 0), 25, none, []⟩,
     ⟨(some 36), .move (.tmp 10), 3, none, []⟩,
     ⟨(some 37), .call ⟨.value (.func 66), #[(.tmp 35), (.tmp 36), (.tmp 9)], #[25, 3, 100]⟩, 3, none, []⟩,
     ⟨(some 10), .assign (.tmp 37), 3, none, []⟩])
   (.seq (.reg [] [
     ⟨(some 38), .move (.tmp 0), 25, none, []⟩,
     ⟨(some 39), .move (.tmp 11), 3, none, []⟩,
     ⟨(some 40), .call ⟨.value (.func 66), #[(.tmp 38), (.tmp 39), (.tmp 9)], #[25, 3, 100]⟩, 3, none, []⟩,
     ⟨(some 11), .assign (.tmp 40), 3, none, []⟩])
   (.reg [] [
     ⟨(some 41), .move (.tmp 0), 25, none, []⟩,
     ⟨(some 42), .move (.tmp 12), 3, none, []⟩,
     ⟨(some 43), .call ⟨.value (.func 66), #[(.tmp 41), (.tmp 42), (.tmp 9)], #[25, 3, 100]⟩, 3, none, []⟩,
     ⟨(some 12), .assign (.tmp 43), 3, none, []⟩])))
  (.skip)))
  (.reg [] [
    ⟨(some 44), .move (.tmp 0), 25, none, []⟩,
    ⟨(some 45), .move (.tmp 10), 3, none, []⟩,
    ⟨(some 46), .move (.tmp 11), 3, none, []⟩,
    ⟨(some 47), .move (.tmp 12), 3, none, []⟩,
    ⟨(some 48), .call ⟨.value (.func 67), #[(.tmp 44), (.tmp 45), (.tmp 46), (.tmp 47), (.tmp 9)], #[25, 3, 3, 3, 100]⟩, 3, none, []⟩,
    ⟨(some 11), .assign (.tmp 48), 3, none, []⟩]))
 (.skip)))
 (.seq (.reg [] [
   ⟨(some 49), .load 3 (.tmp 9), 3, none, []⟩])
 (.block 0 (.seq (.reg [] [
    ⟨(some 52), .binOp .eql 3 (.tmp 49) (.const (.int .i64 0)) 3, 4, none, []⟩,
    ⟨(some 51), .assign (.tmp 52), 4, none, []⟩])
  (.cond (.tmp 51) (.seq (.reg [] [
     ⟨(some 53), .move (.tmp 11), 3, none, []⟩,
     ⟨(some 6), .assign (.tmp 53), 3, none, []⟩,
     ⟨(some 7), .assign (.const (.int .i64 1)), 89, none, []⟩])
   (.ret))
  (.seq (.reg [] [
     ⟨(some 55), .binOp .eql 3 (.tmp 49) (.const (.int .i64 12)) 3, 4, none, []⟩,
     ⟨(some 54), .assign (.tmp 55), 4, none, []⟩])
   (.cond (.tmp 54) (.seq (.reg [] [
      ⟨(some 56), .move (.tmp 11), 3, none, []⟩,
      ⟨(some 6), .assign (.tmp 56), 3, none, []⟩,
      ⟨(some 7), .assign (.const (.int .i64 2)), 89, none, []⟩])
    (.ret))
   (.seq (.reg [] [
      ⟨(some 50), .move (.tmp 11), 3, none, []⟩,
      ⟨(some 6), .assign (.tmp 50), 3, none, []⟩,
      ⟨(some 7), .assign (.const (.int .i64 0)), 89, none, []⟩])
    (.ret))))))))))))))
/-- slices.reverseRangeOrdered[int] -/
def c57 : RC :=
  .seq (.reg [] [
   ⟨(some 8), .move (.tmp 1), 3, none, []⟩,
   ⟨(some 6), .assign (.tmp 8), 3, none, []⟩])
 (.seq (.reg [] [
   ⟨(some 9), .move (.tmp 2), 3, none, []⟩,
   ⟨(some 10), .binOp .sub 3 (.tmp 9) (.const (.int .i64 1)) 3, 3, none, []⟩,
   ⟨(some 7), .assign (.tmp 10), 3, none, []⟩])
 (.block 0 (.loop (.seq (.seq (.reg [] [
     ⟨(some 11), .move (.tmp 6), 3, none, []⟩,
     ⟨(some 12), .move (.tmp 7), 3, none, []⟩,
     ⟨(some 13), .binOp .lss 3 (.tmp 11) (.tmp 12) 3, 4, none, []⟩])
   (.cond (.tmp 13) (.skip)
   (.exit 0)))
   (.block 1 (.seq (.reg [0, 1, 2, 3, 4, 5, 6, 7, 8, 9, 10, 11, 12, 13, 14, 15] [
      ⟨(some 14), .move (.tmp 0), 25, none, []⟩,
      ⟨(some 15), .move (.tmp 6), 3, none, []⟩,
      ⟨(some 16), .move (.tmp 0), 25, none, []⟩,
      ⟨(some 17), .move (.tmp 7), 3, none, []⟩,
      ⟨(some 18), .move (.tmp 0), 25, none, []⟩,
      ⟨(some 19), .move (.tmp 7), 3, none, []⟩,
      ⟨(some 20), .indexAddr 25 (.tmp 18) (.tmp 19), 0, none, []⟩,
      ⟨(some 21), .load 3 (.tmp 20), 3, none, []⟩,
      ⟨(some 22), .move (.tmp 0), 25, none, []⟩,
      ⟨(some 23), .move (.tmp 6), 3, none, []⟩,
      ⟨(some 24), .indexAddr 25 (.tmp 22) (.tmp 23), 0, none, []⟩,
      ⟨(some 25), .load 3 (.tmp 24), 3, none, []⟩,
      ⟨(some 26), .indexAddr 25 (.tmp 14) (.tmp 15), 0, none, []⟩,
      ⟨none, .store 3 (.tmp 26) (.tmp 21), 0, none, []⟩,
      ⟨(some 27), .indexAddr 25 (.tmp 16) (.tmp 17), 0, none, []⟩,
      ⟨none, .store 3 (.tmp 27) (.tmp 25), 0, none, []⟩])
    (.seq (.reg [] [
      ⟨(some 28), .move (.tmp 6), 3, none, []⟩,
      ⟨(some 29), .binOp .add 3 (.tmp 28) (.const (.int .i64 1)) 3, 3, none, []⟩,
      ⟨(some 6), .assign (.tmp 29), 3, none, []⟩])
    (.reg [] [
      ⟨(some 30), .move (.tmp 7), 3, none, []⟩,
      ⟨(some 31), .binOp .sub 3 (.tmp 30) (.const (.int .i64 1)) 3, 3, none, []⟩,
      ⟨(some 7), .assign (.tmp 31), 3, none, []⟩]))))))))
/-- slices.partialInsertionSortOrdered[int] -/
def c58 : RC :=
  .seq (.reg [] [
   ⟨(some 6), .assign (.const (.bool false)), 4, none, []⟩])
 (.seq (.reg [] [
   ⟨(some 11), .move (.tmp 1), 3, none, []⟩,
   ⟨(some 12), .binOp .add 3 (.tmp 11) (.const (.int .i64 1)) 3, 3, none, []⟩,
   ⟨(some 7), .assign (.tmp 12), 3, none, []⟩])
 (.seq (.seq (.reg [] [
   ⟨(some 8), .assign (.const (.int .i64 0)), 3, none, []⟩])
 (.block 0 (.loop (.seq (.seq (.reg [] [
     ⟨(some 13), .move (.tmp 8), 3, none, []⟩,
     ⟨(some 14), .binOp .lss 3 (.tmp 13) (.const (.int .i64 5)) 3, 4, none, []⟩])
   (.cond (.tmp 14) (.skip)
   (.exit 0)))
   (.seq (.block 1 (.seq (.block 2 (.loop (.seq (.seq (.reg [0, 1, 2, 3, 4, 5, 6, 7, 8, 9, 10, 11, 12, 13, 14, 15] [
        ⟨(some 17), .move (.tmp 7), 3, none, []⟩,
        ⟨(some 18), .move (.tmp 2), 3, none, []⟩,
        ⟨(some 19), .binOp .lss 3 (.tmp 17) (.tmp 18) 3, 4, none, []⟩,
        ⟨(some 20), .move (.tmp 19), 4, none, []⟩,
        ⟨(some 21), .move (.tmp 0), 25, (some ((some 20), true)), []⟩,
        ⟨(some 22), .move (.tmp 7), 3, (some ((some 20), true)), []⟩,
        ⟨(some 23), .indexAddr 25 (.tmp 21) (.tmp 22), 0, (some ((some 20), true)), []⟩,
        ⟨(some 24), .load 3 (.tmp 23), 3, (some ((some 20), true)), []⟩,
        ⟨(some 25), .move (.tmp 0), 25, (some ((some 20), true)), []⟩,
        ⟨(some 26), .move (.tmp 7), 3, (some ((some 20), true)), []⟩,
        ⟨(some 27), .binOp .sub 3 (.tmp 26) (.const (.int .i64 1)) 3, 3, (some ((some 20), true)), []⟩,
        ⟨(some 28), .indexAddr 25 (.tmp 25) (.tmp 27), 0, (some ((some 20), true)), []⟩,
        ⟨(some 29), .load 3 (.tmp 28), 3, (some ((some 20), true)), []⟩,
        ⟨(some 30), .call ⟨.value (.func 46), #[(.tmp 24), (.tmp 29)], #[3, 3]⟩, 4, (some ((some 20), true)), []⟩,
        ⟨(some 31), .unOp .not 4 (.tmp 30), 4, (some ((some 20), true)), []⟩,
        ⟨(some 32), .pick (.tmp 20) (.tmp 31) (.const (.bool false)), 4, none, []⟩])
      (.cond (.tmp 32) (.skip)
      (.exit 2)))
      (.block 3 (.reg [] [
         ⟨(some 33), .move (.tmp 7), 3, none, []⟩,
         ⟨(some 34), .binOp .add 3 (.tmp 33) (.const (.int .i64 1)) 3, 3, none, []⟩,
         ⟨(some 7), .assign (.tmp 34), 3, none, []⟩])))))
    (.seq (.seq (.reg [] [
      ⟨(some 35), .move (.tmp 7), 3, none, []⟩,
      ⟨(some 36), .move (.tmp 2), 3, none, []⟩,
      ⟨(some 37), .binOp .eql 3 (.tmp 35) (.tmp 36) 3, 4, none, []⟩])
    (.cond (.tmp 37) (.seq (.reg [] [
       ⟨(some 6), .assign (.const (.bool true)), 4, none, []⟩])
     (.ret))
    (.skip)))
    (.seq (.seq (.reg [] [
      ⟨(some 38), .move (.tmp 2), 3, none, []⟩,
      ⟨(some 39), .move (.tmp 1), 3, none, []⟩,
      ⟨(some 40), .binOp .sub 3 (.tmp 38) (.tmp 39) 3, 3, none, []⟩,
      ⟨(some 41), .binOp .lss 3 (.tmp 40) (.const (.int .i64 50)) 3, 4, none, []⟩])
    (.cond (.tmp 41) (.seq (.reg [] [
       ⟨(some 6), .assign (.const (.bool false)), 4, none, []⟩])
     (.ret))
    (.skip)))
    (.seq (.reg [0, 1, 2, 3, 4, 5, 6, 7, 8, 9, 10, 11, 12, 13, 14, 15, 16, 17] [
      ⟨(some 42), .move (.tmp 0), 25, none, []⟩,
      ⟨(some 43), .move (.tmp 7), 3, none, []⟩,
      ⟨(some 44), .move (.tmp 0), 25, none, []⟩,
      ⟨(some 45), .move (.tmp 7), 3, none, []⟩,
      ⟨(some 46), .binOp .sub 3 (.tmp 45) (.const (.int .i64 1)) 3, 3, none, []⟩,
      ⟨(some 47), .move (.tmp 0), 25, none, []⟩,
      ⟨(some 48), .move (.tmp 7), 3, none, []⟩,
      ⟨(some 49), .binOp .sub 3 (.tmp 48) (.const (.int .i64 1)) 3, 3, none, []⟩,
      ⟨(some 50), .indexAddr 25 (.tmp 47) (.tmp 49), 0, none, []⟩,
      ⟨(some 51), .load 3 (.tmp 50), 3, none, []⟩,
      ⟨(some 52), .move (.tmp 0), 25, none, []⟩,
      ⟨(some 53), .move (.tmp 7), 3, none, []⟩,
      ⟨(some 54), .indexAddr 25 (.tmp 52) (.tmp 53), 0, none, []⟩,
      ⟨(some 55), .load 3 (.tmp 54), 3, none, []⟩,
      ⟨(some 56), .indexAddr 25 (.tmp 42) (.tmp 43), 0, none, []⟩,
      ⟨none, .store 3 (.tmp 56) (.tmp 51), 0, none, []⟩,
      ⟨(some 57), .indexAddr 25 (.tmp 44) (.tmp 46), 0, none, []⟩,
      ⟨none, .store 3 (.tmp 57) (.tmp 55), 0, none, []⟩])
    (.seq (.seq (.reg [] [
      ⟨(some 58), .move (.tmp 7), 3, none, []⟩,
      ⟨(some 59), .move (.tmp 1), 3, none, []⟩,
      ⟨(some 60), .binOp .sub 3 (.tmp 58) (.tmp 59) 3, 3, none, []⟩,
      ⟨(some 61), .binOp .geq 3 (.tmp 60) (.const (.int .i64 2)) 3, 4, none, []⟩])
    (.cond (.tmp 61) (.seq (.reg [] [
       ⟨(some 62), .move (.tmp 7), 3, none, []⟩,
       ⟨(some 63), .binOp .sub 3 (.tmp 62) (.const (.int .i64 1)) 3, 3, none, []⟩,
       ⟨(some 9), .assign (.tmp 63), 3, none, []⟩])
     (.block 4 (.loop (.seq (.seq (.reg [] [
         ⟨(some 64), .move (.tmp 9), 3, none, []⟩,
         ⟨(some 65), .binOp .geq 3 (.tmp 64) (.const (.int .i64 1)) 3, 4, none, []⟩])
       (.cond (.tmp 65) (.skip)
       (.exit 4)))
       (.seq (.block 5 (.seq (.seq (.reg [0, 1, 2, 3, 4, 5, 6, 7, 8, 9, 10] [
          ⟨(some 68), .move (.tmp 0), 25, none, []⟩,
          ⟨(some 69), .move (.tmp 9), 3, none, []⟩,
          ⟨(some 70), .indexAddr 25 (.tmp 68) (.tmp 69), 0, none, []⟩,
          ⟨(some 71), .load 3 (.tmp 70), 3, none, []⟩,
          ⟨(some 72), .move (.tmp 0), 25, none, []⟩,
          ⟨(some 73), .move (.tmp 9), 3, none, []⟩,
          ⟨(some 74), .binOp .sub 3 (.tmp 73) (.const (.int .i64 1)) 3, 3, none, []⟩,
          ⟨(some 75), .indexAddr 25 (.tmp 72) (.tmp 74), 0, none, []⟩,
          ⟨(some 76), .load 3 (.tmp 75), 3, none, []⟩,
          ⟨(some 77), .call ⟨.value (.func 46), #[(.tmp 71), (.tmp 76)], #[3, 3]⟩, 4, none, []⟩,
          ⟨(some 78), .unOp .not 4 (.tmp 77), 4, none, []⟩])
        (.cond (.tmp 78) (.exit 4)
        (.skip)))
        (.reg [0, 1, 2, 3, 4, 5, 6, 7, 8, 9, 10, 11, 12, 13, 14, 15, 16, 17] [
          ⟨(some 79), .move (.tmp 0), 25, none, []⟩,
          ⟨(some 80), .move (.tmp 9), 3, none, []⟩,
          ⟨(some 81), .move (.tmp 0), 25, none, []⟩,
          ⟨(some 82), .move (.tmp 9), 3, none, []⟩,
          ⟨(some 83), .binOp .sub 3 (.tmp 82) (.const (.int .i64 1)) 3, 3, none, []⟩,
          ⟨(some 84), .move (.tmp 0), 25, none, []⟩,
          ⟨(some 85), .move (.tmp 9), 3, none, []⟩,
          ⟨(some 86), .binOp .sub 3 (.tmp 85) (.const (.int .i64 1)) 3, 3, none, []⟩,
          ⟨(some 87), .indexAddr 25 (.tmp 84) (.tmp 86), 0, none, []⟩,
          ⟨(some 88), .load 3 (.tmp 87), 3, none, []⟩,
          ⟨(some 89), .move (.tmp 0), 25, none, []⟩,
          ⟨(some 90), .move (.tmp 9), 3, none, []⟩,
          ⟨(some 91), .indexAddr 25 (.tmp 89) (.tmp 90), 0, none, []⟩,
          ⟨(some 92), .load 3 (.tmp 91), 3, none, []⟩,
          ⟨(some 93), .indexAddr 25 (.tmp 79) (.tmp 80), 0, none, []⟩,
          ⟨none, .store 3 (.tmp 93) (.tmp 88), 0, none, []⟩,
          ⟨(some 94), .indexAddr 25 (.tmp 81) (.tmp 83), 0, none, []⟩,
          ⟨none, .store 3 (.tmp 94) (.tmp 92), 0, none, []⟩])))
       (.reg [] [
         ⟨(some 66), .move (.tmp 9), 3, none, []⟩,
         ⟨(some 67), .binOp .sub 3 (.tmp 66) (.const (.int .i64 1)) 3, 3, none, []⟩,
         ⟨(some 9), .assign (.tmp 67), 3, none, []⟩]))))))
    (.skip)))
    (.seq (.reg [] [
      ⟨(some 95), .move (.tmp 2), 3, none, []⟩,
      ⟨(some 96), .move (.tmp 7), 3, none, []⟩,
      ⟨(some 97), .binOp .sub 3 (.tmp 95) (.tmp 96) 3, 3, none, []⟩,
      ⟨(some 98), .binOp .geq 3 (.tmp 97) (.const (.int .i64 2)) 3, 4, none, []⟩])
    (.cond (.tmp 98) (.seq (.reg [] [
       ⟨(some 99), .move (.tmp 7), 3, none, []⟩,
       ⟨(some 100), .binOp .add 3 (.tmp 99) (.const (.int .i64 1)) 3, 3, none, []⟩,
       ⟨(some 10), .assign (.tmp 100), 3, none, []⟩])
     (.block 6 (.loop (.seq (.seq (.reg [] [
         ⟨(some 101), .move (.tmp 10), 3, none, []⟩,
         ⟨(some 102), .move (.tmp 2), 3, none, []⟩,
         ⟨(some 103), .binOp .lss 3 (.tmp 101) (.tmp 102) 3, 4, none, []⟩])
       (.cond (.tmp 103) (.skip)
       (.exit 6)))
       (.seq (.block 7 (.seq (.seq (.reg [0, 1, 2, 3, 4, 5, 6, 7, 8, 9, 10] [
          ⟨(some 106), .move (.tmp 0), 25, none, []⟩,
          ⟨(some 107), .move (.tmp 10), 3, none, []⟩,
          ⟨(some 108), .indexAddr 25 (.tmp 106) (.tmp 107), 0, none, []⟩,
          ⟨(some 109), .load 3 (.tmp 108), 3, none, []⟩,
          ⟨(some 110), .move (.tmp 0), 25, none, []⟩,
          ⟨(some 111), .move (.tmp 10), 3, none, []⟩,
          ⟨(some 112), .binOp .sub 3 (.tmp 111) (.const (.int .i64 1)) 3, 3, none, []⟩,
          ⟨(some 113), .indexAddr 25 (.tmp 110) (.tmp 112), 0, none, []⟩,
          ⟨(some 114), .load 3 (.tmp 113), 3, none, []⟩,
          ⟨(some 115), .call ⟨.value (.func 46), #[(.tmp 109), (.tmp 114)], #[3, 3]⟩, 4, none, []⟩,
          ⟨(some 116), .unOp .not 4 (.tmp 115), 4, none, []⟩])
        (.cond (.tmp 116) (.exit 6)
        (.skip)))
        (.reg [0, 1, 2, 3, 4, 5, 6, 7, 8, 9, 10, 11, 12, 13, 14, 15, 16, 17] [
          ⟨(some 117), .move (.tmp 0), 25, none, []⟩,
          ⟨(some 118), .move (.tmp 10), 3, none, []⟩,
          ⟨(some 119), .move (.tmp 0), 25, none, []⟩,
          ⟨(some 120), .move (.tmp 10), 3, none, []⟩,
          ⟨(some 121), .binOp .sub 3 (.tmp 120) (.const (.int .i64 1)) 3, 3, none, []⟩,
          ⟨(some 122), .move (.tmp 0), 25, none, []⟩,
          ⟨(some 123), .move (.tmp 10), 3, none, []⟩,
          ⟨(some 124), .binOp .sub 3 (.tmp 123) (.const (.int .i64 1)) 3, 3, none, []⟩,
          ⟨(some 125), .indexAddr 25 (.tmp 122) (.tmp 124), 0, none, []⟩,
          ⟨(some 126), .load 3 (.tmp 125), 3, none, []⟩,
          ⟨(some 127), .move (.tmp 0), 25, none, []⟩,
          ⟨(some 128), .move (.tmp 10), 3, none, []⟩,
          ⟨(some 129), .indexAddr 25 (.tmp 127) (.tmp 128), 0, none, []⟩,
          ⟨(some 130), .load 3 (.tmp 129), 3, none, []⟩,
          ⟨(some 131), .indexAddr 25 (.tmp 117) (.tmp 118), 0, none, []⟩,
          ⟨none, .store 3 (.tmp 131) (.tmp 126), 0, none, []⟩,
          ⟨(some 132), .indexAddr 25 (.tmp 119) (.tmp 121), 0, none, []⟩,
          ⟨none, .store 3 (.tmp 132) (.tmp 130), 0, none, []⟩])))
       (.reg [] [
         ⟨(some 104), .move (.tmp 10), 3, none, []⟩,
         ⟨(some 105), .binOp .add 3 (.tmp 104) (.const (.int .i64 1)) 3, 3, none, []⟩,
         ⟨(some 10), .assign (.tmp 105), 3, none, []⟩]))))))
    (.skip)))))))))
   (.reg [] [
     ⟨(some 15), .move (.tmp 8), 3, none, []⟩,
     ⟨(some 16), .binOp .add 3 (.tmp 15) (.const (.int .i64 1)) 3, 3, none, []⟩,
     ⟨(some 8), .assign (.tmp 16), 3, none, []⟩]))))))
 (.seq (.reg [] [
   ⟨(some 6), .assign (.const (.bool false)), 4, none, []⟩])
 (.ret))))
/-- slices.partitionEqualOrdered[int] -/
def c59 : RC :=
  .seq (.reg [] [
   ⟨(some 8), .assign (.const (.int .i64 0)), 3, none, []⟩])
 (.seq (.reg [0, 1, 2, 3, 4, 5, 6, 7, 8, 9, 10, 11, 12, 13, 14, 15] [
   ⟨(some 11), .move (.tmp 0), 25, none, []⟩,
   ⟨(some 12), .move (.tmp 1), 3, none, []⟩,
   ⟨(some 13), .move (.tmp 0), 25, none, []⟩,
   ⟨(some 14), .move (.tmp 3), 3, none, []⟩,
   ⟨(some 15), .move (.tmp 0), 25, none, []⟩,
   ⟨(some 16), .move (.tmp 3), 3, none, []⟩,
   ⟨(some 17), .indexAddr 25 (.tmp 15) (.tmp 16), 0, none, []⟩,
   ⟨(some 18), .load 3 (.tmp 17), 3, none, []⟩,
   ⟨(some 19), .move (.tmp 0), 25, none, []⟩,
   ⟨(some 20), .move (.tmp 1), 3, none, []⟩,
   ⟨(some 21), .indexAddr 25 (.tmp 19) (.tmp 20), 0, none, []⟩,
   ⟨(some 22), .load 3 (.tmp 21), 3, none, []⟩,
   ⟨(some 23), .indexAddr 25 (.tmp 11) (.tmp 12), 0, none, []⟩,
   ⟨none, .store 3 (.tmp 23) (.tmp 18), 0, none, []⟩,
   ⟨(some 24), .indexAddr 25 (.tmp 13) (.tmp 14), 0, none, []⟩,
   ⟨none, .store 3 (.tmp 24) (.tmp 22), 0, none, []⟩])
 (.seq (.reg [] [
   ⟨(some 25), .move (.tmp 1), 3, none, []⟩,
   ⟨(some 26), .binOp .add 3 (.tmp 25) (.const (.int .i64 1)) 3, 3, none, []⟩,
   ⟨(some 27), .move (.tmp 2), 3, none, []⟩,
   ⟨(some 28), .binOp .sub 3 (.tmp 27) (.const (.int .i64 1)) 3, 3, none, []⟩,
   ⟨(some 9), .assign (.tmp 26), 3, none, []⟩,
   ⟨(some 10), .assign (.tmp 28), 3, none, []⟩])
 (.seq (.block 0 (.loop (.block 1 (.seq (.block 2 (.loop (.seq (.seq (.reg [0, 1, 2, 3, 4, 5, 6, 7, 8, 9, 10, 11, 12, 13, 14] [
        ⟨(some 29), .move (.tmp 9), 3, none, []⟩,
        ⟨(some 30), .move (.tmp 10), 3, none, []⟩,
        ⟨(some 31), .binOp .leq 3 (.tmp 29) (.tmp 30) 3, 4, none, []⟩,
        ⟨(some 32), .move (.tmp 31), 4, none, []⟩,
        ⟨(some 33), .move (.tmp 0), 25, (some ((some 32), true)), []⟩,
        ⟨(some 34), .move (.tmp 1), 3, (some ((some 32), true)), []⟩,
        ⟨(some 35), .indexAddr 25 (.tmp 33) (.tmp 34), 0, (some ((some 32), true)), []⟩,
        ⟨(some 36), .load 3 (.tmp 35), 3, (some ((some 32), true)), []⟩,
        ⟨(some 37), .move (.tmp 0), 25, (some ((some 32), true)), []⟩,
        ⟨(some 38), .move (.tmp 9), 3, (some ((some 32), true)), []⟩,
        ⟨(some 39), .indexAddr 25 (.tmp 37) (.tmp 38), 0, (some ((some 32), true)), []⟩,
        ⟨(some 40), .load 3 (.tmp 39), 3, (some ((some 32), true)), []⟩,
        ⟨(some 41), .call ⟨.value (.func 46), #[(.tmp 36), (.tmp 40)], #[3, 3]⟩, 4, (some ((some 32), true)), []⟩,
        ⟨(some 42), .unOp .not 4 (.tmp 41), 4, (some ((some 32), true)), []⟩,
        ⟨(some 43), .pick (.tmp 32) (.tmp 42) (.const (.bool false)), 4, none, []⟩])
      (.cond (.tmp 43) (.skip)
      (.exit 2)))
      (.block 3 (.reg [] [
         ⟨(some 44), .move (.tmp 9), 3, none, []⟩,
         ⟨(some 45), .binOp .add 3 (.tmp 44) (.const (.int .i64 1)) 3, 3, none, []⟩,
         ⟨(some 9), .assign (.tmp 45), 3, none, []⟩])))))
    (.seq (.block 4 (.loop (.seq (.seq (.reg [0, 1, 2, 3, 4, 5, 6, 7, 8, 9, 10, 11, 12, 13] [
        ⟨(some 46), .move (.tmp 9), 3, none, []⟩,
        ⟨(some 47), .move (.tmp 10), 3, none, []⟩,
        ⟨(some 48), .binOp .leq 3 (.tmp 46) (.tmp 47) 3, 4, none, []⟩,
        ⟨(some 49), .move (.tmp 48), 4, none, []⟩,
        ⟨(some 50), .move (.tmp 0), 25, (some ((some 49), true)), []⟩,
        ⟨(some 51), .move (.tmp 1), 3, (some ((some 49), true)), []⟩,
        ⟨(some 52), .indexAddr 25 (.tmp 50) (.tmp 51), 0, (some ((some 49), true)), []⟩,
        ⟨(some 53), .load 3 (.tmp 52), 3, (some ((some 49), true)), []⟩,
        ⟨(some 54), .move (.tmp 0), 25, (some ((some 49), true)), []⟩,
        ⟨(some 55), .move (.tmp 10), 3, (some ((some 49), true)), []⟩,
        ⟨(some 56), .indexAddr 25 (.tmp 54) (.tmp 55), 0, (some ((some 49), true)), []⟩,
        ⟨(some 57), .load 3 (.tmp 56), 3, (some ((some 49), true)), []⟩,
        ⟨(some 58), .call ⟨.value (.func 46), #[(.tmp 53), (.tmp 57)], #[3, 3]⟩, 4, (some ((some 49), true)), []⟩,
        ⟨(some 59), .pick (.tmp 49) (.tmp 58) (.const (.bool false)), 4, none, []⟩])
      (.cond (.tmp 59) (.skip)
      (.exit 4)))
      (.block 5 (.reg [] [
         ⟨(some 60), .move (.tmp 10), 3, none, []⟩,
         ⟨(some 61), .binOp .sub 3 (.tmp 60) (.const (.int .i64 1)) 3, 3, none, []⟩,
         ⟨(some 10), .assign (.tmp 61), 3, none, []⟩])))))
    (.seq (.seq (.reg [] [
      ⟨(some 62), .move (.tmp 9), 3, none, []⟩,
      ⟨(some 63), .move (.tmp 10), 3, none, []⟩,
      ⟨(some 64), .binOp .gtr 3 (.tmp 62) (.tmp 63) 3, 4, none, []⟩])
    (.cond (.tmp 64) (.exit 0)
    (.skip)))
    (.seq (.reg [0, 1, 2, 3, 4, 5, 6, 7, 8, 9, 10, 11, 12, 13, 14, 15] [
      ⟨(some 65), .move (.tmp 0), 25, none, []⟩,
      ⟨(some 66), .move (.tmp 9), 3, none, []⟩,
      ⟨(some 67), .move (.tmp 0), 25, none, []⟩,
      ⟨(some 68), .move (.tmp 10), 3, none, []⟩,
      ⟨(some 69), .move (.tmp 0), 25, none, []⟩,
      ⟨(some 70), .move (.tmp 10), 3, none, []⟩,
      ⟨(some 71), .indexAddr 25 (.tmp 69) (.tmp 70), 0, none, []⟩,
      ⟨(some 72), .load 3 (.tmp 71), 3, none, []⟩,
      ⟨(some 73), .move (.tmp 0), 25, none, []⟩,
      ⟨(some 74), .move (.tmp 9), 3, none, []⟩,
      ⟨(some 75), .indexAddr 25 (.tmp 73) (.tmp 74), 0, none, []⟩,
      ⟨(some 76), .load 3 (.tmp 75), 3, none, []⟩,
      ⟨(some 77), .indexAddr 25 (.tmp 65) (.tmp 66), 0, none, []⟩,
      ⟨none, .store 3 (.tmp 77) (.tmp 72), 0, none, []⟩,
      ⟨(some 78), .indexAddr 25 (.tmp 67) (.tmp 68), 0, none, []⟩,
      ⟨none, .store 3 (.tmp 78) (.tmp 76), 0, none, []⟩])
    (.seq (.reg [] [
      ⟨(some 79), .move (.tmp 9), 3, none, []⟩,
      ⟨(some 80), .binOp .add 3 (.tmp 79) (.const (.int .i64 1)) 3, 3, none, []⟩,
      ⟨(some 9), .assign (.tmp 80), 3, none, []⟩])
    (.reg [] [
      ⟨(some 81), .move (.tmp 10), 3, none, []⟩,
      ⟨(some 82), .binOp .sub 3 (.tmp 81) (.const (.int .i64 1)) 3, 3, none, []⟩,
      ⟨(some 10), .assign (.tmp 82), 3, none, []⟩])))))))))
 (.seq (.reg [] [
   ⟨(some 83), .move (.tmp 9), 3, none, []⟩,
   ⟨(some 8), .assign (.tmp 83), 3, none, []⟩])
 (.ret)))))
/-- slices.partitionOrdered[int] -/
def c60 : RC :=
  .seq (.reg [] [
   ⟨(some 8), .assign (.const (.int .i64 0)), 3, none, []⟩,
   ⟨(some 9), .assign (.const (.bool false)), 4, none, []⟩])
 (.seq (.reg [0, 1, 2, 3, 4, 5, 6, 7, 8, 9, 10, 11, 12, 13, 14, 15] [
   ⟨(some 12), .move (.tmp 0), 25, none, []⟩,
   ⟨(some 13), .move (.tmp 1), 3, none, []⟩,
   ⟨(some 14), .move (.tmp 0), 25, none, []⟩,
   ⟨(some 15), .move (.tmp 3), 3, none, []⟩,
   ⟨(some 16), .move (.tmp 0), 25, none, []⟩,
   ⟨(some 17), .move (.tmp 3), 3, none, []⟩,
   ⟨(some 18), .indexAddr 25 (.tmp 16) (.tmp 17), 0, none, []⟩,
   ⟨(some 19), .load 3 (.tmp 18), 3, none, []⟩,
   ⟨(some 20), .move (.tmp 0), 25, none, []⟩,
   ⟨(some 21), .move (.tmp 1), 3, none, []⟩,
   ⟨(some 22), .indexAddr 25 (.tmp 20) (.tmp 21), 0, none, []⟩,
   ⟨(some 23), .load 3 (.tmp 22), 3, none, []⟩,
   ⟨(some 24), .indexAddr 25 (.tmp 12) (.tmp 13), 0, none, []⟩,
   ⟨none, .store 3 (.tmp 24) (.tmp 19), 0, none, []⟩,
   ⟨(some 25), .indexAddr 25 (.tmp 14) (.tmp 15), 0, none, []⟩,
   ⟨none, .store 3 (.tmp 25) (.tmp 23), 0, none, []⟩])
 (.seq (.reg [] [
   ⟨(some 26), .move (.tmp 1), 3, none, []⟩,
   ⟨(some 27), .binOp .add 3 (.tmp 26) (.const (.int .i64 1)) 3, 3, none, []⟩,
   ⟨(some 28), .move (.tmp 2), 3, none, []⟩,
   ⟨(some 29), .binOp .sub 3 (.tmp 28) (.const (.int .i64 1)) 3, 3, none, []⟩,
   ⟨(some 10), .assign (.tmp 27), 3, none, []⟩,
   ⟨(some 11), .assign (.tmp 29), 3, none, []⟩])
 (.seq (.block 0 (.loop (.seq (.seq (.reg [0, 1, 2, 3, 4, 5, 6, 7, 8, 9, 10, 11, 12, 13] [
     ⟨(some 30), .move (.tmp 10), 3, none, []⟩,
     ⟨(some 31), .move (.tmp 11), 3, none, []⟩,
     ⟨(some 32), .binOp .leq 3 (.tmp 30) (.tmp 31) 3, 4, none, []⟩,
     ⟨(some 33), .move (.tmp 32), 4, none, []⟩,
     ⟨(some 34), .move (.tmp 0), 25, (some ((some 33), true)), []⟩,
     ⟨(some 35), .move (.tmp 10), 3, (some ((some 33), true)), []⟩,
     ⟨(some 36), .indexAddr 25 (.tmp 34) (.tmp 35), 0, (some ((some 33), true)), []⟩,
     ⟨(some 37), .load 3 (.tmp 36), 3, (some ((some 33), true)), []⟩,
     ⟨(some 38), .move (.tmp 0), 25, (some ((some 33), true)), []⟩,
     ⟨(some 39), .move (.tmp 1), 3, (some ((some 33), true)), []⟩,
     ⟨(some 40), .indexAddr 25 (.tmp 38) (.tmp 39), 0, (some ((some 33), true)), []⟩,
     ⟨(some 41), .load 3 (.tmp 40), 3, (some ((some 33), true)), []⟩,
     ⟨(some 42), .call ⟨.value (.func 46), #[(.tmp 37), (.tmp 41)], #[3, 3]⟩, 4, (some ((some 33), true)), []⟩,
     ⟨(some 43), .pick (.tmp 33) (.tmp 42) (.const (.bool false)), 4, none, []⟩])
   (.cond (.tmp 43) (.skip)
   (.exit 0)))
   (.block 1 (.reg [] [
      ⟨(some 44), .move (.tmp 10), 3, none, []⟩,
      ⟨(some 45), .binOp .add 3 (.tmp 44) (.const (.int .i64 1)) 3, 3, none, []⟩,
      ⟨(some 10), .assign (.tmp 45), 3, none, []⟩])))))
 (.seq (.block 2 (.loop (.seq (.seq (.reg [0, 1, 2, 3, 4, 5, 6, 7, 8, 9, 10, 11, 12, 13, 14] [
     ⟨(some 46), .move (.tmp 10), 3, none, []⟩,
     ⟨(some 47), .move (.tmp 11), 3, none, []⟩,
     ⟨(some 48), .binOp .leq 3 (.tmp 46) (.tmp 47) 3, 4, none, []⟩,
     ⟨(some 49), .move (.tmp 48), 4, none, []⟩,
     ⟨(some 50), .move (.tmp 0), 25, (some ((some 49), true)), []⟩,
     ⟨(some 51), .move (.tmp 11), 3, (some ((some 49), true)), []⟩,
     ⟨(some 52), .indexAddr 25 (.tmp 50) (.tmp 51), 0, (some ((some 49), true)), []⟩,
     ⟨(some 53), .load 3 (.tmp 52), 3, (some ((some 49), true)), []⟩,
     ⟨(some 54), .move (.tmp 0), 25, (some ((some 49), true)), []⟩,
     ⟨(some 55), .move (.tmp 1), 3, (some ((some 49), true)), []⟩,
     ⟨(some 56), .indexAddr 25 (.tmp 54) (.tmp 55), 0, (some ((some 49), true)), []⟩,
     ⟨(some 57), .load 3 (.tmp 56), 3, (some ((some 49), true)), []⟩,
     ⟨(some 58), .call ⟨.value (.func 46), #[(.tmp 53), (.tmp 57)], #[3, 3]⟩, 4, (some ((some 49), true)), []⟩,
     ⟨(some 59), .unOp .not 4 (.tmp 58), 4, (some ((some 49), true)), []⟩,
     ⟨(some 60), .pick (.tmp 49) (.tmp 59) (.const (.bool false)), 4, none, []⟩])
   (.cond (.tmp 60) (.skip)
   (.exit 2)))
   (.block 3 (.reg [] [
      ⟨(some 61), .move (.tmp 11), 3, none, []⟩,
      ⟨(some 62), .binOp .sub 3 (.tmp 61) (.const (.int .i64 1)) 3, 3, none, []⟩,
      ⟨(some 11), .assign (.tmp 62), 3, none, []⟩])))))
 (.seq (.seq (.reg [] [
   ⟨(some 63), .move (.tmp 10), 3, none, []⟩,
   ⟨(some 64), .move (.tmp 11), 3, none, []⟩,
   ⟨(some 65), .binOp .gtr 3 (.tmp 63) (.tmp 64) 3, 4, none, []⟩])
 (.cond (.tmp 65) (.seq (.reg [0, 1, 2, 3, 4, 5, 6, 7, 8, 9, 10, 11, 12, 13, 14, 15] [
    ⟨(some 66), .move (.tmp 0), 25, none, []⟩,
    ⟨(some 67), .move (.tmp 11), 3, none, []⟩,
    ⟨(some 68), .move (.tmp 0), 25, none, []⟩,
    ⟨(some 69), .move (.tmp 1), 3, none, []⟩,
    ⟨(some 70), .move (.tmp 0), 25, none, []⟩,
    ⟨(some 71), .move (.tmp 1), 3, none, []⟩,
    ⟨(some 72), .indexAddr 25 (.tmp 70) (.tmp 71), 0, none, []⟩,
    ⟨(some 73), .load 3 (.tmp 72), 3, none, []⟩,
    ⟨(some 74), .move (.tmp 0), 25, none, []⟩,
    ⟨(some 75), .move (.tmp 11), 3, none, []⟩,
    ⟨(some 76), .indexAddr 25 (.tmp 74) (.tmp 75), 0, none, []⟩,
    ⟨(some 77), .load 3 (.tmp 76), 3, none, []⟩,
    ⟨(some 78), .indexAddr 25 (.tmp 66) (.tmp 67), 0, none, []⟩,
    ⟨none, .store 3 (.tmp 78) (.tmp 73), 0, none, []⟩,
    ⟨(some 79), .indexAddr 25 (.tmp 68) (.tmp 69), 0, none, []⟩,
    ⟨none, .store 3 (.tmp 79) (.tmp 77), 0, none, []⟩])
  (.seq (.reg [] [
    ⟨(some 80), .move (.tmp 11), 3, none, []⟩,
    ⟨(some 8), .assign (.tmp 80), 3, none, []⟩,
    ⟨(some 9), .assign (.const (.bool true)), 4, none, []⟩])
  (.ret)))
 (.skip)))
 (.seq (.reg [0, 1, 2, 3, 4, 5, 6, 7, 8, 9, 10, 11, 12, 13, 14, 15] [
   ⟨(some 81), .move (.tmp 0), 25, none, []⟩,
   ⟨(some 82), .move (.tmp 10), 3, none, []⟩,
   ⟨(some 83), .move (.tmp 0), 25, none, []⟩,
   ⟨(some 84), .move (.tmp 11), 3, none, []⟩,
   ⟨(some 85), .move (.tmp 0), 25, none, []⟩,
   ⟨(some 86), .move (.tmp 11), 3, none, []⟩,
   ⟨(some 87), .indexAddr 25 (.tmp 85) (.tmp 86), 0, none, []⟩,
   ⟨(some 88), .load 3 (.tmp 87), 3, none, []⟩,
   ⟨(some 89), .move (.tmp 0), 25, none, []⟩,
   ⟨(some 90), .move (.tmp 10), 3, none, []⟩,
   ⟨(some 91), .indexAddr 25 (.tmp 89) (.tmp 90), 0, none, []⟩,
   ⟨(some 92), .load 3 (.tmp 91), 3, none, []⟩,
   ⟨(some 93), .indexAddr 25 (.tmp 81) (.tmp 82), 0, none, []⟩,
   ⟨none, .store 3 (.tmp 93) (.tmp 88), 0, none, []⟩,
   ⟨(some 94), .indexAddr 25 (.tmp 83) (.tmp 84), 0, none, []⟩,
   ⟨none, .store 3 (.tmp 94) (.tmp 92), 0, none, []⟩])
 (.seq (.reg [] [
   ⟨(some 95), .move (.tmp 10), 3, none, []⟩,
   ⟨(some 96), .binOp .add 3 (.tmp 95) (.const (.int .i64 1)) 3, 3, none, []⟩,
   ⟨(some 10), .assign (.tmp 96), 3, none, []⟩])
 (.seq (.reg [] [
   ⟨(some 97), .move (.tmp 11), 3, none, []⟩,
   ⟨(some 98), .binOp .sub 3 (.tmp 97) (.const (.int .i64 1)) 3, 3, none, []⟩,
   ⟨(some 11), .assign (.tmp 98), 3, none, []⟩])
 (.seq (.block 4 (.loop (.block 5 (.seq (.block 6 (.loop (.seq (.seq (.reg [0, 1, 2, 3, 4, 5, 6, 7, 8, 9, 10, 11, 12, 13] [
        ⟨(some 99), .move (.tmp 10), 3, none, []⟩,
        ⟨(some 100), .move (.tmp 11), 3, none, []⟩,
        ⟨(some 101), .binOp .leq 3 (.tmp 99) (.tmp 100) 3, 4, none, []⟩,
        ⟨(some 102), .move (.tmp 101), 4, none, []⟩,
        ⟨(some 103), .move (.tmp 0), 25, (some ((some 102), true)), []⟩,
        ⟨(some 104), .move (.tmp 10), 3, (some ((some 102), true)), []⟩,
        ⟨(some 105), .indexAddr 25 (.tmp 103) (.tmp 104), 0, (some ((some 102), true)), []⟩,
        ⟨(some 106), .load 3 (.tmp 105), 3, (some ((some 102), true)), []⟩,
        ⟨(some 107), .move (.tmp 0), 25, (some ((some 102), true)), []⟩,
        ⟨(some 108), .move (.tmp 1), 3, (some ((some 102), true)), []⟩,
        ⟨(some 109), .indexAddr 25 (.tmp 107) (.tmp 108), 0, (some ((some 102), true)), []⟩,
        ⟨(some 110), .load 3 (.tmp 109), 3, (some ((some 102), true)), []⟩,
        ⟨(some 111), .call ⟨.value (.func 46), #[(.tmp 106), (.tmp 110)], #[3, 3]⟩, 4, (some ((some 102), true)), []⟩,
        ⟨(some 112), .pick (.tmp 102) (.tmp 111) (.const (.bool false)), 4, none, []⟩])
      (.cond (.tmp 112) (.skip)
      (.exit 6)))
      (.block 7 (.reg [] [
         ⟨(some 113), .move (.tmp 10), 3, none, []⟩,
         ⟨(some 114), .binOp .add 3 (.tmp 113) (.const (.int .i64 1)) 3, 3, none, []⟩,
         ⟨(some 10), .assign (.tmp 114), 3, none, []⟩])))))
    (.seq (.block 8 (.loop (.seq (.seq (.reg [0, 1, 2, 3, 4, 5, 6, 7, 8, 9, 10, 11, 12, 13, 14] [
        ⟨(some 115), .move (.tmp 10), 3, none, []⟩,
        ⟨(some 116), .move (.tmp 11), 3, none, []⟩,
        ⟨(some 117), .binOp .leq 3 (.tmp 115) (.tmp 116) 3, 4, none, []⟩,
        ⟨(some 118), .move (.tmp 117), 4, none, []⟩,
        ⟨(some 119), .move (.tmp 0), 25, (some ((some 118), true)), []⟩,
        ⟨(some 120), .move (.tmp 11), 3, (some ((some 118), true)), []⟩,
        ⟨(some 121), .indexAddr 25 (.tmp 119) (.tmp 120), 0, (some ((some 118), true)), []⟩,
        ⟨(some 122), .load 3 (.tmp 121), 3, (some ((some 118), true)), []⟩,
        ⟨(some 123), .move (.tmp 0), 25, (some ((some 118), true)), []⟩,
        ⟨(some 124), .move (.tmp 1), 3, (some ((some 118), true)), []⟩,
        ⟨(some 125), .indexAddr 25 (.tmp 123) (.tmp 124), 0, (some ((some 118), true)), []⟩,
        ⟨(some 126), .load 3 (.tmp 125), 3, (some ((some 118), true)), []⟩,
        ⟨(some 127), .call ⟨.value (.func 46), #[(.tmp 122), (.tmp 126)], #[3, 3]⟩, 4, (some ((some 118), true)), []⟩,
        ⟨(some 128), .unOp .not 4 (.tmp 127), 4, (some ((some 118), true)), []⟩,
        ⟨(some 129), .pick (.tmp 118) (.tmp 128) (.const (.bool false)), 4, none, []⟩])
      (.cond (.tmp 129) (.skip)
      (.exit 8)))
      (.block 9 (.reg [] [
         ⟨(some 130), .move (.tmp 11), 3, none, []⟩,
         ⟨(some 131), .binOp .sub 3 (.tmp 130) (.const (.int .i64 1)) 3, 3, none, []⟩,
         ⟨(some 11), .assign (.tmp 131), 3, none, []⟩])))))
    (.seq (.seq (.reg [] [
      ⟨(some 132), .move (.tmp 10), 3, none, []⟩,
      ⟨(some 133), .move (.tmp 11), 3, none, []⟩,
      ⟨(some 134), .binOp .gtr 3 (.tmp 132) (.tmp 133) 3, 4, none, []⟩])
    (.cond (.tmp 134) (.exit 4)
    (.skip)))
    (.seq (.reg [0, 1, 2, 3, 4, 5, 6, 7, 8, 9, 10, 11, 12, 13, 14, 15] [
      ⟨(some 135), .move (.tmp 0), 25, none, []⟩,
      ⟨(some 136), .move (.tmp 10), 3, none, []⟩,
      ⟨(some 137), .move (.tmp 0), 25, none, []⟩,
      ⟨(some 138), .move (.tmp 11), 3, none, []⟩,
      ⟨(some 139), .move (.tmp 0), 25, none, []⟩,
      ⟨(some 140), .move (.tmp 11), 3, none, []⟩,
      ⟨(some 141), .indexAddr 25 (.tmp 139) (.tmp 140), 0, none, []⟩,
      ⟨(some 142), .load 3 (.tmp 141), 3, none, []⟩,
      ⟨(some 143), .move (.tmp 0), 25, none, []⟩,
      ⟨(some 144), .move (.tmp 10), 3, none, []⟩,
      ⟨(some 145), .indexAddr 25 (.tmp 143) (.tmp 144), 0, none, []⟩,
      ⟨(some 146), .load 3 (.tmp 145), 3, none, []⟩,
      ⟨(some 147), .indexAddr 25 (.tmp 135) (.tmp 136), 0, none, []⟩,
      ⟨none, .store 3 (.tmp 147) (.tmp 142), 0, none, []⟩,
      ⟨(some 148), .indexAddr 25 (.tmp 137) (.tmp 138), 0, none, []⟩,
      ⟨none, .store 3 (.tmp 148) (.tmp 146), 0, none, []⟩])
    (.seq (.reg [] [
      ⟨(some 149), .move (.tmp 10), 3, none, []⟩,
      ⟨(some 150), .binOp .add 3 (.tmp 149) (.const (.int .i64 1)) 3, 3, none, []⟩,
      ⟨(some 10), .assign (.tmp 150), 3, none, []⟩])
    (.reg [] [
      ⟨(some 151), .move (.tmp 11), 3, none, []⟩,
      ⟨(some 152), .binOp .sub 3 (.tmp 151) (.const (.int .i64 1)) 3, 3, none, []⟩,
      ⟨(some 11), .assign (.tmp 152), 3, none, []⟩])))))))))
 (.seq (.reg [0, 1, 2, 3, 4, 5, 6, 7, 8, 9, 10, 11, 12, 13, 14, 15] [
   ⟨(some 153), .move (.tmp 0), 25, none, []⟩,
   ⟨(some 154), .move (.tmp 11), 3, none, []⟩,
   ⟨(some 155), .move (.tmp 0), 25, none, []⟩,
   ⟨(some 156), .move (.tmp 1), 3, none, []⟩,
   ⟨(some 157), .move (.tmp 0), 25, none, []⟩,
   ⟨(some 158), .move (.tmp 1), 3, none, []⟩,
   ⟨(some 159), .indexAddr 25 (.tmp 157) (.tmp 158), 0, none, []⟩,
   ⟨(some 160), .load 3 (.tmp 159), 3, none, []⟩,
   ⟨(some 161), .move (.tmp 0), 25, none, []⟩,
   ⟨(some 162), .move (.tmp 11), 3, none, []⟩,
   ⟨(some 163), .indexAddr 25 (.tmp 161) (.tmp 162), 0, none, []⟩,
   ⟨(some 164), .load 3 (.tmp 163), 3, none, []⟩,
   ⟨(some 165), .indexAddr 25 (.tmp 153) (.tmp 154), 0, none, []⟩,
   ⟨none, .store 3 (.tmp 165) (.tmp 160), 0, none, []⟩,
   ⟨(some 166), .indexAddr 25 (.tmp 155) (.tmp 156), 0, none, []⟩,
   ⟨none, .store 3 (.tmp 166) (.tmp 164), 0, none, []⟩])
 (.seq (.reg [] [
   ⟨(some 167), .move (.tmp 11), 3, none, []⟩,
   ⟨(some 8), .assign (.tmp 167), 3, none, []⟩,
   ⟨(some 9), .assign (.const (.bool false)), 4, none, []⟩])
 (.ret))))))))))))
/-- math/bits.Len32 -/
def c61 : RC :=
  .seq (.reg [] [
   ⟨(some 2), .assign (.const (.int .i64 0)), 3, none, []⟩])
 (.seq (.seq (.reg [] [
   ⟨(some 3), .move (.tmp 0), 85, none, []⟩,
   ⟨(some 4), .binOp .geq 85 (.tmp 3) (.const (.int .u32 65536)) 85, 4, none, []⟩])
 (.cond (.tmp 4) (.seq (.reg [] [
    ⟨(some 5), .move (.tmp 0), 85, none, []⟩,
    ⟨(some 6), .binOp .shr 85 (.tmp 5) (.const (.int .u64 16)) 75, 85, none, []⟩,
    ⟨(some 0), .assign (.tmp 6), 85, none, []⟩])
  (.reg [] [
    ⟨(some 2), .assign (.const (.int .i64 16)), 3, none, []⟩]))
 (.skip)))
 (.seq (.seq (.reg [] [
   ⟨(some 7), .move (.tmp 0), 85, none, []⟩,
   ⟨(some 8), .binOp .geq 85 (.tmp 7) (.const (.int .u32 256)) 85, 4, none, []⟩])
 (.cond (.tmp 8) (.seq (.reg [] [
    ⟨(some 9), .move (.tmp 0), 85, none, []⟩,
    ⟨(some 10), .binOp .shr 85 (.tmp 9) (.const (.int .u64 8)) 75, 85, none, []⟩,
    ⟨(some 0), .assign (.tmp 10), 85, none, []⟩])
  (.reg [] [
    ⟨(some 11), .move (.tmp 2), 3, none, []⟩,
    ⟨(some 12), .binOp .add 3 (.tmp 11) (.const (.int .i64 8)) 3, 3, none, []⟩,
    ⟨(some 2), .assign (.tmp 12), 3, none, []⟩]))
 (.skip)))
 (.seq (.reg [] [
   ⟨(some 13), .move (.tmp 2), 3, none, []⟩,
   ⟨(some 14), .move (.tmp 0), 85, none, []⟩,
   ⟨(some 15), .convert 85 5 (.tmp 14), 5, none, []⟩,
   ⟨(some 16), .index 9 (.const (.string ⟨#[0, 1, 2, 2, 3, 3, 3, 3, 4, 4, 4, 4, 4, 4, 4, 4, 5, 5, 5, 5, 5, 5, 5, 5, 5, 5, 5, 5, 5, 5, 5, 5, 6, 6, 6, 6, 6, 6, 6, 6, 6, 6, 6, 6, 6, 6, 6, 6, 6, 6, 6, 6, 6, 6, 6, 6, 6, 6, 6, 6, 6, 6, 6, 6, 7, 7, 7, 7, 7, 7, 7, 7, 7, 7, 7, 7, 7, 7, 7, 7, 7, 7, 7, 7, 7, 7, 7, 7, 7, 7, 7, 7, 7, 7, 7, 7, 7, 7, 7, 7, 7, 7, 7, 7, 7, 7, 7, 7, 7, 7, 7, 7, 7, 7, 7, 7, 7, 7, 7, 7, 7, 7, 7, 7, 7, 7, 7, 7, 8, 8, 8, 8, 8, 8, 8, 8, 8, 8, 8, 8, 8, 8, 8, 8, 8, 8, 8, 8, 8, 8, 8, 8, 8, 8, 8, 8, 8, 8, 8, 8, 8, 8, 8, 8, 8, 8, 8, 8, 8, 8, 8, 8, 8, 8, 8, 8, 8, 8, 8, 8, 8, 8, 8, 8, 8, 8, 8, 8, 8, 8, 8, 8, 8, 8, 8, 8, 8, 8, 8, 8, 8, 8, 8, 8, 8, 8, 8, 8, 8, 8, 8, 8, 8, 8, 8, 8, 8, 8, 8, 8, 8, 8, 8, 8, 8, 8, 8, 8, 8, 8, 8, 8, 8, 8, 8, 8, 8, 8, 8, 8, 8, 8, 8, 8, 8, 8, 8, 8, 8, 8, 8, 8, 8, 8, 8, 8]⟩)) (.tmp 15), 5, none, []⟩,
   ⟨(some 17), .convert 5 3 (.tmp 16), 3, none, []⟩,
   ⟨(some 18), .binOp .add 3 (.tmp 13) (.tmp 17) 3, 3, none, []⟩,
   ⟨(some 2), .assign (.tmp 18), 3, none, []⟩])
 (.ret))))
/-- math/bits.Len64 -/
def c62 : RC :=
  .seq (.reg [] [
   ⟨(some 2), .assign (.const (.int .i64 0)), 3, none, []⟩])
 (.seq (.seq (.reg [] [
   ⟨(some 3), .move (.tmp 0), 60, none, []⟩,
   ⟨(some 4), .binOp .geq 60 (.tmp 3) (.const (.int .u64 4294967296)) 60, 4, none, []⟩])
 (.cond (.tmp 4) (.seq (.reg [] [
    ⟨(some 5), .move (.tmp 0), 60, none, []⟩,
    ⟨(some 6), .binOp .shr 60 (.tmp 5) (.const (.int .u64 32)) 75, 60, none, []⟩,
    ⟨(some 0), .assign (.tmp 6), 60, none, []⟩])
  (.reg [] [
    ⟨(some 2), .assign (.const (.int .i64 32)), 3, none, []⟩]))
 (.skip)))
 (.seq (.seq (.reg [] [
   ⟨(some 7), .move (.tmp 0), 60, none, []⟩,
   ⟨(some 8), .binOp .geq 60 (.tmp 7) (.const (.int .u64 65536)) 60, 4, none, []⟩])
 (.cond (.tmp 8) (.seq (.reg [] [
    ⟨(some 9), .move (.tmp 0), 60, none, []⟩,
    ⟨(some 10), .binOp .shr 60 (.tmp 9) (.const (.int .u64 16)) 75, 60, none, []⟩,
    ⟨(some 0), .assign (.tmp 10), 60, none, []⟩])
  (.reg [] [
    ⟨(some 11), .move (.tmp 2), 3, none, []⟩,
    ⟨(some 12), .binOp .add 3 (.tmp 11) (.const (.int .i64 16)) 3, 3, none, []⟩,
    ⟨(some 2), .assign (.tmp 12), 3, none, []⟩]))
 (.skip)))
 (.seq (.seq (.reg [] [
   ⟨(some 13), .move (.tmp 0), 60, none, []⟩,
   ⟨(some 14), .binOp .geq 60 (.tmp 13) (.const (.int .u64 256)) 60, 4, none, []⟩])
 (.cond (.tmp 14) (.seq (.reg [] [
    ⟨(some 15), .move (.tmp 0), 60, none, []⟩,
    ⟨(some 16), .binOp .shr 60 (.tmp 15) (.const (.int .u64 8)) 75, 60, none, []⟩,
    ⟨(some 0), .assign (.tmp 16), 60, none, []⟩])
  (.reg [] [
    ⟨(some 17), .move (.tmp 2), 3, none, []⟩,
    ⟨(some 18), .binOp .add 3 (.tmp 17) (.const (.int .i64 8)) 3, 3, none, []⟩,
    ⟨(some 2), .assign (.tmp 18), 3, none, []⟩]))
 (.skip)))
 (.seq (.reg [] [
   ⟨(some 19), .move (.tmp 2), 3, none, []⟩,
   ⟨(some 20), .move (.tmp 0), 60, none, []⟩,
   ⟨(some 21), .convert 60 5 (.tmp 20), 5, none, []⟩,
   ⟨(some 22), .index 9 (.const (.string ⟨#[0, 1, 2, 2, 3, 3, 3, 3, 4, 4, 4, 4, 4, 4, 4, 4, 5, 5, 5, 5, 5, 5, 5, 5, 5, 5, 5, 5, 5, 5, 5, 5, 6, 6, 6, 6, 6, 6, 6, 6, 6, 6, 6, 6, 6, 6, 6, 6, 6, 6, 6, 6, 6, 6, 6, 6, 6, 6, 6, 6, 6, 6, 6, 6, 7, 7, 7, 7, 7, 7, 7, 7, 7, 7, 7, 7, 7, 7, 7, 7, 7, 7, 7, 7, 7, 7, 7, 7, 7, 7, 7, 7, 7, 7, 7, 7, 7, 7, 7, 7, 7, 7, 7, 7, 7, 7, 7, 7, 7, 7, 7, 7, 7, 7, 7, 7, 7, 7, 7, 7, 7, 7, 7, 7, 7, 7, 7, 7, 8, 8, 8, 8, 8, 8, 8, 8, 8, 8, 8, 8, 8, 8, 8, 8, 8, 8, 8, 8, 8, 8, 8, 8, 8, 8, 8, 8, 8, 8, 8, 8, 8, 8, 8, 8, 8, 8, 8, 8, 8, 8, 8, 8, 8, 8, 8, 8, 8, 8, 8, 8, 8, 8, 8, 8, 8, 8, 8, 8, 8, 8, 8, 8, 8, 8, 8, 8, 8, 8, 8, 8, 8, 8, 8, 8, 8, 8, 8, 8, 8, 8, 8, 8, 8, 8, 8, 8, 8, 8, 8, 8, 8, 8, 8, 8, 8, 8, 8, 8, 8, 8, 8, 8, 8, 8, 8, 8, 8, 8, 8, 8, 8, 8, 8, 8, 8, 8, 8, 8, 8, 8, 8, 8, 8, 8, 8, 8]⟩)) (.tmp 21), 5, none, []⟩,
   ⟨(some 23), .convert 5 3 (.tmp 22), 3, none, []⟩,
   ⟨(some 24), .binOp .add 3 (.tmp 19) (.tmp 23) 3, 3, none, []⟩,
   ⟨(some 2), .assign (.tmp 24), 3, none, []⟩])
 (.ret)))))
/-- slices.siftDownOrdered[int] -/
def c63 : RC :=
  .seq (.reg [] [
   ⟨(some 10), .move (.tmp 1), 3, none, []⟩,
   ⟨(some 8), .assign (.tmp 10), 3, none, []⟩])
 (.block 0 (.loop (.block 1 (.seq (.reg [] [
      ⟨(some 11), .move (.tmp 8), 3, none, []⟩,
      ⟨(some 12), .binOp .mul 3 (.const (.int .i64 2)) (.tmp 11) 3, 3, none, []⟩,
      ⟨(some 13), .binOp .add 3 (.tmp 12) (.const (.int .i64 1)) 3, 3, none, []⟩,
      ⟨(some 9), .assign (.tmp 13), 3, none, []⟩])
    (.seq (.seq (.reg [] [
      ⟨(some 14), .move (.tmp 9), 3, none, []⟩,
      ⟨(some 15), .move (.tmp 2), 3, none, []⟩,
      ⟨(some 16), .binOp .geq 3 (.tmp 14) (.tmp 15) 3, 4, none, []⟩])
    (.cond (.tmp 16) (.exit 0)
    (.skip)))
    (.seq (.seq (.reg [0, 1, 2, 3, 4, 5, 6, 7, 8, 9, 10, 11, 12, 13, 14, 15, 16, 17, 18, 19] [
      ⟨(some 17), .move (.tmp 9), 3, none, []⟩,
      ⟨(some 18), .binOp .add 3 (.tmp 17) (.const (.int .i64 1)) 3, 3, none, []⟩,
      ⟨(some 19), .move (.tmp 2), 3, none, []⟩,
      ⟨(some 20), .binOp .lss 3 (.tmp 18) (.tmp 19) 3, 4, none, []⟩,
      ⟨(some 21), .move (.tmp 20), 4, none, []⟩,
      ⟨(some 22), .move (.tmp 0), 25, (some ((some 21), true)), []⟩,
      ⟨(some 23), .move (.tmp 3), 3, (some ((some 21), true)), []⟩,
      ⟨(some 24), .move (.tmp 9), 3, (some ((some 21), true)), []⟩,
      ⟨(some 25), .binOp .add 3 (.tmp 23) (.tmp 24) 3, 3, (some ((some 21), true)), []⟩,
      ⟨(some 26), .indexAddr 25 (.tmp 22) (.tmp 25), 0, (some ((some 21), true)), []⟩,
      ⟨(some 27), .load 3 (.tmp 26), 3, (some ((some 21), true)), []⟩,
      ⟨(some 28), .move (.tmp 0), 25, (some ((some 21), true)), []⟩,
      ⟨(some 29), .move (.tmp 3), 3, (some ((some 21), true)), []⟩,
      ⟨(some 30), .move (.tmp 9), 3, (some ((some 21), true)), []⟩,
      ⟨(some 31), .binOp .add 3 (.tmp 29) (.tmp 30) 3, 3, (some ((some 21), true)), []⟩,
      ⟨(some 32), .binOp .add 3 (.tmp 31) (.const (.int .i64 1)) 3, 3, (some ((some 21), true)), []⟩,
      ⟨(some 33), .indexAddr 25 (.tmp 28) (.tmp 32), 0, (some ((some 21), true)), []⟩,
      ⟨(some 34), .load 3 (.tmp 33), 3, (some ((some 21), true)), []⟩,
      ⟨(some 35), .call ⟨.value (.func 46), #[(.tmp 27), (.tmp 34)], #[3, 3]⟩, 4, (some ((some 21), true)), []⟩,
      ⟨(some 36), .pick (.tmp 21) (.tmp 35) (.const (.bool false)), 4, none, []⟩])
    (.cond (.tmp 36) (.reg [] [
       ⟨(some 37), .move (.tmp 9), 3, none, []⟩,
       ⟨(some 38), .binOp .add 3 (.tmp 37) (.const (.int .i64 1)) 3, 3, none, []⟩,
       ⟨(some 9), .assign (.tmp 38), 3, none, []⟩])
    (.skip)))
    (.seq (.seq (.reg [0, 1, 2, 3, 4, 5, 6, 7, 8, 9, 10, 11, 12, 13] [
      ⟨(some 39), .move (.tmp 0), 25, none, []⟩,
      ⟨(some 40), .move (.tmp 3), 3, none, []⟩,
      ⟨(some 41), .move (.tmp 8), 3, none, []⟩,
      ⟨(some 42), .binOp .add 3 (.tmp 40) (.tmp 41) 3, 3, none, []⟩,
      ⟨(some 43), .indexAddr 25 (.tmp 39) (.tmp 42), 0, none, []⟩,
      ⟨(some 44), .load 3 (.tmp 43), 3, none, []⟩,
      ⟨(some 45), .move (.tmp 0), 25, none, []⟩,
      ⟨(some 46), .move (.tmp 3), 3, none, []⟩,
      ⟨(some 47), .move (.tmp 9), 3, none, []⟩,
      ⟨(some 48), .binOp .add 3 (.tmp 46) (.tmp 47) 3, 3, none, []⟩,
      ⟨(some 49), .indexAddr 25 (.tmp 45) (.tmp 48), 0, none, []⟩,
      ⟨(some 50), .load 3 (.tmp 49), 3, none, []⟩,
      ⟨(some 51), .call ⟨.value (.func 46), #[(.tmp 44), (.tmp 50)], #[3, 3]⟩, 4, none, []⟩,
      ⟨(some 52), .unOp .not 4 (.tmp 51), 4, none, []⟩])
    (.cond (.tmp 52) (.ret)
    (.skip)))
    (.seq (.reg [0, 1, 2, 3, 4, 5, 6, 7, 8, 9, 10, 11, 12, 13, 14, 15, 16, 17, 18, 19, 20, 21, 22, 23] [
      ⟨(some 53), .move (.tmp 0), 25, none, []⟩,
      ⟨(some 54), .move (.tmp 3), 3, none, []⟩,
      ⟨(some 55), .move (.tmp 8), 3, none, []⟩,
      ⟨(some 56), .binOp .add 3 (.tmp 54) (.tmp 55) 3, 3, none, []⟩,
      ⟨(some 57), .move (.tmp 0), 25, none, []⟩,
      ⟨(some 58), .move (.tmp 3), 3, none, []⟩,
      ⟨(some 59), .move (.tmp 9), 3, none, []⟩,
      ⟨(some 60), .binOp .add 3 (.tmp 58) (.tmp 59) 3, 3, none, []⟩,
      ⟨(some 61), .move (.tmp 0), 25, none, []⟩,
      ⟨(some 62), .move (.tmp 3), 3, none, []⟩,
      ⟨(some 63), .move (.tmp 9), 3, none, []⟩,
      ⟨(some 64), .binOp .add 3 (.tmp 62) (.tmp 63) 3, 3, none, []⟩,
      ⟨(some 65), .indexAddr 25 (.tmp 61) (.tmp 64), 0, none, []⟩,
      ⟨(some 66), .load 3 (.tmp 65), 3, none, []⟩,
      ⟨(some 67), .move (.tmp 0), 25, none, []⟩,
      ⟨(some 68), .move (.tmp 3), 3, none, []⟩,
      ⟨(some 69), .move (.tmp 8), 3, none, []⟩,
      ⟨(some 70), .binOp .add 3 (.tmp 68) (.tmp 69) 3, 3, none, []⟩,
      ⟨(some 71), .indexAddr 25 (.tmp 67) (.tmp 70), 0, none, []⟩,
      ⟨(some 72), .load 3 (.tmp 71), 3, none, []⟩,
      ⟨(some 73), .indexAddr 25 (.tmp 53) (.tmp 56), 0, none, []⟩,
      ⟨none, .store 3 (.tmp 73) (.tmp 66), 0, none, []⟩,
      ⟨(some 74), .indexAddr 25 (.tmp 57) (.tmp 60), 0, none, []⟩,
      ⟨none, .store 3 (.tmp 74) (.tmp 72), 0, none, []⟩])
    (.reg [] [
      ⟨(some 75), .move (.tmp 9), 3, none, []⟩,
      ⟨(some 8), .assign (.tmp 75), 3, none, []⟩])))))))))
/-- slices.nextPowerOfTwo -/
def c64 : RC :=
  .seq (.reg [] [
   ⟨(some 2), .assign (.const (.int .u64 0)), 75, none, []⟩])
 (.seq (.reg [] [
   ⟨(some 3), .move (.tmp 0), 3, none, []⟩,
   ⟨(some 4), .convert 3 75 (.tmp 3), 75, none, []⟩,
   ⟨(some 5), .call ⟨.value (.func 49), #[(.tmp 4)], #[75]⟩, 3, none, []⟩,
   ⟨(some 6), .binOp .shl 75 (.const (.int .u64 1)) (.tmp 5) 3, 75, none, []⟩,
   ⟨(some 2), .assign (.tmp 6), 75, none, []⟩])
 (.ret))
/-- (*slices.xorshift).Next -/
def c65 : RC :=
  .seq (.reg [] [
   ⟨(some 2), .assign (.const (.int .u64 0)), 60, none, []⟩])
 (.seq (.reg [0, 1, 2, 3, 4, 5, 6, 7, 8, 9] [
   ⟨(some 3), .move (.tmp 0), 102, none, []⟩,
   ⟨(some 4), .nilCheck (.tmp 3), 0, none, []⟩,
   ⟨(some 5), .load 96 (.tmp 4), 96, none, []⟩,
   ⟨(some 6), .move (.tmp 0), 102, none, []⟩,
   ⟨(some 7), .nilCheck (.tmp 6), 0, none, []⟩,
   ⟨(some 8), .load 96 (.tmp 7), 96, none, []⟩,
   ⟨(some 9), .binOp .shl 96 (.tmp 8) (.const (.int .u64 13)) 75, 96, none, []⟩,
   ⟨(some 10), .binOp .xor 96 (.tmp 5) (.tmp 9) 96, 96, none, []⟩,
   ⟨(some 11), .nilCheck (.tmp 3), 0, none, []⟩,
   ⟨none, .store 96 (.tmp 11) (.tmp 10), 0, none, []⟩])
 (.seq (.reg [0, 1, 2, 3, 4, 5, 6, 7, 8, 9] [
   ⟨(some 12), .move (.tmp 0), 102, none, []⟩,
   ⟨(some 13), .nilCheck (.tmp 12), 0, none, []⟩,
   ⟨(some 14), .load 96 (.tmp 13), 96, none, []⟩,
   ⟨(some 15), .move (.tmp 0), 102, none, []⟩,
   ⟨(some 16), .nilCheck (.tmp 15), 0, none, []⟩,
   ⟨(some 17), .load 96 (.tmp 16), 96, none, []⟩,
   ⟨(some 18), .binOp .shr 96 (.tmp 17) (.const (.int .u64 7)) 75, 96, none, []⟩,
   ⟨(some 19), .binOp .xor 96 (.tmp 14) (.tmp 18) 96, 96, none, []⟩,
   ⟨(some 20), .nilCheck (.tmp 12), 0, none, []⟩,
   ⟨none, .store 96 (.tmp 20) (.tmp 19), 0, none, []⟩])
 (.seq (.reg [0, 1, 2, 3, 4, 5, 6, 7, 8, 9] [
   ⟨(some 21), .move (.tmp 0), 102, none, []⟩,
   ⟨(some 22), .nilCheck (.tmp 21), 0, none, []⟩,
   ⟨(some 23), .load 96 (.tmp 22), 96, none, []⟩,
   ⟨(some 24), .move (.tmp 0), 102, none, []⟩,
   ⟨(some 25), .nilCheck (.tmp 24), 0, none, []⟩,
   ⟨(some 26), .load 96 (.tmp 25), 96, none, []⟩,
   ⟨(some 27), .binOp .shl 96 (.tmp 26) (.const (.int .u64 17)) 75, 96, none, []⟩,
   ⟨(some 28), .binOp .xor 96 (.tmp 23) (.tmp 27) 96, 96, none, []⟩,
   ⟨(some 29), .nilCheck (.tmp 21), 0, none, []⟩,
   ⟨none, .store 96 (.tmp 29) (.tmp 28), 0, none, []⟩])
 (.seq (.reg [] [
   ⟨(some 30), .move (.tmp 0), 102, none, []⟩,
   ⟨(some 31), .nilCheck (.tmp 30), 0, none, []⟩,
   ⟨(some 32), .load 96 (.tmp 31), 96, none, []⟩,
   ⟨(some 2), .assign (.tmp 32), 60, none, []⟩])
 (.ret)))))
/-- slices.medianAdjacentOrdered[int] -/
def c66 : RC :=
  .seq (.reg [] [
   ⟨(some 6), .assign (.const (.int .i64 0)), 3, none, []⟩])
 (.seq (.reg [] [
   ⟨(some 7), .move (.tmp 0), 25, none, []⟩,
   ⟨(some 8), .move (.tmp 1), 3, none, []⟩,
   ⟨(some 9), .binOp .sub 3 (.tmp 8) (.const (.int .i64 1)) 3, 3, none, []⟩,
   ⟨(some 10), .move (.tmp 1), 3, none, []⟩,
   ⟨(some 11), .move (.tmp 1), 3, none, []⟩,
   ⟨(some 12), .binOp .add 3 (.tmp 11) (.const (.int .i64 1)) 3, 3, none, []⟩,
   ⟨(some 13), .move (.tmp 2), 100, none, []⟩,
   ⟨(some 14), .call ⟨.value (.func 67), #[(.tmp 7), (.tmp 9), (.tmp 10), (.tmp 12), (.tmp 13)], #[25, 3, 3, 3, 100]⟩, 3, none, []⟩,
   ⟨(some 6), .assign (.tmp 14), 3, none, []⟩])
 (.ret))
/-- slices.medianOrdered[int] -/
def c67 : RC :=
  .seq (.reg [] [
   ⟨(some 10), .assign (.const (.int .i64 0)), 3, none, []⟩])
 (.seq (.reg [] [
   ⟨(some 12), .move (.tmp 0), 25, none, []⟩,
   ⟨(some 13), .move (.tmp 1), 3, none, []⟩,
   ⟨(some 14), .move (.tmp 2), 3, none, []⟩,
   ⟨(some 15), .move (.tmp 4), 100, none, []⟩,
   ⟨(some 16), .call ⟨.value (.func 68), #[(.tmp 12), (.tmp 13), (.tmp 14), (.tmp 15)], #[25, 3, 3, 100]⟩, 103, none, []⟩,
   ⟨(some 11), .move (.tmp 16), 103, none, []⟩,
   ⟨(some 17), .extract (.tmp 11) 0, 3, none, []⟩,
   ⟨(some 18), .extract (.tmp 11) 1, 3, none, []⟩,
   ⟨(some 1), .assign (.tmp 17), 3, none, []⟩,
   ⟨(some 2), .assign (.tmp 18), 3, none, []⟩])
 (.seq (.reg [] [
   ⟨(some 20), .move (.tmp 0), 25, none, []⟩,
   ⟨(some 21), .move (.tmp 2), 3, none, []⟩,
   ⟨(some 22), .move (.tmp 3), 3, none, []⟩,
   ⟨(some 23), .move (.tmp 4), 100, none, []⟩,
   ⟨(some 24), .call ⟨.value (.func 68), #[(.tmp 20), (.tmp 21), (.tmp 22), (.tmp 23)], #[25, 3, 3, 100]⟩, 103, none, []⟩,
   ⟨(some 19), .move (.tmp 24), 103, none, []⟩,
   ⟨(some 25), .extract (.tmp 19) 0, 3, none, []⟩,
   ⟨(some 26), .extract (.tmp 19) 1, 3, none, []⟩,
   ⟨(some 2), .assign (.tmp 25), 3, none, []⟩,
   ⟨(some 3), .assign (.tmp 26), 3, none, []⟩])
 (.seq (.reg [] [
   ⟨(some 28), .move (.tmp 0), 25, none, []⟩,
   ⟨(some 29), .move (.tmp 1), 3, none, []⟩,
   ⟨(some 30), .move (.tmp 2), 3, none, []⟩,
   ⟨(some 31), .move (.tmp 4), 100, none, []⟩,
   ⟨(some 32), .call ⟨.value (.func 68), #[(.tmp 28), (.tmp 29), (.tmp 30), (.tmp 31)], #[25, 3, 3, 100]⟩, 103, none, []⟩,
   ⟨(some 27), .move (.tmp 32), 103, none, []⟩,
   ⟨(some 33), .extract (.tmp 27) 0, 3, none, []⟩,
   ⟨(some 34), .extract (.tmp 27) 1, 3, none, []⟩,
   ⟨(some 1), .assign (.tmp 33), 3, none, []⟩,
   ⟨(some 2), .assign (.tmp 34), 3, none, []⟩])
 (.seq (.reg [] [
   ⟨(some 35), .move (.tmp 2), 3, none, []⟩,
   ⟨(some 10), .assign (.tmp 35), 3, none, []⟩])
 (.ret)))))
/-- slices.order2Ordered[int] -/
def c68 : RC :=
  .seq (.reg [] [
   ⟨(some 8), .assign (.const (.int .i64 0)), 3, none, []⟩,
   ⟨(some 9), .assign (.const (.int .i64 0)), 3, none, []⟩])
 (.seq (.seq (.reg [0, 1, 2, 3, 4, 5, 6, 7, 8] [
   ⟨(some 10), .move (.tmp 0), 25, none, []⟩,
   ⟨(some 11), .move (.tmp 2), 3, none, []⟩,
   ⟨(some 12), .indexAddr 25 (.tmp 10) (.tmp 11), 0, none, []⟩,
   ⟨(some 13), .load 3 (.tmp 12), 3, none, []⟩,
   ⟨(some 14), .move (.tmp 0), 25, none, []⟩,
   ⟨(some 15), .move (.tmp 1), 3, none, []⟩,
   ⟨(some 16), .indexAddr 25 (.tmp 14) (.tmp 15), 0, none, []⟩,
   ⟨(some 17), .load 3 (.tmp 16), 3, none, []⟩,
   ⟨(some 18), .call ⟨.value (.func 46), #[(.tmp 13), (.tmp 17)], #[3, 3]⟩, 4, none, []⟩])
 (.cond (.tmp 18) (.seq (.reg [] [
    ⟨(some 19), .move (.tmp 3), 100, none, []⟩,
    ⟨(some 20), .nilCheck (.tmp 19), 0, none, []⟩,
    ⟨(some 21), .load 3 (.tmp 20), 3, none, []⟩,
    ⟨(some 22), .binOp .add 3 (.tmp 21) (.const (.int .i64 1)) 3, 3, none, []⟩,
    ⟨(some 23), .nilCheck (.tmp 19), 0, none, []⟩,
    ⟨none, .store 3 (.tmp 23) (.tmp 22), 0, none, []⟩])
  (.seq (.reg [] [
    ⟨(some 24), .move (.tmp 2), 3, none, []⟩,
    ⟨(some 25), .move (.tmp 1), 3, none, []⟩,
    ⟨(some 8), .assign (.tmp 24), 3, none, []⟩,
    ⟨(some 9), .assign (.tmp 25), 3, none, []⟩])
  (.ret)))
 (.skip)))
 (.seq (.reg [] [
   ⟨(some 26), .move (.tmp 1), 3, none, []⟩,
   ⟨(some 27), .move (.tmp 2), 3, none, []⟩,
   ⟨(some 8), .assign (.tmp 26), 3, none, []⟩,
   ⟨(some 9), .assign (.tmp 27), 3, none, []⟩])
 (.ret)))
def ti3 : TI := ⟨.int .i64, 1, 8, (some (.int .i64 0)), false⟩
def ti4 : TI := ⟨.bool, 1, 1, (some (.bool false)), false⟩
def ti5 : TI := ⟨.int .u8, 1, 1, (some (.int .u8 0)), false⟩
def ti9 : TI := ⟨.string, 1, 16, (some (.string ⟨#[]⟩)), false⟩
def ti22 : TI := ⟨.slice 55, 1, 24, (some (.slice none 0 0)), false⟩
def ti24 : TI := ⟨.struct #[⟨ "Lanes", 3, 0, false, "", "", 0⟩, ⟨ "Comparators", 22, 1, false, "", "", 8⟩], 2, 32, (some (.agg #[(.int .i64 0), (.slice none 0 0)])), false⟩
def ti25 : TI := ⟨.slice 3, 1, 24, (some (.slice none 0 0)), false⟩
def ti28 : TI := ⟨.struct #[⟨ "Lanes", 3, 0, false, "", "", 0⟩, ⟨ "Comparators", 22, 1, false, "", "", 8⟩], 2, 32, (some (.agg #[(.int .i64 0), (.slice none 0 0)])), false⟩
def ti29 : TI := ⟨.int .i64, 1, 8, (some (.int .i64 0)), false⟩
def ti43 : TI := ⟨.slice 25, 1, 24, (some (.slice none 0 0)), false⟩
def ti55 : TI := ⟨.array 2 3, 2, 16, (some (.agg #[(.int .i64 0), (.int .i64 0)])), true⟩
def ti60 : TI := ⟨.int .u64, 1, 8, (some (.int .u64 0)), false⟩
def ti61 : TI := ⟨.array 2 60, 2, 16, (some (.agg #[(.int .u64 0), (.int .u64 0)])), true⟩
def ti63 : TI := ⟨.array 7 61, 14, 112, (some (.agg #[(.int .u64 0), (.int .u64 0), (.int .u64 0), (.int .u64 0), (.int .u64 0), (.int .u64 0), (.int .u64 0), (.int .u64 0), (.int .u64 0), (.int .u64 0), (.int .u64 0), (.int .u64 0), (.int .u64 0), (.int .u64 0)])), true⟩
def ti73 : TI := ⟨.array 7 3, 7, 56, (some (.agg #[(.int .i64 0), (.int .i64 0), (.int .i64 0), (.int .i64 0), (.int .i64 0), (.int .i64 0), (.int .i64 0)])), true⟩
def ti75 : TI := ⟨.int .u64, 1, 8, (some (.int .u64 0)), false⟩
def ti76 : TI := ⟨.map 63 4, 1, 8, (some (.map none)), false⟩
def ti78 : TI := ⟨.struct #[⟨ "rows", 63, 0, false, "", "spadille/table", 0⟩, ⟨ "by", 22, 14, false, "", "spadille/table", 112⟩], 15, 136, (some (.agg #[(.int .u64 0), (.int .u64 0), (.int .u64 0), (.int .u64 0), (.int .u64 0), (.int .u64 0), (.int .u64 0), (.int .u64 0), (.int .u64 0), (.int .u64 0), (.int .u64 0), (.int .u64 0), (.int .u64 0), (.int .u64 0), (.slice none 0 0)])), false⟩
def ti79 : TI := ⟨.slice 78, 1, 24, (some (.slice none 0 0)), false⟩
def ti85 : TI := ⟨.int .u32, 1, 4, (some (.int .u32 0)), false⟩
def ti87 : TI := ⟨.array 64 5, 64, 64, (some (.agg #[(.int .u8 0), (.int .u8 0), (.int .u8 0), (.int .u8 0), (.int .u8 0), (.int .u8 0), (.int .u8 0), (.int .u8 0), (.int .u8 0), (.int .u8 0), (.int .u8 0), (.int .u8 0), (.int .u8 0), (.int .u8 0), (.int .u8 0), (.int .u8 0), (.int .u8 0), (.int .u8 0), (.int .u8 0), (.int .u8 0), (.int .u8 0), (.int .u8 0), (.int .u8 0), (.int .u8 0), (.int .u8 0), (.int .u8 0), (.int .u8 0), (.int .u8 0), (.int .u8 0), (.int .u8 0), (.int .u8 0), (.int .u8 0), (.int .u8 0), (.int .u8 0), (.int .u8 0), (.int .u8 0), (.int .u8 0), (.int .u8 0), (.int .u8 0), (.int .u8 0), (.int .u8 0), (.int .u8 0), (.int .u8 0), (.int .u8 0), (.int .u8 0), (.int .u8 0), (.int .u8 0), (.int .u8 0), (.int .u8 0), (.int .u8 0), (.int .u8 0), (.int .u8 0), (.int .u8 0), (.int .u8 0), (.int .u8 0), (.int .u8 0), (.int .u8 0), (.int .u8 0), (.int .u8 0), (.int .u8 0), (.int .u8 0), (.int .u8 0), (.int .u8 0), (.int .u8 0)])), true⟩
def ti89 : TI := ⟨.int .i64, 1, 8, (some (.int .i64 0)), false⟩
def ti96 : TI := ⟨.int .u64, 1, 8, (some (.int .u64 0)), false⟩
def ti100 : TI := ⟨.pointer 3, 1, 8, (some (.pointer none)), false⟩
def ttTr : Tr TI := (.node none (.node none (.node (some ti3) (.node none (.node none (.node none (.node (some ti63) .nil .nil) .nil) (.node none (.node (some ti79) .nil .nil) .nil)) (.node none .nil (.node (some ti55) (.node (some ti87) .nil .nil) .nil))) (.node none .nil (.node none (.node (some ti43) (.node (some ti75) .nil .nil) .nil) .nil))) (.node (some ti5) (.node (some ti9) .nil (.node (some ti25) (.node none (.node (some ti73) .nil .nil) .nil) (.node none (.node (some ti89) .nil .nil) .nil))) (.node none (.node none .nil (.node none (.node (some ti85) .nil .nil) .nil)) (.node (some ti29) .nil (.node (some ti61) .nil .nil))))) (.node none (.node (some ti4) (.node none (.node none (.node none .nil (.node (some ti96) .nil .nil)) .nil) (.node (some ti24) .nil .nil)) (.node none (.node none (.node none .nil (.node (some ti100) .nil .nil)) .nil) (.node (some ti28) (.node none (.node (some ti76) .nil .nil) .nil) (.node (some ti60) .nil .nil)))) (.node none .nil (.node none (.node (some ti22) .nil .nil) (.node none (.node none (.node (some ti78) .nil .nil) .nil) .nil)))))
noncomputable def tt : TT := ttTr.get
def fnTr : Tr RFn := (.node none (.node none (.node (some ⟨54, c3, [.tmp 4]⟩) (.node (some ⟨24, c7, [.tmp 4, .tmp 5]⟩) (.node (some ⟨19, c15, [.tmp 2, .tmp 3]⟩) (.node (some ⟨15, c31, [.tmp 6]⟩) (.node (some ⟨76, c63, []⟩) .nil .nil) .nil) (.node (some ⟨14, c47, [.tmp 2]⟩) .nil .nil)) (.node (some ⟨63, c23, [.tmp 4, .tmp 5]⟩) (.node (some ⟨11, c39, []⟩) .nil .nil) (.node (some ⟨65, c55, []⟩) .nil .nil))) (.node (some ⟨20, c11, [.tmp 4]⟩) (.node (some ⟨39, c19, [.tmp 2, .tmp 3]⟩) (.node (some ⟨17, c35, [.cell 2 63, .tmp 3]⟩) (.node (some ⟨36, c67, [.tmp 10]⟩) .nil .nil) .nil) (.node (some ⟨35, c51, [.tmp 2]⟩) .nil .nil)) (.node (some ⟨4, c27, [.tmp 2]⟩) (.node (some ⟨21, c43, [.cell 4 63]⟩) .nil .nil) (.node (some ⟨84, c59, [.tmp 8]⟩) .nil .nil)))) (.node (some ⟨235, c5, [.tmp 0]⟩) (.node (some ⟨46, c9, [.tmp 2]⟩) (.node (some ⟨25, c17, [.tmp 2, .tmp 3]⟩) (.node (some ⟨21, c33, [.tmp 2]⟩) (.node (some ⟨33, c65, [.tmp 2]⟩) .nil .nil) .nil) (.node (some ⟨8, c49, [.tmp 2]⟩) .nil .nil)) (.node (some ⟨32, c25, [.cell 4 24]⟩) (.node (some ⟨38, c41, [.cell 2 63]⟩) .nil .nil) (.node (some ⟨32, c57, []⟩) .nil .nil))) (.node (some ⟨3, c13, [.cell 0 24]⟩) (.node (some ⟨61, c21, [.tmp 2, .tmp 3]⟩) (.node (some ⟨26, c37, [.tmp 4]⟩) .nil .nil) (.node (some ⟨49, c53, []⟩) .nil .nil)) (.node (some ⟨8, c29, [.tmp 2]⟩) (.node (some ⟨9, c45, [.tmp 2]⟩) .nil .nil) (.node (some ⟨19, c61, [.tmp 2]⟩) .nil .nil))))) (.node none (.node (some ⟨14, c4, [.tmp 4]⟩) (.node (some ⟨26, c8, [.tmp 4]⟩) (.node (some ⟨3, c16, [.cell 0 24]⟩) (.node (some ⟨15, c32, [.tmp 6]⟩) (.node (some ⟨7, c64, [.tmp 2]⟩) .nil .nil) .nil) (.node (some ⟨134, c48, []⟩) .nil .nil)) (.node (some ⟨83, c24, [.tmp 2, .tmp 3]⟩) (.node (some ⟨61, c40, [.tmp 2]⟩) .nil .nil) (.node (some ⟨57, c56, [.tmp 6, .tmp 7]⟩) .nil .nil))) (.node (some ⟨20, c12, [.tmp 4]⟩) (.node (some ⟨53, c20, [.tmp 2, .tmp 3]⟩) (.node (some ⟨38, c36, [.tmp 4]⟩) (.node (some ⟨28, c68, [.tmp 8, .tmp 9]⟩) .nil .nil) .nil) (.node (some ⟨6, c52, [.tmp 2]⟩) .nil .nil)) (.node (some ⟨26, c28, [.tmp 4]⟩) (.node (some ⟨8, c44, [.tmp 2]⟩) .nil .nil) (.node (some ⟨168, c60, [.tmp 8, .tmp 9]⟩) .nil .nil)))) (.node (some ⟨63, c6, [.tmp 4, .tmp 5]⟩) (.node (some ⟨46, c10, [.tmp 2]⟩) (.node (some ⟨40, c18, [.tmp 2, .tmp 3]⟩) (.node (some ⟨20, c34, [.tmp 2]⟩) (.node (some ⟨15, c66, [.tmp 6]⟩) .nil .nil) .nil) (.node (some ⟨21, c50, [.tmp 2]⟩) .nil .nil)) (.node (some ⟨27, c26, [.tmp 4]⟩) (.node (some ⟨41, c42, [.cell 4 63]⟩) .nil .nil) (.node (some ⟨133, c58, [.tmp 6]⟩) .nil .nil))) (.node (some ⟨4, c14, [.tmp 2]⟩) (.node (some ⟨61, c22, [.tmp 4, .tmp 5, .tmp 6]⟩) (.node (some ⟨43, c38, [.tmp 4]⟩) .nil .nil) (.node (some ⟨56, c54, []⟩) .nil .nil)) (.node (some ⟨62, c30, [.tmp 6]⟩) (.node (some ⟨17, c46, [.tmp 4]⟩) .nil .nil) (.node (some ⟨25, c62, [.tmp 2]⟩) .nil .nil))))))
noncomputable def fns : FuncId → Option RFn := fnTr.get
end Go.TabR
