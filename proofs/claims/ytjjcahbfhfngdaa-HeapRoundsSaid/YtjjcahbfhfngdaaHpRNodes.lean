/- Slim code of the functions that have a model, piece by piece: MADE BY PROGRAM (wip/tools/dec.py). -/
import Derived.Test.YtjjcahbfhfngdaaSpFramex

set_option maxRecDepth 100000
namespace Go.HpR
open Go.Sp
def o3_0 : List ROp := [
  rq 4 (.assign (kb false)) 4]
def c3_0 : RC := .reg [] o3_0
def o3_1 : List ROp := [
  rq 17 (.move (tp 0)) 22,
  rq 18 (cf 5 #[(tp 17)] #[22]) 4]
def c3_1 : RC := .reg [] o3_1
def o3_2 : List ROp := [
  rq 19 (cf 6 #[] #[]) 4,
  rq 4 (.assign (tp 19)) 4]
def c3_2 : RC := .reg [] o3_2
def c3_3 : RC := .seq c3_2 .ret
def c3_4 : RC := .cond (tp 18) c3_3 .skip
def c3_5 : RC := .seq c3_1 c3_4
def o3_6 : List ROp := [
  rq 21 (.move (tp 0)) 22,
  rq 22 (cf 7 #[(tp 21)] #[22]) 26,
  rq 20 (.move (tp 22)) 26,
  rq 23 (.extract (tp 20) 0) 22,
  rq 24 (.extract (tp 20) 1) 25,
  rq 5 (.assign (tp 23)) 22,
  rq 6 (.assign (tp 24)) 25]
def c3_6 : RC := .reg [] o3_6
def o3_7 : List ROp := [
  rq 26 (.move (tp 0)) 22,
  rq 27 (cf 8 #[(tp 26)] #[22]) 26,
  rq 25 (.move (tp 27)) 26,
  rq 28 (.extract (tp 25) 0) 22,
  rq 29 (.extract (tp 25) 1) 25,
  rq 7 (.assign (tp 28)) 22,
  rq 8 (.assign (tp 29)) 25]
def c3_7 : RC := .reg [] o3_7
def o3_8 : List ROp := [
  rq 31 (.move (tp 0)) 22,
  rq 32 (.move (tp 1)) 3,
  rq 33 (cf 9 #[(tp 31), (tp 32)] #[22, 3]) 26,
  rq 30 (.move (tp 33)) 26,
  rq 34 (.extract (tp 30) 0) 22,
  rq 35 (.extract (tp 30) 1) 25,
  rq 9 (.assign (tp 34)) 22,
  rq 10 (.assign (tp 35)) 25]
def c3_8 : RC := .reg [] o3_8
def o3_9 : List ROp := [
  rq 37 (.move (tp 0)) 22,
  rq 38 (.move (tp 1)) 3,
  rq 39 (cf 10 #[(tp 37), (tp 38)] #[22, 3]) 26,
  rq 36 (.move (tp 39)) 26,
  rq 40 (.extract (tp 36) 0) 22,
  rq 41 (.extract (tp 36) 1) 25,
  rq 11 (.assign (tp 40)) 22,
  rq 12 (.assign (tp 41)) 25]
def c3_9 : RC := .reg [] o3_9
def o3_10 : List ROp := [
  rq 43 (.move (tp 0)) 22,
  rq 44 (cf 11 #[(tp 43)] #[22]) 26,
  rq 42 (.move (tp 44)) 26,
  rq 45 (.extract (tp 42) 0) 22,
  rq 46 (.extract (tp 42) 1) 25,
  rq 13 (.assign (tp 45)) 22,
  rq 14 (.assign (tp 46)) 25]
def c3_10 : RC := .reg [] o3_10
def o3_11 : List ROp := [
  rq 48 (.move (tp 0)) 22,
  rq 49 (cf 12 #[(tp 48)] #[22]) 26,
  rq 47 (.move (tp 49)) 26,
  rq 50 (.extract (tp 47) 0) 22,
  rq 51 (.extract (tp 47) 1) 25,
  rq 15 (.assign (tp 50)) 22,
  rq 16 (.assign (tp 51)) 25]
def c3_11 : RC := .reg [] o3_11
def o3_12 : List ROp := [
  rq 52 (.move (tp 5)) 22,
  rq 53 (.move (tp 7)) 22,
  rq 54 (cf 13 #[(tp 52), (tp 53)] #[22, 22]) 4,
  rq 55 (.move (tp 54)) 4,
  rg 56 (.move (tp 6)) 25 55 true,
  rg 57 (.move (tp 8)) 25 55 true,
  rg 58 (.binOp .eql 25 (tp 56) (tp 57) 25) 4 55 true,
  rq 59 (.pick (tp 55) (tp 58) (kb false)) 4,
  rq 60 (.move (tp 59)) 4,
  rg 61 (.move (tp 9)) 22 60 true,
  rg 62 (.move (tp 11)) 22 60 true,
  rg 63 (cf 13 #[(tp 61), (tp 62)] #[22, 22]) 4 60 true,
  rq 64 (.pick (tp 60) (tp 63) (kb false)) 4,
  rq 65 (.move (tp 64)) 4,
  rg 66 (.move (tp 10)) 25 65 true,
  rg 67 (.move (tp 12)) 25 65 true,
  rg 68 (.binOp .eql 25 (tp 66) (tp 67) 25) 4 65 true,
  rq 69 (.pick (tp 65) (tp 68) (kb false)) 4,
  rq 70 (.move (tp 69)) 4,
  rg 71 (.move (tp 13)) 22 70 true,
  rg 72 (.move (tp 15)) 22 70 true,
  rg 73 (cf 13 #[(tp 71), (tp 72)] #[22, 22]) 4 70 true,
  rq 74 (.pick (tp 70) (tp 73) (kb false)) 4,
  rq 75 (.move (tp 74)) 4,
  rg 76 (.move (tp 14)) 25 75 true,
  rg 77 (.move (tp 16)) 25 75 true,
  rg 78 (.binOp .eql 25 (tp 76) (tp 77) 25) 4 75 true,
  rq 79 (.pick (tp 75) (tp 78) (kb false)) 4,
  rq 80 (.move (tp 79)) 4,
  rg 81 (.move (tp 0)) 22 80 true,
  rg 82 (cf 14 #[(tp 81)] #[22]) 25 80 true,
  rg 83 (.move (tp 0)) 22 80 true,
  rg 84 (cf 15 #[(tp 83)] #[22]) 25 80 true,
  rg 85 (.binOp .eql 25 (tp 82) (tp 84) 25) 4 80 true,
  rq 86 (.pick (tp 80) (tp 85) (kb false)) 4,
  rq 87 (.move (tp 86)) 4,
  rg 88 (cf 6 #[] #[]) 4 87 true,
  rq 89 (.pick (tp 87) (tp 88) (kb false)) 4,
  rq 4 (.assign (tp 89)) 4]
def c3_12 : RC := .reg [] o3_12
def c3_13 : RC := .seq c3_12 .ret
def c3_14 : RC := .seq c3_11 c3_13
def c3_15 : RC := .seq c3_10 c3_14
def c3_16 : RC := .seq c3_9 c3_15
def c3_17 : RC := .seq c3_8 c3_16
def c3_18 : RC := .seq c3_7 c3_17
def c3_19 : RC := .seq c3_6 c3_18
def c3_20 : RC := .seq c3_5 c3_19
def c3_21 : RC := .seq c3_0 c3_20
def o5_0 : List ROp := [
  rq 2 (.assign (kb false)) 4]
def c5_0 : RC := .reg [] o5_0
def o5_1 : List ROp := [
  rq 3 (.move (tp 0)) 22,
  rq 4 (cb .len #[(tp 3)] #[22]) 3,
  rq 5 (.binOp .gtr 3 (tp 4) (ki 60) 3) 4,
  rq 2 (.assign (tp 5)) 4]
def c5_1 : RC := .reg [] o5_1
def c5_2 : RC := .seq c5_1 .ret
def c5_3 : RC := .seq c5_0 c5_2
def o7_0 : List ROp := [
  rq 2 (.assign (.const (.slice none 0 0))) 22,
  rq 3 (.assign (ki 0)) 25]
def c7_0 : RC := .reg [] o7_0
def o7_1 : List ROp := [
  rq 5 (.move (tp 0)) 22,
  rq 6 (cf 14 #[(tp 5)] #[22]) 25,
  rq 4 (.assign (tp 6)) 25]
def c7_1 : RC := .reg [] o7_1
def o7_2 : List ROp := [
  rq 7 (.move (tp 4)) 25,
  rq 8 (.binOp .neq 25 (tp 7) (ki 0) 25) 4]
def c7_2 : RC := .reg [] o7_2
def o7_3 : List ROp := [
  rq 9 (.move (tp 4)) 25,
  rq 2 (.assign (.const (.slice none 0 0))) 22,
  rq 3 (.assign (tp 9)) 25]
def c7_3 : RC := .reg [] o7_3
def c7_4 : RC := .seq c7_3 .ret
def c7_5 : RC := .cond (tp 8) c7_4 .skip
def c7_6 : RC := .seq c7_2 c7_5
def c7_7 : RC := .seq c7_1 c7_6
def o7_8 : List ROp := [
  rq 10 (.move (tp 0)) 22,
  rq 11 (cf 29 #[(tp 10)] #[22]) 53,
  rq 12 (cf 30 #[(tp 11)] #[53]) 53,
  rq 13 (cf 31 #[(tp 12)] #[53]) 22,
  rq 2 (.assign (tp 13)) 22,
  rq 3 (.assign (ki 0)) 25]
def c7_8 : RC := .reg [] o7_8
def c7_9 : RC := .seq c7_8 .ret
def c7_10 : RC := .seq c7_7 c7_9
def c7_11 : RC := .seq c7_0 c7_10
def o8_0 : List ROp := [
  rq 2 (.assign (.const (.slice none 0 0))) 22,
  rq 3 (.assign (ki 0)) 25]
def c8_0 : RC := .reg [] o8_0
def o8_1 : List ROp := [
  rq 5 (.move (tp 0)) 22,
  rq 6 (cf 15 #[(tp 5)] #[22]) 25,
  rq 4 (.assign (tp 6)) 25]
def c8_1 : RC := .reg [] o8_1
def o8_2 : List ROp := [
  rq 7 (.move (tp 4)) 25,
  rq 8 (.binOp .neq 25 (tp 7) (ki 0) 25) 4]
def c8_2 : RC := .reg [] o8_2
def o8_3 : List ROp := [
  rq 9 (.move (tp 4)) 25,
  rq 2 (.assign (.const (.slice none 0 0))) 22,
  rq 3 (.assign (tp 9)) 25]
def c8_3 : RC := .reg [] o8_3
def c8_4 : RC := .seq c8_3 .ret
def c8_5 : RC := .cond (tp 8) c8_4 .skip
def c8_6 : RC := .seq c8_2 c8_5
def o8_7 : List ROp := [
  rq 10 (.move (tp 0)) 22,
  rq 11 (cf 32 #[(tp 10)] #[22]) 22,
  rq 2 (.assign (tp 11)) 22,
  rq 3 (.assign (ki 0)) 25]
def c8_7 : RC := .reg [] o8_7
def c8_8 : RC := .seq c8_7 .ret
def c8_9 : RC := .seq c8_6 c8_8
def c8_10 : RC := .seq c8_1 c8_9
def c8_11 : RC := .seq c8_0 c8_10
def o9_0 : List ROp := [
  rq 4 (.assign (.const (.slice none 0 0))) 22,
  rq 5 (.assign (ki 0)) 25]
def c9_0 : RC := .reg [] o9_0
def o9_1 : List ROp := [
  rq 10 (.move (tp 0)) 22,
  rq 11 (cf 14 #[(tp 10)] #[22]) 25,
  rq 6 (.assign (tp 11)) 25]
def c9_1 : RC := .reg [] o9_1
def o9_2 : List ROp := [
  rq 13 (.move (tp 6)) 25,
  rq 14 (.binOp .neq 25 (tp 13) (ki 0) 25) 4,
  rq 12 (.assign (tp 14)) 4]
def c9_2 : RC := .reg [] o9_2
def o9_3 : List ROp := [
  rq 15 (.move (tp 6)) 25,
  rq 4 (.assign (.const (.slice none 0 0))) 22,
  rq 5 (.assign (tp 15)) 25]
def c9_3 : RC := .reg [] o9_3
def c9_4 : RC := .seq c9_3 .ret
def o9_5 : List ROp := [
  rq 17 (.move (tp 1)) 3,
  rq 18 (cf 33 #[(ki 0), (tp 17), (ki 1000000000)] #[3, 3, 3]) 4,
  rq 19 (.unOp .not 4 (tp 18)) 4,
  rq 16 (.assign (tp 19)) 4]
def c9_5 : RC := .reg [] o9_5
def o9_6 : List ROp := [
  rq 4 (.assign (.const (.slice none 0 0))) 22,
  rq 5 (.assign (ki 1)) 25]
def c9_6 : RC := .reg [] o9_6
def c9_7 : RC := .seq c9_6 .ret
def c9_8 : RC := .cond (tp 16) c9_7 .skip
def c9_9 : RC := .seq c9_5 c9_8
def c9_10 : RC := .cond (tp 12) c9_4 c9_9
def c9_11 : RC := .seq c9_2 c9_10
def c9_12 : RC := .block 0 c9_11
def o9_13 : List ROp := [
  rq 20 (.move (tp 0)) 22,
  rq 21 (cf 29 #[(tp 20)] #[22]) 53,
  rq 7 (.alloc 53) 0,
  rn (.store 53 (tp 7) (tp 21)) 0]
def c9_13 : RC := .reg [] o9_13
def o9_14 : List ROp := [
  rq 22 (.move (tp 1)) 3,
  rq 23 (.binOp .gtr 3 (tp 22) (ki 0) 3) 4]
def c9_14 : RC := .reg [] o9_14
def c9_15 : RC := .cond (tp 23) .skip (.exit 1)
def c9_16 : RC := .seq c9_14 c9_15
def o9_17 : List ROp := [
  rq 26 (.load 53 (tp 7)) 53,
  rq 27 (cf 34 #[(tp 26)] #[53]) 4]
def c9_17 : RC := .reg [] o9_17
def o9_18 : List ROp := [
  rq 29 (.load 53 (tp 7)) 53,
  rq 30 (cf 36 #[(tp 29)] #[53]) 3,
  rq 31 (cf 35 #[(tp 30)] #[3]) 59,
  rq 28 (.move (tp 31)) 59,
  rq 32 (.extract (tp 28) 0) 3,
  rq 33 (.extract (tp 28) 1) 3,
  rq 8 (.assign (tp 32)) 3,
  rq 9 (.assign (tp 33)) 3]
def c9_18 : RC := .reg [] o9_18
def o9_19 : List ROp := [
  rq 34 (.move (tp 1)) 3,
  rq 35 (.binOp .sub 3 (tp 34) (ki 1) 3) 3,
  rq 36 (.move (tp 8)) 3,
  rq 37 (.binOp .add 3 (tp 36) (ki 1) 3) 3,
  rq 38 (.binOp .rem 3 (tp 35) (tp 37) 3) 3,
  rq 39 (.binOp .add 3 (tp 38) (ki 1) 3) 3,
  rq 1 (.assign (tp 39)) 3]
def c9_19 : RC := .reg [] o9_19
def c9_20 : RC := .seq c9_18 c9_19
def c9_21 : RC := .cond (tp 27) c9_20 .skip
def c9_22 : RC := .seq c9_17 c9_21
def o9_23 : List ROp := [
  rq 40 (.load 53 (tp 7)) 53,
  rq 41 (cf 30 #[(tp 40)] #[53]) 53,
  rn (.store 53 (tp 7) (tp 41)) 0]
def c9_23 : RC := .reg [] o9_23
def c9_24 : RC := .seq c9_22 c9_23
def c9_25 : RC := .block 2 c9_24
def o9_26 : List ROp := [
  rq 24 (.move (tp 1)) 3,
  rq 25 (.binOp .sub 3 (tp 24) (ki 1) 3) 3,
  rq 1 (.assign (tp 25)) 3]
def c9_26 : RC := .reg [] o9_26
def c9_27 : RC := .seq c9_25 c9_26
def c9_28 : RC := .seq c9_16 c9_27
def c9_29 : RC := .loop c9_28
def c9_30 : RC := .block 1 c9_29
def o9_31 : List ROp := [
  rq 42 (.load 53 (tp 7)) 53,
  rq 43 (cf 31 #[(tp 42)] #[53]) 22,
  rq 4 (.assign (tp 43)) 22,
  rq 5 (.assign (ki 0)) 25]
def c9_31 : RC := .reg [] o9_31
def c9_32 : RC := .seq c9_31 .ret
def c9_33 : RC := .seq c9_30 c9_32
def c9_34 : RC := .seq c9_13 c9_33
def c9_35 : RC := .seq c9_12 c9_34
def c9_36 : RC := .seq c9_1 c9_35
def c9_37 : RC := .seq c9_0 c9_36
def o10_0 : List ROp := [
  rq 4 (.assign (.const (.slice none 0 0))) 22,
  rq 5 (.assign (ki 0)) 25]
def c10_0 : RC := .reg [] o10_0
def o10_1 : List ROp := [
  rq 9 (.move (tp 0)) 22,
  rq 10 (cf 15 #[(tp 9)] #[22]) 25,
  rq 6 (.assign (tp 10)) 25]
def c10_1 : RC := .reg [] o10_1
def o10_2 : List ROp := [
  rq 11 (.move (tp 6)) 25,
  rq 12 (.binOp .eql 25 (tp 11) (ki 0) 25) 4,
  rq 13 (.move (tp 12)) 4,
  rg 14 (.move (tp 1)) 3 13 true,
  rg 15 (cf 37 #[(tp 14), (ki 0), (ki 1000000000)] #[3, 3, 3]) 4 13 true,
  rg 16 (.unOp .not 4 (tp 15)) 4 13 true,
  rq 17 (.pick (tp 13) (tp 16) (kb false)) 4]
def c10_2 : RC := .reg [] o10_2
def o10_3 : List ROp := [
  rq 6 (.assign (ki 1)) 25]
def c10_3 : RC := .reg [] o10_3
def c10_4 : RC := .cond (tp 17) c10_3 .skip
def c10_5 : RC := .seq c10_2 c10_4
def o10_6 : List ROp := [
  rq 18 (.move (tp 6)) 25,
  rq 19 (.binOp .neq 25 (tp 18) (ki 0) 25) 4]
def c10_6 : RC := .reg [] o10_6
def o10_7 : List ROp := [
  rq 20 (.move (tp 6)) 25,
  rq 4 (.assign (.const (.slice none 0 0))) 22,
  rq 5 (.assign (tp 20)) 25]
def c10_7 : RC := .reg [] o10_7
def c10_8 : RC := .seq c10_7 .ret
def c10_9 : RC := .cond (tp 19) c10_8 .skip
def c10_10 : RC := .seq c10_6 c10_9
def o10_11 : List ROp := [
  rq 21 (.buildSlice 22 0 #[]) 22,
  rq 22 (.move (tp 0)) 22,
  rq 23 (cb .append #[(tp 21), (tp 22)] #[22, 22]) 22,
  rq 7 (.assign (tp 23)) 22]
def c10_11 : RC := .reg [] o10_11
def o10_12 : List ROp := [
  rq 24 (.move (tp 1)) 3,
  rq 25 (.binOp .gtr 3 (tp 24) (ki 0) 3) 4,
  rq 26 (.move (tp 25)) 4,
  rg 27 (.move (tp 7)) 22 26 true,
  rg 28 (cf 38 #[(tp 27)] #[22]) 4 26 true,
  rg 29 (.unOp .not 4 (tp 28)) 4 26 true,
  rq 30 (.pick (tp 26) (tp 29) (kb false)) 4]
def c10_12 : RC := .reg [] o10_12
def c10_13 : RC := .cond (tp 30) .skip (.exit 0)
def c10_14 : RC := .seq c10_12 c10_13
def o10_15 : List ROp := [
  rq 31 (.move (tp 7)) 22,
  rq 32 (cf 32 #[(tp 31)] #[22]) 22,
  rq 7 (.assign (tp 32)) 22]
def c10_15 : RC := .reg [] o10_15
def o10_16 : List ROp := [
  rq 33 (.move (tp 1)) 3,
  rq 34 (.binOp .sub 3 (tp 33) (ki 1) 3) 3,
  rq 1 (.assign (tp 34)) 3]
def c10_16 : RC := .reg [] o10_16
def c10_17 : RC := .seq c10_15 c10_16
def c10_18 : RC := .block 1 c10_17
def c10_19 : RC := .seq c10_14 c10_18
def c10_20 : RC := .loop c10_19
def c10_21 : RC := .block 0 c10_20
def o10_22 : List ROp := [
  rq 35 (.move (tp 1)) 3,
  rq 36 (.binOp .gtr 3 (tp 35) (ki 0) 3) 4]
def c10_22 : RC := .reg [] o10_22
def o10_23 : List ROp := [
  rq 37 (.move (tp 1)) 3,
  rq 38 (.move (tp 7)) 22,
  rq 39 (cf 39 #[(tp 38)] #[22]) 37,
  rq 40 (cb .len #[(tp 39)] #[37]) 3,
  rq 41 (.binOp .rem 3 (tp 37) (tp 40) 3) 3,
  rq 1 (.assign (tp 41)) 3]
def c10_23 : RC := .reg [] o10_23
def c10_24 : RC := .cond (tp 36) c10_23 .skip
def c10_25 : RC := .seq c10_22 c10_24
def o10_26 : List ROp := [
  rq 8 (.assign (ki 0)) 3]
def c10_26 : RC := .reg [] o10_26
def o10_27 : List ROp := [
  rq 42 (.move (tp 8)) 3,
  rq 43 (.move (tp 1)) 3,
  rq 44 (.binOp .lss 3 (tp 42) (tp 43) 3) 4]
def c10_27 : RC := .reg [] o10_27
def c10_28 : RC := .cond (tp 44) .skip (.exit 2)
def c10_29 : RC := .seq c10_27 c10_28
def o10_30 : List ROp := [
  rq 47 (.move (tp 7)) 22,
  rq 48 (cf 32 #[(tp 47)] #[22]) 22,
  rq 7 (.assign (tp 48)) 22]
def c10_30 : RC := .reg [] o10_30
def c10_31 : RC := .block 3 c10_30
def o10_32 : List ROp := [
  rq 45 (.move (tp 8)) 3,
  rq 46 (.binOp .add 3 (tp 45) (ki 1) 3) 3,
  rq 8 (.assign (tp 46)) 3]
def c10_32 : RC := .reg [] o10_32
def c10_33 : RC := .seq c10_31 c10_32
def c10_34 : RC := .seq c10_29 c10_33
def c10_35 : RC := .loop c10_34
def c10_36 : RC := .block 2 c10_35
def c10_37 : RC := .seq c10_26 c10_36
def o10_38 : List ROp := [
  rq 49 (.move (tp 7)) 22,
  rq 4 (.assign (tp 49)) 22,
  rq 5 (.assign (ki 0)) 25]
def c10_38 : RC := .reg [] o10_38
def c10_39 : RC := .seq c10_38 .ret
def c10_40 : RC := .seq c10_37 c10_39
def c10_41 : RC := .seq c10_25 c10_40
def c10_42 : RC := .seq c10_21 c10_41
def c10_43 : RC := .seq c10_11 c10_42
def c10_44 : RC := .seq c10_10 c10_43
def c10_45 : RC := .seq c10_5 c10_44
def c10_46 : RC := .seq c10_1 c10_45
def c10_47 : RC := .seq c10_0 c10_46
def o11_0 : List ROp := [
  rq 2 (.assign (.const (.slice none 0 0))) 22,
  rq 3 (.assign (ki 0)) 25]
def c11_0 : RC := .reg [] o11_0
def o11_1 : List ROp := [
  rq 9 (.move (tp 0)) 22,
  rq 10 (cf 14 #[(tp 9)] #[22]) 25,
  rq 4 (.assign (tp 10)) 25]
def c11_1 : RC := .reg [] o11_1
def o11_2 : List ROp := [
  rq 11 (.move (tp 4)) 25,
  rq 12 (.binOp .neq 25 (tp 11) (ki 0) 25) 4]
def c11_2 : RC := .reg [] o11_2
def o11_3 : List ROp := [
  rq 13 (.move (tp 4)) 25,
  rq 2 (.assign (.const (.slice none 0 0))) 22,
  rq 3 (.assign (tp 13)) 25]
def c11_3 : RC := .reg [] o11_3
def c11_4 : RC := .seq c11_3 .ret
def c11_5 : RC := .cond (tp 12) c11_4 .skip
def c11_6 : RC := .seq c11_2 c11_5
def c11_7 : RC := .seq c11_1 c11_6
def o11_8 : List ROp := [
  rq 14 (.move (tp 0)) 22,
  rq 15 (.indexAddr 22 (tp 14) (ki 0)) 0,
  rq 16 (.load 3 (tp 15)) 3,
  rq 17 (.makeSlice 22 (tp 16) (tp 16)) 22,
  rq 5 (.assign (tp 17)) 22]
def c11_8 : RC := .reg [] o11_8
def o11_9 : List ROp := [
  rq 18 (.move (tp 0)) 22,
  rq 19 (cb .len #[(tp 18)] #[22]) 3,
  rq 20 (.move (ki 0)) 3]
def c11_9 : RC := .reg [] o11_9
def o11_10 : List ROp := [
  rq 21 (.binOp .lss 3 (tp 20) (tp 19) 3) 0]
def c11_10 : RC := .reg [] o11_10
def c11_11 : RC := .cond (tp 21) .skip (.exit 0)
def o11_12 : List ROp := [
  rq 22 (.indexAddr 22 (tp 18) (tp 20)) 0,
  rq 23 (.load 3 (tp 22)) 3,
  rq 7 (.assign (tp 23)) 3]
def c11_12 : RC := .reg [] o11_12
def o11_13 : List ROp := [
  rq 24 (.move (tp 7)) 3,
  rq 25 (.move (ki 0)) 3]
def c11_13 : RC := .reg [] o11_13
def o11_14 : List ROp := [
  rq 26 (.binOp .lss 3 (tp 25) (tp 24) 3) 4]
def c11_14 : RC := .reg [] o11_14
def c11_15 : RC := .cond (tp 26) .skip (.exit 2)
def o11_16 : List ROp := [
  rq 27 (.move (tp 25)) 3,
  rq 8 (.assign (tp 27)) 3]
def c11_16 : RC := .reg [] o11_16
def o11_17 : List ROp := [
  rq 28 (.move (tp 5)) 22,
  rq 29 (.move (tp 8)) 3,
  rq 30 (.indexAddr 22 (tp 28) (tp 29)) 0,
  rq 31 (.load 3 (tp 30)) 3,
  rq 32 (.binOp .add 3 (tp 31) (ki 1) 3) 3,
  rq 33 (.indexAddr 22 (tp 28) (tp 29)) 0,
  rn (.store 3 (tp 33) (tp 32)) 0]
def c11_17 : RC := .reg [] o11_17
def c11_18 : RC := .seq c11_16 c11_17
def c11_19 : RC := .block 3 c11_18
def o11_20 : List ROp := [
  rq 34 (.binOp .add 3 (tp 25) (ki 1) 3) 3,
  rq 25 (.move (tp 34)) 3]
def c11_20 : RC := .reg [] o11_20
def c11_21 : RC := .seq c11_19 c11_20
def c11_22 : RC := .seq c11_15 c11_21
def c11_23 : RC := .seq c11_14 c11_22
def c11_24 : RC := .loop c11_23
def c11_25 : RC := .block 2 c11_24
def c11_26 : RC := .seq c11_13 c11_25
def c11_27 : RC := .seq c11_12 c11_26
def c11_28 : RC := .block 1 c11_27
def o11_29 : List ROp := [
  rq 35 (.binOp .add 3 (tp 20) (ki 1) 3) 3,
  rq 20 (.move (tp 35)) 3]
def c11_29 : RC := .reg [] o11_29
def c11_30 : RC := .seq c11_28 c11_29
def c11_31 : RC := .seq c11_11 c11_30
def c11_32 : RC := .seq c11_10 c11_31
def c11_33 : RC := .loop c11_32
def c11_34 : RC := .block 0 c11_33
def c11_35 : RC := .seq c11_9 c11_34
def o11_36 : List ROp := [
  rq 36 (.move (tp 5)) 22,
  rq 2 (.assign (tp 36)) 22,
  rq 3 (.assign (ki 0)) 25]
def c11_36 : RC := .reg [] o11_36
def c11_37 : RC := .seq c11_36 .ret
def c11_38 : RC := .seq c11_35 c11_37
def c11_39 : RC := .seq c11_8 c11_38
def c11_40 : RC := .seq c11_7 c11_39
def c11_41 : RC := .seq c11_0 c11_40
def o12_0 : List ROp := [
  rq 2 (.assign (.const (.slice none 0 0))) 22,
  rq 3 (.assign (ki 0)) 25]
def c12_0 : RC := .reg [] o12_0
def o12_1 : List ROp := [
  rq 9 (.move (tp 0)) 22,
  rq 10 (cf 15 #[(tp 9)] #[22]) 25,
  rq 4 (.assign (tp 10)) 25]
def c12_1 : RC := .reg [] o12_1
def o12_2 : List ROp := [
  rq 11 (.move (tp 4)) 25,
  rq 12 (.binOp .neq 25 (tp 11) (ki 0) 25) 4]
def c12_2 : RC := .reg [] o12_2
def o12_3 : List ROp := [
  rq 13 (.move (tp 4)) 25,
  rq 2 (.assign (.const (.slice none 0 0))) 22,
  rq 3 (.assign (tp 13)) 25]
def c12_3 : RC := .reg [] o12_3
def c12_4 : RC := .seq c12_3 .ret
def c12_5 : RC := .cond (tp 12) c12_4 .skip
def c12_6 : RC := .seq c12_2 c12_5
def o12_7 : List ROp := [
  rq 5 (.assign (.const (.slice none 0 0))) 22]
def c12_7 : RC := .reg [] o12_7
def o12_8 : List ROp := [
  rq 6 (.assign (ki 1)) 3]
def c12_8 : RC := .reg [] o12_8
def o12_9 : List ROp := [
  rq 14 (.move (tp 6)) 3,
  rq 15 (.move (tp 0)) 22,
  rq 16 (.indexAddr 22 (tp 15) (ki 0)) 0,
  rq 17 (.load 3 (tp 16)) 3,
  rq 18 (.binOp .leq 3 (tp 14) (tp 17) 3) 4]
def c12_9 : RC := .reg [] o12_9
def c12_10 : RC := .cond (tp 18) .skip (.exit 0)
def c12_11 : RC := .seq c12_9 c12_10
def o12_12 : List ROp := [
  rq 7 (.assign (ki 0)) 3]
def c12_12 : RC := .reg [] o12_12
def o12_13 : List ROp := [
  rq 8 (.assign (ki 0)) 3]
def c12_13 : RC := .reg [] o12_13
def o12_14 : List ROp := [
  rq 21 (.move (tp 8)) 3,
  rq 22 (.move (tp 0)) 22,
  rq 23 (cb .len #[(tp 22)] #[22]) 3,
  rq 24 (.binOp .lss 3 (tp 21) (tp 23) 3) 4]
def c12_14 : RC := .reg [] o12_14
def c12_15 : RC := .cond (tp 24) .skip (.exit 2)
def c12_16 : RC := .seq c12_14 c12_15
def o12_17 : List ROp := [
  rq 27 (.move (tp 0)) 22,
  rq 28 (.move (tp 8)) 3,
  rq 29 (.indexAddr 22 (tp 27) (tp 28)) 0,
  rq 30 (.load 3 (tp 29)) 3,
  rq 31 (.move (tp 6)) 3,
  rq 32 (.binOp .geq 3 (tp 30) (tp 31) 3) 4]
def c12_17 : RC := .reg [] o12_17
def o12_18 : List ROp := [
  rq 33 (.move (tp 7)) 3,
  rq 34 (.binOp .add 3 (tp 33) (ki 1) 3) 3,
  rq 7 (.assign (tp 34)) 3]
def c12_18 : RC := .reg [] o12_18
def c12_19 : RC := .cond (tp 32) c12_18 .skip
def c12_20 : RC := .seq c12_17 c12_19
def c12_21 : RC := .block 3 c12_20
def o12_22 : List ROp := [
  rq 25 (.move (tp 8)) 3,
  rq 26 (.binOp .add 3 (tp 25) (ki 1) 3) 3,
  rq 8 (.assign (tp 26)) 3]
def c12_22 : RC := .reg [] o12_22
def c12_23 : RC := .seq c12_21 c12_22
def c12_24 : RC := .seq c12_16 c12_23
def c12_25 : RC := .loop c12_24
def c12_26 : RC := .block 2 c12_25
def c12_27 : RC := .seq c12_13 c12_26
def o12_28 : List ROp := [
  rq 35 (.move (tp 5)) 22,
  rq 36 (.move (tp 7)) 3,
  rq 37 (.buildSlice 22 1 #[(0, (tp 36))]) 22,
  rq 38 (cb .append #[(tp 35), (tp 37)] #[22, 22]) 22,
  rq 5 (.assign (tp 38)) 22]
def c12_28 : RC := .reg [] o12_28
def c12_29 : RC := .seq c12_27 c12_28
def c12_30 : RC := .seq c12_12 c12_29
def c12_31 : RC := .block 1 c12_30
def o12_32 : List ROp := [
  rq 19 (.move (tp 6)) 3,
  rq 20 (.binOp .add 3 (tp 19) (ki 1) 3) 3,
  rq 6 (.assign (tp 20)) 3]
def c12_32 : RC := .reg [] o12_32
def c12_33 : RC := .seq c12_31 c12_32
def c12_34 : RC := .seq c12_11 c12_33
def c12_35 : RC := .loop c12_34
def c12_36 : RC := .block 0 c12_35
def c12_37 : RC := .seq c12_8 c12_36
def o12_38 : List ROp := [
  rq 39 (.move (tp 5)) 22,
  rq 2 (.assign (tp 39)) 22,
  rq 3 (.assign (ki 0)) 25]
def c12_38 : RC := .reg [] o12_38
def c12_39 : RC := .seq c12_38 .ret
def c12_40 : RC := .seq c12_37 c12_39
def c12_41 : RC := .seq c12_7 c12_40
def c12_42 : RC := .seq c12_6 c12_41
def c12_43 : RC := .seq c12_1 c12_42
def c12_44 : RC := .seq c12_0 c12_43
def o13_0 : List ROp := [
  rq 4 (.assign (kb false)) 4]
def c13_0 : RC := .reg [] o13_0
def o13_1 : List ROp := [
  rq 6 (.move (tp 0)) 22,
  rq 7 (cb .len #[(tp 6)] #[22]) 3,
  rq 8 (.move (tp 1)) 22,
  rq 9 (cb .len #[(tp 8)] #[22]) 3,
  rq 10 (.binOp .neq 3 (tp 7) (tp 9) 3) 4]
def c13_1 : RC := .reg [] o13_1
def o13_2 : List ROp := [
  rq 4 (.assign (kb false)) 4]
def c13_2 : RC := .reg [] o13_2
def c13_3 : RC := .seq c13_2 .ret
def c13_4 : RC := .cond (tp 10) c13_3 .skip
def c13_5 : RC := .seq c13_1 c13_4
def o13_6 : List ROp := [
  rq 5 (.assign (ki 0)) 3]
def c13_6 : RC := .reg [] o13_6
def o13_7 : List ROp := [
  rq 11 (.move (tp 5)) 3,
  rq 12 (.move (tp 0)) 22,
  rq 13 (cb .len #[(tp 12)] #[22]) 3,
  rq 14 (.binOp .lss 3 (tp 11) (tp 13) 3) 4]
def c13_7 : RC := .reg [] o13_7
def c13_8 : RC := .cond (tp 14) .skip (.exit 0)
def c13_9 : RC := .seq c13_7 c13_8
def o13_10 : List ROp := [
  rq 17 (.move (tp 0)) 22,
  rq 18 (.move (tp 5)) 3,
  rq 19 (.indexAddr 22 (tp 17) (tp 18)) 0,
  rq 20 (.load 3 (tp 19)) 3,
  rq 21 (.move (tp 1)) 22,
  rq 22 (.move (tp 5)) 3,
  rq 23 (.indexAddr 22 (tp 21) (tp 22)) 0,
  rq 24 (.load 3 (tp 23)) 3,
  rq 25 (.binOp .neq 3 (tp 20) (tp 24) 3) 4]
def c13_10 : RC := .reg [0, 1, 2, 3, 4, 5, 6, 7, 8] o13_10
def o13_11 : List ROp := [
  rq 4 (.assign (kb false)) 4]
def c13_11 : RC := .reg [] o13_11
def c13_12 : RC := .seq c13_11 .ret
def c13_13 : RC := .cond (tp 25) c13_12 .skip
def c13_14 : RC := .seq c13_10 c13_13
def c13_15 : RC := .block 1 c13_14
def o13_16 : List ROp := [
  rq 15 (.move (tp 5)) 3,
  rq 16 (.binOp .add 3 (tp 15) (ki 1) 3) 3,
  rq 5 (.assign (tp 16)) 3]
def c13_16 : RC := .reg [] o13_16
def c13_17 : RC := .seq c13_15 c13_16
def c13_18 : RC := .seq c13_9 c13_17
def c13_19 : RC := .loop c13_18
def c13_20 : RC := .block 0 c13_19
def c13_21 : RC := .seq c13_6 c13_20
def o13_22 : List ROp := [
  rq 4 (.assign (kb true)) 4]
def c13_22 : RC := .reg [] o13_22
def c13_23 : RC := .seq c13_22 .ret
def c13_24 : RC := .seq c13_21 c13_23
def c13_25 : RC := .seq c13_5 c13_24
def c13_26 : RC := .seq c13_0 c13_25
def o14_0 : List ROp := [
  rq 2 (.assign (ki 0)) 25]
def c14_0 : RC := .reg [] o14_0
def o14_1 : List ROp := [
  rq 7 (.move (tp 0)) 22,
  rq 8 (cb .len #[(tp 7)] #[22]) 3,
  rq 9 (.binOp .eql 3 (tp 8) (ki 0) 3) 4]
def c14_1 : RC := .reg [] o14_1
def o14_2 : List ROp := [
  rq 2 (.assign (ki 4)) 25]
def c14_2 : RC := .reg [] o14_2
def c14_3 : RC := .seq c14_2 .ret
def c14_4 : RC := .cond (tp 9) c14_3 .skip
def c14_5 : RC := .seq c14_1 c14_4
def o14_6 : List ROp := [
  rq 3 (.assign (ki 0)) 3,
  rq 4 (.assign (ki 21)) 3]
def c14_6 : RC := .reg [] o14_6
def o14_7 : List ROp := [
  rq 10 (.move (tp 0)) 22,
  rq 11 (cb .len #[(tp 10)] #[22]) 3,
  rq 12 (.move (ki 0)) 3]
def c14_7 : RC := .reg [] o14_7
def o14_8 : List ROp := [
  rq 13 (.binOp .lss 3 (tp 12) (tp 11) 3) 0]
def c14_8 : RC := .reg [] o14_8
def c14_9 : RC := .cond (tp 13) .skip (.exit 0)
def o14_10 : List ROp := [
  rq 14 (.indexAddr 22 (tp 10) (tp 12)) 0,
  rq 15 (.load 3 (tp 14)) 3,
  rq 6 (.assign (tp 15)) 3]
def c14_10 : RC := .reg [] o14_10
def o14_11 : List ROp := [
  rq 17 (.move (tp 6)) 3,
  rq 18 (cf 33 #[(ki 1), (tp 17), (ki 21)] #[3, 3, 3]) 4,
  rq 19 (.unOp .not 4 (tp 18)) 4,
  rq 16 (.assign (tp 19)) 4]
def c14_11 : RC := .reg [] o14_11
def o14_12 : List ROp := [
  rq 2 (.assign (ki 1)) 25]
def c14_12 : RC := .reg [] o14_12
def c14_13 : RC := .seq c14_12 .ret
def o14_14 : List ROp := [
  rq 21 (.move (tp 6)) 3,
  rq 22 (.move (tp 4)) 3,
  rq 23 (.binOp .gtr 3 (tp 21) (tp 22) 3) 4,
  rq 20 (.assign (tp 23)) 4]
def c14_14 : RC := .reg [] o14_14
def o14_15 : List ROp := [
  rq 2 (.assign (ki 7)) 25]
def c14_15 : RC := .reg [] o14_15
def c14_16 : RC := .seq c14_15 .ret
def c14_17 : RC := .cond (tp 20) c14_16 .skip
def c14_18 : RC := .seq c14_14 c14_17
def c14_19 : RC := .cond (tp 16) c14_13 c14_18
def c14_20 : RC := .seq c14_11 c14_19
def c14_21 : RC := .block 2 c14_20
def o14_22 : List ROp := [
  rq 24 (.move (tp 6)) 3,
  rq 4 (.assign (tp 24)) 3]
def c14_22 : RC := .reg [] o14_22
def o14_23 : List ROp := [
  rq 25 (.move (tp 3)) 3,
  rq 26 (.move (tp 6)) 3,
  rq 27 (.binOp .add 3 (tp 25) (tp 26) 3) 3,
  rq 28 (cb .min #[(tp 27), (ki 22)] #[3, 3]) 3,
  rq 3 (.assign (tp 28)) 3]
def c14_23 : RC := .reg [] o14_23
def c14_24 : RC := .seq c14_22 c14_23
def c14_25 : RC := .seq c14_21 c14_24
def c14_26 : RC := .seq c14_10 c14_25
def c14_27 : RC := .block 1 c14_26
def o14_28 : List ROp := [
  rq 29 (.binOp .add 3 (tp 12) (ki 1) 3) 3,
  rq 12 (.move (tp 29)) 3]
def c14_28 : RC := .reg [] o14_28
def c14_29 : RC := .seq c14_27 c14_28
def c14_30 : RC := .seq c14_9 c14_29
def c14_31 : RC := .seq c14_8 c14_30
def c14_32 : RC := .loop c14_31
def c14_33 : RC := .block 0 c14_32
def c14_34 : RC := .seq c14_7 c14_33
def o14_35 : List ROp := [
  rq 30 (.move (tp 3)) 3,
  rq 31 (.binOp .gtr 3 (tp 30) (ki 21) 3) 4]
def c14_35 : RC := .reg [] o14_35
def o14_36 : List ROp := [
  rq 2 (.assign (ki 3)) 25]
def c14_36 : RC := .reg [] o14_36
def c14_37 : RC := .seq c14_36 .ret
def c14_38 : RC := .cond (tp 31) c14_37 .skip
def c14_39 : RC := .seq c14_35 c14_38
def o14_40 : List ROp := [
  rq 2 (.assign (ki 0)) 25]
def c14_40 : RC := .reg [] o14_40
def c14_41 : RC := .seq c14_40 .ret
def c14_42 : RC := .seq c14_39 c14_41
def c14_43 : RC := .seq c14_34 c14_42
def c14_44 : RC := .seq c14_6 c14_43
def c14_45 : RC := .seq c14_5 c14_44
def c14_46 : RC := .seq c14_0 c14_45
def o15_0 : List ROp := [
  rq 2 (.assign (ki 0)) 25]
def c15_0 : RC := .reg [] o15_0
def o15_1 : List ROp := [
  rq 6 (.move (tp 0)) 22,
  rq 7 (cb .len #[(tp 6)] #[22]) 3,
  rq 8 (.binOp .eql 3 (tp 7) (ki 0) 3) 4]
def c15_1 : RC := .reg [] o15_1
def o15_2 : List ROp := [
  rq 2 (.assign (ki 4)) 25]
def c15_2 : RC := .reg [] o15_2
def c15_3 : RC := .seq c15_2 .ret
def c15_4 : RC := .cond (tp 8) c15_3 .skip
def c15_5 : RC := .seq c15_1 c15_4
def o15_6 : List ROp := [
  rq 3 (.assign (ki 0)) 3]
def c15_6 : RC := .reg [] o15_6
def o15_7 : List ROp := [
  rq 9 (.move (tp 3)) 3,
  rq 10 (.move (tp 0)) 22,
  rq 11 (cb .len #[(tp 10)] #[22]) 3,
  rq 12 (.binOp .lss 3 (tp 9) (tp 11) 3) 4]
def c15_7 : RC := .reg [] o15_7
def c15_8 : RC := .cond (tp 12) .skip (.exit 0)
def c15_9 : RC := .seq c15_7 c15_8
def o15_10 : List ROp := [
  rq 15 (.move (tp 0)) 22,
  rq 16 (.move (tp 3)) 3,
  rq 17 (.indexAddr 22 (tp 15) (tp 16)) 0,
  rq 18 (.load 3 (tp 17)) 3,
  rq 19 (cf 37 #[(tp 18), (ki 1), (ki 21)] #[3, 3, 3]) 4,
  rq 20 (.unOp .not 4 (tp 19)) 4]
def c15_10 : RC := .reg [] o15_10
def o15_11 : List ROp := [
  rq 2 (.assign (ki 1)) 25]
def c15_11 : RC := .reg [] o15_11
def c15_12 : RC := .seq c15_11 .ret
def c15_13 : RC := .cond (tp 20) c15_12 .skip
def c15_14 : RC := .seq c15_10 c15_13
def o15_15 : List ROp := [
  rq 21 (.move (tp 3)) 3,
  rq 22 (.binOp .gtr 3 (tp 21) (ki 0) 3) 4,
  rq 23 (.move (tp 22)) 4,
  rg 24 (.move (tp 0)) 22 23 true,
  rg 25 (.move (tp 3)) 3 23 true,
  rg 26 (.indexAddr 22 (tp 24) (tp 25)) 0 23 true,
  rg 27 (.load 3 (tp 26)) 3 23 true,
  rg 28 (.move (tp 0)) 22 23 true,
  rg 29 (.move (tp 3)) 3 23 true,
  rg 30 (.binOp .sub 3 (tp 29) (ki 1) 3) 3 23 true,
  rg 31 (.indexAddr 22 (tp 28) (tp 30)) 0 23 true,
  rg 32 (.load 3 (tp 31)) 3 23 true,
  rg 33 (.binOp .gtr 3 (tp 27) (tp 32) 3) 4 23 true,
  rq 34 (.pick (tp 23) (tp 33) (kb false)) 4]
def c15_15 : RC := .reg [0, 1, 2, 3, 4, 5, 6, 7, 8, 9, 10, 11, 12, 13] o15_15
def o15_16 : List ROp := [
  rq 2 (.assign (ki 7)) 25]
def c15_16 : RC := .reg [] o15_16
def c15_17 : RC := .seq c15_16 .ret
def c15_18 : RC := .cond (tp 34) c15_17 .skip
def c15_19 : RC := .seq c15_15 c15_18
def c15_20 : RC := .seq c15_14 c15_19
def c15_21 : RC := .block 1 c15_20
def o15_22 : List ROp := [
  rq 13 (.move (tp 3)) 3,
  rq 14 (.binOp .add 3 (tp 13) (ki 1) 3) 3,
  rq 3 (.assign (tp 14)) 3]
def c15_22 : RC := .reg [] o15_22
def c15_23 : RC := .seq c15_21 c15_22
def c15_24 : RC := .seq c15_9 c15_23
def c15_25 : RC := .loop c15_24
def c15_26 : RC := .block 0 c15_25
def c15_27 : RC := .seq c15_6 c15_26
def o15_28 : List ROp := [
  rq 4 (.assign (ki 0)) 3]
def c15_28 : RC := .reg [] o15_28
def o15_29 : List ROp := [
  rq 5 (.assign (ki 0)) 3]
def c15_29 : RC := .reg [] o15_29
def o15_30 : List ROp := [
  rq 35 (.move (tp 5)) 3,
  rq 36 (.move (tp 0)) 22,
  rq 37 (cb .len #[(tp 36)] #[22]) 3,
  rq 38 (.binOp .lss 3 (tp 35) (tp 37) 3) 4]
def c15_30 : RC := .reg [] o15_30
def c15_31 : RC := .cond (tp 38) .skip (.exit 2)
def c15_32 : RC := .seq c15_30 c15_31
def o15_33 : List ROp := [
  rq 41 (.move (tp 4)) 3,
  rq 42 (.move (tp 0)) 22,
  rq 43 (.move (tp 5)) 3,
  rq 44 (.indexAddr 22 (tp 42) (tp 43)) 0,
  rq 45 (.load 3 (tp 44)) 3,
  rq 46 (.binOp .add 3 (tp 41) (tp 45) 3) 3,
  rq 4 (.assign (tp 46)) 3]
def c15_33 : RC := .reg [] o15_33
def o15_34 : List ROp := [
  rq 47 (.move (tp 4)) 3,
  rq 48 (.binOp .gtr 3 (tp 47) (ki 21) 3) 4]
def c15_34 : RC := .reg [] o15_34
def o15_35 : List ROp := [
  rq 2 (.assign (ki 3)) 25]
def c15_35 : RC := .reg [] o15_35
def c15_36 : RC := .seq c15_35 .ret
def c15_37 : RC := .cond (tp 48) c15_36 .skip
def c15_38 : RC := .seq c15_34 c15_37
def c15_39 : RC := .seq c15_33 c15_38
def c15_40 : RC := .block 3 c15_39
def o15_41 : List ROp := [
  rq 39 (.move (tp 5)) 3,
  rq 40 (.binOp .add 3 (tp 39) (ki 1) 3) 3,
  rq 5 (.assign (tp 40)) 3]
def c15_41 : RC := .reg [] o15_41
def c15_42 : RC := .seq c15_40 c15_41
def c15_43 : RC := .seq c15_32 c15_42
def c15_44 : RC := .loop c15_43
def c15_45 : RC := .block 2 c15_44
def c15_46 : RC := .seq c15_29 c15_45
def o15_47 : List ROp := [
  rq 2 (.assign (ki 0)) 25]
def c15_47 : RC := .reg [] o15_47
def c15_48 : RC := .seq c15_47 .ret
def c15_49 : RC := .seq c15_46 c15_48
def c15_50 : RC := .seq c15_28 c15_49
def c15_51 : RC := .seq c15_27 c15_50
def c15_52 : RC := .seq c15_5 c15_51
def c15_53 : RC := .seq c15_0 c15_52
def o29_0 : List ROp := [
  rq 2 (.alloc 53) 0]
def c29_0 : RC := .reg [] o29_0
def o29_1 : List ROp := [
  rq 3 (.alloc 53) 0]
def c29_1 : RC := .reg [] o29_1
def o29_2 : List ROp := [
  rq 6 (.move (tp 0)) 22,
  rq 7 (cb .len #[(tp 6)] #[22]) 3,
  rq 8 (.move (ki 0)) 3]
def c29_2 : RC := .reg [] o29_2
def o29_3 : List ROp := [
  rq 9 (.binOp .lss 3 (tp 8) (tp 7) 3) 0]
def c29_3 : RC := .reg [] o29_3
def c29_4 : RC := .cond (tp 9) .skip (.exit 0)
def o29_5 : List ROp := [
  rq 10 (.indexAddr 22 (tp 6) (tp 8)) 0,
  rq 11 (.load 3 (tp 10)) 3,
  rq 5 (.assign (tp 11)) 3]
def c29_5 : RC := .reg [] o29_5
def o29_6 : List ROp := [
  rq 12 (.move (tp 5)) 3,
  rq 13 (.indexAddr 53 (tp 3) (tp 12)) 0,
  rq 14 (.load 3 (tp 13)) 3,
  rq 15 (.binOp .add 3 (tp 14) (ki 1) 3) 3,
  rq 16 (.indexAddr 53 (tp 3) (tp 12)) 0,
  rn (.store 3 (tp 16) (tp 15)) 0]
def c29_6 : RC := .reg [] o29_6
def c29_7 : RC := .seq c29_5 c29_6
def c29_8 : RC := .block 1 c29_7
def o29_9 : List ROp := [
  rq 17 (.binOp .add 3 (tp 8) (ki 1) 3) 3,
  rq 8 (.move (tp 17)) 3]
def c29_9 : RC := .reg [] o29_9
def c29_10 : RC := .seq c29_8 c29_9
def c29_11 : RC := .seq c29_4 c29_10
def c29_12 : RC := .seq c29_3 c29_11
def c29_13 : RC := .loop c29_12
def c29_14 : RC := .block 0 c29_13
def c29_15 : RC := .seq c29_2 c29_14
def o29_16 : List ROp := [
  rq 18 (.load 53 (tp 3)) 53,
  rn (.store 53 (tp 2) (tp 18)) 0]
def c29_16 : RC := .reg [] o29_16
def c29_17 : RC := .seq c29_16 .ret
def c29_18 : RC := .seq c29_15 c29_17
def c29_19 : RC := .seq c29_1 c29_18
def c29_20 : RC := .seq c29_0 c29_19
def o30_0 : List ROp := [
  rq 1 (.box 53 (tp 0)) 0,
  rq 2 (.alloc 53) 0]
def c30_0 : RC := .reg [] o30_0
def o30_1 : List ROp := [
  rq 3 (.alloc 53) 0]
def c30_1 : RC := .reg [] o30_1
def o30_2 : List ROp := [
  rq 4 (.slice 53 (tp 3) none none none) 22,
  rq 5 (.slice 53 (tp 1) (some (ki 1)) none none) 22,
  rq 6 (cb .copy #[(tp 4), (tp 5)] #[22, 22]) 3]
def c30_2 : RC := .reg [0, 1, 2] o30_2
def o30_3 : List ROp := [
  rq 7 (.indexAddr 53 (tp 3) (ki 0)) 0,
  rn (.store 3 (tp 7) (ki 0)) 0]
def c30_3 : RC := .reg [] o30_3
def o30_4 : List ROp := [
  rq 8 (.load 53 (tp 1)) 53,
  rq 9 (cf 57 #[(tp 8)] #[53]) 3,
  rq 10 (.indexAddr 53 (tp 3) (tp 9)) 0,
  rq 11 (.load 3 (tp 10)) 3,
  rq 12 (.binOp .add 3 (tp 11) (ki 1) 3) 3,
  rq 13 (.indexAddr 53 (tp 3) (tp 9)) 0,
  rn (.store 3 (tp 13) (tp 12)) 0]
def c30_4 : RC := .reg [] o30_4
def o30_5 : List ROp := [
  rq 14 (.load 53 (tp 3)) 53,
  rn (.store 53 (tp 2) (tp 14)) 0]
def c30_5 : RC := .reg [] o30_5
def c30_6 : RC := .seq c30_5 .ret
def c30_7 : RC := .seq c30_4 c30_6
def c30_8 : RC := .seq c30_3 c30_7
def c30_9 : RC := .seq c30_2 c30_8
def c30_10 : RC := .seq c30_1 c30_9
def c30_11 : RC := .seq c30_0 c30_10
def o31_0 : List ROp := [
  rq 1 (.box 53 (tp 0)) 0,
  rq 2 (.assign (.const (.slice none 0 0))) 22]
def c31_0 : RC := .reg [] o31_0
def o31_1 : List ROp := [
  rq 3 (.assign (.const (.slice none 0 0))) 22]
def c31_1 : RC := .reg [] o31_1
def o31_2 : List ROp := [
  rq 4 (.assign (ki 21)) 3]
def c31_2 : RC := .reg [] o31_2
def o31_3 : List ROp := [
  rq 5 (.move (tp 4)) 3,
  rq 6 (.binOp .gtr 3 (tp 5) (ki 0) 3) 4]
def c31_3 : RC := .reg [] o31_3
def c31_4 : RC := .cond (tp 6) .skip (.exit 0)
def c31_5 : RC := .seq c31_3 c31_4
def o31_6 : List ROp := [
  rq 9 (.move (tp 3)) 22,
  rq 10 (.move (tp 4)) 3,
  rq 11 (.buildSlice 22 1 #[(0, (tp 10))]) 22,
  rq 12 (.move (tp 4)) 3,
  rq 13 (.indexAddr 53 (tp 1) (tp 12)) 0,
  rq 14 (.load 3 (tp 13)) 3,
  rq 15 (cf 58 #[(tp 11), (tp 14)] #[22, 3]) 22,
  rq 16 (cb .append #[(tp 9), (tp 15)] #[22, 22]) 22,
  rq 3 (.assign (tp 16)) 22]
def c31_6 : RC := .reg [] o31_6
def c31_7 : RC := .block 1 c31_6
def o31_8 : List ROp := [
  rq 7 (.move (tp 4)) 3,
  rq 8 (.binOp .sub 3 (tp 7) (ki 1) 3) 3,
  rq 4 (.assign (tp 8)) 3]
def c31_8 : RC := .reg [] o31_8
def c31_9 : RC := .seq c31_7 c31_8
def c31_10 : RC := .seq c31_5 c31_9
def c31_11 : RC := .loop c31_10
def c31_12 : RC := .block 0 c31_11
def c31_13 : RC := .seq c31_2 c31_12
def o31_14 : List ROp := [
  rq 17 (.move (tp 3)) 22,
  rq 2 (.assign (tp 17)) 22]
def c31_14 : RC := .reg [] o31_14
def c31_15 : RC := .seq c31_14 .ret
def c31_16 : RC := .seq c31_13 c31_15
def c31_17 : RC := .seq c31_1 c31_16
def c31_18 : RC := .seq c31_0 c31_17
def o32_0 : List ROp := [
  rq 2 (.assign (.const (.slice none 0 0))) 22]
def c32_0 : RC := .reg [] o32_0
def o32_1 : List ROp := [
  rq 3 (.assign (.const (.slice none 0 0))) 22]
def c32_1 : RC := .reg [] o32_1
def o32_2 : List ROp := [
  rq 4 (.assign (kb false)) 4]
def c32_2 : RC := .reg [] o32_2
def o32_3 : List ROp := [
  rq 5 (.assign (ki 0)) 3]
def c32_3 : RC := .reg [] o32_3
def o32_4 : List ROp := [
  rq 6 (.move (tp 5)) 3,
  rq 7 (.move (tp 0)) 22,
  rq 8 (cb .len #[(tp 7)] #[22]) 3,
  rq 9 (.binOp .lss 3 (tp 6) (tp 8) 3) 4]
def c32_4 : RC := .reg [] o32_4
def c32_5 : RC := .cond (tp 9) .skip (.exit 0)
def c32_6 : RC := .seq c32_4 c32_5
def o32_7 : List ROp := [
  rq 12 (.move (tp 4)) 4,
  rq 13 (.unOp .not 4 (tp 12)) 4,
  rq 14 (.move (tp 13)) 4,
  rg 15 (.move (tp 0)) 22 14 true,
  rg 16 (.move (tp 5)) 3 14 true,
  rg 17 (.indexAddr 22 (tp 15) (tp 16)) 0 14 true,
  rg 18 (.load 3 (tp 17)) 3 14 true,
  rg 19 (.binOp .sub 3 (tp 18) (ki 1) 3) 3 14 true,
  rg 20 (.move (tp 0)) 22 14 true,
  rg 21 (cb .len #[(tp 20)] #[22]) 3 14 true,
  rg 22 (.binOp .leq 3 (tp 19) (tp 21) 3) 4 14 true,
  rq 23 (.pick (tp 14) (tp 22) (kb false)) 4]
def c32_7 : RC := .reg [] o32_7
def o32_8 : List ROp := [
  rq 24 (.move (tp 3)) 22,
  rq 25 (.move (tp 0)) 22,
  rq 26 (cb .len #[(tp 25)] #[22]) 3,
  rq 27 (.buildSlice 22 1 #[(0, (tp 26))]) 22,
  rq 28 (cb .append #[(tp 24), (tp 27)] #[22, 22]) 22,
  rq 3 (.assign (tp 28)) 22]
def c32_8 : RC := .reg [] o32_8
def o32_9 : List ROp := [
  rq 4 (.assign (kb true)) 4]
def c32_9 : RC := .reg [] o32_9
def c32_10 : RC := .seq c32_8 c32_9
def c32_11 : RC := .cond (tp 23) c32_10 .skip
def c32_12 : RC := .seq c32_7 c32_11
def o32_13 : List ROp := [
  rq 29 (.move (tp 0)) 22,
  rq 30 (.move (tp 5)) 3,
  rq 31 (.indexAddr 22 (tp 29) (tp 30)) 0,
  rq 32 (.load 3 (tp 31)) 3,
  rq 33 (.binOp .gtr 3 (tp 32) (ki 1) 3) 4]
def c32_13 : RC := .reg [] o32_13
def o32_14 : List ROp := [
  rq 34 (.move (tp 3)) 22,
  rq 35 (.move (tp 0)) 22,
  rq 36 (.move (tp 5)) 3,
  rq 37 (.indexAddr 22 (tp 35) (tp 36)) 0,
  rq 38 (.load 3 (tp 37)) 3,
  rq 39 (.binOp .sub 3 (tp 38) (ki 1) 3) 3,
  rq 40 (.buildSlice 22 1 #[(0, (tp 39))]) 22,
  rq 41 (cb .append #[(tp 34), (tp 40)] #[22, 22]) 22,
  rq 3 (.assign (tp 41)) 22]
def c32_14 : RC := .reg [] o32_14
def c32_15 : RC := .cond (tp 33) c32_14 .skip
def c32_16 : RC := .seq c32_13 c32_15
def c32_17 : RC := .seq c32_12 c32_16
def c32_18 : RC := .block 1 c32_17
def o32_19 : List ROp := [
  rq 10 (.move (tp 5)) 3,
  rq 11 (.binOp .add 3 (tp 10) (ki 1) 3) 3,
  rq 5 (.assign (tp 11)) 3]
def c32_19 : RC := .reg [] o32_19
def c32_20 : RC := .seq c32_18 c32_19
def c32_21 : RC := .seq c32_6 c32_20
def c32_22 : RC := .loop c32_21
def c32_23 : RC := .block 0 c32_22
def c32_24 : RC := .seq c32_3 c32_23
def o32_25 : List ROp := [
  rq 42 (.move (tp 4)) 4,
  rq 43 (.unOp .not 4 (tp 42)) 4]
def c32_25 : RC := .reg [] o32_25
def o32_26 : List ROp := [
  rq 44 (.move (tp 3)) 22,
  rq 45 (.move (tp 0)) 22,
  rq 46 (cb .len #[(tp 45)] #[22]) 3,
  rq 47 (.buildSlice 22 1 #[(0, (tp 46))]) 22,
  rq 48 (cb .append #[(tp 44), (tp 47)] #[22, 22]) 22,
  rq 3 (.assign (tp 48)) 22]
def c32_26 : RC := .reg [] o32_26
def c32_27 : RC := .cond (tp 43) c32_26 .skip
def c32_28 : RC := .seq c32_25 c32_27
def o32_29 : List ROp := [
  rq 49 (.move (tp 3)) 22,
  rq 2 (.assign (tp 49)) 22]
def c32_29 : RC := .reg [] o32_29
def c32_30 : RC := .seq c32_29 .ret
def c32_31 : RC := .seq c32_28 c32_30
def c32_32 : RC := .seq c32_24 c32_31
def c32_33 : RC := .seq c32_2 c32_32
def c32_34 : RC := .seq c32_1 c32_33
def c32_35 : RC := .seq c32_0 c32_34
def o33_0 : List ROp := [
  rq 6 (.assign (kb false)) 4]
def c33_0 : RC := .reg [] o33_0
def o33_1 : List ROp := [
  rq 7 (.move (tp 0)) 3,
  rq 8 (.move (tp 1)) 3,
  rq 9 (.binOp .leq 3 (tp 7) (tp 8) 3) 4,
  rq 10 (.move (tp 9)) 4,
  rg 11 (.move (tp 1)) 3 10 true,
  rg 12 (.move (tp 2)) 3 10 true,
  rg 13 (.binOp .leq 3 (tp 11) (tp 12) 3) 4 10 true,
  rq 14 (.pick (tp 10) (tp 13) (kb false)) 4,
  rq 6 (.assign (tp 14)) 4]
def c33_1 : RC := .reg [] o33_1
def c33_2 : RC := .seq c33_1 .ret
def c33_3 : RC := .seq c33_0 c33_2
def o34_0 : List ROp := [
  rq 1 (.box 53 (tp 0)) 0,
  rq 2 (.assign (kb false)) 4]
def c34_0 : RC := .reg [] o34_0
def o34_1 : List ROp := [
  rq 8 (.load 53 (tp 1)) 53,
  rq 9 (cf 31 #[(tp 8)] #[53]) 22,
  rq 3 (.assign (tp 9)) 22]
def c34_1 : RC := .reg [] o34_1
def o34_2 : List ROp := [
  rq 11 (.load 53 (tp 1)) 53,
  rq 12 (cf 36 #[(tp 11)] #[53]) 3,
  rq 13 (cf 35 #[(tp 12)] #[3]) 59,
  rq 10 (.move (tp 13)) 59,
  rq 14 (.extract (tp 10) 0) 3,
  rq 15 (.extract (tp 10) 1) 3,
  rq 4 (.assign (tp 14)) 3,
  rq 5 (.assign (tp 15)) 3]
def c34_2 : RC := .reg [] o34_2
def o34_3 : List ROp := [
  rq 16 (.move (tp 3)) 22,
  rq 17 (cb .len #[(tp 16)] #[22]) 3,
  rq 18 (.move (tp 4)) 3,
  rq 19 (.binOp .add 3 (tp 18) (ki 1) 3) 3,
  rq 20 (.binOp .gtr 3 (tp 17) (tp 19) 3) 4]
def c34_3 : RC := .reg [] o34_3
def o34_4 : List ROp := [
  rq 2 (.assign (kb false)) 4]
def c34_4 : RC := .reg [] o34_4
def c34_5 : RC := .seq c34_4 .ret
def c34_6 : RC := .cond (tp 20) c34_5 .skip
def c34_7 : RC := .seq c34_3 c34_6
def o34_8 : List ROp := [
  rq 21 (.move (tp 3)) 22,
  rq 22 (.move (tp 4)) 3,
  rq 23 (.binOp .add 3 (tp 22) (ki 1) 3) 3,
  rq 24 (.move (tp 3)) 22,
  rq 25 (cb .len #[(tp 24)] #[22]) 3,
  rq 26 (.binOp .sub 3 (tp 23) (tp 25) 3) 3,
  rq 27 (cb .append #[(tp 21), (tp 26)] #[22, 3]) 22,
  rq 28 (cb .len #[(tp 27)] #[22]) 3,
  rq 29 (.move (ki 0)) 3]
def c34_8 : RC := .reg [] o34_8
def o34_9 : List ROp := [
  rq 30 (.binOp .lss 3 (tp 29) (tp 28) 3) 0]
def c34_9 : RC := .reg [] o34_9
def c34_10 : RC := .cond (tp 30) .skip (.exit 0)
def o34_11 : List ROp := [
  rq 31 (.move (tp 29)) 3,
  rq 32 (.indexAddr 22 (tp 27) (tp 29)) 0,
  rq 33 (.load 3 (tp 32)) 3,
  rq 6 (.assign (tp 31)) 3,
  rq 7 (.assign (tp 33)) 3]
def c34_11 : RC := .reg [] o34_11
def o34_12 : List ROp := [
  rq 34 (.move (tp 4)) 3,
  rq 35 (.move (tp 6)) 3,
  rq 36 (.binOp .sub 3 (tp 34) (tp 35) 3) 3,
  rq 37 (.move (tp 7)) 3,
  rq 38 (.move (tp 4)) 3,
  rq 39 (.binOp .add 3 (tp 38) (ki 1) 3) 3,
  rq 40 (.move (tp 6)) 3,
  rq 41 (.binOp .sub 3 (tp 39) (tp 40) 3) 3,
  rq 42 (cf 33 #[(tp 36), (tp 37), (tp 41)] #[3, 3, 3]) 4,
  rq 43 (.unOp .not 4 (tp 42)) 4]
def c34_12 : RC := .reg [] o34_12
def o34_13 : List ROp := [
  rq 2 (.assign (kb false)) 4]
def c34_13 : RC := .reg [] o34_13
def c34_14 : RC := .seq c34_13 .ret
def c34_15 : RC := .cond (tp 43) c34_14 .skip
def c34_16 : RC := .seq c34_12 c34_15
def c34_17 : RC := .seq c34_11 c34_16
def c34_18 : RC := .block 1 c34_17
def o34_19 : List ROp := [
  rq 44 (.binOp .add 3 (tp 29) (ki 1) 3) 3,
  rq 29 (.move (tp 44)) 3]
def c34_19 : RC := .reg [] o34_19
def c34_20 : RC := .seq c34_18 c34_19
def c34_21 : RC := .seq c34_10 c34_20
def c34_22 : RC := .seq c34_9 c34_21
def c34_23 : RC := .loop c34_22
def c34_24 : RC := .block 0 c34_23
def c34_25 : RC := .seq c34_8 c34_24
def o34_26 : List ROp := [
  rq 2 (.assign (kb true)) 4]
def c34_26 : RC := .reg [] o34_26
def c34_27 : RC := .seq c34_26 .ret
def c34_28 : RC := .seq c34_25 c34_27
def c34_29 : RC := .seq c34_7 c34_28
def c34_30 : RC := .seq c34_2 c34_29
def c34_31 : RC := .seq c34_1 c34_30
def c34_32 : RC := .seq c34_0 c34_31
def o35_0 : List ROp := [
  rq 2 (.assign (ki 0)) 3,
  rq 3 (.assign (ki 0)) 3]
def c35_0 : RC := .reg [] o35_0
def o35_1 : List ROp := [
  rq 4 (.move (tp 0)) 3,
  rq 3 (.assign (tp 4)) 3]
def c35_1 : RC := .reg [] o35_1
def o35_2 : List ROp := [
  rq 5 (.move (tp 3)) 3,
  rq 6 (.move (tp 2)) 3,
  rq 7 (.binOp .gtr 3 (tp 5) (tp 6) 3) 4]
def c35_2 : RC := .reg [] o35_2
def c35_3 : RC := .cond (tp 7) .skip (.exit 0)
def c35_4 : RC := .seq c35_2 c35_3
def o35_5 : List ROp := [
  rq 8 (.move (tp 2)) 3,
  rq 9 (.binOp .add 3 (tp 8) (ki 1) 3) 3,
  rq 2 (.assign (tp 9)) 3]
def c35_5 : RC := .reg [] o35_5
def o35_6 : List ROp := [
  rq 10 (.move (tp 3)) 3,
  rq 11 (.move (tp 2)) 3,
  rq 12 (.binOp .sub 3 (tp 10) (tp 11) 3) 3,
  rq 3 (.assign (tp 12)) 3]
def c35_6 : RC := .reg [] o35_6
def c35_7 : RC := .seq c35_5 c35_6
def c35_8 : RC := .block 1 c35_7
def c35_9 : RC := .seq c35_4 c35_8
def c35_10 : RC := .loop c35_9
def c35_11 : RC := .block 0 c35_10
def c35_12 : RC := .seq c35_1 c35_11
def o35_13 : List ROp := [
  rq 13 (.move (tp 2)) 3,
  rq 14 (.move (tp 3)) 3,
  rq 2 (.assign (tp 13)) 3,
  rq 3 (.assign (tp 14)) 3]
def c35_13 : RC := .reg [] o35_13
def c35_14 : RC := .seq c35_13 .ret
def c35_15 : RC := .seq c35_12 c35_14
def c35_16 : RC := .seq c35_0 c35_15
def o36_0 : List ROp := [
  rq 1 (.box 53 (tp 0)) 0,
  rq 2 (.assign (ki 0)) 3]
def c36_0 : RC := .reg [] o36_0
def o36_1 : List ROp := [
  rq 3 (.assign (ki 0)) 3]
def c36_1 : RC := .reg [] o36_1
def o36_2 : List ROp := [
  rq 6 (.load 53 (tp 1)) 53,
  rq 7 (.move (ki 0)) 3]
def c36_2 : RC := .reg [] o36_2
def o36_3 : List ROp := [
  rq 8 (.binOp .lss 3 (tp 7) (ki 22) 3) 0]
def c36_3 : RC := .reg [] o36_3
def c36_4 : RC := .cond (tp 8) .skip (.exit 0)
def o36_5 : List ROp := [
  rq 9 (.move (tp 7)) 3,
  rq 10 (.index 53 (tp 6) (tp 7)) 3,
  rq 4 (.assign (tp 9)) 3,
  rq 5 (.assign (tp 10)) 3]
def c36_5 : RC := .reg [] o36_5
def o36_6 : List ROp := [
  rq 11 (.move (tp 3)) 3,
  rq 12 (.move (tp 4)) 3,
  rq 13 (.move (tp 5)) 3,
  rq 14 (.binOp .mul 3 (tp 12) (tp 13) 3) 3,
  rq 15 (.binOp .add 3 (tp 11) (tp 14) 3) 3,
  rq 3 (.assign (tp 15)) 3]
def c36_6 : RC := .reg [] o36_6
def c36_7 : RC := .seq c36_5 c36_6
def c36_8 : RC := .block 1 c36_7
def o36_9 : List ROp := [
  rq 16 (.binOp .add 3 (tp 7) (ki 1) 3) 3,
  rq 7 (.move (tp 16)) 3]
def c36_9 : RC := .reg [] o36_9
def c36_10 : RC := .seq c36_8 c36_9
def c36_11 : RC := .seq c36_4 c36_10
def c36_12 : RC := .seq c36_3 c36_11
def c36_13 : RC := .loop c36_12
def c36_14 : RC := .block 0 c36_13
def c36_15 : RC := .seq c36_2 c36_14
def o36_16 : List ROp := [
  rq 17 (.move (tp 3)) 3,
  rq 2 (.assign (tp 17)) 3]
def c36_16 : RC := .reg [] o36_16
def c36_17 : RC := .seq c36_16 .ret
def c36_18 : RC := .seq c36_15 c36_17
def c36_19 : RC := .seq c36_1 c36_18
def c36_20 : RC := .seq c36_0 c36_19
def o37_0 : List ROp := [
  rq 6 (.assign (kb false)) 4]
def c37_0 : RC := .reg [] o37_0
def o37_1 : List ROp := [
  rq 7 (.move (tp 0)) 3,
  rq 8 (.move (tp 1)) 3,
  rq 9 (.binOp .geq 3 (tp 7) (tp 8) 3) 4,
  rq 10 (.move (tp 9)) 4,
  rg 11 (.move (tp 0)) 3 10 true,
  rg 12 (.move (tp 2)) 3 10 true,
  rg 13 (.binOp .leq 3 (tp 11) (tp 12) 3) 4 10 true,
  rq 14 (.pick (tp 10) (tp 13) (kb false)) 4,
  rq 6 (.assign (tp 14)) 4]
def c37_1 : RC := .reg [] o37_1
def c37_2 : RC := .seq c37_1 .ret
def c37_3 : RC := .seq c37_0 c37_2
def o38_0 : List ROp := [
  rq 2 (.assign (kb false)) 4]
def c38_0 : RC := .reg [] o38_0
def o38_1 : List ROp := [
  rq 5 (.move (tp 0)) 22,
  rq 3 (.assign (tp 5)) 22]
def c38_1 : RC := .reg [] o38_1
def o38_2 : List ROp := [
  rq 4 (.assign (ki 0)) 3]
def c38_2 : RC := .reg [] o38_2
def o38_3 : List ROp := [
  rq 6 (.move (tp 4)) 3,
  rq 7 (.binOp .lss 3 (tp 6) (ki 21) 3) 4]
def c38_3 : RC := .reg [] o38_3
def c38_4 : RC := .cond (tp 7) .skip (.exit 0)
def c38_5 : RC := .seq c38_3 c38_4
def o38_6 : List ROp := [
  rq 10 (.move (tp 3)) 22,
  rq 11 (cf 32 #[(tp 10)] #[22]) 22,
  rq 3 (.assign (tp 11)) 22]
def c38_6 : RC := .reg [] o38_6
def o38_7 : List ROp := [
  rq 12 (.move (tp 3)) 22,
  rq 13 (.move (tp 0)) 22,
  rq 14 (cf 59 #[(tp 12), (tp 13)] #[22, 22]) 4]
def c38_7 : RC := .reg [] o38_7
def o38_8 : List ROp := [
  rq 2 (.assign (kb true)) 4]
def c38_8 : RC := .reg [] o38_8
def c38_9 : RC := .seq c38_8 .ret
def c38_10 : RC := .cond (tp 14) c38_9 .skip
def c38_11 : RC := .seq c38_7 c38_10
def c38_12 : RC := .seq c38_6 c38_11
def c38_13 : RC := .block 1 c38_12
def o38_14 : List ROp := [
  rq 8 (.move (tp 4)) 3,
  rq 9 (.binOp .add 3 (tp 8) (ki 1) 3) 3,
  rq 4 (.assign (tp 9)) 3]
def c38_14 : RC := .reg [] o38_14
def c38_15 : RC := .seq c38_13 c38_14
def c38_16 : RC := .seq c38_5 c38_15
def c38_17 : RC := .loop c38_16
def c38_18 : RC := .block 0 c38_17
def c38_19 : RC := .seq c38_2 c38_18
def o38_20 : List ROp := [
  rq 2 (.assign (kb false)) 4]
def c38_20 : RC := .reg [] o38_20
def c38_21 : RC := .seq c38_20 .ret
def c38_22 : RC := .seq c38_19 c38_21
def c38_23 : RC := .seq c38_1 c38_22
def c38_24 : RC := .seq c38_0 c38_23
def o39_0 : List ROp := [
  rq 2 (.assign (.const (.slice none 0 0))) 37]
def c39_0 : RC := .reg [] o39_0
def o39_1 : List ROp := [
  rq 10 (.move (tp 0)) 22,
  rq 11 (cf 60 #[(tp 10)] #[22]) 77,
  rq 9 (.move (tp 11)) 77,
  rq 12 (.extract (tp 9) 0) 3,
  rq 13 (.extract (tp 9) 1) 22,
  rq 3 (.assign (tp 12)) 3,
  rq 4 (.assign (tp 13)) 22]
def c39_1 : RC := .reg [] o39_1
def o39_2 : List ROp := [
  rq 14 (.move (tp 4)) 22,
  rq 5 (.assign (tp 14)) 22]
def c39_2 : RC := .reg [] o39_2
def o39_3 : List ROp := [
  rq 15 (.move (tp 4)) 22,
  rq 16 (cf 32 #[(tp 15)] #[22]) 22,
  rq 6 (.assign (tp 16)) 22]
def c39_3 : RC := .reg [] o39_3
def o39_4 : List ROp := [
  rq 17 (.move (tp 6)) 22,
  rq 18 (.move (tp 4)) 22,
  rq 19 (cf 59 #[(tp 17), (tp 18)] #[22, 22]) 4,
  rq 20 (.unOp .not 4 (tp 19)) 4]
def c39_4 : RC := .reg [] o39_4
def c39_5 : RC := .cond (tp 20) .skip (.exit 0)
def c39_6 : RC := .seq c39_4 c39_5
def o39_7 : List ROp := [
  rq 23 (.move (tp 6)) 22,
  rq 24 (.move (tp 5)) 22,
  rq 25 (cf 61 #[(tp 23), (tp 24)] #[22, 22]) 4]
def c39_7 : RC := .reg [] o39_7
def o39_8 : List ROp := [
  rq 26 (.move (tp 6)) 22,
  rq 5 (.assign (tp 26)) 22]
def c39_8 : RC := .reg [] o39_8
def c39_9 : RC := .cond (tp 25) c39_8 .skip
def c39_10 : RC := .seq c39_7 c39_9
def c39_11 : RC := .block 1 c39_10
def o39_12 : List ROp := [
  rq 21 (.move (tp 6)) 22,
  rq 22 (cf 32 #[(tp 21)] #[22]) 22,
  rq 6 (.assign (tp 22)) 22]
def c39_12 : RC := .reg [] o39_12
def c39_13 : RC := .seq c39_11 c39_12
def c39_14 : RC := .seq c39_6 c39_13
def c39_15 : RC := .loop c39_14
def c39_16 : RC := .block 0 c39_15
def c39_17 : RC := .seq c39_3 c39_16
def o39_18 : List ROp := [
  rq 27 (.move (tp 5)) 22,
  rq 28 (.buildSlice 37 1 #[(0, (tp 27))]) 37,
  rq 7 (.assign (tp 28)) 37]
def c39_18 : RC := .reg [] o39_18
def o39_19 : List ROp := [
  rq 29 (.move (tp 5)) 22,
  rq 30 (cf 32 #[(tp 29)] #[22]) 22,
  rq 8 (.assign (tp 30)) 22]
def c39_19 : RC := .reg [] o39_19
def o39_20 : List ROp := [
  rq 31 (.move (tp 8)) 22,
  rq 32 (.move (tp 5)) 22,
  rq 33 (cf 59 #[(tp 31), (tp 32)] #[22, 22]) 4,
  rq 34 (.unOp .not 4 (tp 33)) 4]
def c39_20 : RC := .reg [] o39_20
def c39_21 : RC := .cond (tp 34) .skip (.exit 2)
def c39_22 : RC := .seq c39_20 c39_21
def o39_23 : List ROp := [
  rq 37 (.move (tp 7)) 37,
  rq 38 (.move (tp 8)) 22,
  rq 39 (.buildSlice 37 1 #[(0, (tp 38))]) 37,
  rq 40 (cb .append #[(tp 37), (tp 39)] #[37, 37]) 37,
  rq 7 (.assign (tp 40)) 37]
def c39_23 : RC := .reg [] o39_23
def c39_24 : RC := .block 3 c39_23
def o39_25 : List ROp := [
  rq 35 (.move (tp 8)) 22,
  rq 36 (cf 32 #[(tp 35)] #[22]) 22,
  rq 8 (.assign (tp 36)) 22]
def c39_25 : RC := .reg [] o39_25
def c39_26 : RC := .seq c39_24 c39_25
def c39_27 : RC := .seq c39_22 c39_26
def c39_28 : RC := .loop c39_27
def c39_29 : RC := .block 2 c39_28
def c39_30 : RC := .seq c39_19 c39_29
def o39_31 : List ROp := [
  rq 41 (.move (tp 7)) 37,
  rq 2 (.assign (tp 41)) 37]
def c39_31 : RC := .reg [] o39_31
def c39_32 : RC := .seq c39_31 .ret
def c39_33 : RC := .seq c39_30 c39_32
def c39_34 : RC := .seq c39_18 c39_33
def c39_35 : RC := .seq c39_17 c39_34
def c39_36 : RC := .seq c39_2 c39_35
def c39_37 : RC := .seq c39_1 c39_36
def c39_38 : RC := .seq c39_0 c39_37
def o57_0 : List ROp := [
  rq 1 (.box 53 (tp 0)) 0,
  rq 2 (.assign (ki 0)) 3]
def c57_0 : RC := .reg [] o57_0
def o57_1 : List ROp := [
  rq 3 (.assign (ki 0)) 3]
def c57_1 : RC := .reg [] o57_1
def o57_2 : List ROp := [
  rq 6 (.slice 53 (tp 1) (some (ki 1)) none none) 22,
  rq 7 (cb .len #[(tp 6)] #[22]) 3,
  rq 8 (.move (ki 0)) 3]
def c57_2 : RC := .reg [] o57_2
def o57_3 : List ROp := [
  rq 9 (.binOp .lss 3 (tp 8) (tp 7) 3) 0]
def c57_3 : RC := .reg [] o57_3
def c57_4 : RC := .cond (tp 9) .skip (.exit 0)
def o57_5 : List ROp := [
  rq 10 (.indexAddr 22 (tp 6) (tp 8)) 0,
  rq 11 (.load 3 (tp 10)) 3,
  rq 5 (.assign (tp 11)) 3]
def c57_5 : RC := .reg [] o57_5
def o57_6 : List ROp := [
  rq 12 (.move (tp 3)) 3,
  rq 13 (.move (tp 5)) 3,
  rq 14 (.binOp .add 3 (tp 12) (tp 13) 3) 3,
  rq 3 (.assign (tp 14)) 3]
def c57_6 : RC := .reg [] o57_6
def c57_7 : RC := .seq c57_5 c57_6
def c57_8 : RC := .block 1 c57_7
def o57_9 : List ROp := [
  rq 15 (.binOp .add 3 (tp 8) (ki 1) 3) 3,
  rq 8 (.move (tp 15)) 3]
def c57_9 : RC := .reg [] o57_9
def c57_10 : RC := .seq c57_8 c57_9
def c57_11 : RC := .seq c57_4 c57_10
def c57_12 : RC := .seq c57_3 c57_11
def c57_13 : RC := .loop c57_12
def c57_14 : RC := .block 0 c57_13
def c57_15 : RC := .seq c57_2 c57_14
def o57_16 : List ROp := [
  rq 16 (.move (tp 3)) 3,
  rq 2 (.assign (tp 16)) 3]
def c57_16 : RC := .reg [] o57_16
def c57_17 : RC := .seq c57_16 .ret
def c57_18 : RC := .seq c57_15 c57_17
def c57_19 : RC := .seq c57_1 c57_18
def c57_20 : RC := .seq c57_0 c57_19
def o59_0 : List ROp := [
  rq 4 (.assign (kb false)) 4]
def c59_0 : RC := .reg [] o59_0
def o59_1 : List ROp := [
  rq 6 (.move (tp 0)) 22,
  rq 7 (cb .len #[(tp 6)] #[22]) 3,
  rq 8 (.move (tp 1)) 22,
  rq 9 (cb .len #[(tp 8)] #[22]) 3,
  rq 10 (.binOp .neq 3 (tp 7) (tp 9) 3) 4]
def c59_1 : RC := .reg [] o59_1
def o59_2 : List ROp := [
  rq 4 (.assign (kb false)) 4]
def c59_2 : RC := .reg [] o59_2
def c59_3 : RC := .seq c59_2 .ret
def c59_4 : RC := .cond (tp 10) c59_3 .skip
def c59_5 : RC := .seq c59_1 c59_4
def o59_6 : List ROp := [
  rq 5 (.assign (ki 0)) 3]
def c59_6 : RC := .reg [] o59_6
def o59_7 : List ROp := [
  rq 11 (.move (tp 5)) 3,
  rq 12 (.move (tp 0)) 22,
  rq 13 (cb .len #[(tp 12)] #[22]) 3,
  rq 14 (.binOp .lss 3 (tp 11) (tp 13) 3) 4]
def c59_7 : RC := .reg [] o59_7
def c59_8 : RC := .cond (tp 14) .skip (.exit 0)
def c59_9 : RC := .seq c59_7 c59_8
def o59_10 : List ROp := [
  rq 17 (.move (tp 0)) 22,
  rq 18 (.move (tp 5)) 3,
  rq 19 (.indexAddr 22 (tp 17) (tp 18)) 0,
  rq 20 (.load 3 (tp 19)) 3,
  rq 21 (.move (tp 1)) 22,
  rq 22 (.move (tp 5)) 3,
  rq 23 (.indexAddr 22 (tp 21) (tp 22)) 0,
  rq 24 (.load 3 (tp 23)) 3,
  rq 25 (.binOp .neq 3 (tp 20) (tp 24) 3) 4]
def c59_10 : RC := .reg [0, 1, 2, 3, 4, 5, 6, 7, 8] o59_10
def o59_11 : List ROp := [
  rq 4 (.assign (kb false)) 4]
def c59_11 : RC := .reg [] o59_11
def c59_12 : RC := .seq c59_11 .ret
def c59_13 : RC := .cond (tp 25) c59_12 .skip
def c59_14 : RC := .seq c59_10 c59_13
def c59_15 : RC := .block 1 c59_14
def o59_16 : List ROp := [
  rq 15 (.move (tp 5)) 3,
  rq 16 (.binOp .add 3 (tp 15) (ki 1) 3) 3,
  rq 5 (.assign (tp 16)) 3]
def c59_16 : RC := .reg [] o59_16
def c59_17 : RC := .seq c59_15 c59_16
def c59_18 : RC := .seq c59_9 c59_17
def c59_19 : RC := .loop c59_18
def c59_20 : RC := .block 0 c59_19
def c59_21 : RC := .seq c59_6 c59_20
def o59_22 : List ROp := [
  rq 4 (.assign (kb true)) 4]
def c59_22 : RC := .reg [] o59_22
def c59_23 : RC := .seq c59_22 .ret
def c59_24 : RC := .seq c59_21 c59_23
def c59_25 : RC := .seq c59_5 c59_24
def c59_26 : RC := .seq c59_0 c59_25
def o60_0 : List ROp := [
  rq 2 (.assign (ki 0)) 3,
  rq 3 (.assign (.const (.slice none 0 0))) 22]
def c60_0 : RC := .reg [] o60_0
def o60_1 : List ROp := [
  rq 4 (.assign (ki 0)) 3]
def c60_1 : RC := .reg [] o60_1
def o60_2 : List ROp := [
  rq 5 (.move (tp 0)) 22,
  rq 6 (cf 38 #[(tp 5)] #[22]) 4,
  rq 7 (.unOp .not 4 (tp 6)) 4]
def c60_2 : RC := .reg [] o60_2
def c60_3 : RC := .cond (tp 7) .skip (.exit 0)
def c60_4 : RC := .seq c60_2 c60_3
def o60_5 : List ROp := [
  rq 8 (.move (tp 0)) 22,
  rq 9 (cf 32 #[(tp 8)] #[22]) 22,
  rq 0 (.assign (tp 9)) 22]
def c60_5 : RC := .reg [] o60_5
def o60_6 : List ROp := [
  rq 10 (.move (tp 4)) 3,
  rq 11 (.binOp .add 3 (tp 10) (ki 1) 3) 3,
  rq 4 (.assign (tp 11)) 3]
def c60_6 : RC := .reg [] o60_6
def c60_7 : RC := .seq c60_5 c60_6
def c60_8 : RC := .block 1 c60_7
def c60_9 : RC := .seq c60_4 c60_8
def c60_10 : RC := .loop c60_9
def c60_11 : RC := .block 0 c60_10
def o60_12 : List ROp := [
  rq 12 (.move (tp 4)) 3,
  rq 13 (.move (tp 0)) 22,
  rq 2 (.assign (tp 12)) 3,
  rq 3 (.assign (tp 13)) 22]
def c60_12 : RC := .reg [] o60_12
def c60_13 : RC := .seq c60_12 .ret
def c60_14 : RC := .seq c60_11 c60_13
def c60_15 : RC := .seq c60_1 c60_14
def c60_16 : RC := .seq c60_0 c60_15
def o61_0 : List ROp := [
  rq 4 (.assign (kb false)) 4]
def c61_0 : RC := .reg [] o61_0
def o61_1 : List ROp := [
  rq 5 (.assign (ki 0)) 3]
def c61_1 : RC := .reg [] o61_1
def o61_2 : List ROp := [
  rq 6 (.move (tp 5)) 3,
  rq 7 (.move (tp 0)) 22,
  rq 8 (cb .len #[(tp 7)] #[22]) 3,
  rq 9 (.binOp .lss 3 (tp 6) (tp 8) 3) 4,
  rq 10 (.move (tp 9)) 4,
  rg 11 (.move (tp 5)) 3 10 true,
  rg 12 (.move (tp 1)) 22 10 true,
  rg 13 (cb .len #[(tp 12)] #[22]) 3 10 true,
  rg 14 (.binOp .lss 3 (tp 11) (tp 13) 3) 4 10 true,
  rq 15 (.pick (tp 10) (tp 14) (kb false)) 4]
def c61_2 : RC := .reg [] o61_2
def c61_3 : RC := .cond (tp 15) .skip (.exit 0)
def c61_4 : RC := .seq c61_2 c61_3
def o61_5 : List ROp := [
  rq 18 (.move (tp 0)) 22,
  rq 19 (.move (tp 5)) 3,
  rq 20 (.indexAddr 22 (tp 18) (tp 19)) 0,
  rq 21 (.load 3 (tp 20)) 3,
  rq 22 (.move (tp 1)) 22,
  rq 23 (.move (tp 5)) 3,
  rq 24 (.indexAddr 22 (tp 22) (tp 23)) 0,
  rq 25 (.load 3 (tp 24)) 3,
  rq 26 (.binOp .neq 3 (tp 21) (tp 25) 3) 4]
def c61_5 : RC := .reg [0, 1, 2, 3, 4, 5, 6, 7, 8] o61_5
def o61_6 : List ROp := [
  rq 27 (.move (tp 0)) 22,
  rq 28 (.move (tp 5)) 3,
  rq 29 (.indexAddr 22 (tp 27) (tp 28)) 0,
  rq 30 (.load 3 (tp 29)) 3,
  rq 31 (.move (tp 1)) 22,
  rq 32 (.move (tp 5)) 3,
  rq 33 (.indexAddr 22 (tp 31) (tp 32)) 0,
  rq 34 (.load 3 (tp 33)) 3,
  rq 35 (.binOp .lss 3 (tp 30) (tp 34) 3) 4,
  rq 4 (.assign (tp 35)) 4]
def c61_6 : RC := .reg [0, 1, 2, 3, 4, 5, 6, 7, 8, 9] o61_6
def c61_7 : RC := .seq c61_6 .ret
def c61_8 : RC := .cond (tp 26) c61_7 .skip
def c61_9 : RC := .seq c61_5 c61_8
def c61_10 : RC := .block 1 c61_9
def o61_11 : List ROp := [
  rq 16 (.move (tp 5)) 3,
  rq 17 (.binOp .add 3 (tp 16) (ki 1) 3) 3,
  rq 5 (.assign (tp 17)) 3]
def c61_11 : RC := .reg [] o61_11
def c61_12 : RC := .seq c61_10 c61_11
def c61_13 : RC := .seq c61_4 c61_12
def c61_14 : RC := .loop c61_13
def c61_15 : RC := .block 0 c61_14
def c61_16 : RC := .seq c61_1 c61_15
def o61_17 : List ROp := [
  rq 36 (.move (tp 0)) 22,
  rq 37 (cb .len #[(tp 36)] #[22]) 3,
  rq 38 (.move (tp 1)) 22,
  rq 39 (cb .len #[(tp 38)] #[22]) 3,
  rq 40 (.binOp .lss 3 (tp 37) (tp 39) 3) 4,
  rq 4 (.assign (tp 40)) 4]
def c61_17 : RC := .reg [] o61_17
def c61_18 : RC := .seq c61_17 .ret
def c61_19 : RC := .seq c61_16 c61_18
def c61_20 : RC := .seq c61_0 c61_19
end Go.HpR
