/- Slim code of the functions that have a model, piece by piece: MADE BY PROGRAM (wip/tools/dec.py). -/
import Derived.Test.YtjjcahbfhfngdaaSpFramex

set_option maxRecDepth 100000
namespace Go.HpT
open Go.Sp
def o4_0 : List ROp := [
  rq 2 (.assign (kb false)) 4]
def c4_0 : RC := .reg [] o4_0
def o4_1 : List ROp := [
  rq 13 (.move (tp 0)) 32,
  rq 14 (cf 16 #[(tp 13), (ki 21)] #[32, 3]) 22,
  rq 3 (.assign (tp 14)) 22]
def c4_1 : RC := .reg [] o4_1
def o4_2 : List ROp := [
  rq 16 (.move (tp 3)) 22,
  rq 17 (cf 11 #[(tp 16)] #[22]) 26,
  rq 15 (.move (tp 17)) 26,
  rq 18 (.extract (tp 15) 0) 22,
  rq 19 (.extract (tp 15) 1) 25,
  rq 4 (.assign (tp 18)) 22,
  rq 5 (.assign (tp 19)) 25]
def c4_2 : RC := .reg [] o4_2
def o4_3 : List ROp := [
  rq 20 (.move (tp 5)) 25,
  rq 21 (.binOp .neq 25 (tp 20) (ki 0) 25) 4,
  rq 22 (.move (tp 21)) 4,
  rg 23 (.move (tp 4)) 22 22 false,
  rg 24 (cf 17 #[(tp 23)] #[22]) 3 22 false,
  rg 25 (.move (tp 3)) 22 22 false,
  rg 26 (cf 17 #[(tp 25)] #[22]) 3 22 false,
  rg 27 (.binOp .neq 3 (tp 24) (tp 26) 3) 4 22 false,
  rq 28 (.pick (tp 22) (kb true) (tp 27)) 4,
  rq 29 (.move (tp 28)) 4,
  rg 30 (.move (tp 4)) 22 29 false,
  rg 31 (cb .len #[(tp 30)] #[22]) 3 29 false,
  rg 32 (.move (tp 3)) 22 29 false,
  rg 33 (.indexAddr 22 (tp 32) (ki 0)) 0 29 false,
  rg 34 (.load 3 (tp 33)) 3 29 false,
  rg 35 (.binOp .neq 3 (tp 31) (tp 34) 3) 4 29 false,
  rq 36 (.pick (tp 29) (kb true) (tp 35)) 4,
  rq 37 (.move (tp 36)) 4,
  rg 38 (.move (tp 4)) 22 37 false,
  rg 39 (cb .len #[(tp 38)] #[22]) 3 37 false,
  rg 40 (.binOp .eql 3 (tp 39) (ki 0) 3) 4 37 false,
  rq 41 (.pick (tp 37) (kb true) (tp 40)) 4,
  rq 42 (.move (tp 41)) 4,
  rg 43 (.move (tp 4)) 22 42 false,
  rg 44 (.indexAddr 22 (tp 43) (ki 0)) 0 42 false,
  rg 45 (.load 3 (tp 44)) 3 42 false,
  rg 46 (.move (tp 3)) 22 42 false,
  rg 47 (cb .len #[(tp 46)] #[22]) 3 42 false,
  rg 48 (.binOp .neq 3 (tp 45) (tp 47) 3) 4 42 false,
  rq 49 (.pick (tp 42) (kb true) (tp 48)) 4]
def c4_3 : RC := .reg [] o4_3
def o4_4 : List ROp := [
  rq 2 (.assign (kb false)) 4]
def c4_4 : RC := .reg [] o4_4
def c4_5 : RC := .seq c4_4 .ret
def c4_6 : RC := .cond (tp 49) c4_5 .skip
def c4_7 : RC := .seq c4_3 c4_6
def o4_8 : List ROp := [
  rq 50 (.move (tp 4)) 22,
  rq 51 (cb .len #[(tp 50)] #[22]) 3,
  rq 52 (.move (ki 0)) 3]
def c4_8 : RC := .reg [] o4_8
def o4_9 : List ROp := [
  rq 53 (.binOp .lss 3 (tp 52) (tp 51) 3) 0]
def c4_9 : RC := .reg [] o4_9
def c4_10 : RC := .cond (tp 53) .skip (.exit 0)
def o4_11 : List ROp := [
  rq 54 (.move (tp 52)) 3,
  rq 55 (.indexAddr 22 (tp 50) (tp 52)) 0,
  rq 56 (.load 3 (tp 55)) 3,
  rq 6 (.assign (tp 54)) 3,
  rq 7 (.assign (tp 56)) 3]
def c4_11 : RC := .reg [] o4_11
def o4_12 : List ROp := [
  rq 8 (.assign (ki 0)) 3]
def c4_12 : RC := .reg [] o4_12
def o4_13 : List ROp := [
  rq 57 (.move (tp 3)) 22,
  rq 58 (cb .len #[(tp 57)] #[22]) 3,
  rq 59 (.move (ki 0)) 3]
def c4_13 : RC := .reg [] o4_13
def o4_14 : List ROp := [
  rq 60 (.binOp .lss 3 (tp 59) (tp 58) 3) 0]
def c4_14 : RC := .reg [] o4_14
def c4_15 : RC := .cond (tp 60) .skip (.exit 2)
def o4_16 : List ROp := [
  rq 61 (.indexAddr 22 (tp 57) (tp 59)) 0,
  rq 62 (.load 3 (tp 61)) 3,
  rq 10 (.assign (tp 62)) 3]
def c4_16 : RC := .reg [] o4_16
def o4_17 : List ROp := [
  rq 63 (.move (tp 10)) 3,
  rq 64 (.move (tp 6)) 3,
  rq 65 (.binOp .gtr 3 (tp 63) (tp 64) 3) 4]
def c4_17 : RC := .reg [] o4_17
def o4_18 : List ROp := [
  rq 66 (.move (tp 8)) 3,
  rq 67 (.binOp .add 3 (tp 66) (ki 1) 3) 3,
  rq 8 (.assign (tp 67)) 3]
def c4_18 : RC := .reg [] o4_18
def c4_19 : RC := .cond (tp 65) c4_18 .skip
def c4_20 : RC := .seq c4_17 c4_19
def c4_21 : RC := .seq c4_16 c4_20
def c4_22 : RC := .block 3 c4_21
def o4_23 : List ROp := [
  rq 68 (.binOp .add 3 (tp 59) (ki 1) 3) 3,
  rq 59 (.move (tp 68)) 3]
def c4_23 : RC := .reg [] o4_23
def c4_24 : RC := .seq c4_22 c4_23
def c4_25 : RC := .seq c4_15 c4_24
def c4_26 : RC := .seq c4_14 c4_25
def c4_27 : RC := .loop c4_26
def c4_28 : RC := .block 2 c4_27
def c4_29 : RC := .seq c4_13 c4_28
def o4_30 : List ROp := [
  rq 69 (.move (tp 7)) 3,
  rq 70 (.move (tp 8)) 3,
  rq 71 (.binOp .neq 3 (tp 69) (tp 70) 3) 4]
def c4_30 : RC := .reg [] o4_30
def o4_31 : List ROp := [
  rq 2 (.assign (kb false)) 4]
def c4_31 : RC := .reg [] o4_31
def c4_32 : RC := .seq c4_31 .ret
def c4_33 : RC := .cond (tp 71) c4_32 .skip
def c4_34 : RC := .seq c4_30 c4_33
def c4_35 : RC := .seq c4_29 c4_34
def c4_36 : RC := .seq c4_12 c4_35
def c4_37 : RC := .seq c4_11 c4_36
def c4_38 : RC := .block 1 c4_37
def o4_39 : List ROp := [
  rq 72 (.binOp .add 3 (tp 52) (ki 1) 3) 3,
  rq 52 (.move (tp 72)) 3]
def c4_39 : RC := .reg [] o4_39
def c4_40 : RC := .seq c4_38 c4_39
def c4_41 : RC := .seq c4_10 c4_40
def c4_42 : RC := .seq c4_9 c4_41
def c4_43 : RC := .loop c4_42
def c4_44 : RC := .block 0 c4_43
def c4_45 : RC := .seq c4_8 c4_44
def o4_46 : List ROp := [
  rq 74 (.move (tp 4)) 22,
  rq 75 (cf 11 #[(tp 74)] #[22]) 26,
  rq 73 (.move (tp 75)) 26,
  rq 76 (.extract (tp 73) 0) 22,
  rq 77 (.extract (tp 73) 1) 25,
  rq 11 (.assign (tp 76)) 22,
  rq 12 (.assign (tp 77)) 25]
def c4_46 : RC := .reg [] o4_46
def o4_47 : List ROp := [
  rq 78 (.move (tp 12)) 25,
  rq 79 (.binOp .eql 25 (tp 78) (ki 0) 25) 4,
  rq 80 (.move (tp 79)) 4,
  rg 81 (.move (tp 11)) 22 80 true,
  rg 82 (.move (tp 3)) 22 80 true,
  rg 83 (cf 13 #[(tp 81), (tp 82)] #[22, 22]) 4 80 true,
  rq 84 (.pick (tp 80) (tp 83) (kb false)) 4,
  rq 85 (.move (tp 84)) 4,
  rg 86 (cf 6 #[] #[]) 4 85 true,
  rq 87 (.pick (tp 85) (tp 86) (kb false)) 4,
  rq 2 (.assign (tp 87)) 4]
def c4_47 : RC := .reg [] o4_47
def c4_48 : RC := .seq c4_47 .ret
def c4_49 : RC := .seq c4_46 c4_48
def c4_50 : RC := .seq c4_45 c4_49
def c4_51 : RC := .seq c4_7 c4_50
def c4_52 : RC := .seq c4_2 c4_51
def c4_53 : RC := .seq c4_1 c4_52
def c4_54 : RC := .seq c4_0 c4_53
def o11_0 : List ROp := [
  rq 2 (.assign (.const (.slice none 0 0))) 22,
  rq 3 (.assign (ki 0)) 25]
def c11_0 : RC := .reg [] o11_0
def o11_1 : List ROp := [
  rq 9 (.move (tp 0)) 22,
  rq 10 (cf 14 #[(tp 9)] #[22]) 25,
  rq 4 (.assign (tp 10)) 25]
def c11_1 : RC := .reg [] o11_1
def o11_2 : List ROp := [
  rq 11 (.move (tp 4)) 25,
  rq 12 (.binOp .neq 25 (tp 11) (ki 0) 25) 4]
def c11_2 : RC := .reg [] o11_2
def o11_3 : List ROp := [
  rq 13 (.move (tp 4)) 25,
  rq 2 (.assign (.const (.slice none 0 0))) 22,
  rq 3 (.assign (tp 13)) 25]
def c11_3 : RC := .reg [] o11_3
def c11_4 : RC := .seq c11_3 .ret
def c11_5 : RC := .cond (tp 12) c11_4 .skip
def c11_6 : RC := .seq c11_2 c11_5
def c11_7 : RC := .seq c11_1 c11_6
def o11_8 : List ROp := [
  rq 14 (.move (tp 0)) 22,
  rq 15 (.indexAddr 22 (tp 14) (ki 0)) 0,
  rq 16 (.load 3 (tp 15)) 3,
  rq 17 (.makeSlice 22 (tp 16) (tp 16)) 22,
  rq 5 (.assign (tp 17)) 22]
def c11_8 : RC := .reg [] o11_8
def o11_9 : List ROp := [
  rq 18 (.move (tp 0)) 22,
  rq 19 (cb .len #[(tp 18)] #[22]) 3,
  rq 20 (.move (ki 0)) 3]
def c11_9 : RC := .reg [] o11_9
def o11_10 : List ROp := [
  rq 21 (.binOp .lss 3 (tp 20) (tp 19) 3) 0]
def c11_10 : RC := .reg [] o11_10
def c11_11 : RC := .cond (tp 21) .skip (.exit 0)
def o11_12 : List ROp := [
  rq 22 (.indexAddr 22 (tp 18) (tp 20)) 0,
  rq 23 (.load 3 (tp 22)) 3,
  rq 7 (.assign (tp 23)) 3]
def c11_12 : RC := .reg [] o11_12
def o11_13 : List ROp := [
  rq 24 (.move (tp 7)) 3,
  rq 25 (.move (ki 0)) 3]
def c11_13 : RC := .reg [] o11_13
def o11_14 : List ROp := [
  rq 26 (.binOp .lss 3 (tp 25) (tp 24) 3) 4]
def c11_14 : RC := .reg [] o11_14
def c11_15 : RC := .cond (tp 26) .skip (.exit 2)
def o11_16 : List ROp := [
  rq 27 (.move (tp 25)) 3,
  rq 8 (.assign (tp 27)) 3]
def c11_16 : RC := .reg [] o11_16
def o11_17 : List ROp := [
  rq 28 (.move (tp 5)) 22,
  rq 29 (.move (tp 8)) 3,
  rq 30 (.indexAddr 22 (tp 28) (tp 29)) 0,
  rq 31 (.load 3 (tp 30)) 3,
  rq 32 (.binOp .add 3 (tp 31) (ki 1) 3) 3,
  rq 33 (.indexAddr 22 (tp 28) (tp 29)) 0,
  rn (.store 3 (tp 33) (tp 32)) 0]
def c11_17 : RC := .reg [] o11_17
def c11_18 : RC := .seq c11_16 c11_17
def c11_19 : RC := .block 3 c11_18
def o11_20 : List ROp := [
  rq 34 (.binOp .add 3 (tp 25) (ki 1) 3) 3,
  rq 25 (.move (tp 34)) 3]
def c11_20 : RC := .reg [] o11_20
def c11_21 : RC := .seq c11_19 c11_20
def c11_22 : RC := .seq c11_15 c11_21
def c11_23 : RC := .seq c11_14 c11_22
def c11_24 : RC := .loop c11_23
def c11_25 : RC := .block 2 c11_24
def c11_26 : RC := .seq c11_13 c11_25
def c11_27 : RC := .seq c11_12 c11_26
def c11_28 : RC := .block 1 c11_27
def o11_29 : List ROp := [
  rq 35 (.binOp .add 3 (tp 20) (ki 1) 3) 3,
  rq 20 (.move (tp 35)) 3]
def c11_29 : RC := .reg [] o11_29
def c11_30 : RC := .seq c11_28 c11_29
def c11_31 : RC := .seq c11_11 c11_30
def c11_32 : RC := .seq c11_10 c11_31
def c11_33 : RC := .loop c11_32
def c11_34 : RC := .block 0 c11_33
def c11_35 : RC := .seq c11_9 c11_34
def o11_36 : List ROp := [
  rq 36 (.move (tp 5)) 22,
  rq 2 (.assign (tp 36)) 22,
  rq 3 (.assign (ki 0)) 25]
def c11_36 : RC := .reg [] o11_36
def c11_37 : RC := .seq c11_36 .ret
def c11_38 : RC := .seq c11_35 c11_37
def c11_39 : RC := .seq c11_8 c11_38
def c11_40 : RC := .seq c11_7 c11_39
def c11_41 : RC := .seq c11_0 c11_40
def o13_0 : List ROp := [
  rq 4 (.assign (kb false)) 4]
def c13_0 : RC := .reg [] o13_0
def o13_1 : List ROp := [
  rq 6 (.move (tp 0)) 22,
  rq 7 (cb .len #[(tp 6)] #[22]) 3,
  rq 8 (.move (tp 1)) 22,
  rq 9 (cb .len #[(tp 8)] #[22]) 3,
  rq 10 (.binOp .neq 3 (tp 7) (tp 9) 3) 4]
def c13_1 : RC := .reg [] o13_1
def o13_2 : List ROp := [
  rq 4 (.assign (kb false)) 4]
def c13_2 : RC := .reg [] o13_2
def c13_3 : RC := .seq c13_2 .ret
def c13_4 : RC := .cond (tp 10) c13_3 .skip
def c13_5 : RC := .seq c13_1 c13_4
def o13_6 : List ROp := [
  rq 5 (.assign (ki 0)) 3]
def c13_6 : RC := .reg [] o13_6
def o13_7 : List ROp := [
  rq 11 (.move (tp 5)) 3,
  rq 12 (.move (tp 0)) 22,
  rq 13 (cb .len #[(tp 12)] #[22]) 3,
  rq 14 (.binOp .lss 3 (tp 11) (tp 13) 3) 4]
def c13_7 : RC := .reg [] o13_7
def c13_8 : RC := .cond (tp 14) .skip (.exit 0)
def c13_9 : RC := .seq c13_7 c13_8
def o13_10 : List ROp := [
  rq 17 (.move (tp 0)) 22,
  rq 18 (.move (tp 5)) 3,
  rq 19 (.indexAddr 22 (tp 17) (tp 18)) 0,
  rq 20 (.load 3 (tp 19)) 3,
  rq 21 (.move (tp 1)) 22,
  rq 22 (.move (tp 5)) 3,
  rq 23 (.indexAddr 22 (tp 21) (tp 22)) 0,
  rq 24 (.load 3 (tp 23)) 3,
  rq 25 (.binOp .neq 3 (tp 20) (tp 24) 3) 4]
def c13_10 : RC := .reg [0, 1, 2, 3, 4, 5, 6, 7, 8] o13_10
def o13_11 : List ROp := [
  rq 4 (.assign (kb false)) 4]
def c13_11 : RC := .reg [] o13_11
def c13_12 : RC := .seq c13_11 .ret
def c13_13 : RC := .cond (tp 25) c13_12 .skip
def c13_14 : RC := .seq c13_10 c13_13
def c13_15 : RC := .block 1 c13_14
def o13_16 : List ROp := [
  rq 15 (.move (tp 5)) 3,
  rq 16 (.binOp .add 3 (tp 15) (ki 1) 3) 3,
  rq 5 (.assign (tp 16)) 3]
def c13_16 : RC := .reg [] o13_16
def c13_17 : RC := .seq c13_15 c13_16
def c13_18 : RC := .seq c13_9 c13_17
def c13_19 : RC := .loop c13_18
def c13_20 : RC := .block 0 c13_19
def c13_21 : RC := .seq c13_6 c13_20
def o13_22 : List ROp := [
  rq 4 (.assign (kb true)) 4]
def c13_22 : RC := .reg [] o13_22
def c13_23 : RC := .seq c13_22 .ret
def c13_24 : RC := .seq c13_21 c13_23
def c13_25 : RC := .seq c13_5 c13_24
def c13_26 : RC := .seq c13_0 c13_25
def o14_0 : List ROp := [
  rq 2 (.assign (ki 0)) 25]
def c14_0 : RC := .reg [] o14_0
def o14_1 : List ROp := [
  rq 7 (.move (tp 0)) 22,
  rq 8 (cb .len #[(tp 7)] #[22]) 3,
  rq 9 (.binOp .eql 3 (tp 8) (ki 0) 3) 4]
def c14_1 : RC := .reg [] o14_1
def o14_2 : List ROp := [
  rq 2 (.assign (ki 4)) 25]
def c14_2 : RC := .reg [] o14_2
def c14_3 : RC := .seq c14_2 .ret
def c14_4 : RC := .cond (tp 9) c14_3 .skip
def c14_5 : RC := .seq c14_1 c14_4
def o14_6 : List ROp := [
  rq 3 (.assign (ki 0)) 3,
  rq 4 (.assign (ki 21)) 3]
def c14_6 : RC := .reg [] o14_6
def o14_7 : List ROp := [
  rq 10 (.move (tp 0)) 22,
  rq 11 (cb .len #[(tp 10)] #[22]) 3,
  rq 12 (.move (ki 0)) 3]
def c14_7 : RC := .reg [] o14_7
def o14_8 : List ROp := [
  rq 13 (.binOp .lss 3 (tp 12) (tp 11) 3) 0]
def c14_8 : RC := .reg [] o14_8
def c14_9 : RC := .cond (tp 13) .skip (.exit 0)
def o14_10 : List ROp := [
  rq 14 (.indexAddr 22 (tp 10) (tp 12)) 0,
  rq 15 (.load 3 (tp 14)) 3,
  rq 6 (.assign (tp 15)) 3]
def c14_10 : RC := .reg [] o14_10
def o14_11 : List ROp := [
  rq 17 (.move (tp 6)) 3,
  rq 18 (cf 33 #[(ki 1), (tp 17), (ki 21)] #[3, 3, 3]) 4,
  rq 19 (.unOp .not 4 (tp 18)) 4,
  rq 16 (.assign (tp 19)) 4]
def c14_11 : RC := .reg [] o14_11
def o14_12 : List ROp := [
  rq 2 (.assign (ki 1)) 25]
def c14_12 : RC := .reg [] o14_12
def c14_13 : RC := .seq c14_12 .ret
def o14_14 : List ROp := [
  rq 21 (.move (tp 6)) 3,
  rq 22 (.move (tp 4)) 3,
  rq 23 (.binOp .gtr 3 (tp 21) (tp 22) 3) 4,
  rq 20 (.assign (tp 23)) 4]
def c14_14 : RC := .reg [] o14_14
def o14_15 : List ROp := [
  rq 2 (.assign (ki 7)) 25]
def c14_15 : RC := .reg [] o14_15
def c14_16 : RC := .seq c14_15 .ret
def c14_17 : RC := .cond (tp 20) c14_16 .skip
def c14_18 : RC := .seq c14_14 c14_17
def c14_19 : RC := .cond (tp 16) c14_13 c14_18
def c14_20 : RC := .seq c14_11 c14_19
def c14_21 : RC := .block 2 c14_20
def o14_22 : List ROp := [
  rq 24 (.move (tp 6)) 3,
  rq 4 (.assign (tp 24)) 3]
def c14_22 : RC := .reg [] o14_22
def o14_23 : List ROp := [
  rq 25 (.move (tp 3)) 3,
  rq 26 (.move (tp 6)) 3,
  rq 27 (.binOp .add 3 (tp 25) (tp 26) 3) 3,
  rq 28 (cb .min #[(tp 27), (ki 22)] #[3, 3]) 3,
  rq 3 (.assign (tp 28)) 3]
def c14_23 : RC := .reg [] o14_23
def c14_24 : RC := .seq c14_22 c14_23
def c14_25 : RC := .seq c14_21 c14_24
def c14_26 : RC := .seq c14_10 c14_25
def c14_27 : RC := .block 1 c14_26
def o14_28 : List ROp := [
  rq 29 (.binOp .add 3 (tp 12) (ki 1) 3) 3,
  rq 12 (.move (tp 29)) 3]
def c14_28 : RC := .reg [] o14_28
def c14_29 : RC := .seq c14_27 c14_28
def c14_30 : RC := .seq c14_9 c14_29
def c14_31 : RC := .seq c14_8 c14_30
def c14_32 : RC := .loop c14_31
def c14_33 : RC := .block 0 c14_32
def c14_34 : RC := .seq c14_7 c14_33
def o14_35 : List ROp := [
  rq 30 (.move (tp 3)) 3,
  rq 31 (.binOp .gtr 3 (tp 30) (ki 21) 3) 4]
def c14_35 : RC := .reg [] o14_35
def o14_36 : List ROp := [
  rq 2 (.assign (ki 3)) 25]
def c14_36 : RC := .reg [] o14_36
def c14_37 : RC := .seq c14_36 .ret
def c14_38 : RC := .cond (tp 31) c14_37 .skip
def c14_39 : RC := .seq c14_35 c14_38
def o14_40 : List ROp := [
  rq 2 (.assign (ki 0)) 25]
def c14_40 : RC := .reg [] o14_40
def c14_41 : RC := .seq c14_40 .ret
def c14_42 : RC := .seq c14_39 c14_41
def c14_43 : RC := .seq c14_34 c14_42
def c14_44 : RC := .seq c14_6 c14_43
def c14_45 : RC := .seq c14_5 c14_44
def c14_46 : RC := .seq c14_0 c14_45
def o16_0 : List ROp := [
  rq 4 (.assign (.const (.slice none 0 0))) 22]
def c16_0 : RC := .reg [] o16_0
def o16_1 : List ROp := [
  rq 5 (.assign (.const (.slice none 0 0))) 22]
def c16_1 : RC := .reg [] o16_1
def o16_2 : List ROp := [
  rq 10 (.move (tp 1)) 3,
  rq 6 (.assign (tp 10)) 3]
def c16_2 : RC := .reg [] o16_2
def o16_3 : List ROp := [
  rq 11 (.move (tp 0)) 32,
  rq 12 (cb .len #[(tp 11)] #[32]) 3,
  rq 13 (.move (ki 0)) 3]
def c16_3 : RC := .reg [] o16_3
def o16_4 : List ROp := [
  rq 14 (.binOp .lss 3 (tp 13) (tp 12) 3) 0]
def c16_4 : RC := .reg [] o16_4
def c16_5 : RC := .cond (tp 14) .skip (.exit 0)
def o16_6 : List ROp := [
  rq 15 (.indexAddr 32 (tp 11) (tp 13)) 0,
  rq 16 (.load 5 (tp 15)) 5,
  rq 8 (.assign (tp 16)) 5]
def c16_6 : RC := .reg [] o16_6
def o16_7 : List ROp := [
  rq 17 (.move (tp 6)) 3,
  rq 18 (.binOp .eql 3 (tp 17) (ki 0) 3) 4]
def c16_7 : RC := .reg [] o16_7
def c16_8 : RC := .cond (tp 18) (.exit 0) .skip
def c16_9 : RC := .seq c16_7 c16_8
def o16_10 : List ROp := [
  rq 19 (.move (tp 8)) 5,
  rq 20 (.convert 5 3 (tp 19)) 3,
  rq 21 (.move (tp 6)) 3,
  rq 22 (.binOp .rem 3 (tp 20) (tp 21) 3) 3,
  rq 23 (.binOp .add 3 (ki 1) (tp 22) 3) 3,
  rq 9 (.assign (tp 23)) 3]
def c16_10 : RC := .reg [] o16_10
def o16_11 : List ROp := [
  rq 24 (.move (tp 5)) 22,
  rq 25 (.move (tp 9)) 3,
  rq 26 (.buildSlice 22 1 #[(0, (tp 25))]) 22,
  rq 27 (cb .append #[(tp 24), (tp 26)] #[22, 22]) 22,
  rq 5 (.assign (tp 27)) 22]
def c16_11 : RC := .reg [] o16_11
def o16_12 : List ROp := [
  rq 28 (.move (tp 6)) 3,
  rq 29 (.move (tp 9)) 3,
  rq 30 (.binOp .sub 3 (tp 28) (tp 29) 3) 3,
  rq 6 (.assign (tp 30)) 3]
def c16_12 : RC := .reg [] o16_12
def c16_13 : RC := .seq c16_11 c16_12
def c16_14 : RC := .seq c16_10 c16_13
def c16_15 : RC := .seq c16_9 c16_14
def c16_16 : RC := .seq c16_6 c16_15
def c16_17 : RC := .block 1 c16_16
def o16_18 : List ROp := [
  rq 31 (.binOp .add 3 (tp 13) (ki 1) 3) 3,
  rq 13 (.move (tp 31)) 3]
def c16_18 : RC := .reg [] o16_18
def c16_19 : RC := .seq c16_17 c16_18
def c16_20 : RC := .seq c16_5 c16_19
def c16_21 : RC := .seq c16_4 c16_20
def c16_22 : RC := .loop c16_21
def c16_23 : RC := .block 0 c16_22
def c16_24 : RC := .seq c16_3 c16_23
def o16_25 : List ROp := [
  rq 32 (.move (tp 5)) 22,
  rq 33 (cb .len #[(tp 32)] #[22]) 3,
  rq 34 (.binOp .eql 3 (tp 33) (ki 0) 3) 4]
def c16_25 : RC := .reg [] o16_25
def o16_26 : List ROp := [
  rq 35 (.buildSlice 22 1 #[(0, (ki 1))]) 22,
  rq 36 (cf 18 #[(tp 35)] #[22]) 22,
  rq 5 (.assign (tp 36)) 22]
def c16_26 : RC := .reg [] o16_26
def c16_27 : RC := .cond (tp 34) c16_26 .skip
def c16_28 : RC := .seq c16_25 c16_27
def o16_29 : List ROp := [
  rq 37 (.move (tp 5)) 22,
  rq 38 (cf 40 #[(tp 37)] #[22]) 0]
def c16_29 : RC := .reg [] o16_29
def o16_30 : List ROp := [
  rq 39 (.move (tp 5)) 22,
  rq 40 (cf 41 #[(tp 39)] #[22]) 0]
def c16_30 : RC := .reg [] o16_30
def o16_31 : List ROp := [
  rq 41 (.move (tp 5)) 22,
  rq 4 (.assign (tp 41)) 22]
def c16_31 : RC := .reg [] o16_31
def c16_32 : RC := .seq c16_31 .ret
def c16_33 : RC := .seq c16_30 c16_32
def c16_34 : RC := .seq c16_29 c16_33
def c16_35 : RC := .seq c16_28 c16_34
def c16_36 : RC := .seq c16_24 c16_35
def c16_37 : RC := .seq c16_2 c16_36
def c16_38 : RC := .seq c16_1 c16_37
def c16_39 : RC := .seq c16_0 c16_38
def o17_0 : List ROp := [
  rq 2 (.assign (ki 0)) 3]
def c17_0 : RC := .reg [] o17_0
def o17_1 : List ROp := [
  rq 3 (.assign (ki 0)) 3]
def c17_1 : RC := .reg [] o17_1
def o17_2 : List ROp := [
  rq 6 (.move (tp 0)) 22,
  rq 7 (cb .len #[(tp 6)] #[22]) 3,
  rq 8 (.move (ki 0)) 3]
def c17_2 : RC := .reg [] o17_2
def o17_3 : List ROp := [
  rq 9 (.binOp .lss 3 (tp 8) (tp 7) 3) 0]
def c17_3 : RC := .reg [] o17_3
def c17_4 : RC := .cond (tp 9) .skip (.exit 0)
def o17_5 : List ROp := [
  rq 10 (.indexAddr 22 (tp 6) (tp 8)) 0,
  rq 11 (.load 3 (tp 10)) 3,
  rq 5 (.assign (tp 11)) 3]
def c17_5 : RC := .reg [] o17_5
def o17_6 : List ROp := [
  rq 12 (.move (tp 3)) 3,
  rq 13 (.move (tp 5)) 3,
  rq 14 (.binOp .add 3 (tp 12) (tp 13) 3) 3,
  rq 3 (.assign (tp 14)) 3]
def c17_6 : RC := .reg [] o17_6
def c17_7 : RC := .seq c17_5 c17_6
def c17_8 : RC := .block 1 c17_7
def o17_9 : List ROp := [
  rq 15 (.binOp .add 3 (tp 8) (ki 1) 3) 3,
  rq 8 (.move (tp 15)) 3]
def c17_9 : RC := .reg [] o17_9
def c17_10 : RC := .seq c17_8 c17_9
def c17_11 : RC := .seq c17_4 c17_10
def c17_12 : RC := .seq c17_3 c17_11
def c17_13 : RC := .loop c17_12
def c17_14 : RC := .block 0 c17_13
def c17_15 : RC := .seq c17_2 c17_14
def o17_16 : List ROp := [
  rq 16 (.move (tp 3)) 3,
  rq 2 (.assign (tp 16)) 3]
def c17_16 : RC := .reg [] o17_16
def c17_17 : RC := .seq c17_16 .ret
def c17_18 : RC := .seq c17_15 c17_17
def c17_19 : RC := .seq c17_1 c17_18
def c17_20 : RC := .seq c17_0 c17_19
def o33_0 : List ROp := [
  rq 6 (.assign (kb false)) 4]
def c33_0 : RC := .reg [] o33_0
def o33_1 : List ROp := [
  rq 7 (.move (tp 0)) 3,
  rq 8 (.move (tp 1)) 3,
  rq 9 (.binOp .leq 3 (tp 7) (tp 8) 3) 4,
  rq 10 (.move (tp 9)) 4,
  rg 11 (.move (tp 1)) 3 10 true,
  rg 12 (.move (tp 2)) 3 10 true,
  rg 13 (.binOp .leq 3 (tp 11) (tp 12) 3) 4 10 true,
  rq 14 (.pick (tp 10) (tp 13) (kb false)) 4,
  rq 6 (.assign (tp 14)) 4]
def c33_1 : RC := .reg [] o33_1
def c33_2 : RC := .seq c33_1 .ret
def c33_3 : RC := .seq c33_0 c33_2
def o29_0 : List ROp := [
  rq 2 (.alloc 53) 0]
def c29_0 : RC := .reg [] o29_0
def o29_1 : List ROp := [
  rq 3 (.alloc 53) 0]
def c29_1 : RC := .reg [] o29_1
def o29_2 : List ROp := [
  rq 6 (.move (tp 0)) 22,
  rq 7 (cb .len #[(tp 6)] #[22]) 3,
  rq 8 (.move (ki 0)) 3]
def c29_2 : RC := .reg [] o29_2
def o29_3 : List ROp := [
  rq 9 (.binOp .lss 3 (tp 8) (tp 7) 3) 0]
def c29_3 : RC := .reg [] o29_3
def c29_4 : RC := .cond (tp 9) .skip (.exit 0)
def o29_5 : List ROp := [
  rq 10 (.indexAddr 22 (tp 6) (tp 8)) 0,
  rq 11 (.load 3 (tp 10)) 3,
  rq 5 (.assign (tp 11)) 3]
def c29_5 : RC := .reg [] o29_5
def o29_6 : List ROp := [
  rq 12 (.move (tp 5)) 3,
  rq 13 (.indexAddr 53 (tp 3) (tp 12)) 0,
  rq 14 (.load 3 (tp 13)) 3,
  rq 15 (.binOp .add 3 (tp 14) (ki 1) 3) 3,
  rq 16 (.indexAddr 53 (tp 3) (tp 12)) 0,
  rn (.store 3 (tp 16) (tp 15)) 0]
def c29_6 : RC := .reg [] o29_6
def c29_7 : RC := .seq c29_5 c29_6
def c29_8 : RC := .block 1 c29_7
def o29_9 : List ROp := [
  rq 17 (.binOp .add 3 (tp 8) (ki 1) 3) 3,
  rq 8 (.move (tp 17)) 3]
def c29_9 : RC := .reg [] o29_9
def c29_10 : RC := .seq c29_8 c29_9
def c29_11 : RC := .seq c29_4 c29_10
def c29_12 : RC := .seq c29_3 c29_11
def c29_13 : RC := .loop c29_12
def c29_14 : RC := .block 0 c29_13
def c29_15 : RC := .seq c29_2 c29_14
def o29_16 : List ROp := [
  rq 18 (.load 53 (tp 3)) 53,
  rn (.store 53 (tp 2) (tp 18)) 0]
def c29_16 : RC := .reg [] o29_16
def c29_17 : RC := .seq c29_16 .ret
def c29_18 : RC := .seq c29_15 c29_17
def c29_19 : RC := .seq c29_1 c29_18
def c29_20 : RC := .seq c29_0 c29_19
def o30_0 : List ROp := [
  rq 1 (.box 53 (tp 0)) 0,
  rq 2 (.alloc 53) 0]
def c30_0 : RC := .reg [] o30_0
def o30_1 : List ROp := [
  rq 3 (.alloc 53) 0]
def c30_1 : RC := .reg [] o30_1
def o30_2 : List ROp := [
  rq 4 (.slice 53 (tp 3) none none none) 22,
  rq 5 (.slice 53 (tp 1) (some (ki 1)) none none) 22,
  rq 6 (cb .copy #[(tp 4), (tp 5)] #[22, 22]) 3]
def c30_2 : RC := .reg [0, 1, 2] o30_2
def o30_3 : List ROp := [
  rq 7 (.indexAddr 53 (tp 3) (ki 0)) 0,
  rn (.store 3 (tp 7) (ki 0)) 0]
def c30_3 : RC := .reg [] o30_3
def o30_4 : List ROp := [
  rq 8 (.load 53 (tp 1)) 53,
  rq 9 (cf 57 #[(tp 8)] #[53]) 3,
  rq 10 (.indexAddr 53 (tp 3) (tp 9)) 0,
  rq 11 (.load 3 (tp 10)) 3,
  rq 12 (.binOp .add 3 (tp 11) (ki 1) 3) 3,
  rq 13 (.indexAddr 53 (tp 3) (tp 9)) 0,
  rn (.store 3 (tp 13) (tp 12)) 0]
def c30_4 : RC := .reg [] o30_4
def o30_5 : List ROp := [
  rq 14 (.load 53 (tp 3)) 53,
  rn (.store 53 (tp 2) (tp 14)) 0]
def c30_5 : RC := .reg [] o30_5
def c30_6 : RC := .seq c30_5 .ret
def c30_7 : RC := .seq c30_4 c30_6
def c30_8 : RC := .seq c30_3 c30_7
def c30_9 : RC := .seq c30_2 c30_8
def c30_10 : RC := .seq c30_1 c30_9
def c30_11 : RC := .seq c30_0 c30_10
def o31_0 : List ROp := [
  rq 1 (.box 53 (tp 0)) 0,
  rq 2 (.assign (.const (.slice none 0 0))) 22]
def c31_0 : RC := .reg [] o31_0
def o31_1 : List ROp := [
  rq 3 (.assign (.const (.slice none 0 0))) 22]
def c31_1 : RC := .reg [] o31_1
def o31_2 : List ROp := [
  rq 4 (.assign (ki 21)) 3]
def c31_2 : RC := .reg [] o31_2
def o31_3 : List ROp := [
  rq 5 (.move (tp 4)) 3,
  rq 6 (.binOp .gtr 3 (tp 5) (ki 0) 3) 4]
def c31_3 : RC := .reg [] o31_3
def c31_4 : RC := .cond (tp 6) .skip (.exit 0)
def c31_5 : RC := .seq c31_3 c31_4
def o31_6 : List ROp := [
  rq 9 (.move (tp 3)) 22,
  rq 10 (.move (tp 4)) 3,
  rq 11 (.buildSlice 22 1 #[(0, (tp 10))]) 22,
  rq 12 (.move (tp 4)) 3,
  rq 13 (.indexAddr 53 (tp 1) (tp 12)) 0,
  rq 14 (.load 3 (tp 13)) 3,
  rq 15 (cf 58 #[(tp 11), (tp 14)] #[22, 3]) 22,
  rq 16 (cb .append #[(tp 9), (tp 15)] #[22, 22]) 22,
  rq 3 (.assign (tp 16)) 22]
def c31_6 : RC := .reg [] o31_6
def c31_7 : RC := .block 1 c31_6
def o31_8 : List ROp := [
  rq 7 (.move (tp 4)) 3,
  rq 8 (.binOp .sub 3 (tp 7) (ki 1) 3) 3,
  rq 4 (.assign (tp 8)) 3]
def c31_8 : RC := .reg [] o31_8
def c31_9 : RC := .seq c31_7 c31_8
def c31_10 : RC := .seq c31_5 c31_9
def c31_11 : RC := .loop c31_10
def c31_12 : RC := .block 0 c31_11
def c31_13 : RC := .seq c31_2 c31_12
def o31_14 : List ROp := [
  rq 17 (.move (tp 3)) 22,
  rq 2 (.assign (tp 17)) 22]
def c31_14 : RC := .reg [] o31_14
def c31_15 : RC := .seq c31_14 .ret
def c31_16 : RC := .seq c31_13 c31_15
def c31_17 : RC := .seq c31_1 c31_16
def c31_18 : RC := .seq c31_0 c31_17
def o34_0 : List ROp := [
  rq 1 (.box 53 (tp 0)) 0,
  rq 2 (.assign (kb false)) 4]
def c34_0 : RC := .reg [] o34_0
def o34_1 : List ROp := [
  rq 8 (.load 53 (tp 1)) 53,
  rq 9 (cf 31 #[(tp 8)] #[53]) 22,
  rq 3 (.assign (tp 9)) 22]
def c34_1 : RC := .reg [] o34_1
def o34_2 : List ROp := [
  rq 11 (.load 53 (tp 1)) 53,
  rq 12 (cf 36 #[(tp 11)] #[53]) 3,
  rq 13 (cf 35 #[(tp 12)] #[3]) 59,
  rq 10 (.move (tp 13)) 59,
  rq 14 (.extract (tp 10) 0) 3,
  rq 15 (.extract (tp 10) 1) 3,
  rq 4 (.assign (tp 14)) 3,
  rq 5 (.assign (tp 15)) 3]
def c34_2 : RC := .reg [] o34_2
def o34_3 : List ROp := [
  rq 16 (.move (tp 3)) 22,
  rq 17 (cb .len #[(tp 16)] #[22]) 3,
  rq 18 (.move (tp 4)) 3,
  rq 19 (.binOp .add 3 (tp 18) (ki 1) 3) 3,
  rq 20 (.binOp .gtr 3 (tp 17) (tp 19) 3) 4]
def c34_3 : RC := .reg [] o34_3
def o34_4 : List ROp := [
  rq 2 (.assign (kb false)) 4]
def c34_4 : RC := .reg [] o34_4
def c34_5 : RC := .seq c34_4 .ret
def c34_6 : RC := .cond (tp 20) c34_5 .skip
def c34_7 : RC := .seq c34_3 c34_6
def o34_8 : List ROp := [
  rq 21 (.move (tp 3)) 22,
  rq 22 (.move (tp 4)) 3,
  rq 23 (.binOp .add 3 (tp 22) (ki 1) 3) 3,
  rq 24 (.move (tp 3)) 22,
  rq 25 (cb .len #[(tp 24)] #[22]) 3,
  rq 26 (.binOp .sub 3 (tp 23) (tp 25) 3) 3,
  rq 27 (cb .append #[(tp 21), (tp 26)] #[22, 3]) 22,
  rq 28 (cb .len #[(tp 27)] #[22]) 3,
  rq 29 (.move (ki 0)) 3]
def c34_8 : RC := .reg [] o34_8
def o34_9 : List ROp := [
  rq 30 (.binOp .lss 3 (tp 29) (tp 28) 3) 0]
def c34_9 : RC := .reg [] o34_9
def c34_10 : RC := .cond (tp 30) .skip (.exit 0)
def o34_11 : List ROp := [
  rq 31 (.move (tp 29)) 3,
  rq 32 (.indexAddr 22 (tp 27) (tp 29)) 0,
  rq 33 (.load 3 (tp 32)) 3,
  rq 6 (.assign (tp 31)) 3,
  rq 7 (.assign (tp 33)) 3]
def c34_11 : RC := .reg [] o34_11
def o34_12 : List ROp := [
  rq 34 (.move (tp 4)) 3,
  rq 35 (.move (tp 6)) 3,
  rq 36 (.binOp .sub 3 (tp 34) (tp 35) 3) 3,
  rq 37 (.move (tp 7)) 3,
  rq 38 (.move (tp 4)) 3,
  rq 39 (.binOp .add 3 (tp 38) (ki 1) 3) 3,
  rq 40 (.move (tp 6)) 3,
  rq 41 (.binOp .sub 3 (tp 39) (tp 40) 3) 3,
  rq 42 (cf 33 #[(tp 36), (tp 37), (tp 41)] #[3, 3, 3]) 4,
  rq 43 (.unOp .not 4 (tp 42)) 4]
def c34_12 : RC := .reg [] o34_12
def o34_13 : List ROp := [
  rq 2 (.assign (kb false)) 4]
def c34_13 : RC := .reg [] o34_13
def c34_14 : RC := .seq c34_13 .ret
def c34_15 : RC := .cond (tp 43) c34_14 .skip
def c34_16 : RC := .seq c34_12 c34_15
def c34_17 : RC := .seq c34_11 c34_16
def c34_18 : RC := .block 1 c34_17
def o34_19 : List ROp := [
  rq 44 (.binOp .add 3 (tp 29) (ki 1) 3) 3,
  rq 29 (.move (tp 44)) 3]
def c34_19 : RC := .reg [] o34_19
def c34_20 : RC := .seq c34_18 c34_19
def c34_21 : RC := .seq c34_10 c34_20
def c34_22 : RC := .seq c34_9 c34_21
def c34_23 : RC := .loop c34_22
def c34_24 : RC := .block 0 c34_23
def c34_25 : RC := .seq c34_8 c34_24
def o34_26 : List ROp := [
  rq 2 (.assign (kb true)) 4]
def c34_26 : RC := .reg [] o34_26
def c34_27 : RC := .seq c34_26 .ret
def c34_28 : RC := .seq c34_25 c34_27
def c34_29 : RC := .seq c34_7 c34_28
def c34_30 : RC := .seq c34_2 c34_29
def c34_31 : RC := .seq c34_1 c34_30
def c34_32 : RC := .seq c34_0 c34_31
def o35_0 : List ROp := [
  rq 2 (.assign (ki 0)) 3,
  rq 3 (.assign (ki 0)) 3]
def c35_0 : RC := .reg [] o35_0
def o35_1 : List ROp := [
  rq 4 (.move (tp 0)) 3,
  rq 3 (.assign (tp 4)) 3]
def c35_1 : RC := .reg [] o35_1
def o35_2 : List ROp := [
  rq 5 (.move (tp 3)) 3,
  rq 6 (.move (tp 2)) 3,
  rq 7 (.binOp .gtr 3 (tp 5) (tp 6) 3) 4]
def c35_2 : RC := .reg [] o35_2
def c35_3 : RC := .cond (tp 7) .skip (.exit 0)
def c35_4 : RC := .seq c35_2 c35_3
def o35_5 : List ROp := [
  rq 8 (.move (tp 2)) 3,
  rq 9 (.binOp .add 3 (tp 8) (ki 1) 3) 3,
  rq 2 (.assign (tp 9)) 3]
def c35_5 : RC := .reg [] o35_5
def o35_6 : List ROp := [
  rq 10 (.move (tp 3)) 3,
  rq 11 (.move (tp 2)) 3,
  rq 12 (.binOp .sub 3 (tp 10) (tp 11) 3) 3,
  rq 3 (.assign (tp 12)) 3]
def c35_6 : RC := .reg [] o35_6
def c35_7 : RC := .seq c35_5 c35_6
def c35_8 : RC := .block 1 c35_7
def c35_9 : RC := .seq c35_4 c35_8
def c35_10 : RC := .loop c35_9
def c35_11 : RC := .block 0 c35_10
def c35_12 : RC := .seq c35_1 c35_11
def o35_13 : List ROp := [
  rq 13 (.move (tp 2)) 3,
  rq 14 (.move (tp 3)) 3,
  rq 2 (.assign (tp 13)) 3,
  rq 3 (.assign (tp 14)) 3]
def c35_13 : RC := .reg [] o35_13
def c35_14 : RC := .seq c35_13 .ret
def c35_15 : RC := .seq c35_12 c35_14
def c35_16 : RC := .seq c35_0 c35_15
def o36_0 : List ROp := [
  rq 1 (.box 53 (tp 0)) 0,
  rq 2 (.assign (ki 0)) 3]
def c36_0 : RC := .reg [] o36_0
def o36_1 : List ROp := [
  rq 3 (.assign (ki 0)) 3]
def c36_1 : RC := .reg [] o36_1
def o36_2 : List ROp := [
  rq 6 (.load 53 (tp 1)) 53,
  rq 7 (.move (ki 0)) 3]
def c36_2 : RC := .reg [] o36_2
def o36_3 : List ROp := [
  rq 8 (.binOp .lss 3 (tp 7) (ki 22) 3) 0]
def c36_3 : RC := .reg [] o36_3
def c36_4 : RC := .cond (tp 8) .skip (.exit 0)
def o36_5 : List ROp := [
  rq 9 (.move (tp 7)) 3,
  rq 10 (.index 53 (tp 6) (tp 7)) 3,
  rq 4 (.assign (tp 9)) 3,
  rq 5 (.assign (tp 10)) 3]
def c36_5 : RC := .reg [] o36_5
def o36_6 : List ROp := [
  rq 11 (.move (tp 3)) 3,
  rq 12 (.move (tp 4)) 3,
  rq 13 (.move (tp 5)) 3,
  rq 14 (.binOp .mul 3 (tp 12) (tp 13) 3) 3,
  rq 15 (.binOp .add 3 (tp 11) (tp 14) 3) 3,
  rq 3 (.assign (tp 15)) 3]
def c36_6 : RC := .reg [] o36_6
def c36_7 : RC := .seq c36_5 c36_6
def c36_8 : RC := .block 1 c36_7
def o36_9 : List ROp := [
  rq 16 (.binOp .add 3 (tp 7) (ki 1) 3) 3,
  rq 7 (.move (tp 16)) 3]
def c36_9 : RC := .reg [] o36_9
def c36_10 : RC := .seq c36_8 c36_9
def c36_11 : RC := .seq c36_4 c36_10
def c36_12 : RC := .seq c36_3 c36_11
def c36_13 : RC := .loop c36_12
def c36_14 : RC := .block 0 c36_13
def c36_15 : RC := .seq c36_2 c36_14
def o36_16 : List ROp := [
  rq 17 (.move (tp 3)) 3,
  rq 2 (.assign (tp 17)) 3]
def c36_16 : RC := .reg [] o36_16
def c36_17 : RC := .seq c36_16 .ret
def c36_18 : RC := .seq c36_15 c36_17
def c36_19 : RC := .seq c36_1 c36_18
def c36_20 : RC := .seq c36_0 c36_19
def o43_0 : List ROp := [
  rq 1 (.box 53 (tp 0)) 0,
  rq 2 (.assign (ki 0)) 3,
  rq 3 (.alloc 53) 0]
def c43_0 : RC := .reg [] o43_0
def o43_1 : List ROp := [
  rq 4 (.assign (ki 0)) 3]
def c43_1 : RC := .reg [] o43_1
def o43_2 : List ROp := [
  rq 5 (.load 53 (tp 1)) 53,
  rq 6 (cf 34 #[(tp 5)] #[53]) 4,
  rq 7 (.unOp .not 4 (tp 6)) 4]
def c43_2 : RC := .reg [] o43_2
def o43_3 : List ROp := [
  rq 8 (.load 53 (tp 1)) 53,
  rq 9 (cf 30 #[(tp 8)] #[53]) 53,
  rn (.store 53 (tp 1) (tp 9)) 0]
def c43_3 : RC := .reg [] o43_3
def o43_4 : List ROp := [
  rq 10 (.move (tp 4)) 3,
  rq 11 (.binOp .add 3 (tp 10) (ki 1) 3) 3,
  rq 4 (.assign (tp 11)) 3]
def c43_4 : RC := .reg [] o43_4
def c43_5 : RC := .seq c43_4 (.goto 0)
def c43_6 : RC := .seq c43_3 c43_5
def c43_7 : RC := .cond (tp 7) c43_6 .skip
def c43_8 : RC := .seq c43_2 c43_7
def o43_9 : List ROp := [
  rq 12 (.move (tp 4)) 3,
  rq 13 (.load 53 (tp 1)) 53,
  rq 2 (.assign (tp 12)) 3,
  rn (.store 53 (tp 3) (tp 13)) 0]
def c43_9 : RC := .reg [0, 1, 2, 3] o43_9
def c43_10 : RC := .seq c43_9 .ret
def c43_11 : RC := .seq c43_8 c43_10
def c43_12 : RC := .seq (.label 0) c43_11
def c43_13 : RC := .seq c43_1 c43_12
def o43_14 : List ROp := [
  rq 5 (.load 53 (tp 1)) 53,
  rq 6 (cf 34 #[(tp 5)] #[53]) 4,
  rq 7 (.unOp .not 4 (tp 6)) 4]
def c43_14 : RC := .reg [] o43_14
def o43_15 : List ROp := [
  rq 8 (.load 53 (tp 1)) 53,
  rq 9 (cf 30 #[(tp 8)] #[53]) 53,
  rn (.store 53 (tp 1) (tp 9)) 0]
def c43_15 : RC := .reg [] o43_15
def o43_16 : List ROp := [
  rq 10 (.move (tp 4)) 3,
  rq 11 (.binOp .add 3 (tp 10) (ki 1) 3) 3,
  rq 4 (.assign (tp 11)) 3]
def c43_16 : RC := .reg [] o43_16
def c43_17 : RC := .seq c43_16 (.goto 0)
def c43_18 : RC := .seq c43_15 c43_17
def c43_19 : RC := .cond (tp 7) c43_18 .skip
def c43_20 : RC := .seq c43_14 c43_19
def o43_21 : List ROp := [
  rq 12 (.move (tp 4)) 3,
  rq 13 (.load 53 (tp 1)) 53,
  rq 2 (.assign (tp 12)) 3,
  rn (.store 53 (tp 3) (tp 13)) 0]
def c43_21 : RC := .reg [0, 1, 2, 3] o43_21
def c43_22 : RC := .seq c43_21 .ret
def c43_23 : RC := .seq c43_20 c43_22
def c43_24 : RC := .seq .skip c43_23
def c43_25 : RC := .scope c43_13 0 c43_24
def c43_26 : RC := .seq c43_0 c43_25
def o57_0 : List ROp := [
  rq 1 (.box 53 (tp 0)) 0,
  rq 2 (.assign (ki 0)) 3]
def c57_0 : RC := .reg [] o57_0
def o57_1 : List ROp := [
  rq 3 (.assign (ki 0)) 3]
def c57_1 : RC := .reg [] o57_1
def o57_2 : List ROp := [
  rq 6 (.slice 53 (tp 1) (some (ki 1)) none none) 22,
  rq 7 (cb .len #[(tp 6)] #[22]) 3,
  rq 8 (.move (ki 0)) 3]
def c57_2 : RC := .reg [] o57_2
def o57_3 : List ROp := [
  rq 9 (.binOp .lss 3 (tp 8) (tp 7) 3) 0]
def c57_3 : RC := .reg [] o57_3
def c57_4 : RC := .cond (tp 9) .skip (.exit 0)
def o57_5 : List ROp := [
  rq 10 (.indexAddr 22 (tp 6) (tp 8)) 0,
  rq 11 (.load 3 (tp 10)) 3,
  rq 5 (.assign (tp 11)) 3]
def c57_5 : RC := .reg [] o57_5
def o57_6 : List ROp := [
  rq 12 (.move (tp 3)) 3,
  rq 13 (.move (tp 5)) 3,
  rq 14 (.binOp .add 3 (tp 12) (tp 13) 3) 3,
  rq 3 (.assign (tp 14)) 3]
def c57_6 : RC := .reg [] o57_6
def c57_7 : RC := .seq c57_5 c57_6
def c57_8 : RC := .block 1 c57_7
def o57_9 : List ROp := [
  rq 15 (.binOp .add 3 (tp 8) (ki 1) 3) 3,
  rq 8 (.move (tp 15)) 3]
def c57_9 : RC := .reg [] o57_9
def c57_10 : RC := .seq c57_8 c57_9
def c57_11 : RC := .seq c57_4 c57_10
def c57_12 : RC := .seq c57_3 c57_11
def c57_13 : RC := .loop c57_12
def c57_14 : RC := .block 0 c57_13
def c57_15 : RC := .seq c57_2 c57_14
def o57_16 : List ROp := [
  rq 16 (.move (tp 3)) 3,
  rq 2 (.assign (tp 16)) 3]
def c57_16 : RC := .reg [] o57_16
def c57_17 : RC := .seq c57_16 .ret
def c57_18 : RC := .seq c57_15 c57_17
def c57_19 : RC := .seq c57_1 c57_18
def c57_20 : RC := .seq c57_0 c57_19
def o41_0 : List ROp := [
  rq 4 (.move (tp 0)) 22,
  rq 5 (cb .len #[(tp 4)] #[22]) 3,
  rq 6 (.binOp .sub 3 (tp 5) (ki 1) 3) 3,
  rq 2 (.assign (ki 0)) 3,
  rq 3 (.assign (tp 6)) 3]
def c41_0 : RC := .reg [] o41_0
def o41_1 : List ROp := [
  rq 7 (.move (tp 2)) 3,
  rq 8 (.move (tp 3)) 3,
  rq 9 (.binOp .lss 3 (tp 7) (tp 8) 3) 4]
def c41_1 : RC := .reg [] o41_1
def c41_2 : RC := .cond (tp 9) .skip (.exit 0)
def c41_3 : RC := .seq c41_1 c41_2
def o41_4 : List ROp := [
  rq 14 (.move (tp 0)) 22,
  rq 15 (.move (tp 2)) 3,
  rq 16 (.move (tp 0)) 22,
  rq 17 (.move (tp 3)) 3,
  rq 18 (.move (tp 0)) 22,
  rq 19 (.move (tp 3)) 3,
  rq 20 (.indexAddr 22 (tp 18) (tp 19)) 0,
  rq 21 (.load 3 (tp 20)) 3,
  rq 22 (.move (tp 0)) 22,
  rq 23 (.move (tp 2)) 3,
  rq 24 (.indexAddr 22 (tp 22) (tp 23)) 0,
  rq 25 (.load 3 (tp 24)) 3,
  rq 26 (.indexAddr 22 (tp 14) (tp 15)) 0,
  rn (.store 3 (tp 26) (tp 21)) 0,
  rq 27 (.indexAddr 22 (tp 16) (tp 17)) 0,
  rn (.store 3 (tp 27) (tp 25)) 0]
def c41_4 : RC := .reg [0, 1, 2, 3, 4, 5, 6, 7, 8, 9, 10, 11, 12, 13, 14, 15] o41_4
def c41_5 : RC := .block 1 c41_4
def o41_6 : List ROp := [
  rq 10 (.move (tp 2)) 3,
  rq 11 (.binOp .add 3 (tp 10) (ki 1) 3) 3,
  rq 12 (.move (tp 3)) 3,
  rq 13 (.binOp .sub 3 (tp 12) (ki 1) 3) 3,
  rq 2 (.assign (tp 11)) 3,
  rq 3 (.assign (tp 13)) 3]
def c41_6 : RC := .reg [] o41_6
def c41_7 : RC := .seq c41_5 c41_6
def c41_8 : RC := .seq c41_3 c41_7
def c41_9 : RC := .loop c41_8
def c41_10 : RC := .block 0 c41_9
def c41_11 : RC := .seq c41_0 c41_10
end Go.HpT
