/- Slim code of the functions that have a model, piece by piece: MADE BY PROGRAM (wip/tools/dec.py). -/
import Derived.Test.YtgddliaacoofiaaSpFramex

set_option maxRecDepth 100000
namespace Go.HpL
open Go.Sp
def o19_0 : List ROp := [
  rq 2 (.assign (ki 0)) 25]
def c19_0 : RC := .reg [] o19_0
def o19_1 : List ROp := [
  rq 7 (.move (tp 0)) 22,
  rq 8 (cb .len #[(tp 7)] #[22]) 3,
  rq 9 (.binOp .eql 3 (tp 8) (ki 0) 3) 4]
def c19_1 : RC := .reg [] o19_1
def o19_2 : List ROp := [
  rq 2 (.assign (ki 4)) 25]
def c19_2 : RC := .reg [] o19_2
def c19_3 : RC := .seq c19_2 .ret
def c19_4 : RC := .cond (tp 9) c19_3 .skip
def c19_5 : RC := .seq c19_1 c19_4
def o19_6 : List ROp := [
  rq 3 (.assign (ki 0)) 3,
  rq 4 (.assign (ki 21)) 3]
def c19_6 : RC := .reg [] o19_6
def o19_7 : List ROp := [
  rq 10 (.move (tp 0)) 22,
  rq 11 (cb .len #[(tp 10)] #[22]) 3,
  rq 12 (.move (ki 0)) 3]
def c19_7 : RC := .reg [] o19_7
def o19_8 : List ROp := [
  rq 13 (.binOp .lss 3 (tp 12) (tp 11) 3) 0]
def c19_8 : RC := .reg [] o19_8
def c19_9 : RC := .cond (tp 13) .skip (.exit 0)
def o19_10 : List ROp := [
  rq 14 (.indexAddr 22 (tp 10) (tp 12)) 0,
  rq 15 (.load 3 (tp 14)) 3,
  rq 6 (.assign (tp 15)) 3]
def c19_10 : RC := .reg [] o19_10
def o19_11 : List ROp := [
  rq 17 (.move (tp 6)) 3,
  rq 18 (cf 46 #[(ki 1), (tp 17), (ki 21)] #[3, 3, 3]) 4,
  rq 19 (.unOp .not 4 (tp 18)) 4,
  rq 16 (.assign (tp 19)) 4]
def c19_11 : RC := .reg [] o19_11
def o19_12 : List ROp := [
  rq 2 (.assign (ki 1)) 25]
def c19_12 : RC := .reg [] o19_12
def c19_13 : RC := .seq c19_12 .ret
def o19_14 : List ROp := [
  rq 21 (.move (tp 6)) 3,
  rq 22 (.move (tp 4)) 3,
  rq 23 (.binOp .gtr 3 (tp 21) (tp 22) 3) 4,
  rq 20 (.assign (tp 23)) 4]
def c19_14 : RC := .reg [] o19_14
def o19_15 : List ROp := [
  rq 2 (.assign (ki 7)) 25]
def c19_15 : RC := .reg [] o19_15
def c19_16 : RC := .seq c19_15 .ret
def c19_17 : RC := .cond (tp 20) c19_16 .skip
def c19_18 : RC := .seq c19_14 c19_17
def c19_19 : RC := .cond (tp 16) c19_13 c19_18
def c19_20 : RC := .seq c19_11 c19_19
def c19_21 : RC := .block 2 c19_20
def o19_22 : List ROp := [
  rq 24 (.move (tp 6)) 3,
  rq 4 (.assign (tp 24)) 3]
def c19_22 : RC := .reg [] o19_22
def o19_23 : List ROp := [
  rq 25 (.move (tp 3)) 3,
  rq 26 (.move (tp 6)) 3,
  rq 27 (.binOp .add 3 (tp 25) (tp 26) 3) 3,
  rq 28 (cb .min #[(tp 27), (ki 22)] #[3, 3]) 3,
  rq 3 (.assign (tp 28)) 3]
def c19_23 : RC := .reg [] o19_23
def c19_24 : RC := .seq c19_22 c19_23
def c19_25 : RC := .seq c19_21 c19_24
def c19_26 : RC := .seq c19_10 c19_25
def c19_27 : RC := .block 1 c19_26
def o19_28 : List ROp := [
  rq 29 (.binOp .add 3 (tp 12) (ki 1) 3) 3,
  rq 12 (.move (tp 29)) 3]
def c19_28 : RC := .reg [] o19_28
def c19_29 : RC := .seq c19_27 c19_28
def c19_30 : RC := .seq c19_9 c19_29
def c19_31 : RC := .seq c19_8 c19_30
def c19_32 : RC := .loop c19_31
def c19_33 : RC := .block 0 c19_32
def c19_34 : RC := .seq c19_7 c19_33
def o19_35 : List ROp := [
  rq 30 (.move (tp 3)) 3,
  rq 31 (.binOp .gtr 3 (tp 30) (ki 21) 3) 4]
def c19_35 : RC := .reg [] o19_35
def o19_36 : List ROp := [
  rq 2 (.assign (ki 3)) 25]
def c19_36 : RC := .reg [] o19_36
def c19_37 : RC := .seq c19_36 .ret
def c19_38 : RC := .cond (tp 31) c19_37 .skip
def c19_39 : RC := .seq c19_35 c19_38
def o19_40 : List ROp := [
  rq 2 (.assign (ki 0)) 25]
def c19_40 : RC := .reg [] o19_40
def c19_41 : RC := .seq c19_40 .ret
def c19_42 : RC := .seq c19_39 c19_41
def c19_43 : RC := .seq c19_34 c19_42
def c19_44 : RC := .seq c19_6 c19_43
def c19_45 : RC := .seq c19_5 c19_44
def c19_46 : RC := .seq c19_0 c19_45
def o42_0 : List ROp := [
  rq 2 (.alloc 54) 0]
def c42_0 : RC := .reg [] o42_0
def o42_1 : List ROp := [
  rq 3 (.alloc 54) 0]
def c42_1 : RC := .reg [] o42_1
def o42_2 : List ROp := [
  rq 6 (.move (tp 0)) 22,
  rq 7 (cb .len #[(tp 6)] #[22]) 3,
  rq 8 (.move (ki 0)) 3]
def c42_2 : RC := .reg [] o42_2
def o42_3 : List ROp := [
  rq 9 (.binOp .lss 3 (tp 8) (tp 7) 3) 0]
def c42_3 : RC := .reg [] o42_3
def c42_4 : RC := .cond (tp 9) .skip (.exit 0)
def o42_5 : List ROp := [
  rq 10 (.indexAddr 22 (tp 6) (tp 8)) 0,
  rq 11 (.load 3 (tp 10)) 3,
  rq 5 (.assign (tp 11)) 3]
def c42_5 : RC := .reg [] o42_5
def o42_6 : List ROp := [
  rq 12 (.move (tp 5)) 3,
  rq 13 (.indexAddr 54 (tp 3) (tp 12)) 0,
  rq 14 (.load 3 (tp 13)) 3,
  rq 15 (.binOp .add 3 (tp 14) (ki 1) 3) 3,
  rq 16 (.indexAddr 54 (tp 3) (tp 12)) 0,
  rn (.store 3 (tp 16) (tp 15)) 0]
def c42_6 : RC := .reg [] o42_6
def c42_7 : RC := .seq c42_5 c42_6
def c42_8 : RC := .block 1 c42_7
def o42_9 : List ROp := [
  rq 17 (.binOp .add 3 (tp 8) (ki 1) 3) 3,
  rq 8 (.move (tp 17)) 3]
def c42_9 : RC := .reg [] o42_9
def c42_10 : RC := .seq c42_8 c42_9
def c42_11 : RC := .seq c42_4 c42_10
def c42_12 : RC := .seq c42_3 c42_11
def c42_13 : RC := .loop c42_12
def c42_14 : RC := .block 0 c42_13
def c42_15 : RC := .seq c42_2 c42_14
def o42_16 : List ROp := [
  rq 18 (.load 54 (tp 3)) 54,
  rn (.store 54 (tp 2) (tp 18)) 0]
def c42_16 : RC := .reg [] o42_16
def c42_17 : RC := .seq c42_16 .ret
def c42_18 : RC := .seq c42_15 c42_17
def c42_19 : RC := .seq c42_1 c42_18
def c42_20 : RC := .seq c42_0 c42_19
def o43_0 : List ROp := [
  rq 1 (.box 54 (tp 0)) 0,
  rq 2 (.alloc 54) 0]
def c43_0 : RC := .reg [] o43_0
def o43_1 : List ROp := [
  rq 3 (.alloc 54) 0]
def c43_1 : RC := .reg [] o43_1
def o43_2 : List ROp := [
  rq 4 (.slice 54 (tp 3) none none none) 22,
  rq 5 (.slice 54 (tp 1) (some (ki 1)) none none) 22,
  rq 6 (cb .copy #[(tp 4), (tp 5)] #[22, 22]) 3]
def c43_2 : RC := .reg [0, 1, 2] o43_2
def o43_3 : List ROp := [
  rq 7 (.indexAddr 54 (tp 3) (ki 0)) 0,
  rn (.store 3 (tp 7) (ki 0)) 0]
def c43_3 : RC := .reg [] o43_3
def o43_4 : List ROp := [
  rq 8 (.load 54 (tp 1)) 54,
  rq 9 (cf 74 #[(tp 8)] #[54]) 3,
  rq 10 (.indexAddr 54 (tp 3) (tp 9)) 0,
  rq 11 (.load 3 (tp 10)) 3,
  rq 12 (.binOp .add 3 (tp 11) (ki 1) 3) 3,
  rq 13 (.indexAddr 54 (tp 3) (tp 9)) 0,
  rn (.store 3 (tp 13) (tp 12)) 0]
def c43_4 : RC := .reg [] o43_4
def o43_5 : List ROp := [
  rq 14 (.load 54 (tp 3)) 54,
  rn (.store 54 (tp 2) (tp 14)) 0]
def c43_5 : RC := .reg [] o43_5
def c43_6 : RC := .seq c43_5 .ret
def c43_7 : RC := .seq c43_4 c43_6
def c43_8 : RC := .seq c43_3 c43_7
def c43_9 : RC := .seq c43_2 c43_8
def c43_10 : RC := .seq c43_1 c43_9
def c43_11 : RC := .seq c43_0 c43_10
def o44_0 : List ROp := [
  rq 1 (.box 54 (tp 0)) 0,
  rq 2 (.assign (.const (.slice none 0 0))) 22]
def c44_0 : RC := .reg [] o44_0
def o44_1 : List ROp := [
  rq 3 (.assign (.const (.slice none 0 0))) 22]
def c44_1 : RC := .reg [] o44_1
def o44_2 : List ROp := [
  rq 4 (.assign (ki 21)) 3]
def c44_2 : RC := .reg [] o44_2
def o44_3 : List ROp := [
  rq 5 (.move (tp 4)) 3,
  rq 6 (.binOp .gtr 3 (tp 5) (ki 0) 3) 4]
def c44_3 : RC := .reg [] o44_3
def c44_4 : RC := .cond (tp 6) .skip (.exit 0)
def c44_5 : RC := .seq c44_3 c44_4
def o44_6 : List ROp := [
  rq 9 (.move (tp 3)) 22,
  rq 10 (.move (tp 4)) 3,
  rq 11 (.buildSlice 22 1 #[(0, (tp 10))]) 22,
  rq 12 (.move (tp 4)) 3,
  rq 13 (.indexAddr 54 (tp 1) (tp 12)) 0,
  rq 14 (.load 3 (tp 13)) 3,
  rq 15 (cf 75 #[(tp 11), (tp 14)] #[22, 3]) 22,
  rq 16 (cb .append #[(tp 9), (tp 15)] #[22, 22]) 22,
  rq 3 (.assign (tp 16)) 22]
def c44_6 : RC := .reg [] o44_6
def c44_7 : RC := .block 1 c44_6
def o44_8 : List ROp := [
  rq 7 (.move (tp 4)) 3,
  rq 8 (.binOp .sub 3 (tp 7) (ki 1) 3) 3,
  rq 4 (.assign (tp 8)) 3]
def c44_8 : RC := .reg [] o44_8
def c44_9 : RC := .seq c44_7 c44_8
def c44_10 : RC := .seq c44_5 c44_9
def c44_11 : RC := .loop c44_10
def c44_12 : RC := .block 0 c44_11
def c44_13 : RC := .seq c44_2 c44_12
def o44_14 : List ROp := [
  rq 17 (.move (tp 3)) 22,
  rq 2 (.assign (tp 17)) 22]
def c44_14 : RC := .reg [] o44_14
def c44_15 : RC := .seq c44_14 .ret
def c44_16 : RC := .seq c44_13 c44_15
def c44_17 : RC := .seq c44_1 c44_16
def c44_18 : RC := .seq c44_0 c44_17
def o46_0 : List ROp := [
  rq 6 (.assign (kb false)) 4]
def c46_0 : RC := .reg [] o46_0
def o46_1 : List ROp := [
  rq 7 (.move (tp 0)) 3,
  rq 8 (.move (tp 1)) 3,
  rq 9 (.binOp .leq 3 (tp 7) (tp 8) 3) 4,
  rq 10 (.move (tp 9)) 4,
  rg 11 (.move (tp 1)) 3 10 true,
  rg 12 (.move (tp 2)) 3 10 true,
  rg 13 (.binOp .leq 3 (tp 11) (tp 12) 3) 4 10 true,
  rq 14 (.pick (tp 10) (tp 13) (kb false)) 4,
  rq 6 (.assign (tp 14)) 4]
def c46_1 : RC := .reg [] o46_1
def c46_2 : RC := .seq c46_1 .ret
def c46_3 : RC := .seq c46_0 c46_2
def o47_0 : List ROp := [
  rq 1 (.box 54 (tp 0)) 0,
  rq 2 (.assign (kb false)) 4]
def c47_0 : RC := .reg [] o47_0
def o47_1 : List ROp := [
  rq 8 (.load 54 (tp 1)) 54,
  rq 9 (cf 44 #[(tp 8)] #[54]) 22,
  rq 3 (.assign (tp 9)) 22]
def c47_1 : RC := .reg [] o47_1
def o47_2 : List ROp := [
  rq 11 (.load 54 (tp 1)) 54,
  rq 12 (cf 49 #[(tp 11)] #[54]) 3,
  rq 13 (cf 48 #[(tp 12)] #[3]) 60,
  rq 10 (.move (tp 13)) 60,
  rq 14 (.extract (tp 10) 0) 3,
  rq 15 (.extract (tp 10) 1) 3,
  rq 4 (.assign (tp 14)) 3,
  rq 5 (.assign (tp 15)) 3]
def c47_2 : RC := .reg [] o47_2
def o47_3 : List ROp := [
  rq 16 (.move (tp 3)) 22,
  rq 17 (cb .len #[(tp 16)] #[22]) 3,
  rq 18 (.move (tp 4)) 3,
  rq 19 (.binOp .add 3 (tp 18) (ki 1) 3) 3,
  rq 20 (.binOp .gtr 3 (tp 17) (tp 19) 3) 4]
def c47_3 : RC := .reg [] o47_3
def o47_4 : List ROp := [
  rq 2 (.assign (kb false)) 4]
def c47_4 : RC := .reg [] o47_4
def c47_5 : RC := .seq c47_4 .ret
def c47_6 : RC := .cond (tp 20) c47_5 .skip
def c47_7 : RC := .seq c47_3 c47_6
def o47_8 : List ROp := [
  rq 21 (.move (tp 3)) 22,
  rq 22 (.move (tp 4)) 3,
  rq 23 (.binOp .add 3 (tp 22) (ki 1) 3) 3,
  rq 24 (.move (tp 3)) 22,
  rq 25 (cb .len #[(tp 24)] #[22]) 3,
  rq 26 (.binOp .sub 3 (tp 23) (tp 25) 3) 3,
  rq 27 (cb .append #[(tp 21), (tp 26)] #[22, 3]) 22,
  rq 28 (cb .len #[(tp 27)] #[22]) 3,
  rq 29 (.move (ki 0)) 3]
def c47_8 : RC := .reg [] o47_8
def o47_9 : List ROp := [
  rq 30 (.binOp .lss 3 (tp 29) (tp 28) 3) 0]
def c47_9 : RC := .reg [] o47_9
def c47_10 : RC := .cond (tp 30) .skip (.exit 0)
def o47_11 : List ROp := [
  rq 31 (.move (tp 29)) 3,
  rq 32 (.indexAddr 22 (tp 27) (tp 29)) 0,
  rq 33 (.load 3 (tp 32)) 3,
  rq 6 (.assign (tp 31)) 3,
  rq 7 (.assign (tp 33)) 3]
def c47_11 : RC := .reg [] o47_11
def o47_12 : List ROp := [
  rq 34 (.move (tp 4)) 3,
  rq 35 (.move (tp 6)) 3,
  rq 36 (.binOp .sub 3 (tp 34) (tp 35) 3) 3,
  rq 37 (.move (tp 7)) 3,
  rq 38 (.move (tp 4)) 3,
  rq 39 (.binOp .add 3 (tp 38) (ki 1) 3) 3,
  rq 40 (.move (tp 6)) 3,
  rq 41 (.binOp .sub 3 (tp 39) (tp 40) 3) 3,
  rq 42 (cf 46 #[(tp 36), (tp 37), (tp 41)] #[3, 3, 3]) 4,
  rq 43 (.unOp .not 4 (tp 42)) 4]
def c47_12 : RC := .reg [] o47_12
def o47_13 : List ROp := [
  rq 2 (.assign (kb false)) 4]
def c47_13 : RC := .reg [] o47_13
def c47_14 : RC := .seq c47_13 .ret
def c47_15 : RC := .cond (tp 43) c47_14 .skip
def c47_16 : RC := .seq c47_12 c47_15
def c47_17 : RC := .seq c47_11 c47_16
def c47_18 : RC := .block 1 c47_17
def o47_19 : List ROp := [
  rq 44 (.binOp .add 3 (tp 29) (ki 1) 3) 3,
  rq 29 (.move (tp 44)) 3]
def c47_19 : RC := .reg [] o47_19
def c47_20 : RC := .seq c47_18 c47_19
def c47_21 : RC := .seq c47_10 c47_20
def c47_22 : RC := .seq c47_9 c47_21
def c47_23 : RC := .loop c47_22
def c47_24 : RC := .block 0 c47_23
def c47_25 : RC := .seq c47_8 c47_24
def o47_26 : List ROp := [
  rq 2 (.assign (kb true)) 4]
def c47_26 : RC := .reg [] o47_26
def c47_27 : RC := .seq c47_26 .ret
def c47_28 : RC := .seq c47_25 c47_27
def c47_29 : RC := .seq c47_7 c47_28
def c47_30 : RC := .seq c47_2 c47_29
def c47_31 : RC := .seq c47_1 c47_30
def c47_32 : RC := .seq c47_0 c47_31
def o48_0 : List ROp := [
  rq 2 (.assign (ki 0)) 3,
  rq 3 (.assign (ki 0)) 3]
def c48_0 : RC := .reg [] o48_0
def o48_1 : List ROp := [
  rq 4 (.move (tp 0)) 3,
  rq 3 (.assign (tp 4)) 3]
def c48_1 : RC := .reg [] o48_1
def o48_2 : List ROp := [
  rq 5 (.move (tp 3)) 3,
  rq 6 (.move (tp 2)) 3,
  rq 7 (.binOp .gtr 3 (tp 5) (tp 6) 3) 4]
def c48_2 : RC := .reg [] o48_2
def c48_3 : RC := .cond (tp 7) .skip (.exit 0)
def c48_4 : RC := .seq c48_2 c48_3
def o48_5 : List ROp := [
  rq 8 (.move (tp 2)) 3,
  rq 9 (.binOp .add 3 (tp 8) (ki 1) 3) 3,
  rq 2 (.assign (tp 9)) 3]
def c48_5 : RC := .reg [] o48_5
def o48_6 : List ROp := [
  rq 10 (.move (tp 3)) 3,
  rq 11 (.move (tp 2)) 3,
  rq 12 (.binOp .sub 3 (tp 10) (tp 11) 3) 3,
  rq 3 (.assign (tp 12)) 3]
def c48_6 : RC := .reg [] o48_6
def c48_7 : RC := .seq c48_5 c48_6
def c48_8 : RC := .block 1 c48_7
def c48_9 : RC := .seq c48_4 c48_8
def c48_10 : RC := .loop c48_9
def c48_11 : RC := .block 0 c48_10
def c48_12 : RC := .seq c48_1 c48_11
def o48_13 : List ROp := [
  rq 13 (.move (tp 2)) 3,
  rq 14 (.move (tp 3)) 3,
  rq 2 (.assign (tp 13)) 3,
  rq 3 (.assign (tp 14)) 3]
def c48_13 : RC := .reg [] o48_13
def c48_14 : RC := .seq c48_13 .ret
def c48_15 : RC := .seq c48_12 c48_14
def c48_16 : RC := .seq c48_0 c48_15
def o49_0 : List ROp := [
  rq 1 (.box 54 (tp 0)) 0,
  rq 2 (.assign (ki 0)) 3]
def c49_0 : RC := .reg [] o49_0
def o49_1 : List ROp := [
  rq 3 (.assign (ki 0)) 3]
def c49_1 : RC := .reg [] o49_1
def o49_2 : List ROp := [
  rq 6 (.load 54 (tp 1)) 54,
  rq 7 (.move (ki 0)) 3]
def c49_2 : RC := .reg [] o49_2
def o49_3 : List ROp := [
  rq 8 (.binOp .lss 3 (tp 7) (ki 22) 3) 0]
def c49_3 : RC := .reg [] o49_3
def c49_4 : RC := .cond (tp 8) .skip (.exit 0)
def o49_5 : List ROp := [
  rq 9 (.move (tp 7)) 3,
  rq 10 (.index 54 (tp 6) (tp 7)) 3,
  rq 4 (.assign (tp 9)) 3,
  rq 5 (.assign (tp 10)) 3]
def c49_5 : RC := .reg [] o49_5
def o49_6 : List ROp := [
  rq 11 (.move (tp 3)) 3,
  rq 12 (.move (tp 4)) 3,
  rq 13 (.move (tp 5)) 3,
  rq 14 (.binOp .mul 3 (tp 12) (tp 13) 3) 3,
  rq 15 (.binOp .add 3 (tp 11) (tp 14) 3) 3,
  rq 3 (.assign (tp 15)) 3]
def c49_6 : RC := .reg [] o49_6
def c49_7 : RC := .seq c49_5 c49_6
def c49_8 : RC := .block 1 c49_7
def o49_9 : List ROp := [
  rq 16 (.binOp .add 3 (tp 7) (ki 1) 3) 3,
  rq 7 (.move (tp 16)) 3]
def c49_9 : RC := .reg [] o49_9
def c49_10 : RC := .seq c49_8 c49_9
def c49_11 : RC := .seq c49_4 c49_10
def c49_12 : RC := .seq c49_3 c49_11
def c49_13 : RC := .loop c49_12
def c49_14 : RC := .block 0 c49_13
def c49_15 : RC := .seq c49_2 c49_14
def o49_16 : List ROp := [
  rq 17 (.move (tp 3)) 3,
  rq 2 (.assign (tp 17)) 3]
def c49_16 : RC := .reg [] o49_16
def c49_17 : RC := .seq c49_16 .ret
def c49_18 : RC := .seq c49_15 c49_17
def c49_19 : RC := .seq c49_1 c49_18
def c49_20 : RC := .seq c49_0 c49_19
def o57_0 : List ROp := [
  rq 1 (.box 54 (tp 0)) 0,
  rq 2 (.assign (ki 0)) 3,
  rq 3 (.alloc 54) 0]
def c57_0 : RC := .reg [] o57_0
def o57_1 : List ROp := [
  rq 4 (.assign (ki 0)) 3]
def c57_1 : RC := .reg [] o57_1
def o57_2 : List ROp := [
  rq 5 (.load 54 (tp 1)) 54,
  rq 6 (cf 47 #[(tp 5)] #[54]) 4,
  rq 7 (.unOp .not 4 (tp 6)) 4]
def c57_2 : RC := .reg [] o57_2
def o57_3 : List ROp := [
  rq 8 (.load 54 (tp 1)) 54,
  rq 9 (cf 43 #[(tp 8)] #[54]) 54,
  rn (.store 54 (tp 1) (tp 9)) 0]
def c57_3 : RC := .reg [] o57_3
def o57_4 : List ROp := [
  rq 10 (.move (tp 4)) 3,
  rq 11 (.binOp .add 3 (tp 10) (ki 1) 3) 3,
  rq 4 (.assign (tp 11)) 3]
def c57_4 : RC := .reg [] o57_4
def c57_5 : RC := .seq c57_4 (.goto 0)
def c57_6 : RC := .seq c57_3 c57_5
def c57_7 : RC := .cond (tp 7) c57_6 .skip
def c57_8 : RC := .seq c57_2 c57_7
def o57_9 : List ROp := [
  rq 12 (.move (tp 4)) 3,
  rq 13 (.load 54 (tp 1)) 54,
  rq 2 (.assign (tp 12)) 3,
  rn (.store 54 (tp 3) (tp 13)) 0]
def c57_9 : RC := .reg [0, 1, 2, 3] o57_9
def c57_10 : RC := .seq c57_9 .ret
def c57_11 : RC := .seq c57_8 c57_10
def c57_12 : RC := .seq (.label 0) c57_11
def c57_13 : RC := .seq c57_1 c57_12
def o57_14 : List ROp := [
  rq 5 (.load 54 (tp 1)) 54,
  rq 6 (cf 47 #[(tp 5)] #[54]) 4,
  rq 7 (.unOp .not 4 (tp 6)) 4]
def c57_14 : RC := .reg [] o57_14
def o57_15 : List ROp := [
  rq 8 (.load 54 (tp 1)) 54,
  rq 9 (cf 43 #[(tp 8)] #[54]) 54,
  rn (.store 54 (tp 1) (tp 9)) 0]
def c57_15 : RC := .reg [] o57_15
def o57_16 : List ROp := [
  rq 10 (.move (tp 4)) 3,
  rq 11 (.binOp .add 3 (tp 10) (ki 1) 3) 3,
  rq 4 (.assign (tp 11)) 3]
def c57_16 : RC := .reg [] o57_16
def c57_17 : RC := .seq c57_16 (.goto 0)
def c57_18 : RC := .seq c57_15 c57_17
def c57_19 : RC := .cond (tp 7) c57_18 .skip
def c57_20 : RC := .seq c57_14 c57_19
def o57_21 : List ROp := [
  rq 12 (.move (tp 4)) 3,
  rq 13 (.load 54 (tp 1)) 54,
  rq 2 (.assign (tp 12)) 3,
  rn (.store 54 (tp 3) (tp 13)) 0]
def c57_21 : RC := .reg [0, 1, 2, 3] o57_21
def c57_22 : RC := .seq c57_21 .ret
def c57_23 : RC := .seq c57_20 c57_22
def c57_24 : RC := .seq .skip c57_23
def c57_25 : RC := .scope c57_13 0 c57_24
def c57_26 : RC := .seq c57_0 c57_25
def o74_0 : List ROp := [
  rq 1 (.box 54 (tp 0)) 0,
  rq 2 (.assign (ki 0)) 3]
def c74_0 : RC := .reg [] o74_0
def o74_1 : List ROp := [
  rq 3 (.assign (ki 0)) 3]
def c74_1 : RC := .reg [] o74_1
def o74_2 : List ROp := [
  rq 6 (.slice 54 (tp 1) (some (ki 1)) none none) 22,
  rq 7 (cb .len #[(tp 6)] #[22]) 3,
  rq 8 (.move (ki 0)) 3]
def c74_2 : RC := .reg [] o74_2
def o74_3 : List ROp := [
  rq 9 (.binOp .lss 3 (tp 8) (tp 7) 3) 0]
def c74_3 : RC := .reg [] o74_3
def c74_4 : RC := .cond (tp 9) .skip (.exit 0)
def o74_5 : List ROp := [
  rq 10 (.indexAddr 22 (tp 6) (tp 8)) 0,
  rq 11 (.load 3 (tp 10)) 3,
  rq 5 (.assign (tp 11)) 3]
def c74_5 : RC := .reg [] o74_5
def o74_6 : List ROp := [
  rq 12 (.move (tp 3)) 3,
  rq 13 (.move (tp 5)) 3,
  rq 14 (.binOp .add 3 (tp 12) (tp 13) 3) 3,
  rq 3 (.assign (tp 14)) 3]
def c74_6 : RC := .reg [] o74_6
def c74_7 : RC := .seq c74_5 c74_6
def c74_8 : RC := .block 1 c74_7
def o74_9 : List ROp := [
  rq 15 (.binOp .add 3 (tp 8) (ki 1) 3) 3,
  rq 8 (.move (tp 15)) 3]
def c74_9 : RC := .reg [] o74_9
def c74_10 : RC := .seq c74_8 c74_9
def c74_11 : RC := .seq c74_4 c74_10
def c74_12 : RC := .seq c74_3 c74_11
def c74_13 : RC := .loop c74_12
def c74_14 : RC := .block 0 c74_13
def c74_15 : RC := .seq c74_2 c74_14
def o74_16 : List ROp := [
  rq 16 (.move (tp 3)) 3,
  rq 2 (.assign (tp 16)) 3]
def c74_16 : RC := .reg [] o74_16
def c74_17 : RC := .seq c74_16 .ret
def c74_18 : RC := .seq c74_15 c74_17
def c74_19 : RC := .seq c74_1 c74_18
def c74_20 : RC := .seq c74_0 c74_19
def o64_0 : List ROp := [
  rq 4 (.assign (kb false)) 4]
def c64_0 : RC := .reg [] o64_0
def o64_1 : List ROp := [
  rq 6 (.move (tp 0)) 22,
  rq 7 (cb .len #[(tp 6)] #[22]) 3,
  rq 8 (.move (tp 1)) 22,
  rq 9 (cb .len #[(tp 8)] #[22]) 3,
  rq 10 (.binOp .neq 3 (tp 7) (tp 9) 3) 4]
def c64_1 : RC := .reg [] o64_1
def o64_2 : List ROp := [
  rq 4 (.assign (kb false)) 4]
def c64_2 : RC := .reg [] o64_2
def c64_3 : RC := .seq c64_2 .ret
def c64_4 : RC := .cond (tp 10) c64_3 .skip
def c64_5 : RC := .seq c64_1 c64_4
def o64_6 : List ROp := [
  rq 11 (.move (tp 0)) 22,
  rq 12 (cb .len #[(tp 11)] #[22]) 3,
  rq 13 (.move (ki 0)) 3]
def c64_6 : RC := .reg [] o64_6
def o64_7 : List ROp := [
  rq 14 (.binOp .lss 3 (tp 13) (tp 12) 3) 0]
def c64_7 : RC := .reg [] o64_7
def c64_8 : RC := .cond (tp 14) .skip (.exit 0)
def o64_9 : List ROp := [
  rq 15 (.move (tp 13)) 3,
  rq 5 (.assign (tp 15)) 3]
def c64_9 : RC := .reg [] o64_9
def o64_10 : List ROp := [
  rq 16 (.move (tp 0)) 22,
  rq 17 (.move (tp 5)) 3,
  rq 18 (.indexAddr 22 (tp 16) (tp 17)) 0,
  rq 19 (.load 3 (tp 18)) 3,
  rq 20 (.move (tp 1)) 22,
  rq 21 (.move (tp 5)) 3,
  rq 22 (.indexAddr 22 (tp 20) (tp 21)) 0,
  rq 23 (.load 3 (tp 22)) 3,
  rq 24 (.binOp .neq 3 (tp 19) (tp 23) 3) 4]
def c64_10 : RC := .reg [0, 1, 2, 3, 4, 5, 6, 7, 8] o64_10
def o64_11 : List ROp := [
  rq 4 (.assign (kb false)) 4]
def c64_11 : RC := .reg [] o64_11
def c64_12 : RC := .seq c64_11 .ret
def c64_13 : RC := .cond (tp 24) c64_12 .skip
def c64_14 : RC := .seq c64_10 c64_13
def c64_15 : RC := .seq c64_9 c64_14
def c64_16 : RC := .block 1 c64_15
def o64_17 : List ROp := [
  rq 25 (.binOp .add 3 (tp 13) (ki 1) 3) 3,
  rq 13 (.move (tp 25)) 3]
def c64_17 : RC := .reg [] o64_17
def c64_18 : RC := .seq c64_16 c64_17
def c64_19 : RC := .seq c64_8 c64_18
def c64_20 : RC := .seq c64_7 c64_19
def c64_21 : RC := .loop c64_20
def c64_22 : RC := .block 0 c64_21
def c64_23 : RC := .seq c64_6 c64_22
def o64_24 : List ROp := [
  rq 4 (.assign (kb true)) 4]
def c64_24 : RC := .reg [] o64_24
def c64_25 : RC := .seq c64_24 .ret
def c64_26 : RC := .seq c64_23 c64_25
def c64_27 : RC := .seq c64_5 c64_26
def c64_28 : RC := .seq c64_0 c64_27
def o68_0 : List ROp := [
  rq 4 (.assign (ki 0)) 3]
def c68_0 : RC := .reg [] o68_0
def o68_1 : List ROp := [
  rq 9 (.move (tp 0)) 22,
  rq 10 (cb .len #[(tp 9)] #[22]) 3,
  rq 11 (.move (ki 0)) 3]
def c68_1 : RC := .reg [] o68_1
def o68_2 : List ROp := [
  rq 12 (.binOp .lss 3 (tp 11) (tp 10) 3) 0]
def c68_2 : RC := .reg [] o68_2
def c68_3 : RC := .cond (tp 12) .skip (.exit 0)
def o68_4 : List ROp := [
  rq 13 (.move (tp 11)) 3,
  rq 14 (.indexAddr 22 (tp 9) (tp 11)) 0,
  rq 15 (.load 3 (tp 14)) 3,
  rq 5 (.assign (tp 13)) 3,
  rq 6 (.assign (tp 15)) 3]
def c68_4 : RC := .reg [] o68_4
def o68_5 : List ROp := [
  rq 16 (.move (tp 5)) 3,
  rq 17 (.move (tp 1)) 22,
  rq 18 (cb .len #[(tp 17)] #[22]) 3,
  rq 19 (.binOp .geq 3 (tp 16) (tp 18) 3) 4]
def c68_5 : RC := .reg [] o68_5
def o68_6 : List ROp := [
  rq 4 (.assign (ki 1)) 3]
def c68_6 : RC := .reg [] o68_6
def c68_7 : RC := .seq c68_6 .ret
def c68_8 : RC := .cond (tp 19) c68_7 .skip
def c68_9 : RC := .seq c68_5 c68_8
def o68_10 : List ROp := [
  rq 20 (.move (tp 1)) 22,
  rq 21 (.move (tp 5)) 3,
  rq 22 (.indexAddr 22 (tp 20) (tp 21)) 0,
  rq 23 (.load 3 (tp 22)) 3,
  rq 7 (.assign (tp 23)) 3]
def c68_10 : RC := .reg [] o68_10
def o68_11 : List ROp := [
  rq 24 (.move (tp 6)) 3,
  rq 25 (.move (tp 7)) 3,
  rq 26 (cf 82 #[(tp 24), (tp 25)] #[3, 3]) 3,
  rq 8 (.assign (tp 26)) 3]
def c68_11 : RC := .reg [] o68_11
def o68_12 : List ROp := [
  rq 27 (.move (tp 8)) 3,
  rq 28 (.binOp .neq 3 (tp 27) (ki 0) 3) 4]
def c68_12 : RC := .reg [] o68_12
def o68_13 : List ROp := [
  rq 29 (.move (tp 8)) 3,
  rq 4 (.assign (tp 29)) 3]
def c68_13 : RC := .reg [] o68_13
def c68_14 : RC := .seq c68_13 .ret
def c68_15 : RC := .cond (tp 28) c68_14 .skip
def c68_16 : RC := .seq c68_12 c68_15
def c68_17 : RC := .seq c68_11 c68_16
def c68_18 : RC := .seq c68_10 c68_17
def c68_19 : RC := .seq c68_9 c68_18
def c68_20 : RC := .seq c68_4 c68_19
def c68_21 : RC := .block 1 c68_20
def o68_22 : List ROp := [
  rq 30 (.binOp .add 3 (tp 11) (ki 1) 3) 3,
  rq 11 (.move (tp 30)) 3]
def c68_22 : RC := .reg [] o68_22
def c68_23 : RC := .seq c68_21 c68_22
def c68_24 : RC := .seq c68_3 c68_23
def c68_25 : RC := .seq c68_2 c68_24
def c68_26 : RC := .loop c68_25
def c68_27 : RC := .block 0 c68_26
def c68_28 : RC := .seq c68_1 c68_27
def o68_29 : List ROp := [
  rq 31 (.move (tp 0)) 22,
  rq 32 (cb .len #[(tp 31)] #[22]) 3,
  rq 33 (.move (tp 1)) 22,
  rq 34 (cb .len #[(tp 33)] #[22]) 3,
  rq 35 (.binOp .lss 3 (tp 32) (tp 34) 3) 4]
def c68_29 : RC := .reg [] o68_29
def o68_30 : List ROp := [
  rq 4 (.assign (ki (-1))) 3]
def c68_30 : RC := .reg [] o68_30
def c68_31 : RC := .seq c68_30 .ret
def c68_32 : RC := .cond (tp 35) c68_31 .skip
def c68_33 : RC := .seq c68_29 c68_32
def o68_34 : List ROp := [
  rq 4 (.assign (ki 0)) 3]
def c68_34 : RC := .reg [] o68_34
def c68_35 : RC := .seq c68_34 .ret
def c68_36 : RC := .seq c68_33 c68_35
def c68_37 : RC := .seq c68_28 c68_36
def c68_38 : RC := .seq c68_0 c68_37
def o82_0 : List ROp := [
  rq 4 (.assign (ki 0)) 3]
def c82_0 : RC := .reg [] o82_0
def o82_1 : List ROp := [
  rq 7 (.move (tp 0)) 3,
  rq 8 (cf 98 #[(tp 7)] #[3]) 4,
  rq 5 (.assign (tp 8)) 4]
def c82_1 : RC := .reg [] o82_1
def o82_2 : List ROp := [
  rq 9 (.move (tp 1)) 3,
  rq 10 (cf 98 #[(tp 9)] #[3]) 4,
  rq 6 (.assign (tp 10)) 4]
def c82_2 : RC := .reg [] o82_2
def o82_3 : List ROp := [
  rq 11 (.move (tp 5)) 4]
def c82_3 : RC := .reg [] o82_3
def o82_4 : List ROp := [
  rq 12 (.move (tp 6)) 4]
def c82_4 : RC := .reg [] o82_4
def o82_5 : List ROp := [
  rq 4 (.assign (ki 0)) 3]
def c82_5 : RC := .reg [] o82_5
def c82_6 : RC := .seq c82_5 .ret
def c82_7 : RC := .cond (tp 12) c82_6 .skip
def c82_8 : RC := .seq c82_4 c82_7
def o82_9 : List ROp := [
  rq 4 (.assign (ki (-1))) 3]
def c82_9 : RC := .reg [] o82_9
def c82_10 : RC := .seq c82_9 .ret
def c82_11 : RC := .seq c82_8 c82_10
def c82_12 : RC := .cond (tp 11) c82_11 .skip
def c82_13 : RC := .seq c82_3 c82_12
def o82_14 : List ROp := [
  rq 13 (.move (tp 6)) 4]
def c82_14 : RC := .reg [] o82_14
def o82_15 : List ROp := [
  rq 4 (.assign (ki 1)) 3]
def c82_15 : RC := .reg [] o82_15
def c82_16 : RC := .seq c82_15 .ret
def c82_17 : RC := .cond (tp 13) c82_16 .skip
def c82_18 : RC := .seq c82_14 c82_17
def o82_19 : List ROp := [
  rq 14 (.move (tp 0)) 3,
  rq 15 (.move (tp 1)) 3,
  rq 16 (.binOp .lss 3 (tp 14) (tp 15) 3) 4]
def c82_19 : RC := .reg [] o82_19
def o82_20 : List ROp := [
  rq 4 (.assign (ki (-1))) 3]
def c82_20 : RC := .reg [] o82_20
def c82_21 : RC := .seq c82_20 .ret
def c82_22 : RC := .cond (tp 16) c82_21 .skip
def c82_23 : RC := .seq c82_19 c82_22
def o82_24 : List ROp := [
  rq 17 (.move (tp 0)) 3,
  rq 18 (.move (tp 1)) 3,
  rq 19 (.binOp .gtr 3 (tp 17) (tp 18) 3) 4]
def c82_24 : RC := .reg [] o82_24
def o82_25 : List ROp := [
  rq 4 (.assign (ki 1)) 3]
def c82_25 : RC := .reg [] o82_25
def c82_26 : RC := .seq c82_25 .ret
def c82_27 : RC := .cond (tp 19) c82_26 .skip
def c82_28 : RC := .seq c82_24 c82_27
def o82_29 : List ROp := [
  rq 4 (.assign (ki 0)) 3]
def c82_29 : RC := .reg [] o82_29
def c82_30 : RC := .seq c82_29 .ret
def c82_31 : RC := .seq c82_28 c82_30
def c82_32 : RC := .seq c82_23 c82_31
def c82_33 : RC := .seq c82_18 c82_32
def c82_34 : RC := .seq c82_13 c82_33
def c82_35 : RC := .seq c82_2 c82_34
def c82_36 : RC := .seq c82_1 c82_35
def c82_37 : RC := .seq c82_0 c82_36
def o98_0 : List ROp := [
  rq 2 (.assign (kb false)) 4]
def c98_0 : RC := .reg [] o98_0
def o98_1 : List ROp := [
  rq 3 (.move (tp 0)) 3,
  rq 4 (.move (tp 0)) 3,
  rq 5 (.binOp .neq 3 (tp 3) (tp 4) 3) 4,
  rq 2 (.assign (tp 5)) 4]
def c98_1 : RC := .reg [] o98_1
def c98_2 : RC := .seq c98_1 .ret
def c98_3 : RC := .seq c98_0 c98_2
def o18_0 : List ROp := [
  rq 4 (.assign (kb false)) 4]
def c18_0 : RC := .reg [] o18_0
def o18_1 : List ROp := [
  rq 6 (.move (tp 0)) 22,
  rq 7 (cb .len #[(tp 6)] #[22]) 3,
  rq 8 (.move (tp 1)) 22,
  rq 9 (cb .len #[(tp 8)] #[22]) 3,
  rq 10 (.binOp .neq 3 (tp 7) (tp 9) 3) 4]
def c18_1 : RC := .reg [] o18_1
def o18_2 : List ROp := [
  rq 4 (.assign (kb false)) 4]
def c18_2 : RC := .reg [] o18_2
def c18_3 : RC := .seq c18_2 .ret
def c18_4 : RC := .cond (tp 10) c18_3 .skip
def c18_5 : RC := .seq c18_1 c18_4
def o18_6 : List ROp := [
  rq 5 (.assign (ki 0)) 3]
def c18_6 : RC := .reg [] o18_6
def o18_7 : List ROp := [
  rq 11 (.move (tp 5)) 3,
  rq 12 (.move (tp 0)) 22,
  rq 13 (cb .len #[(tp 12)] #[22]) 3,
  rq 14 (.binOp .lss 3 (tp 11) (tp 13) 3) 4]
def c18_7 : RC := .reg [] o18_7
def c18_8 : RC := .cond (tp 14) .skip (.exit 0)
def c18_9 : RC := .seq c18_7 c18_8
def o18_10 : List ROp := [
  rq 17 (.move (tp 0)) 22,
  rq 18 (.move (tp 5)) 3,
  rq 19 (.indexAddr 22 (tp 17) (tp 18)) 0,
  rq 20 (.load 3 (tp 19)) 3,
  rq 21 (.move (tp 1)) 22,
  rq 22 (.move (tp 5)) 3,
  rq 23 (.indexAddr 22 (tp 21) (tp 22)) 0,
  rq 24 (.load 3 (tp 23)) 3,
  rq 25 (.binOp .neq 3 (tp 20) (tp 24) 3) 4]
def c18_10 : RC := .reg [0, 1, 2, 3, 4, 5, 6, 7, 8] o18_10
def o18_11 : List ROp := [
  rq 4 (.assign (kb false)) 4]
def c18_11 : RC := .reg [] o18_11
def c18_12 : RC := .seq c18_11 .ret
def c18_13 : RC := .cond (tp 25) c18_12 .skip
def c18_14 : RC := .seq c18_10 c18_13
def c18_15 : RC := .block 1 c18_14
def o18_16 : List ROp := [
  rq 15 (.move (tp 5)) 3,
  rq 16 (.binOp .add 3 (tp 15) (ki 1) 3) 3,
  rq 5 (.assign (tp 16)) 3]
def c18_16 : RC := .reg [] o18_16
def c18_17 : RC := .seq c18_15 c18_16
def c18_18 : RC := .seq c18_9 c18_17
def c18_19 : RC := .loop c18_18
def c18_20 : RC := .block 0 c18_19
def c18_21 : RC := .seq c18_6 c18_20
def o18_22 : List ROp := [
  rq 4 (.assign (kb true)) 4]
def c18_22 : RC := .reg [] o18_22
def c18_23 : RC := .seq c18_22 .ret
def c18_24 : RC := .seq c18_21 c18_23
def c18_25 : RC := .seq c18_5 c18_24
def c18_26 : RC := .seq c18_0 c18_25
def o35_0 : List ROp := [
  rq 2 (.assign (ki 0)) 3,
  rq 3 (.assign (ki 0)) 25]
def c35_0 : RC := .reg [] o35_0
def o35_1 : List ROp := [
  rq 7 (.move (tp 0)) 3,
  rq 8 (cf 50 #[(tp 7), (ki 1), (ki 21)] #[3, 3, 3]) 4,
  rq 9 (.unOp .not 4 (tp 8)) 4]
def c35_1 : RC := .reg [] o35_1
def o35_2 : List ROp := [
  rq 2 (.assign (ki 0)) 3,
  rq 3 (.assign (ki 1)) 25]
def c35_2 : RC := .reg [] o35_2
def c35_3 : RC := .seq c35_2 .ret
def c35_4 : RC := .cond (tp 9) c35_3 .skip
def c35_5 : RC := .seq c35_1 c35_4
def o35_6 : List ROp := [
  rq 4 (.assign (ki 0)) 3]
def c35_6 : RC := .reg [] o35_6
def o35_7 : List ROp := [
  rq 10 (.move (tp 0)) 3,
  rq 11 (cf 54 #[(tp 10), (ki 21)] #[3, 3]) 32,
  rq 5 (.assign (tp 11)) 32]
def c35_7 : RC := .reg [] o35_7
def o35_8 : List ROp := [
  rq 6 (.assign (ki 0)) 3]
def c35_8 : RC := .reg [] o35_8
def o35_9 : List ROp := [
  rq 12 (.move (tp 6)) 3,
  rq 13 (.move (tp 5)) 32,
  rq 14 (cb .len #[(tp 13)] #[32]) 3,
  rq 15 (.binOp .lss 3 (tp 12) (tp 14) 3) 4]
def c35_9 : RC := .reg [] o35_9
def c35_10 : RC := .cond (tp 15) .skip (.exit 0)
def c35_11 : RC := .seq c35_9 c35_10
def o35_12 : List ROp := [
  rq 18 (.move (tp 5)) 32,
  rq 19 (.move (tp 6)) 3,
  rq 20 (.indexAddr 32 (tp 18) (tp 19)) 0,
  rq 21 (.load 22 (tp 20)) 22,
  rq 22 (.indexAddr 22 (tp 21) (ki 0)) 0,
  rq 23 (.load 3 (tp 22)) 3,
  rq 24 (.move (tp 5)) 32,
  rq 25 (.move (tp 6)) 3,
  rq 26 (.indexAddr 32 (tp 24) (tp 25)) 0,
  rq 27 (.load 22 (tp 26)) 22,
  rq 28 (cb .len #[(tp 27)] #[22]) 3,
  rq 29 (.binOp .sub 3 (tp 28) (ki 1) 3) 3,
  rq 30 (.binOp .lss 3 (tp 23) (tp 29) 3) 4]
def c35_12 : RC := .reg [0, 1, 2, 3, 4, 5, 6, 7, 8, 9, 10, 11, 12] o35_12
def o35_13 : List ROp := [
  rq 31 (.move (tp 4)) 3,
  rq 32 (.binOp .add 3 (tp 31) (ki 1) 3) 3,
  rq 4 (.assign (tp 32)) 3]
def c35_13 : RC := .reg [] o35_13
def c35_14 : RC := .cond (tp 30) c35_13 .skip
def c35_15 : RC := .seq c35_12 c35_14
def c35_16 : RC := .block 1 c35_15
def o35_17 : List ROp := [
  rq 16 (.move (tp 6)) 3,
  rq 17 (.binOp .add 3 (tp 16) (ki 1) 3) 3,
  rq 6 (.assign (tp 17)) 3]
def c35_17 : RC := .reg [] o35_17
def c35_18 : RC := .seq c35_16 c35_17
def c35_19 : RC := .seq c35_11 c35_18
def c35_20 : RC := .loop c35_19
def c35_21 : RC := .block 0 c35_20
def c35_22 : RC := .seq c35_8 c35_21
def o35_23 : List ROp := [
  rq 33 (.move (tp 4)) 3,
  rq 2 (.assign (tp 33)) 3,
  rq 3 (.assign (ki 0)) 25]
def c35_23 : RC := .reg [] o35_23
def c35_24 : RC := .seq c35_23 .ret
def c35_25 : RC := .seq c35_22 c35_24
def c35_26 : RC := .seq c35_7 c35_25
def c35_27 : RC := .seq c35_6 c35_26
def c35_28 : RC := .seq c35_5 c35_27
def c35_29 : RC := .seq c35_0 c35_28
def o45_0 : List ROp := [
  rq 2 (.assign (.const (.slice none 0 0))) 22]
def c45_0 : RC := .reg [] o45_0
def o45_1 : List ROp := [
  rq 3 (.assign (.const (.slice none 0 0))) 22]
def c45_1 : RC := .reg [] o45_1
def o45_2 : List ROp := [
  rq 4 (.assign (kb false)) 4]
def c45_2 : RC := .reg [] o45_2
def o45_3 : List ROp := [
  rq 5 (.assign (ki 0)) 3]
def c45_3 : RC := .reg [] o45_3
def o45_4 : List ROp := [
  rq 6 (.move (tp 5)) 3,
  rq 7 (.move (tp 0)) 22,
  rq 8 (cb .len #[(tp 7)] #[22]) 3,
  rq 9 (.binOp .lss 3 (tp 6) (tp 8) 3) 4]
def c45_4 : RC := .reg [] o45_4
def c45_5 : RC := .cond (tp 9) .skip (.exit 0)
def c45_6 : RC := .seq c45_4 c45_5
def o45_7 : List ROp := [
  rq 12 (.move (tp 4)) 4,
  rq 13 (.unOp .not 4 (tp 12)) 4,
  rq 14 (.move (tp 13)) 4,
  rg 15 (.move (tp 0)) 22 14 true,
  rg 16 (.move (tp 5)) 3 14 true,
  rg 17 (.indexAddr 22 (tp 15) (tp 16)) 0 14 true,
  rg 18 (.load 3 (tp 17)) 3 14 true,
  rg 19 (.binOp .sub 3 (tp 18) (ki 1) 3) 3 14 true,
  rg 20 (.move (tp 0)) 22 14 true,
  rg 21 (cb .len #[(tp 20)] #[22]) 3 14 true,
  rg 22 (.binOp .leq 3 (tp 19) (tp 21) 3) 4 14 true,
  rq 23 (.pick (tp 14) (tp 22) (kb false)) 4]
def c45_7 : RC := .reg [] o45_7
def o45_8 : List ROp := [
  rq 24 (.move (tp 3)) 22,
  rq 25 (.move (tp 0)) 22,
  rq 26 (cb .len #[(tp 25)] #[22]) 3,
  rq 27 (.buildSlice 22 1 #[(0, (tp 26))]) 22,
  rq 28 (cb .append #[(tp 24), (tp 27)] #[22, 22]) 22,
  rq 3 (.assign (tp 28)) 22]
def c45_8 : RC := .reg [] o45_8
def o45_9 : List ROp := [
  rq 4 (.assign (kb true)) 4]
def c45_9 : RC := .reg [] o45_9
def c45_10 : RC := .seq c45_8 c45_9
def c45_11 : RC := .cond (tp 23) c45_10 .skip
def c45_12 : RC := .seq c45_7 c45_11
def o45_13 : List ROp := [
  rq 29 (.move (tp 0)) 22,
  rq 30 (.move (tp 5)) 3,
  rq 31 (.indexAddr 22 (tp 29) (tp 30)) 0,
  rq 32 (.load 3 (tp 31)) 3,
  rq 33 (.binOp .gtr 3 (tp 32) (ki 1) 3) 4]
def c45_13 : RC := .reg [] o45_13
def o45_14 : List ROp := [
  rq 34 (.move (tp 3)) 22,
  rq 35 (.move (tp 0)) 22,
  rq 36 (.move (tp 5)) 3,
  rq 37 (.indexAddr 22 (tp 35) (tp 36)) 0,
  rq 38 (.load 3 (tp 37)) 3,
  rq 39 (.binOp .sub 3 (tp 38) (ki 1) 3) 3,
  rq 40 (.buildSlice 22 1 #[(0, (tp 39))]) 22,
  rq 41 (cb .append #[(tp 34), (tp 40)] #[22, 22]) 22,
  rq 3 (.assign (tp 41)) 22]
def c45_14 : RC := .reg [] o45_14
def c45_15 : RC := .cond (tp 33) c45_14 .skip
def c45_16 : RC := .seq c45_13 c45_15
def c45_17 : RC := .seq c45_12 c45_16
def c45_18 : RC := .block 1 c45_17
def o45_19 : List ROp := [
  rq 10 (.move (tp 5)) 3,
  rq 11 (.binOp .add 3 (tp 10) (ki 1) 3) 3,
  rq 5 (.assign (tp 11)) 3]
def c45_19 : RC := .reg [] o45_19
def c45_20 : RC := .seq c45_18 c45_19
def c45_21 : RC := .seq c45_6 c45_20
def c45_22 : RC := .loop c45_21
def c45_23 : RC := .block 0 c45_22
def c45_24 : RC := .seq c45_3 c45_23
def o45_25 : List ROp := [
  rq 42 (.move (tp 4)) 4,
  rq 43 (.unOp .not 4 (tp 42)) 4]
def c45_25 : RC := .reg [] o45_25
def o45_26 : List ROp := [
  rq 44 (.move (tp 3)) 22,
  rq 45 (.move (tp 0)) 22,
  rq 46 (cb .len #[(tp 45)] #[22]) 3,
  rq 47 (.buildSlice 22 1 #[(0, (tp 46))]) 22,
  rq 48 (cb .append #[(tp 44), (tp 47)] #[22, 22]) 22,
  rq 3 (.assign (tp 48)) 22]
def c45_26 : RC := .reg [] o45_26
def c45_27 : RC := .cond (tp 43) c45_26 .skip
def c45_28 : RC := .seq c45_25 c45_27
def o45_29 : List ROp := [
  rq 49 (.move (tp 3)) 22,
  rq 2 (.assign (tp 49)) 22]
def c45_29 : RC := .reg [] o45_29
def c45_30 : RC := .seq c45_29 .ret
def c45_31 : RC := .seq c45_28 c45_30
def c45_32 : RC := .seq c45_24 c45_31
def c45_33 : RC := .seq c45_2 c45_32
def c45_34 : RC := .seq c45_1 c45_33
def c45_35 : RC := .seq c45_0 c45_34
def o50_0 : List ROp := [
  rq 6 (.assign (kb false)) 4]
def c50_0 : RC := .reg [] o50_0
def o50_1 : List ROp := [
  rq 7 (.move (tp 0)) 3,
  rq 8 (.move (tp 1)) 3,
  rq 9 (.binOp .geq 3 (tp 7) (tp 8) 3) 4,
  rq 10 (.move (tp 9)) 4,
  rg 11 (.move (tp 0)) 3 10 true,
  rg 12 (.move (tp 2)) 3 10 true,
  rg 13 (.binOp .leq 3 (tp 11) (tp 12) 3) 4 10 true,
  rq 14 (.pick (tp 10) (tp 13) (kb false)) 4,
  rq 6 (.assign (tp 14)) 4]
def c50_1 : RC := .reg [] o50_1
def c50_2 : RC := .seq c50_1 .ret
def c50_3 : RC := .seq c50_0 c50_2
def o51_0 : List ROp := [
  rq 2 (.assign (kb false)) 4]
def c51_0 : RC := .reg [] o51_0
def o51_1 : List ROp := [
  rq 5 (.move (tp 0)) 22,
  rq 3 (.assign (tp 5)) 22]
def c51_1 : RC := .reg [] o51_1
def o51_2 : List ROp := [
  rq 4 (.assign (ki 0)) 3]
def c51_2 : RC := .reg [] o51_2
def o51_3 : List ROp := [
  rq 6 (.move (tp 4)) 3,
  rq 7 (.binOp .lss 3 (tp 6) (ki 21) 3) 4]
def c51_3 : RC := .reg [] o51_3
def c51_4 : RC := .cond (tp 7) .skip (.exit 0)
def c51_5 : RC := .seq c51_3 c51_4
def o51_6 : List ROp := [
  rq 10 (.move (tp 3)) 22,
  rq 11 (cf 45 #[(tp 10)] #[22]) 22,
  rq 3 (.assign (tp 11)) 22]
def c51_6 : RC := .reg [] o51_6
def o51_7 : List ROp := [
  rq 12 (.move (tp 3)) 22,
  rq 13 (.move (tp 0)) 22,
  rq 14 (cf 56 #[(tp 12), (tp 13)] #[22, 22]) 4]
def c51_7 : RC := .reg [] o51_7
def o51_8 : List ROp := [
  rq 2 (.assign (kb true)) 4]
def c51_8 : RC := .reg [] o51_8
def c51_9 : RC := .seq c51_8 .ret
def c51_10 : RC := .cond (tp 14) c51_9 .skip
def c51_11 : RC := .seq c51_7 c51_10
def c51_12 : RC := .seq c51_6 c51_11
def c51_13 : RC := .block 1 c51_12
def o51_14 : List ROp := [
  rq 8 (.move (tp 4)) 3,
  rq 9 (.binOp .add 3 (tp 8) (ki 1) 3) 3,
  rq 4 (.assign (tp 9)) 3]
def c51_14 : RC := .reg [] o51_14
def c51_15 : RC := .seq c51_13 c51_14
def c51_16 : RC := .seq c51_5 c51_15
def c51_17 : RC := .loop c51_16
def c51_18 : RC := .block 0 c51_17
def c51_19 : RC := .seq c51_2 c51_18
def o51_20 : List ROp := [
  rq 2 (.assign (kb false)) 4]
def c51_20 : RC := .reg [] o51_20
def c51_21 : RC := .seq c51_20 .ret
def c51_22 : RC := .seq c51_19 c51_21
def c51_23 : RC := .seq c51_1 c51_22
def c51_24 : RC := .seq c51_0 c51_23
def o54_0 : List ROp := [
  rq 4 (.assign (.const (.slice none 0 0))) 32]
def c54_0 : RC := .reg [] o54_0
def o54_1 : List ROp := [
  rq 9 (.move (tp 0)) 3,
  rq 10 (.binOp .eql 3 (tp 9) (ki 0) 3) 4]
def c54_1 : RC := .reg [] o54_1
def o54_2 : List ROp := [
  rq 11 (.buildSlice 32 1 #[(0, (.const (.slice none 0 0)))]) 32,
  rq 4 (.assign (tp 11)) 32]
def c54_2 : RC := .reg [] o54_2
def c54_3 : RC := .seq c54_2 .ret
def c54_4 : RC := .cond (tp 10) c54_3 .skip
def c54_5 : RC := .seq c54_1 c54_4
def o54_6 : List ROp := [
  rq 5 (.assign (.const (.slice none 0 0))) 32]
def c54_6 : RC := .reg [] o54_6
def o54_7 : List ROp := [
  rq 6 (.assign (ki 1)) 3]
def c54_7 : RC := .reg [] o54_7
def o54_8 : List ROp := [
  rq 12 (.move (tp 6)) 3,
  rq 13 (.move (tp 1)) 3,
  rq 14 (.binOp .leq 3 (tp 12) (tp 13) 3) 4,
  rq 15 (.move (tp 14)) 4,
  rg 16 (.move (tp 6)) 3 15 true,
  rg 17 (.move (tp 0)) 3 15 true,
  rg 18 (.binOp .leq 3 (tp 16) (tp 17) 3) 4 15 true,
  rq 19 (.pick (tp 15) (tp 18) (kb false)) 4]
def c54_8 : RC := .reg [] o54_8
def c54_9 : RC := .cond (tp 19) .skip (.exit 0)
def c54_10 : RC := .seq c54_8 c54_9
def o54_11 : List ROp := [
  rq 22 (.move (tp 0)) 3,
  rq 23 (.move (tp 6)) 3,
  rq 24 (.binOp .sub 3 (tp 22) (tp 23) 3) 3,
  rq 25 (.move (tp 6)) 3,
  rq 26 (cf 54 #[(tp 24), (tp 25)] #[3, 3]) 32,
  rq 7 (.assign (tp 26)) 32]
def c54_11 : RC := .reg [] o54_11
def o54_12 : List ROp := [
  rq 8 (.assign (ki 0)) 3]
def c54_12 : RC := .reg [] o54_12
def o54_13 : List ROp := [
  rq 27 (.move (tp 8)) 3,
  rq 28 (.move (tp 7)) 32,
  rq 29 (cb .len #[(tp 28)] #[32]) 3,
  rq 30 (.binOp .lss 3 (tp 27) (tp 29) 3) 4]
def c54_13 : RC := .reg [] o54_13
def c54_14 : RC := .cond (tp 30) .skip (.exit 2)
def c54_15 : RC := .seq c54_13 c54_14
def o54_16 : List ROp := [
  rq 33 (.move (tp 5)) 32,
  rq 34 (.move (tp 6)) 3,
  rq 35 (.buildSlice 22 1 #[(0, (tp 34))]) 22,
  rq 36 (.move (tp 7)) 32,
  rq 37 (.move (tp 8)) 3,
  rq 38 (.indexAddr 32 (tp 36) (tp 37)) 0,
  rq 39 (.load 22 (tp 38)) 22,
  rq 40 (cb .append #[(tp 35), (tp 39)] #[22, 22]) 22,
  rq 41 (.buildSlice 32 1 #[(0, (tp 40))]) 32,
  rq 42 (cb .append #[(tp 33), (tp 41)] #[32, 32]) 32,
  rq 5 (.assign (tp 42)) 32]
def c54_16 : RC := .reg [] o54_16
def c54_17 : RC := .block 3 c54_16
def o54_18 : List ROp := [
  rq 31 (.move (tp 8)) 3,
  rq 32 (.binOp .add 3 (tp 31) (ki 1) 3) 3,
  rq 8 (.assign (tp 32)) 3]
def c54_18 : RC := .reg [] o54_18
def c54_19 : RC := .seq c54_17 c54_18
def c54_20 : RC := .seq c54_15 c54_19
def c54_21 : RC := .loop c54_20
def c54_22 : RC := .block 2 c54_21
def c54_23 : RC := .seq c54_12 c54_22
def c54_24 : RC := .seq c54_11 c54_23
def c54_25 : RC := .block 1 c54_24
def o54_26 : List ROp := [
  rq 20 (.move (tp 6)) 3,
  rq 21 (.binOp .add 3 (tp 20) (ki 1) 3) 3,
  rq 6 (.assign (tp 21)) 3]
def c54_26 : RC := .reg [] o54_26
def c54_27 : RC := .seq c54_25 c54_26
def c54_28 : RC := .seq c54_10 c54_27
def c54_29 : RC := .loop c54_28
def c54_30 : RC := .block 0 c54_29
def c54_31 : RC := .seq c54_7 c54_30
def o54_32 : List ROp := [
  rq 43 (.move (tp 5)) 32,
  rq 4 (.assign (tp 43)) 32]
def c54_32 : RC := .reg [] o54_32
def c54_33 : RC := .seq c54_32 .ret
def c54_34 : RC := .seq c54_31 c54_33
def c54_35 : RC := .seq c54_6 c54_34
def c54_36 : RC := .seq c54_5 c54_35
def c54_37 : RC := .seq c54_0 c54_36
def o56_0 : List ROp := [
  rq 4 (.assign (kb false)) 4]
def c56_0 : RC := .reg [] o56_0
def o56_1 : List ROp := [
  rq 6 (.move (tp 0)) 22,
  rq 7 (cb .len #[(tp 6)] #[22]) 3,
  rq 8 (.move (tp 1)) 22,
  rq 9 (cb .len #[(tp 8)] #[22]) 3,
  rq 10 (.binOp .neq 3 (tp 7) (tp 9) 3) 4]
def c56_1 : RC := .reg [] o56_1
def o56_2 : List ROp := [
  rq 4 (.assign (kb false)) 4]
def c56_2 : RC := .reg [] o56_2
def c56_3 : RC := .seq c56_2 .ret
def c56_4 : RC := .cond (tp 10) c56_3 .skip
def c56_5 : RC := .seq c56_1 c56_4
def o56_6 : List ROp := [
  rq 5 (.assign (ki 0)) 3]
def c56_6 : RC := .reg [] o56_6
def o56_7 : List ROp := [
  rq 11 (.move (tp 5)) 3,
  rq 12 (.move (tp 0)) 22,
  rq 13 (cb .len #[(tp 12)] #[22]) 3,
  rq 14 (.binOp .lss 3 (tp 11) (tp 13) 3) 4]
def c56_7 : RC := .reg [] o56_7
def c56_8 : RC := .cond (tp 14) .skip (.exit 0)
def c56_9 : RC := .seq c56_7 c56_8
def o56_10 : List ROp := [
  rq 17 (.move (tp 0)) 22,
  rq 18 (.move (tp 5)) 3,
  rq 19 (.indexAddr 22 (tp 17) (tp 18)) 0,
  rq 20 (.load 3 (tp 19)) 3,
  rq 21 (.move (tp 1)) 22,
  rq 22 (.move (tp 5)) 3,
  rq 23 (.indexAddr 22 (tp 21) (tp 22)) 0,
  rq 24 (.load 3 (tp 23)) 3,
  rq 25 (.binOp .neq 3 (tp 20) (tp 24) 3) 4]
def c56_10 : RC := .reg [0, 1, 2, 3, 4, 5, 6, 7, 8] o56_10
def o56_11 : List ROp := [
  rq 4 (.assign (kb false)) 4]
def c56_11 : RC := .reg [] o56_11
def c56_12 : RC := .seq c56_11 .ret
def c56_13 : RC := .cond (tp 25) c56_12 .skip
def c56_14 : RC := .seq c56_10 c56_13
def c56_15 : RC := .block 1 c56_14
def o56_16 : List ROp := [
  rq 15 (.move (tp 5)) 3,
  rq 16 (.binOp .add 3 (tp 15) (ki 1) 3) 3,
  rq 5 (.assign (tp 16)) 3]
def c56_16 : RC := .reg [] o56_16
def c56_17 : RC := .seq c56_15 c56_16
def c56_18 : RC := .seq c56_9 c56_17
def c56_19 : RC := .loop c56_18
def c56_20 : RC := .block 0 c56_19
def c56_21 : RC := .seq c56_6 c56_20
def o56_22 : List ROp := [
  rq 4 (.assign (kb true)) 4]
def c56_22 : RC := .reg [] o56_22
def c56_23 : RC := .seq c56_22 .ret
def c56_24 : RC := .seq c56_21 c56_23
def c56_25 : RC := .seq c56_5 c56_24
def c56_26 : RC := .seq c56_0 c56_25
def o58_0 : List ROp := [
  rq 2 (.assign (ki 0)) 3,
  rq 3 (.assign (.const (.slice none 0 0))) 22]
def c58_0 : RC := .reg [] o58_0
def o58_1 : List ROp := [
  rq 4 (.assign (ki 0)) 3]
def c58_1 : RC := .reg [] o58_1
def o58_2 : List ROp := [
  rq 5 (.move (tp 0)) 22,
  rq 6 (cf 51 #[(tp 5)] #[22]) 4,
  rq 7 (.unOp .not 4 (tp 6)) 4]
def c58_2 : RC := .reg [] o58_2
def c58_3 : RC := .cond (tp 7) .skip (.exit 0)
def c58_4 : RC := .seq c58_2 c58_3
def o58_5 : List ROp := [
  rq 8 (.move (tp 0)) 22,
  rq 9 (cf 45 #[(tp 8)] #[22]) 22,
  rq 0 (.assign (tp 9)) 22]
def c58_5 : RC := .reg [] o58_5
def o58_6 : List ROp := [
  rq 10 (.move (tp 4)) 3,
  rq 11 (.binOp .add 3 (tp 10) (ki 1) 3) 3,
  rq 4 (.assign (tp 11)) 3]
def c58_6 : RC := .reg [] o58_6
def c58_7 : RC := .seq c58_5 c58_6
def c58_8 : RC := .block 1 c58_7
def c58_9 : RC := .seq c58_4 c58_8
def c58_10 : RC := .loop c58_9
def c58_11 : RC := .block 0 c58_10
def o58_12 : List ROp := [
  rq 12 (.move (tp 4)) 3,
  rq 13 (.move (tp 0)) 22,
  rq 2 (.assign (tp 12)) 3,
  rq 3 (.assign (tp 13)) 22]
def c58_12 : RC := .reg [] o58_12
def c58_13 : RC := .seq c58_12 .ret
def c58_14 : RC := .seq c58_11 c58_13
def c58_15 : RC := .seq c58_1 c58_14
def c58_16 : RC := .seq c58_0 c58_15
def o53_0 : List ROp := [
  rq 1 (.box 54 (tp 0)) 0,
  rq 2 (.assign (.const (.slice none 0 0))) 32]
def c53_0 : RC := .reg [] o53_0
def o53_1 : List ROp := [
  rq 8 (.load 54 (tp 1)) 54,
  rq 9 (cf 74 #[(tp 8)] #[54]) 3,
  rq 10 (.binOp .sub 3 (tp 9) (ki 1) 3) 3,
  rq 3 (.assign (tp 10)) 3]
def c53_1 : RC := .reg [] o53_1
def o53_2 : List ROp := [
  rq 4 (.assign (.const (.slice none 0 0))) 32]
def c53_2 : RC := .reg [] o53_2
def o53_3 : List ROp := [
  rq 11 (.move (tp 3)) 3,
  rq 12 (cb .max #[(tp 11), (ki 1)] #[3, 3]) 3,
  rq 5 (.assign (tp 12)) 3]
def c53_3 : RC := .reg [] o53_3
def o53_4 : List ROp := [
  rq 13 (.move (tp 5)) 3,
  rq 14 (.binOp .leq 3 (tp 13) (ki 21) 3) 4]
def c53_4 : RC := .reg [] o53_4
def c53_5 : RC := .cond (tp 14) .skip (.exit 0)
def c53_6 : RC := .seq c53_4 c53_5
def o53_7 : List ROp := [
  rq 17 (.move (tp 5)) 3,
  rq 18 (.indexAddr 54 (tp 1) (tp 17)) 0,
  rq 19 (.load 3 (tp 18)) 3,
  rq 20 (.binOp .eql 3 (tp 19) (ki 0) 3) 4]
def c53_7 : RC := .reg [] o53_7
def c53_8 : RC := .cond (tp 20) (.exit 1) .skip
def c53_9 : RC := .seq c53_7 c53_8
def o53_10 : List ROp := [
  rq 21 (.load 54 (tp 1)) 54,
  rq 6 (.alloc 54) 0,
  rn (.store 54 (tp 6) (tp 21)) 0]
def c53_10 : RC := .reg [] o53_10
def o53_11 : List ROp := [
  rq 22 (.move (tp 5)) 3,
  rq 23 (.indexAddr 54 (tp 6) (tp 22)) 0,
  rq 24 (.load 3 (tp 23)) 3,
  rq 25 (.binOp .sub 3 (tp 24) (ki 1) 3) 3,
  rq 26 (.indexAddr 54 (tp 6) (tp 22)) 0,
  rn (.store 3 (tp 26) (tp 25)) 0]
def c53_11 : RC := .reg [] o53_11
def o53_12 : List ROp := [
  rq 7 (.alloc 54) 0]
def c53_12 : RC := .reg [] o53_12
def o53_13 : List ROp := [
  rq 27 (.slice 54 (tp 7) (some (ki 2)) none none) 22,
  rq 28 (.slice 54 (tp 6) (some (ki 1)) none none) 22,
  rq 29 (cb .copy #[(tp 27), (tp 28)] #[22, 22]) 3]
def c53_13 : RC := .reg [0, 1, 2] o53_13
def o53_14 : List ROp := [
  rq 30 (.move (tp 5)) 3,
  rq 31 (.move (tp 3)) 3,
  rq 32 (.binOp .sub 3 (tp 30) (tp 31) 3) 3,
  rq 33 (.indexAddr 54 (tp 7) (ki 1)) 0,
  rn (.store 3 (tp 33) (tp 32)) 0]
def c53_14 : RC := .reg [] o53_14
def o53_15 : List ROp := [
  rq 34 (.move (tp 4)) 32,
  rq 35 (.load 54 (tp 7)) 54,
  rq 36 (cf 44 #[(tp 35)] #[54]) 22,
  rq 37 (.buildSlice 32 1 #[(0, (tp 36))]) 32,
  rq 38 (cb .append #[(tp 34), (tp 37)] #[32, 32]) 32,
  rq 4 (.assign (tp 38)) 32]
def c53_15 : RC := .reg [] o53_15
def c53_16 : RC := .seq c53_14 c53_15
def c53_17 : RC := .seq c53_13 c53_16
def c53_18 : RC := .seq c53_12 c53_17
def c53_19 : RC := .seq c53_11 c53_18
def c53_20 : RC := .seq c53_10 c53_19
def c53_21 : RC := .seq c53_9 c53_20
def c53_22 : RC := .block 1 c53_21
def o53_23 : List ROp := [
  rq 15 (.move (tp 5)) 3,
  rq 16 (.binOp .add 3 (tp 15) (ki 1) 3) 3,
  rq 5 (.assign (tp 16)) 3]
def c53_23 : RC := .reg [] o53_23
def c53_24 : RC := .seq c53_22 c53_23
def c53_25 : RC := .seq c53_6 c53_24
def c53_26 : RC := .loop c53_25
def c53_27 : RC := .block 0 c53_26
def c53_28 : RC := .seq c53_3 c53_27
def o53_29 : List ROp := [
  rq 39 (.move (tp 4)) 32,
  rq 40 (cf 77 #[(tp 39), (.func 68)] #[32, 75]) 0]
def c53_29 : RC := .reg [] o53_29
def o53_30 : List ROp := [
  rq 41 (.move (tp 4)) 32,
  rq 2 (.assign (tp 41)) 32]
def c53_30 : RC := .reg [] o53_30
def c53_31 : RC := .seq c53_30 .ret
def c53_32 : RC := .seq c53_29 c53_31
def c53_33 : RC := .seq c53_28 c53_32
def c53_34 : RC := .seq c53_2 c53_33
def c53_35 : RC := .seq c53_1 c53_34
def c53_36 : RC := .seq c53_0 c53_35
def o81_0 : List ROp := [
  rq 2 (.assign (ki 0)) 3]
def c81_0 : RC := .reg [] o81_0
def o81_1 : List ROp := [
  rq 3 (.move (tp 0)) 85,
  rq 4 (.convert 85 101 (tp 3)) 101,
  rq 5 (cf 96 #[(tp 4)] #[101]) 3,
  rq 2 (.assign (tp 5)) 3]
def c81_1 : RC := .reg [] o81_1
def c81_2 : RC := .seq c81_1 .ret
def c81_3 : RC := .cond (kb false) c81_2 .skip
def o81_4 : List ROp := [
  rq 6 (.move (tp 0)) 85,
  rq 7 (cf 97 #[(tp 6)] #[103]) 3,
  rq 2 (.assign (tp 7)) 3]
def c81_4 : RC := .reg [] o81_4
def c81_5 : RC := .seq c81_4 .ret
def c81_6 : RC := .seq c81_3 c81_5
def c81_7 : RC := .seq c81_0 c81_6
def o97_0 : List ROp := [
  rq 2 (.assign (ki 0)) 3]
def c97_0 : RC := .reg [] o97_0
def o97_1 : List ROp := [
  rq 3 (.move (tp 0)) 103,
  rq 4 (.binOp .geq 103 (tp 3) (.const (.int .u64 4294967296)) 103) 4]
def c97_1 : RC := .reg [] o97_1
def o97_2 : List ROp := [
  rq 5 (.move (tp 0)) 103,
  rq 6 (.binOp .shr 103 (tp 5) (.const (.int .u64 32)) 85) 103,
  rq 0 (.assign (tp 6)) 103]
def c97_2 : RC := .reg [] o97_2
def o97_3 : List ROp := [
  rq 2 (.assign (ki 32)) 3]
def c97_3 : RC := .reg [] o97_3
def c97_4 : RC := .seq c97_2 c97_3
def c97_5 : RC := .cond (tp 4) c97_4 .skip
def c97_6 : RC := .seq c97_1 c97_5
def o97_7 : List ROp := [
  rq 7 (.move (tp 0)) 103,
  rq 8 (.binOp .geq 103 (tp 7) (.const (.int .u64 65536)) 103) 4]
def c97_7 : RC := .reg [] o97_7
def o97_8 : List ROp := [
  rq 9 (.move (tp 0)) 103,
  rq 10 (.binOp .shr 103 (tp 9) (.const (.int .u64 16)) 85) 103,
  rq 0 (.assign (tp 10)) 103]
def c97_8 : RC := .reg [] o97_8
def o97_9 : List ROp := [
  rq 11 (.move (tp 2)) 3,
  rq 12 (.binOp .add 3 (tp 11) (ki 16) 3) 3,
  rq 2 (.assign (tp 12)) 3]
def c97_9 : RC := .reg [] o97_9
def c97_10 : RC := .seq c97_8 c97_9
def c97_11 : RC := .cond (tp 8) c97_10 .skip
def c97_12 : RC := .seq c97_7 c97_11
def o97_13 : List ROp := [
  rq 13 (.move (tp 0)) 103,
  rq 14 (.binOp .geq 103 (tp 13) (.const (.int .u64 256)) 103) 4]
def c97_13 : RC := .reg [] o97_13
def o97_14 : List ROp := [
  rq 15 (.move (tp 0)) 103,
  rq 16 (.binOp .shr 103 (tp 15) (.const (.int .u64 8)) 85) 103,
  rq 0 (.assign (tp 16)) 103]
def c97_14 : RC := .reg [] o97_14
def o97_15 : List ROp := [
  rq 17 (.move (tp 2)) 3,
  rq 18 (.binOp .add 3 (tp 17) (ki 8) 3) 3,
  rq 2 (.assign (tp 18)) 3]
def c97_15 : RC := .reg [] o97_15
def c97_16 : RC := .seq c97_14 c97_15
def c97_17 : RC := .cond (tp 14) c97_16 .skip
def c97_18 : RC := .seq c97_13 c97_17
def o97_19 : List ROp := [
  rq 19 (.move (tp 2)) 3,
  rq 20 (.move (tp 0)) 103,
  rq 21 (.convert 103 5 (tp 20)) 5,
  rq 22 (.index 9 (.const (.string ⟨#[0, 1, 2, 2, 3, 3, 3, 3, 4, 4, 4, 4, 4, 4, 4, 4, 5, 5, 5, 5, 5, 5, 5, 5, 5, 5, 5, 5, 5, 5, 5, 5, 6, 6, 6, 6, 6, 6, 6, 6, 6, 6, 6, 6, 6, 6, 6, 6, 6, 6, 6, 6, 6, 6, 6, 6, 6, 6, 6, 6, 6, 6, 6, 6, 7, 7, 7, 7, 7, 7, 7, 7, 7, 7, 7, 7, 7, 7, 7, 7, 7, 7, 7, 7, 7, 7, 7, 7, 7, 7, 7, 7, 7, 7, 7, 7, 7, 7, 7, 7, 7, 7, 7, 7, 7, 7, 7, 7, 7, 7, 7, 7, 7, 7, 7, 7, 7, 7, 7, 7, 7, 7, 7, 7, 7, 7, 7, 7, 8, 8, 8, 8, 8, 8, 8, 8, 8, 8, 8, 8, 8, 8, 8, 8, 8, 8, 8, 8, 8, 8, 8, 8, 8, 8, 8, 8, 8, 8, 8, 8, 8, 8, 8, 8, 8, 8, 8, 8, 8, 8, 8, 8, 8, 8, 8, 8, 8, 8, 8, 8, 8, 8, 8, 8, 8, 8, 8, 8, 8, 8, 8, 8, 8, 8, 8, 8, 8, 8, 8, 8, 8, 8, 8, 8, 8, 8, 8, 8, 8, 8, 8, 8, 8, 8, 8, 8, 8, 8, 8, 8, 8, 8, 8, 8, 8, 8, 8, 8, 8, 8, 8, 8, 8, 8, 8, 8, 8, 8, 8, 8, 8, 8, 8, 8, 8, 8, 8, 8, 8, 8, 8, 8, 8, 8, 8, 8]⟩)) (tp 21)) 5,
  rq 23 (.convert 5 3 (tp 22)) 3,
  rq 24 (.binOp .add 3 (tp 19) (tp 23) 3) 3,
  rq 2 (.assign (tp 24)) 3]
def c97_19 : RC := .reg [] o97_19
def c97_20 : RC := .seq c97_19 .ret
def c97_21 : RC := .seq c97_18 c97_20
def c97_22 : RC := .seq c97_12 c97_21
def c97_23 : RC := .seq c97_6 c97_22
def c97_24 : RC := .seq c97_0 c97_23
def o77_0 : List ROp := [
  rq 5 (.move (tp 0)) 32,
  rq 6 (cb .len #[(tp 5)] #[32]) 3,
  rq 4 (.assign (tp 6)) 3]
def c77_0 : RC := .reg [] o77_0
def o77_1 : List ROp := [
  rq 7 (.move (tp 0)) 32,
  rq 8 (.move (tp 4)) 3,
  rq 9 (.move (tp 4)) 3,
  rq 10 (.convert 3 85 (tp 9)) 85,
  rq 11 (cf 81 #[(tp 10)] #[85]) 3,
  rq 12 (.move (tp 1)) 75,
  rq 13 (cf 86 #[(tp 7), (ki 0), (tp 8), (tp 11), (tp 12)] #[32, 3, 3, 3, 75]) 0]
def c77_1 : RC := .reg [] o77_1
def c77_2 : RC := .seq c77_0 c77_1
def o86_0 : List ROp := [
  rq 10 (.assign (kb true)) 4]
def c86_0 : RC := .reg [] o86_0
def o86_1 : List ROp := [
  rq 11 (.assign (kb true)) 4]
def c86_1 : RC := .reg [] o86_1
def o86_2 : List ROp := [
  rq 21 (.move (tp 2)) 3,
  rq 22 (.move (tp 1)) 3,
  rq 23 (.binOp .sub 3 (tp 21) (tp 22) 3) 3,
  rq 12 (.assign (tp 23)) 3]
def c86_2 : RC := .reg [] o86_2
def o86_3 : List ROp := [
  rq 24 (.move (tp 12)) 3,
  rq 25 (.binOp .leq 3 (tp 24) (ki 12) 3) 4]
def c86_3 : RC := .reg [] o86_3
def o86_4 : List ROp := [
  rq 26 (.move (tp 0)) 32,
  rq 27 (.move (tp 1)) 3,
  rq 28 (.move (tp 2)) 3,
  rq 29 (.move (tp 4)) 75,
  rq 30 (cf 110 #[(tp 26), (tp 27), (tp 28), (tp 29)] #[32, 3, 3, 75]) 0]
def c86_4 : RC := .reg [] o86_4
def c86_5 : RC := .seq c86_4 .ret
def c86_6 : RC := .cond (tp 25) c86_5 .skip
def c86_7 : RC := .seq c86_3 c86_6
def o86_8 : List ROp := [
  rq 31 (.move (tp 3)) 3,
  rq 32 (.binOp .eql 3 (tp 31) (ki 0) 3) 4]
def c86_8 : RC := .reg [] o86_8
def o86_9 : List ROp := [
  rq 33 (.move (tp 0)) 32,
  rq 34 (.move (tp 1)) 3,
  rq 35 (.move (tp 2)) 3,
  rq 36 (.move (tp 4)) 75,
  rq 37 (cf 111 #[(tp 33), (tp 34), (tp 35), (tp 36)] #[32, 3, 3, 75]) 0]
def c86_9 : RC := .reg [] o86_9
def c86_10 : RC := .seq c86_9 .ret
def c86_11 : RC := .cond (tp 32) c86_10 .skip
def c86_12 : RC := .seq c86_8 c86_11
def o86_13 : List ROp := [
  rq 38 (.move (tp 10)) 4,
  rq 39 (.unOp .not 4 (tp 38)) 4]
def c86_13 : RC := .reg [] o86_13
def o86_14 : List ROp := [
  rq 40 (.move (tp 0)) 32,
  rq 41 (.move (tp 1)) 3,
  rq 42 (.move (tp 2)) 3,
  rq 43 (.move (tp 4)) 75,
  rq 44 (cf 112 #[(tp 40), (tp 41), (tp 42), (tp 43)] #[32, 3, 3, 75]) 0]
def c86_14 : RC := .reg [] o86_14
def o86_15 : List ROp := [
  rq 45 (.move (tp 3)) 3,
  rq 46 (.binOp .sub 3 (tp 45) (ki 1) 3) 3,
  rq 3 (.assign (tp 46)) 3]
def c86_15 : RC := .reg [] o86_15
def c86_16 : RC := .seq c86_14 c86_15
def c86_17 : RC := .cond (tp 39) c86_16 .skip
def c86_18 : RC := .seq c86_13 c86_17
def o86_19 : List ROp := [
  rq 48 (.move (tp 0)) 32,
  rq 49 (.move (tp 1)) 3,
  rq 50 (.move (tp 2)) 3,
  rq 51 (.move (tp 4)) 75,
  rq 52 (cf 113 #[(tp 48), (tp 49), (tp 50), (tp 51)] #[32, 3, 3, 75]) 94,
  rq 47 (.move (tp 52)) 94,
  rq 53 (.extract (tp 47) 0) 3,
  rq 54 (.extract (tp 47) 1) 93,
  rq 13 (.assign (tp 53)) 3,
  rq 14 (.assign (tp 54)) 93]
def c86_19 : RC := .reg [] o86_19
def o86_20 : List ROp := [
  rq 55 (.move (tp 14)) 93,
  rq 56 (.binOp .eql 93 (tp 55) (ki 2) 93) 4]
def c86_20 : RC := .reg [] o86_20
def o86_21 : List ROp := [
  rq 57 (.move (tp 0)) 32,
  rq 58 (.move (tp 1)) 3,
  rq 59 (.move (tp 2)) 3,
  rq 60 (.move (tp 4)) 75,
  rq 61 (cf 114 #[(tp 57), (tp 58), (tp 59), (tp 60)] #[32, 3, 3, 75]) 0]
def c86_21 : RC := .reg [] o86_21
def o86_22 : List ROp := [
  rq 62 (.move (tp 2)) 3,
  rq 63 (.binOp .sub 3 (tp 62) (ki 1) 3) 3,
  rq 64 (.move (tp 13)) 3,
  rq 65 (.move (tp 1)) 3,
  rq 66 (.binOp .sub 3 (tp 64) (tp 65) 3) 3,
  rq 67 (.binOp .sub 3 (tp 63) (tp 66) 3) 3,
  rq 13 (.assign (tp 67)) 3]
def c86_22 : RC := .reg [] o86_22
def o86_23 : List ROp := [
  rq 14 (.assign (ki 1)) 93]
def c86_23 : RC := .reg [] o86_23
def c86_24 : RC := .seq c86_22 c86_23
def c86_25 : RC := .seq c86_21 c86_24
def c86_26 : RC := .cond (tp 56) c86_25 .skip
def c86_27 : RC := .seq c86_20 c86_26
def o86_28 : List ROp := [
  rq 68 (.move (tp 10)) 4,
  rq 69 (.move (tp 68)) 4,
  rg 70 (.move (tp 11)) 4 69 true,
  rq 71 (.pick (tp 69) (tp 70) (kb false)) 4,
  rq 72 (.move (tp 71)) 4,
  rg 73 (.move (tp 14)) 93 72 true,
  rg 74 (.binOp .eql 93 (tp 73) (ki 1) 93) 4 72 true,
  rq 75 (.pick (tp 72) (tp 74) (kb false)) 4]
def c86_28 : RC := .reg [] o86_28
def o86_29 : List ROp := [
  rq 76 (.move (tp 0)) 32,
  rq 77 (.move (tp 1)) 3,
  rq 78 (.move (tp 2)) 3,
  rq 79 (.move (tp 4)) 75,
  rq 80 (cf 115 #[(tp 76), (tp 77), (tp 78), (tp 79)] #[32, 3, 3, 75]) 4]
def c86_29 : RC := .reg [] o86_29
def c86_30 : RC := .cond (tp 80) .ret .skip
def c86_31 : RC := .seq c86_29 c86_30
def c86_32 : RC := .cond (tp 75) c86_31 .skip
def c86_33 : RC := .seq c86_28 c86_32
def o86_34 : List ROp := [
  rq 81 (.move (tp 1)) 3,
  rq 82 (.binOp .gtr 3 (tp 81) (ki 0) 3) 4,
  rq 83 (.move (tp 82)) 4,
  rg 84 (.move (tp 4)) 75 83 true,
  rg 85 (.move (tp 0)) 32 83 true,
  rg 86 (.move (tp 1)) 3 83 true,
  rg 87 (.binOp .sub 3 (tp 86) (ki 1) 3) 3 83 true,
  rg 88 (.indexAddr 32 (tp 85) (tp 87)) 0 83 true,
  rg 89 (.load 22 (tp 88)) 22 83 true,
  rg 90 (.move (tp 0)) 32 83 true,
  rg 91 (.move (tp 13)) 3 83 true,
  rg 92 (.indexAddr 32 (tp 90) (tp 91)) 0 83 true,
  rg 93 (.load 22 (tp 92)) 22 83 true,
  rg 94 (.call ⟨.value (tp 84), #[(tp 89), (tp 93)], #[22, 22]⟩) 3 83 true,
  rg 95 (.binOp .lss 3 (tp 94) (ki 0) 3) 4 83 true,
  rg 96 (.unOp .not 4 (tp 95)) 4 83 true,
  rq 97 (.pick (tp 83) (tp 96) (kb false)) 4]
def c86_34 : RC := .reg [0, 1, 2, 3, 4, 5, 6, 7, 8, 9, 10, 11, 12, 13, 14, 15, 16] o86_34
def o86_35 : List ROp := [
  rq 98 (.move (tp 0)) 32,
  rq 99 (.move (tp 1)) 3,
  rq 100 (.move (tp 2)) 3,
  rq 101 (.move (tp 13)) 3,
  rq 102 (.move (tp 4)) 75,
  rq 103 (cf 116 #[(tp 98), (tp 99), (tp 100), (tp 101), (tp 102)] #[32, 3, 3, 3, 75]) 3,
  rq 15 (.assign (tp 103)) 3]
def c86_35 : RC := .reg [] o86_35
def o86_36 : List ROp := [
  rq 104 (.move (tp 15)) 3,
  rq 1 (.assign (tp 104)) 3]
def c86_36 : RC := .reg [] o86_36
def c86_37 : RC := .seq c86_36 (.exit 1)
def c86_38 : RC := .seq c86_35 c86_37
def c86_39 : RC := .cond (tp 97) c86_38 .skip
def c86_40 : RC := .seq c86_34 c86_39
def o86_41 : List ROp := [
  rq 106 (.move (tp 0)) 32,
  rq 107 (.move (tp 1)) 3,
  rq 108 (.move (tp 2)) 3,
  rq 109 (.move (tp 13)) 3,
  rq 110 (.move (tp 4)) 75,
  rq 111 (cf 117 #[(tp 106), (tp 107), (tp 108), (tp 109), (tp 110)] #[32, 3, 3, 3, 75]) 98,
  rq 105 (.move (tp 111)) 98,
  rq 112 (.extract (tp 105) 0) 3,
  rq 113 (.extract (tp 105) 1) 4,
  rq 16 (.assign (tp 112)) 3,
  rq 17 (.assign (tp 113)) 4]
def c86_41 : RC := .reg [] o86_41
def o86_42 : List ROp := [
  rq 114 (.move (tp 17)) 4,
  rq 11 (.assign (tp 114)) 4]
def c86_42 : RC := .reg [] o86_42
def o86_43 : List ROp := [
  rq 115 (.move (tp 16)) 3,
  rq 116 (.move (tp 1)) 3,
  rq 117 (.binOp .sub 3 (tp 115) (tp 116) 3) 3,
  rq 118 (.move (tp 2)) 3,
  rq 119 (.move (tp 16)) 3,
  rq 120 (.binOp .sub 3 (tp 118) (tp 119) 3) 3,
  rq 18 (.assign (tp 117)) 3,
  rq 19 (.assign (tp 120)) 3]
def c86_43 : RC := .reg [] o86_43
def o86_44 : List ROp := [
  rq 121 (.move (tp 12)) 3,
  rq 122 (.binOp .quo 3 (tp 121) (ki 8) 3) 3,
  rq 20 (.assign (tp 122)) 3]
def c86_44 : RC := .reg [] o86_44
def o86_45 : List ROp := [
  rq 123 (.move (tp 18)) 3,
  rq 124 (.move (tp 19)) 3,
  rq 125 (.binOp .lss 3 (tp 123) (tp 124) 3) 4]
def c86_45 : RC := .reg [] o86_45
def o86_46 : List ROp := [
  rq 126 (.move (tp 18)) 3,
  rq 127 (.move (tp 20)) 3,
  rq 128 (.binOp .geq 3 (tp 126) (tp 127) 3) 4,
  rq 10 (.assign (tp 128)) 4]
def c86_46 : RC := .reg [] o86_46
def o86_47 : List ROp := [
  rq 129 (.move (tp 0)) 32,
  rq 130 (.move (tp 1)) 3,
  rq 131 (.move (tp 16)) 3,
  rq 132 (.move (tp 3)) 3,
  rq 133 (.move (tp 4)) 75,
  rq 134 (cf 86 #[(tp 129), (tp 130), (tp 131), (tp 132), (tp 133)] #[32, 3, 3, 3, 75]) 0]
def c86_47 : RC := .reg [] o86_47
def o86_48 : List ROp := [
  rq 135 (.move (tp 16)) 3,
  rq 136 (.binOp .add 3 (tp 135) (ki 1) 3) 3,
  rq 1 (.assign (tp 136)) 3]
def c86_48 : RC := .reg [] o86_48
def c86_49 : RC := .seq c86_47 c86_48
def c86_50 : RC := .seq c86_46 c86_49
def o86_51 : List ROp := [
  rq 137 (.move (tp 19)) 3,
  rq 138 (.move (tp 20)) 3,
  rq 139 (.binOp .geq 3 (tp 137) (tp 138) 3) 4,
  rq 10 (.assign (tp 139)) 4]
def c86_51 : RC := .reg [] o86_51
def o86_52 : List ROp := [
  rq 140 (.move (tp 0)) 32,
  rq 141 (.move (tp 16)) 3,
  rq 142 (.binOp .add 3 (tp 141) (ki 1) 3) 3,
  rq 143 (.move (tp 2)) 3,
  rq 144 (.move (tp 3)) 3,
  rq 145 (.move (tp 4)) 75,
  rq 146 (cf 86 #[(tp 140), (tp 142), (tp 143), (tp 144), (tp 145)] #[32, 3, 3, 3, 75]) 0]
def c86_52 : RC := .reg [] o86_52
def o86_53 : List ROp := [
  rq 147 (.move (tp 16)) 3,
  rq 2 (.assign (tp 147)) 3]
def c86_53 : RC := .reg [] o86_53
def c86_54 : RC := .seq c86_52 c86_53
def c86_55 : RC := .seq c86_51 c86_54
def c86_56 : RC := .cond (tp 125) c86_50 c86_55
def c86_57 : RC := .seq c86_45 c86_56
def c86_58 : RC := .seq c86_44 c86_57
def c86_59 : RC := .seq c86_43 c86_58
def c86_60 : RC := .seq c86_42 c86_59
def c86_61 : RC := .seq c86_41 c86_60
def c86_62 : RC := .seq c86_40 c86_61
def c86_63 : RC := .seq c86_33 c86_62
def c86_64 : RC := .seq c86_27 c86_63
def c86_65 : RC := .seq c86_19 c86_64
def c86_66 : RC := .seq c86_18 c86_65
def c86_67 : RC := .seq c86_12 c86_66
def c86_68 : RC := .seq c86_7 c86_67
def c86_69 : RC := .seq c86_2 c86_68
def c86_70 : RC := .block 1 c86_69
def c86_71 : RC := .loop c86_70
def c86_72 : RC := .block 0 c86_71
def c86_73 : RC := .seq c86_1 c86_72
def c86_74 : RC := .seq c86_0 c86_73
def o110_0 : List ROp := [
  rq 10 (.move (tp 1)) 3,
  rq 11 (.binOp .add 3 (tp 10) (ki 1) 3) 3,
  rq 8 (.assign (tp 11)) 3]
def c110_0 : RC := .reg [] o110_0
def o110_1 : List ROp := [
  rq 12 (.move (tp 8)) 3,
  rq 13 (.move (tp 2)) 3,
  rq 14 (.binOp .lss 3 (tp 12) (tp 13) 3) 4]
def c110_1 : RC := .reg [] o110_1
def c110_2 : RC := .cond (tp 14) .skip (.exit 0)
def c110_3 : RC := .seq c110_1 c110_2
def o110_4 : List ROp := [
  rq 17 (.move (tp 8)) 3,
  rq 9 (.assign (tp 17)) 3]
def c110_4 : RC := .reg [] o110_4
def o110_5 : List ROp := [
  rq 18 (.move (tp 9)) 3,
  rq 19 (.move (tp 1)) 3,
  rq 20 (.binOp .gtr 3 (tp 18) (tp 19) 3) 4,
  rq 21 (.move (tp 20)) 4,
  rg 22 (.move (tp 3)) 75 21 true,
  rg 23 (.move (tp 0)) 32 21 true,
  rg 24 (.move (tp 9)) 3 21 true,
  rg 25 (.indexAddr 32 (tp 23) (tp 24)) 0 21 true,
  rg 26 (.load 22 (tp 25)) 22 21 true,
  rg 27 (.move (tp 0)) 32 21 true,
  rg 28 (.move (tp 9)) 3 21 true,
  rg 29 (.binOp .sub 3 (tp 28) (ki 1) 3) 3 21 true,
  rg 30 (.indexAddr 32 (tp 27) (tp 29)) 0 21 true,
  rg 31 (.load 22 (tp 30)) 22 21 true,
  rg 32 (.call ⟨.value (tp 22), #[(tp 26), (tp 31)], #[22, 22]⟩) 3 21 true,
  rg 33 (.binOp .lss 3 (tp 32) (ki 0) 3) 4 21 true,
  rq 34 (.pick (tp 21) (tp 33) (kb false)) 4]
def c110_5 : RC := .reg [0, 1, 2, 3, 4, 5, 6, 7, 8, 9, 10, 11, 12, 13, 14, 15, 16] o110_5
def c110_6 : RC := .cond (tp 34) .skip (.exit 2)
def c110_7 : RC := .seq c110_5 c110_6
def o110_8 : List ROp := [
  rq 37 (.move (tp 0)) 32,
  rq 38 (.move (tp 9)) 3,
  rq 39 (.move (tp 0)) 32,
  rq 40 (.move (tp 9)) 3,
  rq 41 (.binOp .sub 3 (tp 40) (ki 1) 3) 3,
  rq 42 (.move (tp 0)) 32,
  rq 43 (.move (tp 9)) 3,
  rq 44 (.binOp .sub 3 (tp 43) (ki 1) 3) 3,
  rq 45 (.indexAddr 32 (tp 42) (tp 44)) 0,
  rq 46 (.load 22 (tp 45)) 22,
  rq 47 (.move (tp 0)) 32,
  rq 48 (.move (tp 9)) 3,
  rq 49 (.indexAddr 32 (tp 47) (tp 48)) 0,
  rq 50 (.load 22 (tp 49)) 22,
  rq 51 (.indexAddr 32 (tp 37) (tp 38)) 0,
  rn (.store 22 (tp 51) (tp 46)) 0,
  rq 52 (.indexAddr 32 (tp 39) (tp 41)) 0,
  rn (.store 22 (tp 52) (tp 50)) 0]
def c110_8 : RC := .reg [0, 1, 2, 3, 4, 5, 6, 7, 8, 9, 10, 11, 12, 13, 14, 15, 16, 17] o110_8
def c110_9 : RC := .block 3 c110_8
def o110_10 : List ROp := [
  rq 35 (.move (tp 9)) 3,
  rq 36 (.binOp .sub 3 (tp 35) (ki 1) 3) 3,
  rq 9 (.assign (tp 36)) 3]
def c110_10 : RC := .reg [] o110_10
def c110_11 : RC := .seq c110_9 c110_10
def c110_12 : RC := .seq c110_7 c110_11
def c110_13 : RC := .loop c110_12
def c110_14 : RC := .block 2 c110_13
def c110_15 : RC := .seq c110_4 c110_14
def c110_16 : RC := .block 1 c110_15
def o110_17 : List ROp := [
  rq 15 (.move (tp 8)) 3,
  rq 16 (.binOp .add 3 (tp 15) (ki 1) 3) 3,
  rq 8 (.assign (tp 16)) 3]
def c110_17 : RC := .reg [] o110_17
def c110_18 : RC := .seq c110_16 c110_17
def c110_19 : RC := .seq c110_3 c110_18
def c110_20 : RC := .loop c110_19
def c110_21 : RC := .block 0 c110_20
def c110_22 : RC := .seq c110_0 c110_21
end Go.HpL
