/- Slim code of the functions that have a model, piece by piece: MADE BY PROGRAM (wip/tools/dec.py). -/
import Derived.Test.YthcmfnmmgejnaaaSpFramex

set_option maxRecDepth 100000
namespace Go.HpB
open Go.Sp
def o3_0 : List ROp := [
  rq 2 (.assign (kb false)) 4]
def c3_0 : RC := .reg [] o3_0
def o3_1 : List ROp := [
  rq 7 (.move (tp 0)) 22,
  rq 8 (cf 5 #[(tp 7)] #[22]) 4]
def c3_1 : RC := .reg [] o3_1
def o3_2 : List ROp := [
  rq 9 (cf 6 #[] #[]) 4,
  rq 2 (.assign (tp 9)) 4]
def c3_2 : RC := .reg [] o3_2
def c3_3 : RC := .seq c3_2 .ret
def c3_4 : RC := .cond (tp 8) c3_3 .skip
def c3_5 : RC := .seq c3_1 c3_4
def o3_6 : List ROp := [
  rq 11 (.move (tp 0)) 22,
  rq 12 (cf 7 #[(tp 11)] #[22]) 27,
  rq 10 (.move (tp 12)) 27,
  rq 13 (.extract (tp 10) 0) 25,
  rq 14 (.extract (tp 10) 1) 26,
  rq 3 (.assign (tp 13)) 25,
  rq 4 (.assign (tp 14)) 26]
def c3_6 : RC := .reg [] o3_6
def o3_7 : List ROp := [
  rq 16 (.move (tp 0)) 22,
  rq 17 (cf 8 #[(tp 16)] #[22]) 27,
  rq 15 (.move (tp 17)) 27,
  rq 18 (.extract (tp 15) 0) 25,
  rq 19 (.extract (tp 15) 1) 26,
  rq 5 (.assign (tp 18)) 25,
  rq 6 (.assign (tp 19)) 26]
def c3_7 : RC := .reg [] o3_7
def o3_8 : List ROp := [
  rq 20 (.move (tp 3)) 25,
  rq 21 (.move (tp 5)) 25,
  rq 22 (cf 9 #[(tp 20), (tp 21)] #[25, 25]) 4,
  rq 23 (.move (tp 22)) 4,
  rg 24 (.move (tp 4)) 26 23 true,
  rg 25 (.move (tp 6)) 26 23 true,
  rg 26 (.binOp .eql 26 (tp 24) (tp 25) 26) 4 23 true,
  rq 27 (.pick (tp 23) (tp 26) (kb false)) 4,
  rq 28 (.move (tp 27)) 4,
  rg 29 (cf 6 #[] #[]) 4 28 true,
  rq 30 (.pick (tp 28) (tp 29) (kb false)) 4,
  rq 2 (.assign (tp 30)) 4]
def c3_8 : RC := .reg [] o3_8
def c3_9 : RC := .seq c3_8 .ret
def c3_10 : RC := .seq c3_7 c3_9
def c3_11 : RC := .seq c3_6 c3_10
def c3_12 : RC := .seq c3_5 c3_11
def c3_13 : RC := .seq c3_0 c3_12
def o5_0 : List ROp := [
  rq 2 (.assign (kb false)) 4]
def c5_0 : RC := .reg [] o5_0
def o5_1 : List ROp := [
  rq 3 (.move (tp 0)) 22,
  rq 4 (cb .len #[(tp 3)] #[22]) 3,
  rq 5 (.binOp .gtr 3 (tp 4) (ki 60) 3) 4,
  rq 2 (.assign (tp 5)) 4]
def c5_1 : RC := .reg [] o5_1
def c5_2 : RC := .seq c5_1 .ret
def c5_3 : RC := .seq c5_0 c5_2
def o7_0 : List ROp := [
  rq 2 (.assign (.const (.slice none 0 0))) 25,
  rq 3 (.assign (ki 0)) 26]
def c7_0 : RC := .reg [] o7_0
def o7_1 : List ROp := [
  rq 5 (.move (tp 0)) 22,
  rq 6 (cf 26 #[(tp 5)] #[22]) 26,
  rq 4 (.assign (tp 6)) 26]
def c7_1 : RC := .reg [] o7_1
def o7_2 : List ROp := [
  rq 7 (.move (tp 4)) 26,
  rq 8 (.binOp .neq 26 (tp 7) (ki 0) 26) 4]
def c7_2 : RC := .reg [] o7_2
def o7_3 : List ROp := [
  rq 9 (.move (tp 4)) 26,
  rq 2 (.assign (.const (.slice none 0 0))) 25,
  rq 3 (.assign (tp 9)) 26]
def c7_3 : RC := .reg [] o7_3
def c7_4 : RC := .seq c7_3 .ret
def c7_5 : RC := .cond (tp 8) c7_4 .skip
def c7_6 : RC := .seq c7_2 c7_5
def c7_7 : RC := .seq c7_1 c7_6
def o7_8 : List ROp := [
  rq 10 (.move (tp 0)) 22,
  rq 11 (cf 27 #[(tp 10)] #[22]) 48,
  rq 12 (cf 28 #[(tp 11)] #[48]) 25,
  rq 2 (.assign (tp 12)) 25,
  rq 3 (.assign (ki 0)) 26]
def c7_8 : RC := .reg [] o7_8
def c7_9 : RC := .seq c7_8 .ret
def c7_10 : RC := .seq c7_7 c7_9
def c7_11 : RC := .seq c7_0 c7_10
def o8_0 : List ROp := [
  rq 2 (.assign (.const (.slice none 0 0))) 25,
  rq 3 (.assign (ki 0)) 26]
def c8_0 : RC := .reg [] o8_0
def o8_1 : List ROp := [
  rq 8 (.move (tp 0)) 22,
  rq 9 (cf 29 #[(tp 8)] #[22]) 26,
  rq 4 (.assign (tp 9)) 26]
def c8_1 : RC := .reg [] o8_1
def o8_2 : List ROp := [
  rq 10 (.move (tp 4)) 26,
  rq 11 (.binOp .neq 26 (tp 10) (ki 0) 26) 4]
def c8_2 : RC := .reg [] o8_2
def o8_3 : List ROp := [
  rq 12 (.move (tp 4)) 26,
  rq 2 (.assign (.const (.slice none 0 0))) 25,
  rq 3 (.assign (tp 12)) 26]
def c8_3 : RC := .reg [] o8_3
def c8_4 : RC := .seq c8_3 .ret
def c8_5 : RC := .cond (tp 11) c8_4 .skip
def c8_6 : RC := .seq c8_2 c8_5
def o8_7 : List ROp := [
  rq 5 (.assign (.const (.slice none 0 0))) 25]
def c8_7 : RC := .reg [] o8_7
def o8_8 : List ROp := [
  rq 13 (.move (tp 0)) 22,
  rq 14 (cf 31 #[(tp 13)] #[22]) 3,
  rq 15 (cf 30 #[(tp 14), (ki 21)] #[3, 3]) 25,
  rq 6 (.assign (tp 15)) 25]
def c8_8 : RC := .reg [] o8_8
def o8_9 : List ROp := [
  rq 7 (.assign (ki 0)) 3]
def c8_9 : RC := .reg [] o8_9
def o8_10 : List ROp := [
  rq 16 (.move (tp 7)) 3,
  rq 17 (.move (tp 6)) 25,
  rq 18 (cb .len #[(tp 17)] #[25]) 3,
  rq 19 (.binOp .lss 3 (tp 16) (tp 18) 3) 4]
def c8_10 : RC := .reg [] o8_10
def c8_11 : RC := .cond (tp 19) .skip (.exit 0)
def c8_12 : RC := .seq c8_10 c8_11
def o8_13 : List ROp := [
  rq 22 (.move (tp 6)) 25,
  rq 23 (.move (tp 7)) 3,
  rq 24 (.indexAddr 25 (tp 22) (tp 23)) 0,
  rq 25 (.load 22 (tp 24)) 22,
  rq 26 (cf 33 #[(tp 25)] #[22]) 22,
  rq 27 (.move (tp 0)) 22,
  rq 28 (cf 32 #[(tp 26), (tp 27)] #[22, 22]) 4]
def c8_13 : RC := .reg [] o8_13
def o8_14 : List ROp := [
  rq 29 (.move (tp 5)) 25,
  rq 30 (.move (tp 6)) 25,
  rq 31 (.move (tp 7)) 3,
  rq 32 (.indexAddr 25 (tp 30) (tp 31)) 0,
  rq 33 (.load 22 (tp 32)) 22,
  rq 34 (.buildSlice 25 1 #[(0, (tp 33))]) 25,
  rq 35 (cb .append #[(tp 29), (tp 34)] #[25, 25]) 25,
  rq 5 (.assign (tp 35)) 25]
def c8_14 : RC := .reg [] o8_14
def c8_15 : RC := .cond (tp 28) c8_14 .skip
def c8_16 : RC := .seq c8_13 c8_15
def c8_17 : RC := .block 1 c8_16
def o8_18 : List ROp := [
  rq 20 (.move (tp 7)) 3,
  rq 21 (.binOp .add 3 (tp 20) (ki 1) 3) 3,
  rq 7 (.assign (tp 21)) 3]
def c8_18 : RC := .reg [] o8_18
def c8_19 : RC := .seq c8_17 c8_18
def c8_20 : RC := .seq c8_12 c8_19
def c8_21 : RC := .loop c8_20
def c8_22 : RC := .block 0 c8_21
def c8_23 : RC := .seq c8_9 c8_22
def o8_24 : List ROp := [
  rq 36 (.move (tp 5)) 25,
  rq 2 (.assign (tp 36)) 25,
  rq 3 (.assign (ki 0)) 26]
def c8_24 : RC := .reg [] o8_24
def c8_25 : RC := .seq c8_24 .ret
def c8_26 : RC := .seq c8_23 c8_25
def c8_27 : RC := .seq c8_8 c8_26
def c8_28 : RC := .seq c8_7 c8_27
def c8_29 : RC := .seq c8_6 c8_28
def c8_30 : RC := .seq c8_1 c8_29
def c8_31 : RC := .seq c8_0 c8_30
def o9_0 : List ROp := [
  rq 4 (.assign (kb false)) 4]
def c9_0 : RC := .reg [] o9_0
def o9_1 : List ROp := [
  rq 6 (.move (tp 0)) 25,
  rq 7 (cb .len #[(tp 6)] #[25]) 3,
  rq 8 (.move (tp 1)) 25,
  rq 9 (cb .len #[(tp 8)] #[25]) 3,
  rq 10 (.binOp .neq 3 (tp 7) (tp 9) 3) 4]
def c9_1 : RC := .reg [] o9_1
def o9_2 : List ROp := [
  rq 4 (.assign (kb false)) 4]
def c9_2 : RC := .reg [] o9_2
def c9_3 : RC := .seq c9_2 .ret
def c9_4 : RC := .cond (tp 10) c9_3 .skip
def c9_5 : RC := .seq c9_1 c9_4
def o9_6 : List ROp := [
  rq 5 (.assign (ki 0)) 3]
def c9_6 : RC := .reg [] o9_6
def o9_7 : List ROp := [
  rq 11 (.move (tp 5)) 3,
  rq 12 (.move (tp 0)) 25,
  rq 13 (cb .len #[(tp 12)] #[25]) 3,
  rq 14 (.binOp .lss 3 (tp 11) (tp 13) 3) 4]
def c9_7 : RC := .reg [] o9_7
def c9_8 : RC := .cond (tp 14) .skip (.exit 0)
def c9_9 : RC := .seq c9_7 c9_8
def o9_10 : List ROp := [
  rq 17 (.move (tp 0)) 25,
  rq 18 (.move (tp 5)) 3,
  rq 19 (.indexAddr 25 (tp 17) (tp 18)) 0,
  rq 20 (.load 22 (tp 19)) 22,
  rq 21 (.move (tp 1)) 25,
  rq 22 (.move (tp 5)) 3,
  rq 23 (.indexAddr 25 (tp 21) (tp 22)) 0,
  rq 24 (.load 22 (tp 23)) 22,
  rq 25 (cf 24 #[(tp 20), (tp 24)] #[22, 22]) 4,
  rq 26 (.unOp .not 4 (tp 25)) 4]
def c9_10 : RC := .reg [0, 1, 2, 3, 4, 5, 6, 7, 8, 9] o9_10
def o9_11 : List ROp := [
  rq 4 (.assign (kb false)) 4]
def c9_11 : RC := .reg [] o9_11
def c9_12 : RC := .seq c9_11 .ret
def c9_13 : RC := .cond (tp 26) c9_12 .skip
def c9_14 : RC := .seq c9_10 c9_13
def c9_15 : RC := .block 1 c9_14
def o9_16 : List ROp := [
  rq 15 (.move (tp 5)) 3,
  rq 16 (.binOp .add 3 (tp 15) (ki 1) 3) 3,
  rq 5 (.assign (tp 16)) 3]
def c9_16 : RC := .reg [] o9_16
def c9_17 : RC := .seq c9_15 c9_16
def c9_18 : RC := .seq c9_9 c9_17
def c9_19 : RC := .loop c9_18
def c9_20 : RC := .block 0 c9_19
def c9_21 : RC := .seq c9_6 c9_20
def o9_22 : List ROp := [
  rq 4 (.assign (kb true)) 4]
def c9_22 : RC := .reg [] o9_22
def c9_23 : RC := .seq c9_22 .ret
def c9_24 : RC := .seq c9_21 c9_23
def c9_25 : RC := .seq c9_5 c9_24
def c9_26 : RC := .seq c9_0 c9_25
def o24_0 : List ROp := [
  rq 4 (.assign (kb false)) 4]
def c24_0 : RC := .reg [] o24_0
def o24_1 : List ROp := [
  rq 6 (.move (tp 0)) 22,
  rq 7 (cb .len #[(tp 6)] #[22]) 3,
  rq 8 (.move (tp 1)) 22,
  rq 9 (cb .len #[(tp 8)] #[22]) 3,
  rq 10 (.binOp .neq 3 (tp 7) (tp 9) 3) 4]
def c24_1 : RC := .reg [] o24_1
def o24_2 : List ROp := [
  rq 4 (.assign (kb false)) 4]
def c24_2 : RC := .reg [] o24_2
def c24_3 : RC := .seq c24_2 .ret
def c24_4 : RC := .cond (tp 10) c24_3 .skip
def c24_5 : RC := .seq c24_1 c24_4
def o24_6 : List ROp := [
  rq 5 (.assign (ki 0)) 3]
def c24_6 : RC := .reg [] o24_6
def o24_7 : List ROp := [
  rq 11 (.move (tp 5)) 3,
  rq 12 (.move (tp 0)) 22,
  rq 13 (cb .len #[(tp 12)] #[22]) 3,
  rq 14 (.binOp .lss 3 (tp 11) (tp 13) 3) 4]
def c24_7 : RC := .reg [] o24_7
def c24_8 : RC := .cond (tp 14) .skip (.exit 0)
def c24_9 : RC := .seq c24_7 c24_8
def o24_10 : List ROp := [
  rq 17 (.move (tp 0)) 22,
  rq 18 (.move (tp 5)) 3,
  rq 19 (.indexAddr 22 (tp 17) (tp 18)) 0,
  rq 20 (.load 3 (tp 19)) 3,
  rq 21 (.move (tp 1)) 22,
  rq 22 (.move (tp 5)) 3,
  rq 23 (.indexAddr 22 (tp 21) (tp 22)) 0,
  rq 24 (.load 3 (tp 23)) 3,
  rq 25 (.binOp .neq 3 (tp 20) (tp 24) 3) 4]
def c24_10 : RC := .reg [0, 1, 2, 3, 4, 5, 6, 7, 8] o24_10
def o24_11 : List ROp := [
  rq 4 (.assign (kb false)) 4]
def c24_11 : RC := .reg [] o24_11
def c24_12 : RC := .seq c24_11 .ret
def c24_13 : RC := .cond (tp 25) c24_12 .skip
def c24_14 : RC := .seq c24_10 c24_13
def c24_15 : RC := .block 1 c24_14
def o24_16 : List ROp := [
  rq 15 (.move (tp 5)) 3,
  rq 16 (.binOp .add 3 (tp 15) (ki 1) 3) 3,
  rq 5 (.assign (tp 16)) 3]
def c24_16 : RC := .reg [] o24_16
def c24_17 : RC := .seq c24_15 c24_16
def c24_18 : RC := .seq c24_9 c24_17
def c24_19 : RC := .loop c24_18
def c24_20 : RC := .block 0 c24_19
def c24_21 : RC := .seq c24_6 c24_20
def o24_22 : List ROp := [
  rq 4 (.assign (kb true)) 4]
def c24_22 : RC := .reg [] o24_22
def c24_23 : RC := .seq c24_22 .ret
def c24_24 : RC := .seq c24_21 c24_23
def c24_25 : RC := .seq c24_5 c24_24
def c24_26 : RC := .seq c24_0 c24_25
def o26_0 : List ROp := [
  rq 2 (.assign (ki 0)) 26]
def c26_0 : RC := .reg [] o26_0
def o26_1 : List ROp := [
  rq 7 (.move (tp 0)) 22,
  rq 8 (cb .len #[(tp 7)] #[22]) 3,
  rq 9 (.binOp .eql 3 (tp 8) (ki 0) 3) 4]
def c26_1 : RC := .reg [] o26_1
def o26_2 : List ROp := [
  rq 2 (.assign (ki 4)) 26]
def c26_2 : RC := .reg [] o26_2
def c26_3 : RC := .seq c26_2 .ret
def c26_4 : RC := .cond (tp 9) c26_3 .skip
def c26_5 : RC := .seq c26_1 c26_4
def o26_6 : List ROp := [
  rq 3 (.assign (ki 0)) 3,
  rq 4 (.assign (ki 21)) 3]
def c26_6 : RC := .reg [] o26_6
def o26_7 : List ROp := [
  rq 10 (.move (tp 0)) 22,
  rq 11 (cb .len #[(tp 10)] #[22]) 3,
  rq 12 (.move (ki 0)) 3]
def c26_7 : RC := .reg [] o26_7
def o26_8 : List ROp := [
  rq 13 (.binOp .lss 3 (tp 12) (tp 11) 3) 0]
def c26_8 : RC := .reg [] o26_8
def c26_9 : RC := .cond (tp 13) .skip (.exit 0)
def o26_10 : List ROp := [
  rq 14 (.indexAddr 22 (tp 10) (tp 12)) 0,
  rq 15 (.load 3 (tp 14)) 3,
  rq 6 (.assign (tp 15)) 3]
def c26_10 : RC := .reg [] o26_10
def o26_11 : List ROp := [
  rq 17 (.move (tp 6)) 3,
  rq 18 (cf 42 #[(ki 1), (tp 17), (ki 21)] #[3, 3, 3]) 4,
  rq 19 (.unOp .not 4 (tp 18)) 4,
  rq 16 (.assign (tp 19)) 4]
def c26_11 : RC := .reg [] o26_11
def o26_12 : List ROp := [
  rq 2 (.assign (ki 1)) 26]
def c26_12 : RC := .reg [] o26_12
def c26_13 : RC := .seq c26_12 .ret
def o26_14 : List ROp := [
  rq 21 (.move (tp 6)) 3,
  rq 22 (.move (tp 4)) 3,
  rq 23 (.binOp .gtr 3 (tp 21) (tp 22) 3) 4,
  rq 20 (.assign (tp 23)) 4]
def c26_14 : RC := .reg [] o26_14
def o26_15 : List ROp := [
  rq 2 (.assign (ki 7)) 26]
def c26_15 : RC := .reg [] o26_15
def c26_16 : RC := .seq c26_15 .ret
def c26_17 : RC := .cond (tp 20) c26_16 .skip
def c26_18 : RC := .seq c26_14 c26_17
def c26_19 : RC := .cond (tp 16) c26_13 c26_18
def c26_20 : RC := .seq c26_11 c26_19
def c26_21 : RC := .block 2 c26_20
def o26_22 : List ROp := [
  rq 24 (.move (tp 6)) 3,
  rq 4 (.assign (tp 24)) 3]
def c26_22 : RC := .reg [] o26_22
def o26_23 : List ROp := [
  rq 25 (.move (tp 3)) 3,
  rq 26 (.move (tp 6)) 3,
  rq 27 (.binOp .add 3 (tp 25) (tp 26) 3) 3,
  rq 28 (cb .min #[(tp 27), (ki 22)] #[3, 3]) 3,
  rq 3 (.assign (tp 28)) 3]
def c26_23 : RC := .reg [] o26_23
def c26_24 : RC := .seq c26_22 c26_23
def c26_25 : RC := .seq c26_21 c26_24
def c26_26 : RC := .seq c26_10 c26_25
def c26_27 : RC := .block 1 c26_26
def o26_28 : List ROp := [
  rq 29 (.binOp .add 3 (tp 12) (ki 1) 3) 3,
  rq 12 (.move (tp 29)) 3]
def c26_28 : RC := .reg [] o26_28
def c26_29 : RC := .seq c26_27 c26_28
def c26_30 : RC := .seq c26_9 c26_29
def c26_31 : RC := .seq c26_8 c26_30
def c26_32 : RC := .loop c26_31
def c26_33 : RC := .block 0 c26_32
def c26_34 : RC := .seq c26_7 c26_33
def o26_35 : List ROp := [
  rq 30 (.move (tp 3)) 3,
  rq 31 (.binOp .gtr 3 (tp 30) (ki 21) 3) 4]
def c26_35 : RC := .reg [] o26_35
def o26_36 : List ROp := [
  rq 2 (.assign (ki 3)) 26]
def c26_36 : RC := .reg [] o26_36
def c26_37 : RC := .seq c26_36 .ret
def c26_38 : RC := .cond (tp 31) c26_37 .skip
def c26_39 : RC := .seq c26_35 c26_38
def o26_40 : List ROp := [
  rq 2 (.assign (ki 0)) 26]
def c26_40 : RC := .reg [] o26_40
def c26_41 : RC := .seq c26_40 .ret
def c26_42 : RC := .seq c26_39 c26_41
def c26_43 : RC := .seq c26_34 c26_42
def c26_44 : RC := .seq c26_6 c26_43
def c26_45 : RC := .seq c26_5 c26_44
def c26_46 : RC := .seq c26_0 c26_45
def o27_0 : List ROp := [
  rq 2 (.alloc 48) 0]
def c27_0 : RC := .reg [] o27_0
def o27_1 : List ROp := [
  rq 3 (.alloc 48) 0]
def c27_1 : RC := .reg [] o27_1
def o27_2 : List ROp := [
  rq 6 (.move (tp 0)) 22,
  rq 7 (cb .len #[(tp 6)] #[22]) 3,
  rq 8 (.move (ki 0)) 3]
def c27_2 : RC := .reg [] o27_2
def o27_3 : List ROp := [
  rq 9 (.binOp .lss 3 (tp 8) (tp 7) 3) 0]
def c27_3 : RC := .reg [] o27_3
def c27_4 : RC := .cond (tp 9) .skip (.exit 0)
def o27_5 : List ROp := [
  rq 10 (.indexAddr 22 (tp 6) (tp 8)) 0,
  rq 11 (.load 3 (tp 10)) 3,
  rq 5 (.assign (tp 11)) 3]
def c27_5 : RC := .reg [] o27_5
def o27_6 : List ROp := [
  rq 12 (.move (tp 5)) 3,
  rq 13 (.indexAddr 48 (tp 3) (tp 12)) 0,
  rq 14 (.load 3 (tp 13)) 3,
  rq 15 (.binOp .add 3 (tp 14) (ki 1) 3) 3,
  rq 16 (.indexAddr 48 (tp 3) (tp 12)) 0,
  rn (.store 3 (tp 16) (tp 15)) 0]
def c27_6 : RC := .reg [] o27_6
def c27_7 : RC := .seq c27_5 c27_6
def c27_8 : RC := .block 1 c27_7
def o27_9 : List ROp := [
  rq 17 (.binOp .add 3 (tp 8) (ki 1) 3) 3,
  rq 8 (.move (tp 17)) 3]
def c27_9 : RC := .reg [] o27_9
def c27_10 : RC := .seq c27_8 c27_9
def c27_11 : RC := .seq c27_4 c27_10
def c27_12 : RC := .seq c27_3 c27_11
def c27_13 : RC := .loop c27_12
def c27_14 : RC := .block 0 c27_13
def c27_15 : RC := .seq c27_2 c27_14
def o27_16 : List ROp := [
  rq 18 (.load 48 (tp 3)) 48,
  rn (.store 48 (tp 2) (tp 18)) 0]
def c27_16 : RC := .reg [] o27_16
def c27_17 : RC := .seq c27_16 .ret
def c27_18 : RC := .seq c27_15 c27_17
def c27_19 : RC := .seq c27_1 c27_18
def c27_20 : RC := .seq c27_0 c27_19
def o28_0 : List ROp := [
  rq 1 (.box 48 (tp 0)) 0,
  rq 2 (.assign (.const (.slice none 0 0))) 25]
def c28_0 : RC := .reg [] o28_0
def o28_1 : List ROp := [
  rq 8 (.load 48 (tp 1)) 48,
  rq 9 (cf 57 #[(tp 8)] #[48]) 3,
  rq 10 (.binOp .sub 3 (tp 9) (ki 1) 3) 3,
  rq 3 (.assign (tp 10)) 3]
def c28_1 : RC := .reg [] o28_1
def o28_2 : List ROp := [
  rq 4 (.assign (.const (.slice none 0 0))) 25]
def c28_2 : RC := .reg [] o28_2
def o28_3 : List ROp := [
  rq 11 (.move (tp 3)) 3,
  rq 12 (cb .max #[(tp 11), (ki 1)] #[3, 3]) 3,
  rq 5 (.assign (tp 12)) 3]
def c28_3 : RC := .reg [] o28_3
def o28_4 : List ROp := [
  rq 13 (.move (tp 5)) 3,
  rq 14 (.binOp .leq 3 (tp 13) (ki 21) 3) 4]
def c28_4 : RC := .reg [] o28_4
def c28_5 : RC := .cond (tp 14) .skip (.exit 0)
def c28_6 : RC := .seq c28_4 c28_5
def o28_7 : List ROp := [
  rq 17 (.move (tp 5)) 3,
  rq 18 (.indexAddr 48 (tp 1) (tp 17)) 0,
  rq 19 (.load 3 (tp 18)) 3,
  rq 20 (.binOp .eql 3 (tp 19) (ki 0) 3) 4]
def c28_7 : RC := .reg [] o28_7
def c28_8 : RC := .cond (tp 20) (.exit 1) .skip
def c28_9 : RC := .seq c28_7 c28_8
def o28_10 : List ROp := [
  rq 21 (.load 48 (tp 1)) 48,
  rq 6 (.alloc 48) 0,
  rn (.store 48 (tp 6) (tp 21)) 0]
def c28_10 : RC := .reg [] o28_10
def o28_11 : List ROp := [
  rq 22 (.move (tp 5)) 3,
  rq 23 (.indexAddr 48 (tp 6) (tp 22)) 0,
  rq 24 (.load 3 (tp 23)) 3,
  rq 25 (.binOp .sub 3 (tp 24) (ki 1) 3) 3,
  rq 26 (.indexAddr 48 (tp 6) (tp 22)) 0,
  rn (.store 3 (tp 26) (tp 25)) 0]
def c28_11 : RC := .reg [] o28_11
def o28_12 : List ROp := [
  rq 7 (.alloc 48) 0]
def c28_12 : RC := .reg [] o28_12
def o28_13 : List ROp := [
  rq 27 (.slice 48 (tp 7) (some (ki 2)) none none) 22,
  rq 28 (.slice 48 (tp 6) (some (ki 1)) none none) 22,
  rq 29 (cb .copy #[(tp 27), (tp 28)] #[22, 22]) 3]
def c28_13 : RC := .reg [0, 1, 2] o28_13
def o28_14 : List ROp := [
  rq 30 (.move (tp 5)) 3,
  rq 31 (.move (tp 3)) 3,
  rq 32 (.binOp .sub 3 (tp 30) (tp 31) 3) 3,
  rq 33 (.indexAddr 48 (tp 7) (ki 1)) 0,
  rn (.store 3 (tp 33) (tp 32)) 0]
def c28_14 : RC := .reg [] o28_14
def o28_15 : List ROp := [
  rq 34 (.move (tp 4)) 25,
  rq 35 (.load 48 (tp 7)) 48,
  rq 36 (cf 41 #[(tp 35)] #[48]) 22,
  rq 37 (.buildSlice 25 1 #[(0, (tp 36))]) 25,
  rq 38 (cb .append #[(tp 34), (tp 37)] #[25, 25]) 25,
  rq 4 (.assign (tp 38)) 25]
def c28_15 : RC := .reg [] o28_15
def c28_16 : RC := .seq c28_14 c28_15
def c28_17 : RC := .seq c28_13 c28_16
def c28_18 : RC := .seq c28_12 c28_17
def c28_19 : RC := .seq c28_11 c28_18
def c28_20 : RC := .seq c28_10 c28_19
def c28_21 : RC := .seq c28_9 c28_20
def c28_22 : RC := .block 1 c28_21
def o28_23 : List ROp := [
  rq 15 (.move (tp 5)) 3,
  rq 16 (.binOp .add 3 (tp 15) (ki 1) 3) 3,
  rq 5 (.assign (tp 16)) 3]
def c28_23 : RC := .reg [] o28_23
def c28_24 : RC := .seq c28_22 c28_23
def c28_25 : RC := .seq c28_6 c28_24
def c28_26 : RC := .loop c28_25
def c28_27 : RC := .block 0 c28_26
def c28_28 : RC := .seq c28_3 c28_27
def o28_29 : List ROp := [
  rq 39 (.move (tp 4)) 25,
  rq 40 (cf 58 #[(tp 39), (.func 53)] #[25, 69]) 0]
def c28_29 : RC := .reg [] o28_29
def o28_30 : List ROp := [
  rq 41 (.move (tp 4)) 25,
  rq 2 (.assign (tp 41)) 25]
def c28_30 : RC := .reg [] o28_30
def c28_31 : RC := .seq c28_30 .ret
def c28_32 : RC := .seq c28_29 c28_31
def c28_33 : RC := .seq c28_28 c28_32
def c28_34 : RC := .seq c28_2 c28_33
def c28_35 : RC := .seq c28_1 c28_34
def c28_36 : RC := .seq c28_0 c28_35
def o29_0 : List ROp := [
  rq 2 (.assign (ki 0)) 26]
def c29_0 : RC := .reg [] o29_0
def o29_1 : List ROp := [
  rq 6 (.move (tp 0)) 22,
  rq 7 (cb .len #[(tp 6)] #[22]) 3,
  rq 8 (.binOp .eql 3 (tp 7) (ki 0) 3) 4]
def c29_1 : RC := .reg [] o29_1
def o29_2 : List ROp := [
  rq 2 (.assign (ki 4)) 26]
def c29_2 : RC := .reg [] o29_2
def c29_3 : RC := .seq c29_2 .ret
def c29_4 : RC := .cond (tp 8) c29_3 .skip
def c29_5 : RC := .seq c29_1 c29_4
def o29_6 : List ROp := [
  rq 3 (.assign (ki 0)) 3]
def c29_6 : RC := .reg [] o29_6
def o29_7 : List ROp := [
  rq 9 (.move (tp 3)) 3,
  rq 10 (.move (tp 0)) 22,
  rq 11 (cb .len #[(tp 10)] #[22]) 3,
  rq 12 (.binOp .lss 3 (tp 9) (tp 11) 3) 4]
def c29_7 : RC := .reg [] o29_7
def c29_8 : RC := .cond (tp 12) .skip (.exit 0)
def c29_9 : RC := .seq c29_7 c29_8
def o29_10 : List ROp := [
  rq 15 (.move (tp 0)) 22,
  rq 16 (.move (tp 3)) 3,
  rq 17 (.indexAddr 22 (tp 15) (tp 16)) 0,
  rq 18 (.load 3 (tp 17)) 3,
  rq 19 (cf 59 #[(tp 18), (ki 1), (ki 21)] #[3, 3, 3]) 4,
  rq 20 (.unOp .not 4 (tp 19)) 4]
def c29_10 : RC := .reg [] o29_10
def o29_11 : List ROp := [
  rq 2 (.assign (ki 1)) 26]
def c29_11 : RC := .reg [] o29_11
def c29_12 : RC := .seq c29_11 .ret
def c29_13 : RC := .cond (tp 20) c29_12 .skip
def c29_14 : RC := .seq c29_10 c29_13
def o29_15 : List ROp := [
  rq 21 (.move (tp 3)) 3,
  rq 22 (.binOp .gtr 3 (tp 21) (ki 0) 3) 4,
  rq 23 (.move (tp 22)) 4,
  rg 24 (.move (tp 0)) 22 23 true,
  rg 25 (.move (tp 3)) 3 23 true,
  rg 26 (.indexAddr 22 (tp 24) (tp 25)) 0 23 true,
  rg 27 (.load 3 (tp 26)) 3 23 true,
  rg 28 (.move (tp 0)) 22 23 true,
  rg 29 (.move (tp 3)) 3 23 true,
  rg 30 (.binOp .sub 3 (tp 29) (ki 1) 3) 3 23 true,
  rg 31 (.indexAddr 22 (tp 28) (tp 30)) 0 23 true,
  rg 32 (.load 3 (tp 31)) 3 23 true,
  rg 33 (.binOp .gtr 3 (tp 27) (tp 32) 3) 4 23 true,
  rq 34 (.pick (tp 23) (tp 33) (kb false)) 4]
def c29_15 : RC := .reg [0, 1, 2, 3, 4, 5, 6, 7, 8, 9, 10, 11, 12, 13] o29_15
def o29_16 : List ROp := [
  rq 2 (.assign (ki 7)) 26]
def c29_16 : RC := .reg [] o29_16
def c29_17 : RC := .seq c29_16 .ret
def c29_18 : RC := .cond (tp 34) c29_17 .skip
def c29_19 : RC := .seq c29_15 c29_18
def c29_20 : RC := .seq c29_14 c29_19
def c29_21 : RC := .block 1 c29_20
def o29_22 : List ROp := [
  rq 13 (.move (tp 3)) 3,
  rq 14 (.binOp .add 3 (tp 13) (ki 1) 3) 3,
  rq 3 (.assign (tp 14)) 3]
def c29_22 : RC := .reg [] o29_22
def c29_23 : RC := .seq c29_21 c29_22
def c29_24 : RC := .seq c29_9 c29_23
def c29_25 : RC := .loop c29_24
def c29_26 : RC := .block 0 c29_25
def c29_27 : RC := .seq c29_6 c29_26
def o29_28 : List ROp := [
  rq 4 (.assign (ki 0)) 3]
def c29_28 : RC := .reg [] o29_28
def o29_29 : List ROp := [
  rq 5 (.assign (ki 0)) 3]
def c29_29 : RC := .reg [] o29_29
def o29_30 : List ROp := [
  rq 35 (.move (tp 5)) 3,
  rq 36 (.move (tp 0)) 22,
  rq 37 (cb .len #[(tp 36)] #[22]) 3,
  rq 38 (.binOp .lss 3 (tp 35) (tp 37) 3) 4]
def c29_30 : RC := .reg [] o29_30
def c29_31 : RC := .cond (tp 38) .skip (.exit 2)
def c29_32 : RC := .seq c29_30 c29_31
def o29_33 : List ROp := [
  rq 41 (.move (tp 4)) 3,
  rq 42 (.move (tp 0)) 22,
  rq 43 (.move (tp 5)) 3,
  rq 44 (.indexAddr 22 (tp 42) (tp 43)) 0,
  rq 45 (.load 3 (tp 44)) 3,
  rq 46 (.binOp .add 3 (tp 41) (tp 45) 3) 3,
  rq 4 (.assign (tp 46)) 3]
def c29_33 : RC := .reg [] o29_33
def o29_34 : List ROp := [
  rq 47 (.move (tp 4)) 3,
  rq 48 (.binOp .gtr 3 (tp 47) (ki 21) 3) 4]
def c29_34 : RC := .reg [] o29_34
def o29_35 : List ROp := [
  rq 2 (.assign (ki 3)) 26]
def c29_35 : RC := .reg [] o29_35
def c29_36 : RC := .seq c29_35 .ret
def c29_37 : RC := .cond (tp 48) c29_36 .skip
def c29_38 : RC := .seq c29_34 c29_37
def c29_39 : RC := .seq c29_33 c29_38
def c29_40 : RC := .block 3 c29_39
def o29_41 : List ROp := [
  rq 39 (.move (tp 5)) 3,
  rq 40 (.binOp .add 3 (tp 39) (ki 1) 3) 3,
  rq 5 (.assign (tp 40)) 3]
def c29_41 : RC := .reg [] o29_41
def c29_42 : RC := .seq c29_40 c29_41
def c29_43 : RC := .seq c29_32 c29_42
def c29_44 : RC := .loop c29_43
def c29_45 : RC := .block 2 c29_44
def c29_46 : RC := .seq c29_29 c29_45
def o29_47 : List ROp := [
  rq 2 (.assign (ki 0)) 26]
def c29_47 : RC := .reg [] o29_47
def c29_48 : RC := .seq c29_47 .ret
def c29_49 : RC := .seq c29_46 c29_48
def c29_50 : RC := .seq c29_28 c29_49
def c29_51 : RC := .seq c29_27 c29_50
def c29_52 : RC := .seq c29_5 c29_51
def c29_53 : RC := .seq c29_0 c29_52
def o30_0 : List ROp := [
  rq 4 (.assign (.const (.slice none 0 0))) 25]
def c30_0 : RC := .reg [] o30_0
def o30_1 : List ROp := [
  rq 9 (.move (tp 0)) 3,
  rq 10 (.binOp .eql 3 (tp 9) (ki 0) 3) 4]
def c30_1 : RC := .reg [] o30_1
def o30_2 : List ROp := [
  rq 11 (.buildSlice 25 1 #[(0, (.const (.slice none 0 0)))]) 25,
  rq 4 (.assign (tp 11)) 25]
def c30_2 : RC := .reg [] o30_2
def c30_3 : RC := .seq c30_2 .ret
def c30_4 : RC := .cond (tp 10) c30_3 .skip
def c30_5 : RC := .seq c30_1 c30_4
def o30_6 : List ROp := [
  rq 5 (.assign (.const (.slice none 0 0))) 25]
def c30_6 : RC := .reg [] o30_6
def o30_7 : List ROp := [
  rq 6 (.assign (ki 1)) 3]
def c30_7 : RC := .reg [] o30_7
def o30_8 : List ROp := [
  rq 12 (.move (tp 6)) 3,
  rq 13 (.move (tp 1)) 3,
  rq 14 (.binOp .leq 3 (tp 12) (tp 13) 3) 4,
  rq 15 (.move (tp 14)) 4,
  rg 16 (.move (tp 6)) 3 15 true,
  rg 17 (.move (tp 0)) 3 15 true,
  rg 18 (.binOp .leq 3 (tp 16) (tp 17) 3) 4 15 true,
  rq 19 (.pick (tp 15) (tp 18) (kb false)) 4]
def c30_8 : RC := .reg [] o30_8
def c30_9 : RC := .cond (tp 19) .skip (.exit 0)
def c30_10 : RC := .seq c30_8 c30_9
def o30_11 : List ROp := [
  rq 22 (.move (tp 0)) 3,
  rq 23 (.move (tp 6)) 3,
  rq 24 (.binOp .sub 3 (tp 22) (tp 23) 3) 3,
  rq 25 (.move (tp 6)) 3,
  rq 26 (cf 30 #[(tp 24), (tp 25)] #[3, 3]) 25,
  rq 7 (.assign (tp 26)) 25]
def c30_11 : RC := .reg [] o30_11
def o30_12 : List ROp := [
  rq 8 (.assign (ki 0)) 3]
def c30_12 : RC := .reg [] o30_12
def o30_13 : List ROp := [
  rq 27 (.move (tp 8)) 3,
  rq 28 (.move (tp 7)) 25,
  rq 29 (cb .len #[(tp 28)] #[25]) 3,
  rq 30 (.binOp .lss 3 (tp 27) (tp 29) 3) 4]
def c30_13 : RC := .reg [] o30_13
def c30_14 : RC := .cond (tp 30) .skip (.exit 2)
def c30_15 : RC := .seq c30_13 c30_14
def o30_16 : List ROp := [
  rq 33 (.move (tp 5)) 25,
  rq 34 (.move (tp 6)) 3,
  rq 35 (.buildSlice 22 1 #[(0, (tp 34))]) 22,
  rq 36 (.move (tp 7)) 25,
  rq 37 (.move (tp 8)) 3,
  rq 38 (.indexAddr 25 (tp 36) (tp 37)) 0,
  rq 39 (.load 22 (tp 38)) 22,
  rq 40 (cb .append #[(tp 35), (tp 39)] #[22, 22]) 22,
  rq 41 (.buildSlice 25 1 #[(0, (tp 40))]) 25,
  rq 42 (cb .append #[(tp 33), (tp 41)] #[25, 25]) 25,
  rq 5 (.assign (tp 42)) 25]
def c30_16 : RC := .reg [] o30_16
def c30_17 : RC := .block 3 c30_16
def o30_18 : List ROp := [
  rq 31 (.move (tp 8)) 3,
  rq 32 (.binOp .add 3 (tp 31) (ki 1) 3) 3,
  rq 8 (.assign (tp 32)) 3]
def c30_18 : RC := .reg [] o30_18
def c30_19 : RC := .seq c30_17 c30_18
def c30_20 : RC := .seq c30_15 c30_19
def c30_21 : RC := .loop c30_20
def c30_22 : RC := .block 2 c30_21
def c30_23 : RC := .seq c30_12 c30_22
def c30_24 : RC := .seq c30_11 c30_23
def c30_25 : RC := .block 1 c30_24
def o30_26 : List ROp := [
  rq 20 (.move (tp 6)) 3,
  rq 21 (.binOp .add 3 (tp 20) (ki 1) 3) 3,
  rq 6 (.assign (tp 21)) 3]
def c30_26 : RC := .reg [] o30_26
def c30_27 : RC := .seq c30_25 c30_26
def c30_28 : RC := .seq c30_10 c30_27
def c30_29 : RC := .loop c30_28
def c30_30 : RC := .block 0 c30_29
def c30_31 : RC := .seq c30_7 c30_30
def o30_32 : List ROp := [
  rq 43 (.move (tp 5)) 25,
  rq 4 (.assign (tp 43)) 25]
def c30_32 : RC := .reg [] o30_32
def c30_33 : RC := .seq c30_32 .ret
def c30_34 : RC := .seq c30_31 c30_33
def c30_35 : RC := .seq c30_6 c30_34
def c30_36 : RC := .seq c30_5 c30_35
def c30_37 : RC := .seq c30_0 c30_36
def o31_0 : List ROp := [
  rq 2 (.assign (ki 0)) 3]
def c31_0 : RC := .reg [] o31_0
def o31_1 : List ROp := [
  rq 3 (.assign (ki 0)) 3]
def c31_1 : RC := .reg [] o31_1
def o31_2 : List ROp := [
  rq 4 (.assign (ki 0)) 3]
def c31_2 : RC := .reg [] o31_2
def o31_3 : List ROp := [
  rq 5 (.move (tp 4)) 3,
  rq 6 (.move (tp 0)) 22,
  rq 7 (cb .len #[(tp 6)] #[22]) 3,
  rq 8 (.binOp .lss 3 (tp 5) (tp 7) 3) 4]
def c31_3 : RC := .reg [] o31_3
def c31_4 : RC := .cond (tp 8) .skip (.exit 0)
def c31_5 : RC := .seq c31_3 c31_4
def o31_6 : List ROp := [
  rq 11 (.move (tp 3)) 3,
  rq 12 (.move (tp 0)) 22,
  rq 13 (.move (tp 4)) 3,
  rq 14 (.indexAddr 22 (tp 12) (tp 13)) 0,
  rq 15 (.load 3 (tp 14)) 3,
  rq 16 (.binOp .add 3 (tp 11) (tp 15) 3) 3,
  rq 3 (.assign (tp 16)) 3]
def c31_6 : RC := .reg [] o31_6
def c31_7 : RC := .block 1 c31_6
def o31_8 : List ROp := [
  rq 9 (.move (tp 4)) 3,
  rq 10 (.binOp .add 3 (tp 9) (ki 1) 3) 3,
  rq 4 (.assign (tp 10)) 3]
def c31_8 : RC := .reg [] o31_8
def c31_9 : RC := .seq c31_7 c31_8
def c31_10 : RC := .seq c31_5 c31_9
def c31_11 : RC := .loop c31_10
def c31_12 : RC := .block 0 c31_11
def c31_13 : RC := .seq c31_2 c31_12
def o31_14 : List ROp := [
  rq 17 (.move (tp 3)) 3,
  rq 2 (.assign (tp 17)) 3]
def c31_14 : RC := .reg [] o31_14
def c31_15 : RC := .seq c31_14 .ret
def c31_16 : RC := .seq c31_13 c31_15
def c31_17 : RC := .seq c31_1 c31_16
def c31_18 : RC := .seq c31_0 c31_17
def o32_0 : List ROp := [
  rq 4 (.assign (kb false)) 4]
def c32_0 : RC := .reg [] o32_0
def o32_1 : List ROp := [
  rq 6 (.move (tp 0)) 22,
  rq 7 (cb .len #[(tp 6)] #[22]) 3,
  rq 8 (.move (tp 1)) 22,
  rq 9 (cb .len #[(tp 8)] #[22]) 3,
  rq 10 (.binOp .neq 3 (tp 7) (tp 9) 3) 4]
def c32_1 : RC := .reg [] o32_1
def o32_2 : List ROp := [
  rq 4 (.assign (kb false)) 4]
def c32_2 : RC := .reg [] o32_2
def c32_3 : RC := .seq c32_2 .ret
def c32_4 : RC := .cond (tp 10) c32_3 .skip
def c32_5 : RC := .seq c32_1 c32_4
def o32_6 : List ROp := [
  rq 5 (.assign (ki 0)) 3]
def c32_6 : RC := .reg [] o32_6
def o32_7 : List ROp := [
  rq 11 (.move (tp 5)) 3,
  rq 12 (.move (tp 0)) 22,
  rq 13 (cb .len #[(tp 12)] #[22]) 3,
  rq 14 (.binOp .lss 3 (tp 11) (tp 13) 3) 4]
def c32_7 : RC := .reg [] o32_7
def c32_8 : RC := .cond (tp 14) .skip (.exit 0)
def c32_9 : RC := .seq c32_7 c32_8
def o32_10 : List ROp := [
  rq 17 (.move (tp 0)) 22,
  rq 18 (.move (tp 5)) 3,
  rq 19 (.indexAddr 22 (tp 17) (tp 18)) 0,
  rq 20 (.load 3 (tp 19)) 3,
  rq 21 (.move (tp 1)) 22,
  rq 22 (.move (tp 5)) 3,
  rq 23 (.indexAddr 22 (tp 21) (tp 22)) 0,
  rq 24 (.load 3 (tp 23)) 3,
  rq 25 (.binOp .neq 3 (tp 20) (tp 24) 3) 4]
def c32_10 : RC := .reg [0, 1, 2, 3, 4, 5, 6, 7, 8] o32_10
def o32_11 : List ROp := [
  rq 4 (.assign (kb false)) 4]
def c32_11 : RC := .reg [] o32_11
def c32_12 : RC := .seq c32_11 .ret
def c32_13 : RC := .cond (tp 25) c32_12 .skip
def c32_14 : RC := .seq c32_10 c32_13
def c32_15 : RC := .block 1 c32_14
def o32_16 : List ROp := [
  rq 15 (.move (tp 5)) 3,
  rq 16 (.binOp .add 3 (tp 15) (ki 1) 3) 3,
  rq 5 (.assign (tp 16)) 3]
def c32_16 : RC := .reg [] o32_16
def c32_17 : RC := .seq c32_15 c32_16
def c32_18 : RC := .seq c32_9 c32_17
def c32_19 : RC := .loop c32_18
def c32_20 : RC := .block 0 c32_19
def c32_21 : RC := .seq c32_6 c32_20
def o32_22 : List ROp := [
  rq 4 (.assign (kb true)) 4]
def c32_22 : RC := .reg [] o32_22
def c32_23 : RC := .seq c32_22 .ret
def c32_24 : RC := .seq c32_21 c32_23
def c32_25 : RC := .seq c32_5 c32_24
def c32_26 : RC := .seq c32_0 c32_25
def o33_0 : List ROp := [
  rq 2 (.assign (.const (.slice none 0 0))) 22]
def c33_0 : RC := .reg [] o33_0
def o33_1 : List ROp := [
  rq 3 (.assign (.const (.slice none 0 0))) 22]
def c33_1 : RC := .reg [] o33_1
def o33_2 : List ROp := [
  rq 4 (.assign (kb false)) 4]
def c33_2 : RC := .reg [] o33_2
def o33_3 : List ROp := [
  rq 5 (.assign (ki 0)) 3]
def c33_3 : RC := .reg [] o33_3
def o33_4 : List ROp := [
  rq 6 (.move (tp 5)) 3,
  rq 7 (.move (tp 0)) 22,
  rq 8 (cb .len #[(tp 7)] #[22]) 3,
  rq 9 (.binOp .lss 3 (tp 6) (tp 8) 3) 4]
def c33_4 : RC := .reg [] o33_4
def c33_5 : RC := .cond (tp 9) .skip (.exit 0)
def c33_6 : RC := .seq c33_4 c33_5
def o33_7 : List ROp := [
  rq 12 (.move (tp 4)) 4,
  rq 13 (.unOp .not 4 (tp 12)) 4,
  rq 14 (.move (tp 13)) 4,
  rg 15 (.move (tp 0)) 22 14 true,
  rg 16 (.move (tp 5)) 3 14 true,
  rg 17 (.indexAddr 22 (tp 15) (tp 16)) 0 14 true,
  rg 18 (.load 3 (tp 17)) 3 14 true,
  rg 19 (.binOp .sub 3 (tp 18) (ki 1) 3) 3 14 true,
  rg 20 (.move (tp 0)) 22 14 true,
  rg 21 (cb .len #[(tp 20)] #[22]) 3 14 true,
  rg 22 (.binOp .leq 3 (tp 19) (tp 21) 3) 4 14 true,
  rq 23 (.pick (tp 14) (tp 22) (kb false)) 4]
def c33_7 : RC := .reg [] o33_7
def o33_8 : List ROp := [
  rq 24 (.move (tp 3)) 22,
  rq 25 (.move (tp 0)) 22,
  rq 26 (cb .len #[(tp 25)] #[22]) 3,
  rq 27 (.buildSlice 22 1 #[(0, (tp 26))]) 22,
  rq 28 (cb .append #[(tp 24), (tp 27)] #[22, 22]) 22,
  rq 3 (.assign (tp 28)) 22]
def c33_8 : RC := .reg [] o33_8
def o33_9 : List ROp := [
  rq 4 (.assign (kb true)) 4]
def c33_9 : RC := .reg [] o33_9
def c33_10 : RC := .seq c33_8 c33_9
def c33_11 : RC := .cond (tp 23) c33_10 .skip
def c33_12 : RC := .seq c33_7 c33_11
def o33_13 : List ROp := [
  rq 29 (.move (tp 0)) 22,
  rq 30 (.move (tp 5)) 3,
  rq 31 (.indexAddr 22 (tp 29) (tp 30)) 0,
  rq 32 (.load 3 (tp 31)) 3,
  rq 33 (.binOp .gtr 3 (tp 32) (ki 1) 3) 4]
def c33_13 : RC := .reg [] o33_13
def o33_14 : List ROp := [
  rq 34 (.move (tp 3)) 22,
  rq 35 (.move (tp 0)) 22,
  rq 36 (.move (tp 5)) 3,
  rq 37 (.indexAddr 22 (tp 35) (tp 36)) 0,
  rq 38 (.load 3 (tp 37)) 3,
  rq 39 (.binOp .sub 3 (tp 38) (ki 1) 3) 3,
  rq 40 (.buildSlice 22 1 #[(0, (tp 39))]) 22,
  rq 41 (cb .append #[(tp 34), (tp 40)] #[22, 22]) 22,
  rq 3 (.assign (tp 41)) 22]
def c33_14 : RC := .reg [] o33_14
def c33_15 : RC := .cond (tp 33) c33_14 .skip
def c33_16 : RC := .seq c33_13 c33_15
def c33_17 : RC := .seq c33_12 c33_16
def c33_18 : RC := .block 1 c33_17
def o33_19 : List ROp := [
  rq 10 (.move (tp 5)) 3,
  rq 11 (.binOp .add 3 (tp 10) (ki 1) 3) 3,
  rq 5 (.assign (tp 11)) 3]
def c33_19 : RC := .reg [] o33_19
def c33_20 : RC := .seq c33_18 c33_19
def c33_21 : RC := .seq c33_6 c33_20
def c33_22 : RC := .loop c33_21
def c33_23 : RC := .block 0 c33_22
def c33_24 : RC := .seq c33_3 c33_23
def o33_25 : List ROp := [
  rq 42 (.move (tp 4)) 4,
  rq 43 (.unOp .not 4 (tp 42)) 4]
def c33_25 : RC := .reg [] o33_25
def o33_26 : List ROp := [
  rq 44 (.move (tp 3)) 22,
  rq 45 (.move (tp 0)) 22,
  rq 46 (cb .len #[(tp 45)] #[22]) 3,
  rq 47 (.buildSlice 22 1 #[(0, (tp 46))]) 22,
  rq 48 (cb .append #[(tp 44), (tp 47)] #[22, 22]) 22,
  rq 3 (.assign (tp 48)) 22]
def c33_26 : RC := .reg [] o33_26
def c33_27 : RC := .cond (tp 43) c33_26 .skip
def c33_28 : RC := .seq c33_25 c33_27
def o33_29 : List ROp := [
  rq 49 (.move (tp 3)) 22,
  rq 2 (.assign (tp 49)) 22]
def c33_29 : RC := .reg [] o33_29
def c33_30 : RC := .seq c33_29 .ret
def c33_31 : RC := .seq c33_28 c33_30
def c33_32 : RC := .seq c33_24 c33_31
def c33_33 : RC := .seq c33_2 c33_32
def c33_34 : RC := .seq c33_1 c33_33
def c33_35 : RC := .seq c33_0 c33_34
def o34_0 : List ROp := [
  rq 1 (.box 48 (tp 0)) 0,
  rq 2 (.assign (kb false)) 4]
def c34_0 : RC := .reg [] o34_0
def o34_1 : List ROp := [
  rq 8 (.load 48 (tp 1)) 48,
  rq 9 (cf 41 #[(tp 8)] #[48]) 22,
  rq 3 (.assign (tp 9)) 22]
def c34_1 : RC := .reg [] o34_1
def o34_2 : List ROp := [
  rq 11 (.load 48 (tp 1)) 48,
  rq 12 (cf 44 #[(tp 11)] #[48]) 3,
  rq 13 (cf 43 #[(tp 12)] #[3]) 62,
  rq 10 (.move (tp 13)) 62,
  rq 14 (.extract (tp 10) 0) 3,
  rq 15 (.extract (tp 10) 1) 3,
  rq 4 (.assign (tp 14)) 3,
  rq 5 (.assign (tp 15)) 3]
def c34_2 : RC := .reg [] o34_2
def o34_3 : List ROp := [
  rq 16 (.move (tp 3)) 22,
  rq 17 (cb .len #[(tp 16)] #[22]) 3,
  rq 18 (.move (tp 4)) 3,
  rq 19 (.binOp .add 3 (tp 18) (ki 1) 3) 3,
  rq 20 (.binOp .gtr 3 (tp 17) (tp 19) 3) 4]
def c34_3 : RC := .reg [] o34_3
def o34_4 : List ROp := [
  rq 2 (.assign (kb false)) 4]
def c34_4 : RC := .reg [] o34_4
def c34_5 : RC := .seq c34_4 .ret
def c34_6 : RC := .cond (tp 20) c34_5 .skip
def c34_7 : RC := .seq c34_3 c34_6
def o34_8 : List ROp := [
  rq 21 (.move (tp 3)) 22,
  rq 22 (.move (tp 4)) 3,
  rq 23 (.binOp .add 3 (tp 22) (ki 1) 3) 3,
  rq 24 (.move (tp 3)) 22,
  rq 25 (cb .len #[(tp 24)] #[22]) 3,
  rq 26 (.binOp .sub 3 (tp 23) (tp 25) 3) 3,
  rq 27 (cb .append #[(tp 21), (tp 26)] #[22, 3]) 22,
  rq 28 (cb .len #[(tp 27)] #[22]) 3,
  rq 29 (.move (ki 0)) 3]
def c34_8 : RC := .reg [] o34_8
def o34_9 : List ROp := [
  rq 30 (.binOp .lss 3 (tp 29) (tp 28) 3) 0]
def c34_9 : RC := .reg [] o34_9
def c34_10 : RC := .cond (tp 30) .skip (.exit 0)
def o34_11 : List ROp := [
  rq 31 (.move (tp 29)) 3,
  rq 32 (.indexAddr 22 (tp 27) (tp 29)) 0,
  rq 33 (.load 3 (tp 32)) 3,
  rq 6 (.assign (tp 31)) 3,
  rq 7 (.assign (tp 33)) 3]
def c34_11 : RC := .reg [] o34_11
def o34_12 : List ROp := [
  rq 34 (.move (tp 4)) 3,
  rq 35 (.move (tp 6)) 3,
  rq 36 (.binOp .sub 3 (tp 34) (tp 35) 3) 3,
  rq 37 (.move (tp 7)) 3,
  rq 38 (.move (tp 4)) 3,
  rq 39 (.binOp .add 3 (tp 38) (ki 1) 3) 3,
  rq 40 (.move (tp 6)) 3,
  rq 41 (.binOp .sub 3 (tp 39) (tp 40) 3) 3,
  rq 42 (cf 42 #[(tp 36), (tp 37), (tp 41)] #[3, 3, 3]) 4,
  rq 43 (.unOp .not 4 (tp 42)) 4]
def c34_12 : RC := .reg [] o34_12
def o34_13 : List ROp := [
  rq 2 (.assign (kb false)) 4]
def c34_13 : RC := .reg [] o34_13
def c34_14 : RC := .seq c34_13 .ret
def c34_15 : RC := .cond (tp 43) c34_14 .skip
def c34_16 : RC := .seq c34_12 c34_15
def c34_17 : RC := .seq c34_11 c34_16
def c34_18 : RC := .block 1 c34_17
def o34_19 : List ROp := [
  rq 44 (.binOp .add 3 (tp 29) (ki 1) 3) 3,
  rq 29 (.move (tp 44)) 3]
def c34_19 : RC := .reg [] o34_19
def c34_20 : RC := .seq c34_18 c34_19
def c34_21 : RC := .seq c34_10 c34_20
def c34_22 : RC := .seq c34_9 c34_21
def c34_23 : RC := .loop c34_22
def c34_24 : RC := .block 0 c34_23
def c34_25 : RC := .seq c34_8 c34_24
def o34_26 : List ROp := [
  rq 2 (.assign (kb true)) 4]
def c34_26 : RC := .reg [] o34_26
def c34_27 : RC := .seq c34_26 .ret
def c34_28 : RC := .seq c34_25 c34_27
def c34_29 : RC := .seq c34_7 c34_28
def c34_30 : RC := .seq c34_2 c34_29
def c34_31 : RC := .seq c34_1 c34_30
def c34_32 : RC := .seq c34_0 c34_31
def o36_0 : List ROp := [
  rq 1 (.box 48 (tp 0)) 0,
  rq 2 (.assign (ki 0)) 3,
  rq 3 (.alloc 48) 0]
def c36_0 : RC := .reg [] o36_0
def o36_1 : List ROp := [
  rq 4 (.assign (ki 0)) 3]
def c36_1 : RC := .reg [] o36_1
def o36_2 : List ROp := [
  rq 5 (.load 48 (tp 1)) 48,
  rq 6 (cf 34 #[(tp 5)] #[48]) 4,
  rq 7 (.unOp .not 4 (tp 6)) 4]
def c36_2 : RC := .reg [] o36_2
def o36_3 : List ROp := [
  rq 8 (.load 48 (tp 1)) 48,
  rq 9 (cf 40 #[(tp 8)] #[48]) 48,
  rn (.store 48 (tp 1) (tp 9)) 0]
def c36_3 : RC := .reg [] o36_3
def o36_4 : List ROp := [
  rq 10 (.move (tp 4)) 3,
  rq 11 (.binOp .add 3 (tp 10) (ki 1) 3) 3,
  rq 4 (.assign (tp 11)) 3]
def c36_4 : RC := .reg [] o36_4
def c36_5 : RC := .seq c36_4 (.goto 0)
def c36_6 : RC := .seq c36_3 c36_5
def c36_7 : RC := .cond (tp 7) c36_6 .skip
def c36_8 : RC := .seq c36_2 c36_7
def o36_9 : List ROp := [
  rq 12 (.move (tp 4)) 3,
  rq 13 (.load 48 (tp 1)) 48,
  rq 2 (.assign (tp 12)) 3,
  rn (.store 48 (tp 3) (tp 13)) 0]
def c36_9 : RC := .reg [0, 1, 2, 3] o36_9
def c36_10 : RC := .seq c36_9 .ret
def c36_11 : RC := .seq c36_8 c36_10
def c36_12 : RC := .seq (.label 0) c36_11
def c36_13 : RC := .seq c36_1 c36_12
def o36_14 : List ROp := [
  rq 5 (.load 48 (tp 1)) 48,
  rq 6 (cf 34 #[(tp 5)] #[48]) 4,
  rq 7 (.unOp .not 4 (tp 6)) 4]
def c36_14 : RC := .reg [] o36_14
def o36_15 : List ROp := [
  rq 8 (.load 48 (tp 1)) 48,
  rq 9 (cf 40 #[(tp 8)] #[48]) 48,
  rn (.store 48 (tp 1) (tp 9)) 0]
def c36_15 : RC := .reg [] o36_15
def o36_16 : List ROp := [
  rq 10 (.move (tp 4)) 3,
  rq 11 (.binOp .add 3 (tp 10) (ki 1) 3) 3,
  rq 4 (.assign (tp 11)) 3]
def c36_16 : RC := .reg [] o36_16
def c36_17 : RC := .seq c36_16 (.goto 0)
def c36_18 : RC := .seq c36_15 c36_17
def c36_19 : RC := .cond (tp 7) c36_18 .skip
def c36_20 : RC := .seq c36_14 c36_19
def o36_21 : List ROp := [
  rq 12 (.move (tp 4)) 3,
  rq 13 (.load 48 (tp 1)) 48,
  rq 2 (.assign (tp 12)) 3,
  rn (.store 48 (tp 3) (tp 13)) 0]
def c36_21 : RC := .reg [0, 1, 2, 3] o36_21
def c36_22 : RC := .seq c36_21 .ret
def c36_23 : RC := .seq c36_20 c36_22
def c36_24 : RC := .seq .skip c36_23
def c36_25 : RC := .scope c36_13 0 c36_24
def c36_26 : RC := .seq c36_0 c36_25
def o40_0 : List ROp := [
  rq 1 (.box 48 (tp 0)) 0,
  rq 2 (.alloc 48) 0]
def c40_0 : RC := .reg [] o40_0
def o40_1 : List ROp := [
  rq 3 (.alloc 48) 0]
def c40_1 : RC := .reg [] o40_1
def o40_2 : List ROp := [
  rq 4 (.slice 48 (tp 3) none none none) 22,
  rq 5 (.slice 48 (tp 1) (some (ki 1)) none none) 22,
  rq 6 (cb .copy #[(tp 4), (tp 5)] #[22, 22]) 3]
def c40_2 : RC := .reg [0, 1, 2] o40_2
def o40_3 : List ROp := [
  rq 7 (.indexAddr 48 (tp 3) (ki 0)) 0,
  rn (.store 3 (tp 7) (ki 0)) 0]
def c40_3 : RC := .reg [] o40_3
def o40_4 : List ROp := [
  rq 8 (.load 48 (tp 1)) 48,
  rq 9 (cf 57 #[(tp 8)] #[48]) 3,
  rq 10 (.indexAddr 48 (tp 3) (tp 9)) 0,
  rq 11 (.load 3 (tp 10)) 3,
  rq 12 (.binOp .add 3 (tp 11) (ki 1) 3) 3,
  rq 13 (.indexAddr 48 (tp 3) (tp 9)) 0,
  rn (.store 3 (tp 13) (tp 12)) 0]
def c40_4 : RC := .reg [] o40_4
def o40_5 : List ROp := [
  rq 14 (.load 48 (tp 3)) 48,
  rn (.store 48 (tp 2) (tp 14)) 0]
def c40_5 : RC := .reg [] o40_5
def c40_6 : RC := .seq c40_5 .ret
def c40_7 : RC := .seq c40_4 c40_6
def c40_8 : RC := .seq c40_3 c40_7
def c40_9 : RC := .seq c40_2 c40_8
def c40_10 : RC := .seq c40_1 c40_9
def c40_11 : RC := .seq c40_0 c40_10
def o41_0 : List ROp := [
  rq 1 (.box 48 (tp 0)) 0,
  rq 2 (.assign (.const (.slice none 0 0))) 22]
def c41_0 : RC := .reg [] o41_0
def o41_1 : List ROp := [
  rq 3 (.assign (.const (.slice none 0 0))) 22]
def c41_1 : RC := .reg [] o41_1
def o41_2 : List ROp := [
  rq 4 (.assign (ki 21)) 3]
def c41_2 : RC := .reg [] o41_2
def o41_3 : List ROp := [
  rq 5 (.move (tp 4)) 3,
  rq 6 (.binOp .gtr 3 (tp 5) (ki 0) 3) 4]
def c41_3 : RC := .reg [] o41_3
def c41_4 : RC := .cond (tp 6) .skip (.exit 0)
def c41_5 : RC := .seq c41_3 c41_4
def o41_6 : List ROp := [
  rq 9 (.move (tp 3)) 22,
  rq 10 (.move (tp 4)) 3,
  rq 11 (.buildSlice 22 1 #[(0, (tp 10))]) 22,
  rq 12 (.move (tp 4)) 3,
  rq 13 (.indexAddr 48 (tp 1) (tp 12)) 0,
  rq 14 (.load 3 (tp 13)) 3,
  rq 15 (cf 62 #[(tp 11), (tp 14)] #[22, 3]) 22,
  rq 16 (cb .append #[(tp 9), (tp 15)] #[22, 22]) 22,
  rq 3 (.assign (tp 16)) 22]
def c41_6 : RC := .reg [] o41_6
def c41_7 : RC := .block 1 c41_6
def o41_8 : List ROp := [
  rq 7 (.move (tp 4)) 3,
  rq 8 (.binOp .sub 3 (tp 7) (ki 1) 3) 3,
  rq 4 (.assign (tp 8)) 3]
def c41_8 : RC := .reg [] o41_8
def c41_9 : RC := .seq c41_7 c41_8
def c41_10 : RC := .seq c41_5 c41_9
def c41_11 : RC := .loop c41_10
def c41_12 : RC := .block 0 c41_11
def c41_13 : RC := .seq c41_2 c41_12
def o41_14 : List ROp := [
  rq 17 (.move (tp 3)) 22,
  rq 2 (.assign (tp 17)) 22]
def c41_14 : RC := .reg [] o41_14
def c41_15 : RC := .seq c41_14 .ret
def c41_16 : RC := .seq c41_13 c41_15
def c41_17 : RC := .seq c41_1 c41_16
def c41_18 : RC := .seq c41_0 c41_17
def o42_0 : List ROp := [
  rq 6 (.assign (kb false)) 4]
def c42_0 : RC := .reg [] o42_0
def o42_1 : List ROp := [
  rq 7 (.move (tp 0)) 3,
  rq 8 (.move (tp 1)) 3,
  rq 9 (.binOp .leq 3 (tp 7) (tp 8) 3) 4,
  rq 10 (.move (tp 9)) 4,
  rg 11 (.move (tp 1)) 3 10 true,
  rg 12 (.move (tp 2)) 3 10 true,
  rg 13 (.binOp .leq 3 (tp 11) (tp 12) 3) 4 10 true,
  rq 14 (.pick (tp 10) (tp 13) (kb false)) 4,
  rq 6 (.assign (tp 14)) 4]
def c42_1 : RC := .reg [] o42_1
def c42_2 : RC := .seq c42_1 .ret
def c42_3 : RC := .seq c42_0 c42_2
def o43_0 : List ROp := [
  rq 2 (.assign (ki 0)) 3,
  rq 3 (.assign (ki 0)) 3]
def c43_0 : RC := .reg [] o43_0
def o43_1 : List ROp := [
  rq 4 (.move (tp 0)) 3,
  rq 3 (.assign (tp 4)) 3]
def c43_1 : RC := .reg [] o43_1
def o43_2 : List ROp := [
  rq 5 (.move (tp 3)) 3,
  rq 6 (.move (tp 2)) 3,
  rq 7 (.binOp .gtr 3 (tp 5) (tp 6) 3) 4]
def c43_2 : RC := .reg [] o43_2
def c43_3 : RC := .cond (tp 7) .skip (.exit 0)
def c43_4 : RC := .seq c43_2 c43_3
def o43_5 : List ROp := [
  rq 8 (.move (tp 2)) 3,
  rq 9 (.binOp .add 3 (tp 8) (ki 1) 3) 3,
  rq 2 (.assign (tp 9)) 3]
def c43_5 : RC := .reg [] o43_5
def o43_6 : List ROp := [
  rq 10 (.move (tp 3)) 3,
  rq 11 (.move (tp 2)) 3,
  rq 12 (.binOp .sub 3 (tp 10) (tp 11) 3) 3,
  rq 3 (.assign (tp 12)) 3]
def c43_6 : RC := .reg [] o43_6
def c43_7 : RC := .seq c43_5 c43_6
def c43_8 : RC := .block 1 c43_7
def c43_9 : RC := .seq c43_4 c43_8
def c43_10 : RC := .loop c43_9
def c43_11 : RC := .block 0 c43_10
def c43_12 : RC := .seq c43_1 c43_11
def o43_13 : List ROp := [
  rq 13 (.move (tp 2)) 3,
  rq 14 (.move (tp 3)) 3,
  rq 2 (.assign (tp 13)) 3,
  rq 3 (.assign (tp 14)) 3]
def c43_13 : RC := .reg [] o43_13
def c43_14 : RC := .seq c43_13 .ret
def c43_15 : RC := .seq c43_12 c43_14
def c43_16 : RC := .seq c43_0 c43_15
def o44_0 : List ROp := [
  rq 1 (.box 48 (tp 0)) 0,
  rq 2 (.assign (ki 0)) 3]
def c44_0 : RC := .reg [] o44_0
def o44_1 : List ROp := [
  rq 3 (.assign (ki 0)) 3]
def c44_1 : RC := .reg [] o44_1
def o44_2 : List ROp := [
  rq 6 (.load 48 (tp 1)) 48,
  rq 7 (.move (ki 0)) 3]
def c44_2 : RC := .reg [] o44_2
def o44_3 : List ROp := [
  rq 8 (.binOp .lss 3 (tp 7) (ki 22) 3) 0]
def c44_3 : RC := .reg [] o44_3
def c44_4 : RC := .cond (tp 8) .skip (.exit 0)
def o44_5 : List ROp := [
  rq 9 (.move (tp 7)) 3,
  rq 10 (.index 48 (tp 6) (tp 7)) 3,
  rq 4 (.assign (tp 9)) 3,
  rq 5 (.assign (tp 10)) 3]
def c44_5 : RC := .reg [] o44_5
def o44_6 : List ROp := [
  rq 11 (.move (tp 3)) 3,
  rq 12 (.move (tp 4)) 3,
  rq 13 (.move (tp 5)) 3,
  rq 14 (.binOp .mul 3 (tp 12) (tp 13) 3) 3,
  rq 15 (.binOp .add 3 (tp 11) (tp 14) 3) 3,
  rq 3 (.assign (tp 15)) 3]
def c44_6 : RC := .reg [] o44_6
def c44_7 : RC := .seq c44_5 c44_6
def c44_8 : RC := .block 1 c44_7
def o44_9 : List ROp := [
  rq 16 (.binOp .add 3 (tp 7) (ki 1) 3) 3,
  rq 7 (.move (tp 16)) 3]
def c44_9 : RC := .reg [] o44_9
def c44_10 : RC := .seq c44_8 c44_9
def c44_11 : RC := .seq c44_4 c44_10
def c44_12 : RC := .seq c44_3 c44_11
def c44_13 : RC := .loop c44_12
def c44_14 : RC := .block 0 c44_13
def c44_15 : RC := .seq c44_2 c44_14
def o44_16 : List ROp := [
  rq 17 (.move (tp 3)) 3,
  rq 2 (.assign (tp 17)) 3]
def c44_16 : RC := .reg [] o44_16
def c44_17 : RC := .seq c44_16 .ret
def c44_18 : RC := .seq c44_15 c44_17
def c44_19 : RC := .seq c44_1 c44_18
def c44_20 : RC := .seq c44_0 c44_19
def o53_0 : List ROp := [
  rq 4 (.assign (ki 0)) 3]
def c53_0 : RC := .reg [] o53_0
def o53_1 : List ROp := [
  rq 9 (.move (tp 0)) 22,
  rq 10 (cb .len #[(tp 9)] #[22]) 3,
  rq 11 (.move (ki 0)) 3]
def c53_1 : RC := .reg [] o53_1
def o53_2 : List ROp := [
  rq 12 (.binOp .lss 3 (tp 11) (tp 10) 3) 0]
def c53_2 : RC := .reg [] o53_2
def c53_3 : RC := .cond (tp 12) .skip (.exit 0)
def o53_4 : List ROp := [
  rq 13 (.move (tp 11)) 3,
  rq 14 (.indexAddr 22 (tp 9) (tp 11)) 0,
  rq 15 (.load 3 (tp 14)) 3,
  rq 5 (.assign (tp 13)) 3,
  rq 6 (.assign (tp 15)) 3]
def c53_4 : RC := .reg [] o53_4
def o53_5 : List ROp := [
  rq 16 (.move (tp 5)) 3,
  rq 17 (.move (tp 1)) 22,
  rq 18 (cb .len #[(tp 17)] #[22]) 3,
  rq 19 (.binOp .geq 3 (tp 16) (tp 18) 3) 4]
def c53_5 : RC := .reg [] o53_5
def o53_6 : List ROp := [
  rq 4 (.assign (ki 1)) 3]
def c53_6 : RC := .reg [] o53_6
def c53_7 : RC := .seq c53_6 .ret
def c53_8 : RC := .cond (tp 19) c53_7 .skip
def c53_9 : RC := .seq c53_5 c53_8
def o53_10 : List ROp := [
  rq 20 (.move (tp 1)) 22,
  rq 21 (.move (tp 5)) 3,
  rq 22 (.indexAddr 22 (tp 20) (tp 21)) 0,
  rq 23 (.load 3 (tp 22)) 3,
  rq 7 (.assign (tp 23)) 3]
def c53_10 : RC := .reg [] o53_10
def o53_11 : List ROp := [
  rq 24 (.move (tp 6)) 3,
  rq 25 (.move (tp 7)) 3,
  rq 26 (cf 66 #[(tp 24), (tp 25)] #[3, 3]) 3,
  rq 8 (.assign (tp 26)) 3]
def c53_11 : RC := .reg [] o53_11
def o53_12 : List ROp := [
  rq 27 (.move (tp 8)) 3,
  rq 28 (.binOp .neq 3 (tp 27) (ki 0) 3) 4]
def c53_12 : RC := .reg [] o53_12
def o53_13 : List ROp := [
  rq 29 (.move (tp 8)) 3,
  rq 4 (.assign (tp 29)) 3]
def c53_13 : RC := .reg [] o53_13
def c53_14 : RC := .seq c53_13 .ret
def c53_15 : RC := .cond (tp 28) c53_14 .skip
def c53_16 : RC := .seq c53_12 c53_15
def c53_17 : RC := .seq c53_11 c53_16
def c53_18 : RC := .seq c53_10 c53_17
def c53_19 : RC := .seq c53_9 c53_18
def c53_20 : RC := .seq c53_4 c53_19
def c53_21 : RC := .block 1 c53_20
def o53_22 : List ROp := [
  rq 30 (.binOp .add 3 (tp 11) (ki 1) 3) 3,
  rq 11 (.move (tp 30)) 3]
def c53_22 : RC := .reg [] o53_22
def c53_23 : RC := .seq c53_21 c53_22
def c53_24 : RC := .seq c53_3 c53_23
def c53_25 : RC := .seq c53_2 c53_24
def c53_26 : RC := .loop c53_25
def c53_27 : RC := .block 0 c53_26
def c53_28 : RC := .seq c53_1 c53_27
def o53_29 : List ROp := [
  rq 31 (.move (tp 0)) 22,
  rq 32 (cb .len #[(tp 31)] #[22]) 3,
  rq 33 (.move (tp 1)) 22,
  rq 34 (cb .len #[(tp 33)] #[22]) 3,
  rq 35 (.binOp .lss 3 (tp 32) (tp 34) 3) 4]
def c53_29 : RC := .reg [] o53_29
def o53_30 : List ROp := [
  rq 4 (.assign (ki (-1))) 3]
def c53_30 : RC := .reg [] o53_30
def c53_31 : RC := .seq c53_30 .ret
def c53_32 : RC := .cond (tp 35) c53_31 .skip
def c53_33 : RC := .seq c53_29 c53_32
def o53_34 : List ROp := [
  rq 4 (.assign (ki 0)) 3]
def c53_34 : RC := .reg [] o53_34
def c53_35 : RC := .seq c53_34 .ret
def c53_36 : RC := .seq c53_33 c53_35
def c53_37 : RC := .seq c53_28 c53_36
def c53_38 : RC := .seq c53_0 c53_37
def o57_0 : List ROp := [
  rq 1 (.box 48 (tp 0)) 0,
  rq 2 (.assign (ki 0)) 3]
def c57_0 : RC := .reg [] o57_0
def o57_1 : List ROp := [
  rq 3 (.assign (ki 0)) 3]
def c57_1 : RC := .reg [] o57_1
def o57_2 : List ROp := [
  rq 6 (.slice 48 (tp 1) (some (ki 1)) none none) 22,
  rq 7 (cb .len #[(tp 6)] #[22]) 3,
  rq 8 (.move (ki 0)) 3]
def c57_2 : RC := .reg [] o57_2
def o57_3 : List ROp := [
  rq 9 (.binOp .lss 3 (tp 8) (tp 7) 3) 0]
def c57_3 : RC := .reg [] o57_3
def c57_4 : RC := .cond (tp 9) .skip (.exit 0)
def o57_5 : List ROp := [
  rq 10 (.indexAddr 22 (tp 6) (tp 8)) 0,
  rq 11 (.load 3 (tp 10)) 3,
  rq 5 (.assign (tp 11)) 3]
def c57_5 : RC := .reg [] o57_5
def o57_6 : List ROp := [
  rq 12 (.move (tp 3)) 3,
  rq 13 (.move (tp 5)) 3,
  rq 14 (.binOp .add 3 (tp 12) (tp 13) 3) 3,
  rq 3 (.assign (tp 14)) 3]
def c57_6 : RC := .reg [] o57_6
def c57_7 : RC := .seq c57_5 c57_6
def c57_8 : RC := .block 1 c57_7
def o57_9 : List ROp := [
  rq 15 (.binOp .add 3 (tp 8) (ki 1) 3) 3,
  rq 8 (.move (tp 15)) 3]
def c57_9 : RC := .reg [] o57_9
def c57_10 : RC := .seq c57_8 c57_9
def c57_11 : RC := .seq c57_4 c57_10
def c57_12 : RC := .seq c57_3 c57_11
def c57_13 : RC := .loop c57_12
def c57_14 : RC := .block 0 c57_13
def c57_15 : RC := .seq c57_2 c57_14
def o57_16 : List ROp := [
  rq 16 (.move (tp 3)) 3,
  rq 2 (.assign (tp 16)) 3]
def c57_16 : RC := .reg [] o57_16
def c57_17 : RC := .seq c57_16 .ret
def c57_18 : RC := .seq c57_15 c57_17
def c57_19 : RC := .seq c57_1 c57_18
def c57_20 : RC := .seq c57_0 c57_19
def o59_0 : List ROp := [
  rq 6 (.assign (kb false)) 4]
def c59_0 : RC := .reg [] o59_0
def o59_1 : List ROp := [
  rq 7 (.move (tp 0)) 3,
  rq 8 (.move (tp 1)) 3,
  rq 9 (.binOp .geq 3 (tp 7) (tp 8) 3) 4,
  rq 10 (.move (tp 9)) 4,
  rg 11 (.move (tp 0)) 3 10 true,
  rg 12 (.move (tp 2)) 3 10 true,
  rg 13 (.binOp .leq 3 (tp 11) (tp 12) 3) 4 10 true,
  rq 14 (.pick (tp 10) (tp 13) (kb false)) 4,
  rq 6 (.assign (tp 14)) 4]
def c59_1 : RC := .reg [] o59_1
def c59_2 : RC := .seq c59_1 .ret
def c59_3 : RC := .seq c59_0 c59_2
def o65_0 : List ROp := [
  rq 2 (.assign (ki 0)) 3]
def c65_0 : RC := .reg [] o65_0
def o65_1 : List ROp := [
  rq 3 (.move (tp 0)) 81,
  rq 4 (.convert 81 96 (tp 3)) 96,
  rq 5 (cf 79 #[(tp 4)] #[96]) 3,
  rq 2 (.assign (tp 5)) 3]
def c65_1 : RC := .reg [] o65_1
def c65_2 : RC := .seq c65_1 .ret
def c65_3 : RC := .cond (kb false) c65_2 .skip
def o65_4 : List ROp := [
  rq 6 (.move (tp 0)) 81,
  rq 7 (cf 80 #[(tp 6)] #[98]) 3,
  rq 2 (.assign (tp 7)) 3]
def c65_4 : RC := .reg [] o65_4
def c65_5 : RC := .seq c65_4 .ret
def c65_6 : RC := .seq c65_3 c65_5
def c65_7 : RC := .seq c65_0 c65_6
def o66_0 : List ROp := [
  rq 4 (.assign (ki 0)) 3]
def c66_0 : RC := .reg [] o66_0
def o66_1 : List ROp := [
  rq 7 (.move (tp 0)) 3,
  rq 8 (cf 81 #[(tp 7)] #[3]) 4,
  rq 5 (.assign (tp 8)) 4]
def c66_1 : RC := .reg [] o66_1
def o66_2 : List ROp := [
  rq 9 (.move (tp 1)) 3,
  rq 10 (cf 81 #[(tp 9)] #[3]) 4,
  rq 6 (.assign (tp 10)) 4]
def c66_2 : RC := .reg [] o66_2
def o66_3 : List ROp := [
  rq 11 (.move (tp 5)) 4]
def c66_3 : RC := .reg [] o66_3
def o66_4 : List ROp := [
  rq 12 (.move (tp 6)) 4]
def c66_4 : RC := .reg [] o66_4
def o66_5 : List ROp := [
  rq 4 (.assign (ki 0)) 3]
def c66_5 : RC := .reg [] o66_5
def c66_6 : RC := .seq c66_5 .ret
def c66_7 : RC := .cond (tp 12) c66_6 .skip
def c66_8 : RC := .seq c66_4 c66_7
def o66_9 : List ROp := [
  rq 4 (.assign (ki (-1))) 3]
def c66_9 : RC := .reg [] o66_9
def c66_10 : RC := .seq c66_9 .ret
def c66_11 : RC := .seq c66_8 c66_10
def c66_12 : RC := .cond (tp 11) c66_11 .skip
def c66_13 : RC := .seq c66_3 c66_12
def o66_14 : List ROp := [
  rq 13 (.move (tp 6)) 4]
def c66_14 : RC := .reg [] o66_14
def o66_15 : List ROp := [
  rq 4 (.assign (ki 1)) 3]
def c66_15 : RC := .reg [] o66_15
def c66_16 : RC := .seq c66_15 .ret
def c66_17 : RC := .cond (tp 13) c66_16 .skip
def c66_18 : RC := .seq c66_14 c66_17
def o66_19 : List ROp := [
  rq 14 (.move (tp 0)) 3,
  rq 15 (.move (tp 1)) 3,
  rq 16 (.binOp .lss 3 (tp 14) (tp 15) 3) 4]
def c66_19 : RC := .reg [] o66_19
def o66_20 : List ROp := [
  rq 4 (.assign (ki (-1))) 3]
def c66_20 : RC := .reg [] o66_20
def c66_21 : RC := .seq c66_20 .ret
def c66_22 : RC := .cond (tp 16) c66_21 .skip
def c66_23 : RC := .seq c66_19 c66_22
def o66_24 : List ROp := [
  rq 17 (.move (tp 0)) 3,
  rq 18 (.move (tp 1)) 3,
  rq 19 (.binOp .gtr 3 (tp 17) (tp 18) 3) 4]
def c66_24 : RC := .reg [] o66_24
def o66_25 : List ROp := [
  rq 4 (.assign (ki 1)) 3]
def c66_25 : RC := .reg [] o66_25
def c66_26 : RC := .seq c66_25 .ret
def c66_27 : RC := .cond (tp 19) c66_26 .skip
def c66_28 : RC := .seq c66_24 c66_27
def o66_29 : List ROp := [
  rq 4 (.assign (ki 0)) 3]
def c66_29 : RC := .reg [] o66_29
def c66_30 : RC := .seq c66_29 .ret
def c66_31 : RC := .seq c66_28 c66_30
def c66_32 : RC := .seq c66_23 c66_31
def c66_33 : RC := .seq c66_18 c66_32
def c66_34 : RC := .seq c66_13 c66_33
def c66_35 : RC := .seq c66_2 c66_34
def c66_36 : RC := .seq c66_1 c66_35
def c66_37 : RC := .seq c66_0 c66_36
def o79_0 : List ROp := [
  rq 2 (.assign (ki 0)) 3]
def c79_0 : RC := .reg [] o79_0
def o79_1 : List ROp := [
  rq 3 (.move (tp 0)) 96,
  rq 4 (.binOp .geq 96 (tp 3) (.const (.int .u32 65536)) 96) 4]
def c79_1 : RC := .reg [] o79_1
def o79_2 : List ROp := [
  rq 5 (.move (tp 0)) 96,
  rq 6 (.binOp .shr 96 (tp 5) (.const (.int .u64 16)) 81) 96,
  rq 0 (.assign (tp 6)) 96]
def c79_2 : RC := .reg [] o79_2
def o79_3 : List ROp := [
  rq 2 (.assign (ki 16)) 3]
def c79_3 : RC := .reg [] o79_3
def c79_4 : RC := .seq c79_2 c79_3
def c79_5 : RC := .cond (tp 4) c79_4 .skip
def c79_6 : RC := .seq c79_1 c79_5
def o79_7 : List ROp := [
  rq 7 (.move (tp 0)) 96,
  rq 8 (.binOp .geq 96 (tp 7) (.const (.int .u32 256)) 96) 4]
def c79_7 : RC := .reg [] o79_7
def o79_8 : List ROp := [
  rq 9 (.move (tp 0)) 96,
  rq 10 (.binOp .shr 96 (tp 9) (.const (.int .u64 8)) 81) 96,
  rq 0 (.assign (tp 10)) 96]
def c79_8 : RC := .reg [] o79_8
def o79_9 : List ROp := [
  rq 11 (.move (tp 2)) 3,
  rq 12 (.binOp .add 3 (tp 11) (ki 8) 3) 3,
  rq 2 (.assign (tp 12)) 3]
def c79_9 : RC := .reg [] o79_9
def c79_10 : RC := .seq c79_8 c79_9
def c79_11 : RC := .cond (tp 8) c79_10 .skip
def c79_12 : RC := .seq c79_7 c79_11
def o79_13 : List ROp := [
  rq 13 (.move (tp 2)) 3,
  rq 14 (.move (tp 0)) 96,
  rq 15 (.convert 96 5 (tp 14)) 5,
  rq 16 (.index 9 (.const (.string ⟨#[0, 1, 2, 2, 3, 3, 3, 3, 4, 4, 4, 4, 4, 4, 4, 4, 5, 5, 5, 5, 5, 5, 5, 5, 5, 5, 5, 5, 5, 5, 5, 5, 6, 6, 6, 6, 6, 6, 6, 6, 6, 6, 6, 6, 6, 6, 6, 6, 6, 6, 6, 6, 6, 6, 6, 6, 6, 6, 6, 6, 6, 6, 6, 6, 7, 7, 7, 7, 7, 7, 7, 7, 7, 7, 7, 7, 7, 7, 7, 7, 7, 7, 7, 7, 7, 7, 7, 7, 7, 7, 7, 7, 7, 7, 7, 7, 7, 7, 7, 7, 7, 7, 7, 7, 7, 7, 7, 7, 7, 7, 7, 7, 7, 7, 7, 7, 7, 7, 7, 7, 7, 7, 7, 7, 7, 7, 7, 7, 8, 8, 8, 8, 8, 8, 8, 8, 8, 8, 8, 8, 8, 8, 8, 8, 8, 8, 8, 8, 8, 8, 8, 8, 8, 8, 8, 8, 8, 8, 8, 8, 8, 8, 8, 8, 8, 8, 8, 8, 8, 8, 8, 8, 8, 8, 8, 8, 8, 8, 8, 8, 8, 8, 8, 8, 8, 8, 8, 8, 8, 8, 8, 8, 8, 8, 8, 8, 8, 8, 8, 8, 8, 8, 8, 8, 8, 8, 8, 8, 8, 8, 8, 8, 8, 8, 8, 8, 8, 8, 8, 8, 8, 8, 8, 8, 8, 8, 8, 8, 8, 8, 8, 8, 8, 8, 8, 8, 8, 8, 8, 8, 8, 8, 8, 8, 8, 8, 8, 8, 8, 8, 8, 8, 8, 8, 8, 8]⟩)) (tp 15)) 5,
  rq 17 (.convert 5 3 (tp 16)) 3,
  rq 18 (.binOp .add 3 (tp 13) (tp 17) 3) 3,
  rq 2 (.assign (tp 18)) 3]
def c79_13 : RC := .reg [] o79_13
def c79_14 : RC := .seq c79_13 .ret
def c79_15 : RC := .seq c79_12 c79_14
def c79_16 : RC := .seq c79_6 c79_15
def c79_17 : RC := .seq c79_0 c79_16
def o80_0 : List ROp := [
  rq 2 (.assign (ki 0)) 3]
def c80_0 : RC := .reg [] o80_0
def o80_1 : List ROp := [
  rq 3 (.move (tp 0)) 98,
  rq 4 (.binOp .geq 98 (tp 3) (.const (.int .u64 4294967296)) 98) 4]
def c80_1 : RC := .reg [] o80_1
def o80_2 : List ROp := [
  rq 5 (.move (tp 0)) 98,
  rq 6 (.binOp .shr 98 (tp 5) (.const (.int .u64 32)) 81) 98,
  rq 0 (.assign (tp 6)) 98]
def c80_2 : RC := .reg [] o80_2
def o80_3 : List ROp := [
  rq 2 (.assign (ki 32)) 3]
def c80_3 : RC := .reg [] o80_3
def c80_4 : RC := .seq c80_2 c80_3
def c80_5 : RC := .cond (tp 4) c80_4 .skip
def c80_6 : RC := .seq c80_1 c80_5
def o80_7 : List ROp := [
  rq 7 (.move (tp 0)) 98,
  rq 8 (.binOp .geq 98 (tp 7) (.const (.int .u64 65536)) 98) 4]
def c80_7 : RC := .reg [] o80_7
def o80_8 : List ROp := [
  rq 9 (.move (tp 0)) 98,
  rq 10 (.binOp .shr 98 (tp 9) (.const (.int .u64 16)) 81) 98,
  rq 0 (.assign (tp 10)) 98]
def c80_8 : RC := .reg [] o80_8
def o80_9 : List ROp := [
  rq 11 (.move (tp 2)) 3,
  rq 12 (.binOp .add 3 (tp 11) (ki 16) 3) 3,
  rq 2 (.assign (tp 12)) 3]
def c80_9 : RC := .reg [] o80_9
def c80_10 : RC := .seq c80_8 c80_9
def c80_11 : RC := .cond (tp 8) c80_10 .skip
def c80_12 : RC := .seq c80_7 c80_11
def o80_13 : List ROp := [
  rq 13 (.move (tp 0)) 98,
  rq 14 (.binOp .geq 98 (tp 13) (.const (.int .u64 256)) 98) 4]
def c80_13 : RC := .reg [] o80_13
def o80_14 : List ROp := [
  rq 15 (.move (tp 0)) 98,
  rq 16 (.binOp .shr 98 (tp 15) (.const (.int .u64 8)) 81) 98,
  rq 0 (.assign (tp 16)) 98]
def c80_14 : RC := .reg [] o80_14
def o80_15 : List ROp := [
  rq 17 (.move (tp 2)) 3,
  rq 18 (.binOp .add 3 (tp 17) (ki 8) 3) 3,
  rq 2 (.assign (tp 18)) 3]
def c80_15 : RC := .reg [] o80_15
def c80_16 : RC := .seq c80_14 c80_15
def c80_17 : RC := .cond (tp 14) c80_16 .skip
def c80_18 : RC := .seq c80_13 c80_17
def o80_19 : List ROp := [
  rq 19 (.move (tp 2)) 3,
  rq 20 (.move (tp 0)) 98,
  rq 21 (.convert 98 5 (tp 20)) 5,
  rq 22 (.index 9 (.const (.string ⟨#[0, 1, 2, 2, 3, 3, 3, 3, 4, 4, 4, 4, 4, 4, 4, 4, 5, 5, 5, 5, 5, 5, 5, 5, 5, 5, 5, 5, 5, 5, 5, 5, 6, 6, 6, 6, 6, 6, 6, 6, 6, 6, 6, 6, 6, 6, 6, 6, 6, 6, 6, 6, 6, 6, 6, 6, 6, 6, 6, 6, 6, 6, 6, 6, 7, 7, 7, 7, 7, 7, 7, 7, 7, 7, 7, 7, 7, 7, 7, 7, 7, 7, 7, 7, 7, 7, 7, 7, 7, 7, 7, 7, 7, 7, 7, 7, 7, 7, 7, 7, 7, 7, 7, 7, 7, 7, 7, 7, 7, 7, 7, 7, 7, 7, 7, 7, 7, 7, 7, 7, 7, 7, 7, 7, 7, 7, 7, 7, 8, 8, 8, 8, 8, 8, 8, 8, 8, 8, 8, 8, 8, 8, 8, 8, 8, 8, 8, 8, 8, 8, 8, 8, 8, 8, 8, 8, 8, 8, 8, 8, 8, 8, 8, 8, 8, 8, 8, 8, 8, 8, 8, 8, 8, 8, 8, 8, 8, 8, 8, 8, 8, 8, 8, 8, 8, 8, 8, 8, 8, 8, 8, 8, 8, 8, 8, 8, 8, 8, 8, 8, 8, 8, 8, 8, 8, 8, 8, 8, 8, 8, 8, 8, 8, 8, 8, 8, 8, 8, 8, 8, 8, 8, 8, 8, 8, 8, 8, 8, 8, 8, 8, 8, 8, 8, 8, 8, 8, 8, 8, 8, 8, 8, 8, 8, 8, 8, 8, 8, 8, 8, 8, 8, 8, 8, 8, 8]⟩)) (tp 21)) 5,
  rq 23 (.convert 5 3 (tp 22)) 3,
  rq 24 (.binOp .add 3 (tp 19) (tp 23) 3) 3,
  rq 2 (.assign (tp 24)) 3]
def c80_19 : RC := .reg [] o80_19
def c80_20 : RC := .seq c80_19 .ret
def c80_21 : RC := .seq c80_18 c80_20
def c80_22 : RC := .seq c80_12 c80_21
def c80_23 : RC := .seq c80_6 c80_22
def c80_24 : RC := .seq c80_0 c80_23
def o81_0 : List ROp := [
  rq 2 (.assign (kb false)) 4]
def c81_0 : RC := .reg [] o81_0
def o81_1 : List ROp := [
  rq 3 (.move (tp 0)) 3,
  rq 4 (.move (tp 0)) 3,
  rq 5 (.binOp .neq 3 (tp 3) (tp 4) 3) 4,
  rq 2 (.assign (tp 5)) 4]
def c81_1 : RC := .reg [] o81_1
def c81_2 : RC := .seq c81_1 .ret
def c81_3 : RC := .seq c81_0 c81_2
def o58_0 : List ROp := [
  rq 5 (.move (tp 0)) 25,
  rq 6 (cb .len #[(tp 5)] #[25]) 3,
  rq 4 (.assign (tp 6)) 3]
def c58_0 : RC := .reg [] o58_0
def o58_1 : List ROp := [
  rq 7 (.move (tp 0)) 25,
  rq 8 (.move (tp 4)) 3,
  rq 9 (.move (tp 4)) 3,
  rq 10 (.convert 3 81 (tp 9)) 81,
  rq 11 (cf 65 #[(tp 10)] #[81]) 3,
  rq 12 (.move (tp 1)) 69,
  rq 13 (cf 68 #[(tp 7), (ki 0), (tp 8), (tp 11), (tp 12)] #[25, 3, 3, 3, 69]) 0]
def c58_1 : RC := .reg [] o58_1
def c58_2 : RC := .seq c58_0 c58_1
def o68_0 : List ROp := [
  rq 10 (.assign (kb true)) 4]
def c68_0 : RC := .reg [] o68_0
def o68_1 : List ROp := [
  rq 11 (.assign (kb true)) 4]
def c68_1 : RC := .reg [] o68_1
def o68_2 : List ROp := [
  rq 21 (.move (tp 2)) 3,
  rq 22 (.move (tp 1)) 3,
  rq 23 (.binOp .sub 3 (tp 21) (tp 22) 3) 3,
  rq 12 (.assign (tp 23)) 3]
def c68_2 : RC := .reg [] o68_2
def o68_3 : List ROp := [
  rq 24 (.move (tp 12)) 3,
  rq 25 (.binOp .leq 3 (tp 24) (ki 12) 3) 4]
def c68_3 : RC := .reg [] o68_3
def o68_4 : List ROp := [
  rq 26 (.move (tp 0)) 25,
  rq 27 (.move (tp 1)) 3,
  rq 28 (.move (tp 2)) 3,
  rq 29 (.move (tp 4)) 69,
  rq 30 (cf 82 #[(tp 26), (tp 27), (tp 28), (tp 29)] #[25, 3, 3, 69]) 0]
def c68_4 : RC := .reg [] o68_4
def c68_5 : RC := .seq c68_4 .ret
def c68_6 : RC := .cond (tp 25) c68_5 .skip
def c68_7 : RC := .seq c68_3 c68_6
def o68_8 : List ROp := [
  rq 31 (.move (tp 3)) 3,
  rq 32 (.binOp .eql 3 (tp 31) (ki 0) 3) 4]
def c68_8 : RC := .reg [] o68_8
def o68_9 : List ROp := [
  rq 33 (.move (tp 0)) 25,
  rq 34 (.move (tp 1)) 3,
  rq 35 (.move (tp 2)) 3,
  rq 36 (.move (tp 4)) 69,
  rq 37 (cf 83 #[(tp 33), (tp 34), (tp 35), (tp 36)] #[25, 3, 3, 69]) 0]
def c68_9 : RC := .reg [] o68_9
def c68_10 : RC := .seq c68_9 .ret
def c68_11 : RC := .cond (tp 32) c68_10 .skip
def c68_12 : RC := .seq c68_8 c68_11
def o68_13 : List ROp := [
  rq 38 (.move (tp 10)) 4,
  rq 39 (.unOp .not 4 (tp 38)) 4]
def c68_13 : RC := .reg [] o68_13
def o68_14 : List ROp := [
  rq 40 (.move (tp 0)) 25,
  rq 41 (.move (tp 1)) 3,
  rq 42 (.move (tp 2)) 3,
  rq 43 (.move (tp 4)) 69,
  rq 44 (cf 84 #[(tp 40), (tp 41), (tp 42), (tp 43)] #[25, 3, 3, 69]) 0]
def c68_14 : RC := .reg [] o68_14
def o68_15 : List ROp := [
  rq 45 (.move (tp 3)) 3,
  rq 46 (.binOp .sub 3 (tp 45) (ki 1) 3) 3,
  rq 3 (.assign (tp 46)) 3]
def c68_15 : RC := .reg [] o68_15
def c68_16 : RC := .seq c68_14 c68_15
def c68_17 : RC := .cond (tp 39) c68_16 .skip
def c68_18 : RC := .seq c68_13 c68_17
def o68_19 : List ROp := [
  rq 48 (.move (tp 0)) 25,
  rq 49 (.move (tp 1)) 3,
  rq 50 (.move (tp 2)) 3,
  rq 51 (.move (tp 4)) 69,
  rq 52 (cf 85 #[(tp 48), (tp 49), (tp 50), (tp 51)] #[25, 3, 3, 69]) 89,
  rq 47 (.move (tp 52)) 89,
  rq 53 (.extract (tp 47) 0) 3,
  rq 54 (.extract (tp 47) 1) 88,
  rq 13 (.assign (tp 53)) 3,
  rq 14 (.assign (tp 54)) 88]
def c68_19 : RC := .reg [] o68_19
def o68_20 : List ROp := [
  rq 55 (.move (tp 14)) 88,
  rq 56 (.binOp .eql 88 (tp 55) (ki 2) 88) 4]
def c68_20 : RC := .reg [] o68_20
def o68_21 : List ROp := [
  rq 57 (.move (tp 0)) 25,
  rq 58 (.move (tp 1)) 3,
  rq 59 (.move (tp 2)) 3,
  rq 60 (.move (tp 4)) 69,
  rq 61 (cf 86 #[(tp 57), (tp 58), (tp 59), (tp 60)] #[25, 3, 3, 69]) 0]
def c68_21 : RC := .reg [] o68_21
def o68_22 : List ROp := [
  rq 62 (.move (tp 2)) 3,
  rq 63 (.binOp .sub 3 (tp 62) (ki 1) 3) 3,
  rq 64 (.move (tp 13)) 3,
  rq 65 (.move (tp 1)) 3,
  rq 66 (.binOp .sub 3 (tp 64) (tp 65) 3) 3,
  rq 67 (.binOp .sub 3 (tp 63) (tp 66) 3) 3,
  rq 13 (.assign (tp 67)) 3]
def c68_22 : RC := .reg [] o68_22
def o68_23 : List ROp := [
  rq 14 (.assign (ki 1)) 88]
def c68_23 : RC := .reg [] o68_23
def c68_24 : RC := .seq c68_22 c68_23
def c68_25 : RC := .seq c68_21 c68_24
def c68_26 : RC := .cond (tp 56) c68_25 .skip
def c68_27 : RC := .seq c68_20 c68_26
def o68_28 : List ROp := [
  rq 68 (.move (tp 10)) 4,
  rq 69 (.move (tp 68)) 4,
  rg 70 (.move (tp 11)) 4 69 true,
  rq 71 (.pick (tp 69) (tp 70) (kb false)) 4,
  rq 72 (.move (tp 71)) 4,
  rg 73 (.move (tp 14)) 88 72 true,
  rg 74 (.binOp .eql 88 (tp 73) (ki 1) 88) 4 72 true,
  rq 75 (.pick (tp 72) (tp 74) (kb false)) 4]
def c68_28 : RC := .reg [] o68_28
def o68_29 : List ROp := [
  rq 76 (.move (tp 0)) 25,
  rq 77 (.move (tp 1)) 3,
  rq 78 (.move (tp 2)) 3,
  rq 79 (.move (tp 4)) 69,
  rq 80 (cf 87 #[(tp 76), (tp 77), (tp 78), (tp 79)] #[25, 3, 3, 69]) 4]
def c68_29 : RC := .reg [] o68_29
def c68_30 : RC := .cond (tp 80) .ret .skip
def c68_31 : RC := .seq c68_29 c68_30
def c68_32 : RC := .cond (tp 75) c68_31 .skip
def c68_33 : RC := .seq c68_28 c68_32
def o68_34 : List ROp := [
  rq 81 (.move (tp 1)) 3,
  rq 82 (.binOp .gtr 3 (tp 81) (ki 0) 3) 4,
  rq 83 (.move (tp 82)) 4,
  rg 84 (.move (tp 4)) 69 83 true,
  rg 85 (.move (tp 0)) 25 83 true,
  rg 86 (.move (tp 1)) 3 83 true,
  rg 87 (.binOp .sub 3 (tp 86) (ki 1) 3) 3 83 true,
  rg 88 (.indexAddr 25 (tp 85) (tp 87)) 0 83 true,
  rg 89 (.load 22 (tp 88)) 22 83 true,
  rg 90 (.move (tp 0)) 25 83 true,
  rg 91 (.move (tp 13)) 3 83 true,
  rg 92 (.indexAddr 25 (tp 90) (tp 91)) 0 83 true,
  rg 93 (.load 22 (tp 92)) 22 83 true,
  rg 94 (.call ⟨.value (tp 84), #[(tp 89), (tp 93)], #[22, 22]⟩) 3 83 true,
  rg 95 (.binOp .lss 3 (tp 94) (ki 0) 3) 4 83 true,
  rg 96 (.unOp .not 4 (tp 95)) 4 83 true,
  rq 97 (.pick (tp 83) (tp 96) (kb false)) 4]
def c68_34 : RC := .reg [0, 1, 2, 3, 4, 5, 6, 7, 8, 9, 10, 11, 12, 13, 14, 15, 16] o68_34
def o68_35 : List ROp := [
  rq 98 (.move (tp 0)) 25,
  rq 99 (.move (tp 1)) 3,
  rq 100 (.move (tp 2)) 3,
  rq 101 (.move (tp 13)) 3,
  rq 102 (.move (tp 4)) 69,
  rq 103 (cf 88 #[(tp 98), (tp 99), (tp 100), (tp 101), (tp 102)] #[25, 3, 3, 3, 69]) 3,
  rq 15 (.assign (tp 103)) 3]
def c68_35 : RC := .reg [] o68_35
def o68_36 : List ROp := [
  rq 104 (.move (tp 15)) 3,
  rq 1 (.assign (tp 104)) 3]
def c68_36 : RC := .reg [] o68_36
def c68_37 : RC := .seq c68_36 (.exit 1)
def c68_38 : RC := .seq c68_35 c68_37
def c68_39 : RC := .cond (tp 97) c68_38 .skip
def c68_40 : RC := .seq c68_34 c68_39
def o68_41 : List ROp := [
  rq 106 (.move (tp 0)) 25,
  rq 107 (.move (tp 1)) 3,
  rq 108 (.move (tp 2)) 3,
  rq 109 (.move (tp 13)) 3,
  rq 110 (.move (tp 4)) 69,
  rq 111 (cf 89 #[(tp 106), (tp 107), (tp 108), (tp 109), (tp 110)] #[25, 3, 3, 3, 69]) 93,
  rq 105 (.move (tp 111)) 93,
  rq 112 (.extract (tp 105) 0) 3,
  rq 113 (.extract (tp 105) 1) 4,
  rq 16 (.assign (tp 112)) 3,
  rq 17 (.assign (tp 113)) 4]
def c68_41 : RC := .reg [] o68_41
def o68_42 : List ROp := [
  rq 114 (.move (tp 17)) 4,
  rq 11 (.assign (tp 114)) 4]
def c68_42 : RC := .reg [] o68_42
def o68_43 : List ROp := [
  rq 115 (.move (tp 16)) 3,
  rq 116 (.move (tp 1)) 3,
  rq 117 (.binOp .sub 3 (tp 115) (tp 116) 3) 3,
  rq 118 (.move (tp 2)) 3,
  rq 119 (.move (tp 16)) 3,
  rq 120 (.binOp .sub 3 (tp 118) (tp 119) 3) 3,
  rq 18 (.assign (tp 117)) 3,
  rq 19 (.assign (tp 120)) 3]
def c68_43 : RC := .reg [] o68_43
def o68_44 : List ROp := [
  rq 121 (.move (tp 12)) 3,
  rq 122 (.binOp .quo 3 (tp 121) (ki 8) 3) 3,
  rq 20 (.assign (tp 122)) 3]
def c68_44 : RC := .reg [] o68_44
def o68_45 : List ROp := [
  rq 123 (.move (tp 18)) 3,
  rq 124 (.move (tp 19)) 3,
  rq 125 (.binOp .lss 3 (tp 123) (tp 124) 3) 4]
def c68_45 : RC := .reg [] o68_45
def o68_46 : List ROp := [
  rq 126 (.move (tp 18)) 3,
  rq 127 (.move (tp 20)) 3,
  rq 128 (.binOp .geq 3 (tp 126) (tp 127) 3) 4,
  rq 10 (.assign (tp 128)) 4]
def c68_46 : RC := .reg [] o68_46
def o68_47 : List ROp := [
  rq 129 (.move (tp 0)) 25,
  rq 130 (.move (tp 1)) 3,
  rq 131 (.move (tp 16)) 3,
  rq 132 (.move (tp 3)) 3,
  rq 133 (.move (tp 4)) 69,
  rq 134 (cf 68 #[(tp 129), (tp 130), (tp 131), (tp 132), (tp 133)] #[25, 3, 3, 3, 69]) 0]
def c68_47 : RC := .reg [] o68_47
def o68_48 : List ROp := [
  rq 135 (.move (tp 16)) 3,
  rq 136 (.binOp .add 3 (tp 135) (ki 1) 3) 3,
  rq 1 (.assign (tp 136)) 3]
def c68_48 : RC := .reg [] o68_48
def c68_49 : RC := .seq c68_47 c68_48
def c68_50 : RC := .seq c68_46 c68_49
def o68_51 : List ROp := [
  rq 137 (.move (tp 19)) 3,
  rq 138 (.move (tp 20)) 3,
  rq 139 (.binOp .geq 3 (tp 137) (tp 138) 3) 4,
  rq 10 (.assign (tp 139)) 4]
def c68_51 : RC := .reg [] o68_51
def o68_52 : List ROp := [
  rq 140 (.move (tp 0)) 25,
  rq 141 (.move (tp 16)) 3,
  rq 142 (.binOp .add 3 (tp 141) (ki 1) 3) 3,
  rq 143 (.move (tp 2)) 3,
  rq 144 (.move (tp 3)) 3,
  rq 145 (.move (tp 4)) 69,
  rq 146 (cf 68 #[(tp 140), (tp 142), (tp 143), (tp 144), (tp 145)] #[25, 3, 3, 3, 69]) 0]
def c68_52 : RC := .reg [] o68_52
def o68_53 : List ROp := [
  rq 147 (.move (tp 16)) 3,
  rq 2 (.assign (tp 147)) 3]
def c68_53 : RC := .reg [] o68_53
def c68_54 : RC := .seq c68_52 c68_53
def c68_55 : RC := .seq c68_51 c68_54
def c68_56 : RC := .cond (tp 125) c68_50 c68_55
def c68_57 : RC := .seq c68_45 c68_56
def c68_58 : RC := .seq c68_44 c68_57
def c68_59 : RC := .seq c68_43 c68_58
def c68_60 : RC := .seq c68_42 c68_59
def c68_61 : RC := .seq c68_41 c68_60
def c68_62 : RC := .seq c68_40 c68_61
def c68_63 : RC := .seq c68_33 c68_62
def c68_64 : RC := .seq c68_27 c68_63
def c68_65 : RC := .seq c68_19 c68_64
def c68_66 : RC := .seq c68_18 c68_65
def c68_67 : RC := .seq c68_12 c68_66
def c68_68 : RC := .seq c68_7 c68_67
def c68_69 : RC := .seq c68_2 c68_68
def c68_70 : RC := .block 1 c68_69
def c68_71 : RC := .loop c68_70
def c68_72 : RC := .block 0 c68_71
def c68_73 : RC := .seq c68_1 c68_72
def c68_74 : RC := .seq c68_0 c68_73
def o82_0 : List ROp := [
  rq 10 (.move (tp 1)) 3,
  rq 11 (.binOp .add 3 (tp 10) (ki 1) 3) 3,
  rq 8 (.assign (tp 11)) 3]
def c82_0 : RC := .reg [] o82_0
def o82_1 : List ROp := [
  rq 12 (.move (tp 8)) 3,
  rq 13 (.move (tp 2)) 3,
  rq 14 (.binOp .lss 3 (tp 12) (tp 13) 3) 4]
def c82_1 : RC := .reg [] o82_1
def c82_2 : RC := .cond (tp 14) .skip (.exit 0)
def c82_3 : RC := .seq c82_1 c82_2
def o82_4 : List ROp := [
  rq 17 (.move (tp 8)) 3,
  rq 9 (.assign (tp 17)) 3]
def c82_4 : RC := .reg [] o82_4
def o82_5 : List ROp := [
  rq 18 (.move (tp 9)) 3,
  rq 19 (.move (tp 1)) 3,
  rq 20 (.binOp .gtr 3 (tp 18) (tp 19) 3) 4,
  rq 21 (.move (tp 20)) 4,
  rg 22 (.move (tp 3)) 69 21 true,
  rg 23 (.move (tp 0)) 25 21 true,
  rg 24 (.move (tp 9)) 3 21 true,
  rg 25 (.indexAddr 25 (tp 23) (tp 24)) 0 21 true,
  rg 26 (.load 22 (tp 25)) 22 21 true,
  rg 27 (.move (tp 0)) 25 21 true,
  rg 28 (.move (tp 9)) 3 21 true,
  rg 29 (.binOp .sub 3 (tp 28) (ki 1) 3) 3 21 true,
  rg 30 (.indexAddr 25 (tp 27) (tp 29)) 0 21 true,
  rg 31 (.load 22 (tp 30)) 22 21 true,
  rg 32 (.call ⟨.value (tp 22), #[(tp 26), (tp 31)], #[22, 22]⟩) 3 21 true,
  rg 33 (.binOp .lss 3 (tp 32) (ki 0) 3) 4 21 true,
  rq 34 (.pick (tp 21) (tp 33) (kb false)) 4]
def c82_5 : RC := .reg [0, 1, 2, 3, 4, 5, 6, 7, 8, 9, 10, 11, 12, 13, 14, 15, 16] o82_5
def c82_6 : RC := .cond (tp 34) .skip (.exit 2)
def c82_7 : RC := .seq c82_5 c82_6
def o82_8 : List ROp := [
  rq 37 (.move (tp 0)) 25,
  rq 38 (.move (tp 9)) 3,
  rq 39 (.move (tp 0)) 25,
  rq 40 (.move (tp 9)) 3,
  rq 41 (.binOp .sub 3 (tp 40) (ki 1) 3) 3,
  rq 42 (.move (tp 0)) 25,
  rq 43 (.move (tp 9)) 3,
  rq 44 (.binOp .sub 3 (tp 43) (ki 1) 3) 3,
  rq 45 (.indexAddr 25 (tp 42) (tp 44)) 0,
  rq 46 (.load 22 (tp 45)) 22,
  rq 47 (.move (tp 0)) 25,
  rq 48 (.move (tp 9)) 3,
  rq 49 (.indexAddr 25 (tp 47) (tp 48)) 0,
  rq 50 (.load 22 (tp 49)) 22,
  rq 51 (.indexAddr 25 (tp 37) (tp 38)) 0,
  rn (.store 22 (tp 51) (tp 46)) 0,
  rq 52 (.indexAddr 25 (tp 39) (tp 41)) 0,
  rn (.store 22 (tp 52) (tp 50)) 0]
def c82_8 : RC := .reg [0, 1, 2, 3, 4, 5, 6, 7, 8, 9, 10, 11, 12, 13, 14, 15, 16, 17] o82_8
def c82_9 : RC := .block 3 c82_8
def o82_10 : List ROp := [
  rq 35 (.move (tp 9)) 3,
  rq 36 (.binOp .sub 3 (tp 35) (ki 1) 3) 3,
  rq 9 (.assign (tp 36)) 3]
def c82_10 : RC := .reg [] o82_10
def c82_11 : RC := .seq c82_9 c82_10
def c82_12 : RC := .seq c82_7 c82_11
def c82_13 : RC := .loop c82_12
def c82_14 : RC := .block 2 c82_13
def c82_15 : RC := .seq c82_4 c82_14
def c82_16 : RC := .block 1 c82_15
def o82_17 : List ROp := [
  rq 15 (.move (tp 8)) 3,
  rq 16 (.binOp .add 3 (tp 15) (ki 1) 3) 3,
  rq 8 (.assign (tp 16)) 3]
def c82_17 : RC := .reg [] o82_17
def c82_18 : RC := .seq c82_16 c82_17
def c82_19 : RC := .seq c82_3 c82_18
def c82_20 : RC := .loop c82_19
def c82_21 : RC := .block 0 c82_20
def c82_22 : RC := .seq c82_0 c82_21
end Go.HpB
