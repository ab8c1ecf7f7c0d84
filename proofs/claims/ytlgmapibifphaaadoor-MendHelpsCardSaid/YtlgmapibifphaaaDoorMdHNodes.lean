/- Slim code of the functions that have a model, piece by piece: MADE BY PROGRAM (wip/tools/dec.py). -/
import Derived.Test.YtlgmapibifphaaaDoorSpFramex

set_option maxRecDepth 100000
namespace Go.MdH
open Go.Sp
def o3_0 : List ROp := [
  rq 1 (.box 24 (tp 0)) 0,
  rq 2 (.assign (kb false)) 4]
def c3_0 : RC := .reg [] o3_0
def o3_1 : List ROp := [
  rq 7 (.load 24 (tp 1)) 24,
  rq 8 (cf 11 #[(tp 7)] #[24]) 4,
  rq 9 (.move (tp 8)) 4,
  rg 10 (.fieldAddr 24 (tp 1) 1) 0 9 false,
  rg 11 (.load 22 (tp 10)) 22 9 false,
  rg 12 (cb .len #[(tp 11)] #[22]) 3 9 false,
  rg 13 (.binOp .gtr 3 (tp 12) (ki 7) 3) 4 9 false,
  rg 14 (.move (tp 13)) 4 9 false,
  rg 15 (.fieldAddr 24 (tp 1) 1) 0 14 true,
  rg 16 (.load 22 (tp 15)) 22 14 true,
  rg 17 (cb .len #[(tp 16)] #[22]) 3 14 true,
  rg 18 (.binOp .leq 3 (tp 17) (ki 10) 3) 4 14 true,
  rg 19 (.pick (tp 14) (tp 18) (kb false)) 4 9 false,
  rq 20 (.pick (tp 9) (kb true) (tp 19)) 4]
def c3_1 : RC := .reg [] o3_1
def o3_2 : List ROp := [
  rq 21 (cf 12 #[] #[]) 4,
  rq 2 (.assign (tp 21)) 4]
def c3_2 : RC := .reg [] o3_2
def c3_3 : RC := .seq c3_2 .ret
def c3_4 : RC := .cond (tp 20) c3_3 .skip
def c3_5 : RC := .seq c3_1 c3_4
def o3_6 : List ROp := [
  rq 23 (.load 24 (tp 1)) 24,
  rq 24 (cf 13 #[(tp 23)] #[24]) 29,
  rq 22 (.move (tp 24)) 29,
  rq 25 (.extract (tp 22) 0) 27,
  rq 26 (.extract (tp 22) 1) 28,
  rq 3 (.assign (tp 25)) 27,
  rq 4 (.assign (tp 26)) 28]
def c3_6 : RC := .reg [] o3_6
def o3_7 : List ROp := [
  rq 28 (.load 24 (tp 1)) 24,
  rq 29 (cf 14 #[(tp 28)] #[32]) 29,
  rq 27 (.move (tp 29)) 29,
  rq 30 (.extract (tp 27) 0) 27,
  rq 31 (.extract (tp 27) 1) 28,
  rq 5 (.assign (tp 30)) 27,
  rq 6 (.assign (tp 31)) 28]
def c3_7 : RC := .reg [] o3_7
def o3_8 : List ROp := [
  rq 32 (.move (tp 3)) 27,
  rq 33 (.move (tp 5)) 27,
  rq 34 (cf 15 #[(tp 32), (tp 33)] #[27, 27]) 4,
  rq 35 (.move (tp 34)) 4,
  rg 36 (.move (tp 4)) 28 35 true,
  rg 37 (.move (tp 6)) 28 35 true,
  rg 38 (.binOp .eql 28 (tp 36) (tp 37) 28) 4 35 true,
  rq 39 (.pick (tp 35) (tp 38) (kb false)) 4,
  rq 40 (.move (tp 39)) 4,
  rg 41 (cf 12 #[] #[]) 4 40 true,
  rq 42 (.pick (tp 40) (tp 41) (kb false)) 4,
  rq 2 (.assign (tp 42)) 4]
def c3_8 : RC := .reg [] o3_8
def c3_9 : RC := .seq c3_8 .ret
def c3_10 : RC := .seq c3_7 c3_9
def c3_11 : RC := .seq c3_6 c3_10
def c3_12 : RC := .seq c3_5 c3_11
def c3_13 : RC := .seq c3_0 c3_12
def o11_0 : List ROp := [
  rq 1 (.box 24 (tp 0)) 0,
  rq 2 (.assign (kb false)) 4]
def c11_0 : RC := .reg [] o11_0
def o11_1 : List ROp := [
  rq 3 (.fieldAddr 24 (tp 1) 1) 0,
  rq 4 (.load 22 (tp 3)) 22,
  rq 5 (cb .len #[(tp 4)] #[22]) 3,
  rq 6 (.binOp .gtr 3 (tp 5) (ki 40) 3) 4,
  rq 7 (.move (tp 6)) 4,
  rg 8 (.fieldAddr 24 (tp 1) 2) 0 7 false,
  rg 9 (.load 22 (tp 8)) 22 7 false,
  rg 10 (cb .len #[(tp 9)] #[22]) 3 7 false,
  rg 11 (.binOp .gtr 3 (tp 10) (ki 40) 3) 4 7 false,
  rq 12 (.pick (tp 7) (kb true) (tp 11)) 4,
  rq 2 (.assign (tp 12)) 4]
def c11_1 : RC := .reg [] o11_1
def c11_2 : RC := .seq c11_1 .ret
def c11_3 : RC := .seq c11_0 c11_2
def o13_0 : List ROp := [
  rq 1 (.box 24 (tp 0)) 0,
  rq 2 (.assign (.const (.slice none 0 0))) 27,
  rq 3 (.assign (ki 0)) 28]
def c13_0 : RC := .reg [] o13_0
def o13_1 : List ROp := [
  rq 10 (.load 24 (tp 1)) 24,
  rq 11 (cf 29 #[(tp 10)] #[24]) 38,
  rq 9 (.move (tp 11)) 38,
  rq 12 (.extract (tp 9) 0) 3,
  rq 13 (.extract (tp 9) 1) 28,
  rq 4 (.assign (tp 12)) 3,
  rq 5 (.assign (tp 13)) 28]
def c13_1 : RC := .reg [] o13_1
def o13_2 : List ROp := [
  rq 14 (.move (tp 5)) 28,
  rq 15 (.binOp .neq 28 (tp 14) (ki 0) 28) 4]
def c13_2 : RC := .reg [] o13_2
def o13_3 : List ROp := [
  rq 16 (.move (tp 5)) 28,
  rq 2 (.assign (.const (.slice none 0 0))) 27,
  rq 3 (.assign (tp 16)) 28]
def c13_3 : RC := .reg [] o13_3
def c13_4 : RC := .seq c13_3 .ret
def c13_5 : RC := .cond (tp 15) c13_4 .skip
def c13_6 : RC := .seq c13_2 c13_5
def o13_7 : List ROp := [
  rq 6 (.assign (.const (.slice none 0 0))) 27]
def c13_7 : RC := .reg [] o13_7
def o13_8 : List ROp := [
  rq 17 (.fieldAddr 24 (tp 1) 1) 0,
  rq 18 (.load 22 (tp 17)) 22,
  rq 19 (cb .len #[(tp 18)] #[22]) 3,
  rq 20 (.move (ki 0)) 3]
def c13_8 : RC := .reg [] o13_8
def o13_9 : List ROp := [
  rq 21 (.binOp .lss 3 (tp 20) (tp 19) 3) 0]
def c13_9 : RC := .reg [] o13_9
def c13_10 : RC := .cond (tp 21) .skip (.exit 0)
def o13_11 : List ROp := [
  rq 22 (.move (tp 20)) 3,
  rq 7 (.assign (tp 22)) 3]
def c13_11 : RC := .reg [] o13_11
def o13_12 : List ROp := [
  rq 23 (.move (tp 7)) 3,
  rq 24 (.binOp .add 3 (tp 23) (ki 1) 3) 3,
  rq 8 (.assign (tp 24)) 3]
def c13_12 : RC := .reg [] o13_12
def o13_13 : List ROp := [
  rq 25 (.move (tp 8)) 3,
  rq 26 (.fieldAddr 24 (tp 1) 1) 0,
  rq 27 (.load 22 (tp 26)) 22,
  rq 28 (cb .len #[(tp 27)] #[22]) 3,
  rq 29 (.binOp .lss 3 (tp 25) (tp 28) 3) 4]
def c13_13 : RC := .reg [] o13_13
def c13_14 : RC := .cond (tp 29) .skip (.exit 2)
def c13_15 : RC := .seq c13_13 c13_14
def o13_16 : List ROp := [
  rq 32 (.load 24 (tp 1)) 24,
  rq 33 (.move (tp 7)) 3,
  rq 34 (.move (tp 8)) 3,
  rq 35 (cf 43 #[(tp 32), (tp 33), (tp 34)] #[24, 3, 3]) 24,
  rq 36 (cf 44 #[(tp 35)] #[24]) 3,
  rq 37 (.move (tp 4)) 3,
  rq 38 (.binOp .lss 3 (tp 36) (tp 37) 3) 4]
def c13_16 : RC := .reg [] o13_16
def o13_17 : List ROp := [
  rq 39 (.move (tp 6)) 27,
  rq 40 (.move (tp 7)) 3,
  rq 41 (.move (tp 8)) 3,
  rq 42 (.build 51 #[(0, (tp 40)), (1, (tp 41))]) 51,
  rq 43 (.buildSlice 27 1 #[(0, (tp 42))]) 27,
  rq 44 (cb .append #[(tp 39), (tp 43)] #[27, 27]) 27,
  rq 6 (.assign (tp 44)) 27]
def c13_17 : RC := .reg [] o13_17
def c13_18 : RC := .cond (tp 38) c13_17 .skip
def c13_19 : RC := .seq c13_16 c13_18
def c13_20 : RC := .block 3 c13_19
def o13_21 : List ROp := [
  rq 30 (.move (tp 8)) 3,
  rq 31 (.binOp .add 3 (tp 30) (ki 1) 3) 3,
  rq 8 (.assign (tp 31)) 3]
def c13_21 : RC := .reg [] o13_21
def c13_22 : RC := .seq c13_20 c13_21
def c13_23 : RC := .seq c13_15 c13_22
def c13_24 : RC := .loop c13_23
def c13_25 : RC := .block 2 c13_24
def c13_26 : RC := .seq c13_12 c13_25
def c13_27 : RC := .seq c13_11 c13_26
def c13_28 : RC := .block 1 c13_27
def o13_29 : List ROp := [
  rq 45 (.binOp .add 3 (tp 20) (ki 1) 3) 3,
  rq 20 (.move (tp 45)) 3]
def c13_29 : RC := .reg [] o13_29
def c13_30 : RC := .seq c13_28 c13_29
def c13_31 : RC := .seq c13_10 c13_30
def c13_32 : RC := .seq c13_9 c13_31
def c13_33 : RC := .loop c13_32
def c13_34 : RC := .block 0 c13_33
def c13_35 : RC := .seq c13_8 c13_34
def o13_36 : List ROp := [
  rq 46 (.move (tp 6)) 27,
  rq 2 (.assign (tp 46)) 27,
  rq 3 (.assign (ki 0)) 28]
def c13_36 : RC := .reg [] o13_36
def c13_37 : RC := .seq c13_36 .ret
def c13_38 : RC := .seq c13_35 c13_37
def c13_39 : RC := .seq c13_7 c13_38
def c13_40 : RC := .seq c13_6 c13_39
def c13_41 : RC := .seq c13_1 c13_40
def c13_42 : RC := .seq c13_0 c13_41
def o14_0 : List ROp := [
  rq 1 (.box 32 (tp 0)) 0,
  rq 2 (.assign (.const (.slice none 0 0))) 27,
  rq 3 (.assign (ki 0)) 28]
def c14_0 : RC := .reg [] o14_0
def o14_1 : List ROp := [
  rq 10 (.load 32 (tp 1)) 32,
  rq 11 (cf 32 #[(tp 10)] #[32]) 38,
  rq 9 (.move (tp 11)) 38,
  rq 12 (.extract (tp 9) 0) 3,
  rq 13 (.extract (tp 9) 1) 28,
  rq 4 (.assign (tp 12)) 3,
  rq 5 (.assign (tp 13)) 28]
def c14_1 : RC := .reg [] o14_1
def o14_2 : List ROp := [
  rq 14 (.move (tp 5)) 28,
  rq 15 (.binOp .neq 28 (tp 14) (ki 0) 28) 4]
def c14_2 : RC := .reg [] o14_2
def o14_3 : List ROp := [
  rq 16 (.move (tp 5)) 28,
  rq 2 (.assign (.const (.slice none 0 0))) 27,
  rq 3 (.assign (tp 16)) 28]
def c14_3 : RC := .reg [] o14_3
def c14_4 : RC := .seq c14_3 .ret
def c14_5 : RC := .cond (tp 15) c14_4 .skip
def c14_6 : RC := .seq c14_2 c14_5
def o14_7 : List ROp := [
  rq 6 (.assign (.const (.slice none 0 0))) 27]
def c14_7 : RC := .reg [] o14_7
def o14_8 : List ROp := [
  rq 7 (.assign (ki 0)) 3]
def c14_8 : RC := .reg [] o14_8
def o14_9 : List ROp := [
  rq 17 (.move (tp 7)) 3,
  rq 18 (.fieldAddr 32 (tp 1) 1) 0,
  rq 19 (.load 22 (tp 18)) 22,
  rq 20 (cb .len #[(tp 19)] #[22]) 3,
  rq 21 (.binOp .lss 3 (tp 17) (tp 20) 3) 4]
def c14_9 : RC := .reg [] o14_9
def c14_10 : RC := .cond (tp 21) .skip (.exit 0)
def c14_11 : RC := .seq c14_9 c14_10
def o14_12 : List ROp := [
  rq 24 (.move (tp 7)) 3,
  rq 25 (.binOp .add 3 (tp 24) (ki 1) 3) 3,
  rq 8 (.assign (tp 25)) 3]
def c14_12 : RC := .reg [] o14_12
def o14_13 : List ROp := [
  rq 26 (.move (tp 8)) 3,
  rq 27 (.fieldAddr 32 (tp 1) 1) 0,
  rq 28 (.load 22 (tp 27)) 22,
  rq 29 (cb .len #[(tp 28)] #[22]) 3,
  rq 30 (.binOp .lss 3 (tp 26) (tp 29) 3) 4]
def c14_13 : RC := .reg [] o14_13
def c14_14 : RC := .cond (tp 30) .skip (.exit 2)
def c14_15 : RC := .seq c14_13 c14_14
def o14_16 : List ROp := [
  rq 33 (.load 32 (tp 1)) 32,
  rq 34 (.move (tp 7)) 3,
  rq 35 (.move (tp 8)) 3,
  rq 36 (cf 46 #[(tp 33), (tp 34), (tp 35)] #[32, 3, 3]) 32,
  rq 37 (cf 45 #[(tp 36)] #[32]) 3,
  rq 38 (.move (tp 4)) 3,
  rq 39 (.binOp .lss 3 (tp 37) (tp 38) 3) 4]
def c14_16 : RC := .reg [] o14_16
def o14_17 : List ROp := [
  rq 40 (.move (tp 6)) 27,
  rq 41 (.move (tp 7)) 3,
  rq 42 (.move (tp 8)) 3,
  rq 43 (.build 51 #[(0, (tp 41)), (1, (tp 42))]) 51,
  rq 44 (.buildSlice 27 1 #[(0, (tp 43))]) 27,
  rq 45 (cb .append #[(tp 40), (tp 44)] #[27, 27]) 27,
  rq 6 (.assign (tp 45)) 27]
def c14_17 : RC := .reg [] o14_17
def c14_18 : RC := .cond (tp 39) c14_17 .skip
def c14_19 : RC := .seq c14_16 c14_18
def c14_20 : RC := .block 3 c14_19
def o14_21 : List ROp := [
  rq 31 (.move (tp 8)) 3,
  rq 32 (.binOp .add 3 (tp 31) (ki 1) 3) 3,
  rq 8 (.assign (tp 32)) 3]
def c14_21 : RC := .reg [] o14_21
def c14_22 : RC := .seq c14_20 c14_21
def c14_23 : RC := .seq c14_15 c14_22
def c14_24 : RC := .loop c14_23
def c14_25 : RC := .block 2 c14_24
def c14_26 : RC := .seq c14_12 c14_25
def c14_27 : RC := .block 1 c14_26
def o14_28 : List ROp := [
  rq 22 (.move (tp 7)) 3,
  rq 23 (.binOp .add 3 (tp 22) (ki 1) 3) 3,
  rq 7 (.assign (tp 23)) 3]
def c14_28 : RC := .reg [] o14_28
def c14_29 : RC := .seq c14_27 c14_28
def c14_30 : RC := .seq c14_11 c14_29
def c14_31 : RC := .loop c14_30
def c14_32 : RC := .block 0 c14_31
def c14_33 : RC := .seq c14_8 c14_32
def o14_34 : List ROp := [
  rq 46 (.move (tp 6)) 27,
  rq 2 (.assign (tp 46)) 27,
  rq 3 (.assign (ki 0)) 28]
def c14_34 : RC := .reg [] o14_34
def c14_35 : RC := .seq c14_34 .ret
def c14_36 : RC := .seq c14_33 c14_35
def c14_37 : RC := .seq c14_7 c14_36
def c14_38 : RC := .seq c14_6 c14_37
def c14_39 : RC := .seq c14_1 c14_38
def c14_40 : RC := .seq c14_0 c14_39
def o15_0 : List ROp := [
  rq 4 (.assign (kb false)) 4]
def c15_0 : RC := .reg [] o15_0
def o15_1 : List ROp := [
  rq 6 (.move (tp 0)) 27,
  rq 7 (cb .len #[(tp 6)] #[27]) 3,
  rq 8 (.move (tp 1)) 27,
  rq 9 (cb .len #[(tp 8)] #[27]) 3,
  rq 10 (.binOp .neq 3 (tp 7) (tp 9) 3) 4]
def c15_1 : RC := .reg [] o15_1
def o15_2 : List ROp := [
  rq 4 (.assign (kb false)) 4]
def c15_2 : RC := .reg [] o15_2
def c15_3 : RC := .seq c15_2 .ret
def c15_4 : RC := .cond (tp 10) c15_3 .skip
def c15_5 : RC := .seq c15_1 c15_4
def o15_6 : List ROp := [
  rq 5 (.assign (ki 0)) 3]
def c15_6 : RC := .reg [] o15_6
def o15_7 : List ROp := [
  rq 11 (.move (tp 5)) 3,
  rq 12 (.move (tp 0)) 27,
  rq 13 (cb .len #[(tp 12)] #[27]) 3,
  rq 14 (.binOp .lss 3 (tp 11) (tp 13) 3) 4]
def c15_7 : RC := .reg [] o15_7
def c15_8 : RC := .cond (tp 14) .skip (.exit 0)
def c15_9 : RC := .seq c15_7 c15_8
def o15_10 : List ROp := [
  rq 17 (.move (tp 0)) 27,
  rq 18 (.move (tp 5)) 3,
  rq 19 (.indexAddr 27 (tp 17) (tp 18)) 0,
  rq 20 (.load 51 (tp 19)) 51,
  rq 21 (.move (tp 1)) 27,
  rq 22 (.move (tp 5)) 3,
  rq 23 (.indexAddr 27 (tp 21) (tp 22)) 0,
  rq 24 (.load 51 (tp 23)) 51,
  rq 25 (.binOp .neq 51 (tp 20) (tp 24) 51) 4]
def c15_10 : RC := .reg [0, 1, 2, 3, 4, 5, 6, 7, 8] o15_10
def o15_11 : List ROp := [
  rq 4 (.assign (kb false)) 4]
def c15_11 : RC := .reg [] o15_11
def c15_12 : RC := .seq c15_11 .ret
def c15_13 : RC := .cond (tp 25) c15_12 .skip
def c15_14 : RC := .seq c15_10 c15_13
def c15_15 : RC := .block 1 c15_14
def o15_16 : List ROp := [
  rq 15 (.move (tp 5)) 3,
  rq 16 (.binOp .add 3 (tp 15) (ki 1) 3) 3,
  rq 5 (.assign (tp 16)) 3]
def c15_16 : RC := .reg [] o15_16
def c15_17 : RC := .seq c15_15 c15_16
def c15_18 : RC := .seq c15_9 c15_17
def c15_19 : RC := .loop c15_18
def c15_20 : RC := .block 0 c15_19
def c15_21 : RC := .seq c15_6 c15_20
def o15_22 : List ROp := [
  rq 4 (.assign (kb true)) 4]
def c15_22 : RC := .reg [] o15_22
def c15_23 : RC := .seq c15_22 .ret
def c15_24 : RC := .seq c15_21 c15_23
def c15_25 : RC := .seq c15_5 c15_24
def c15_26 : RC := .seq c15_0 c15_25
def o29_0 : List ROp := [
  rq 1 (.box 24 (tp 0)) 0,
  rq 2 (.assign (ki 0)) 3,
  rq 3 (.assign (ki 0)) 28]
def c29_0 : RC := .reg [] o29_0
def o29_1 : List ROp := [
  rq 5 (.load 24 (tp 1)) 24,
  rq 6 (cf 47 #[(tp 5)] #[24]) 28,
  rq 4 (.assign (tp 6)) 28]
def c29_1 : RC := .reg [] o29_1
def o29_2 : List ROp := [
  rq 7 (.move (tp 4)) 28,
  rq 8 (.binOp .neq 28 (tp 7) (ki 0) 28) 4]
def c29_2 : RC := .reg [] o29_2
def o29_3 : List ROp := [
  rq 9 (.move (tp 4)) 28,
  rq 2 (.assign (ki 0)) 3,
  rq 3 (.assign (tp 9)) 28]
def c29_3 : RC := .reg [] o29_3
def c29_4 : RC := .seq c29_3 .ret
def c29_5 : RC := .cond (tp 8) c29_4 .skip
def c29_6 : RC := .seq c29_2 c29_5
def c29_7 : RC := .seq c29_1 c29_6
def o29_8 : List ROp := [
  rq 10 (.load 24 (tp 1)) 24,
  rq 11 (cf 44 #[(tp 10)] #[24]) 3,
  rq 2 (.assign (tp 11)) 3,
  rq 3 (.assign (ki 0)) 28]
def c29_8 : RC := .reg [] o29_8
def c29_9 : RC := .seq c29_8 .ret
def c29_10 : RC := .seq c29_7 c29_9
def c29_11 : RC := .seq c29_0 c29_10
def o32_0 : List ROp := [
  rq 1 (.box 32 (tp 0)) 0,
  rq 2 (.assign (ki 0)) 3,
  rq 3 (.assign (ki 0)) 28]
def c32_0 : RC := .reg [] o32_0
def o32_1 : List ROp := [
  rq 5 (.load 32 (tp 1)) 32,
  rq 6 (cf 49 #[(tp 5)] #[32]) 28,
  rq 4 (.assign (tp 6)) 28]
def c32_1 : RC := .reg [] o32_1
def o32_2 : List ROp := [
  rq 7 (.move (tp 4)) 28,
  rq 8 (.binOp .neq 28 (tp 7) (ki 0) 28) 4]
def c32_2 : RC := .reg [] o32_2
def o32_3 : List ROp := [
  rq 9 (.move (tp 4)) 28,
  rq 2 (.assign (ki 0)) 3,
  rq 3 (.assign (tp 9)) 28]
def c32_3 : RC := .reg [] o32_3
def c32_4 : RC := .seq c32_3 .ret
def c32_5 : RC := .cond (tp 8) c32_4 .skip
def c32_6 : RC := .seq c32_2 c32_5
def o32_7 : List ROp := [
  rq 10 (.load 32 (tp 1)) 32,
  rq 11 (cf 45 #[(tp 10)] #[32]) 3,
  rq 2 (.assign (tp 11)) 3,
  rq 3 (.assign (ki 0)) 28]
def c32_7 : RC := .reg [] o32_7
def c32_8 : RC := .seq c32_7 .ret
def c32_9 : RC := .seq c32_6 c32_8
def c32_10 : RC := .seq c32_1 c32_9
def c32_11 : RC := .seq c32_0 c32_10
def o43_0 : List ROp := [
  rq 3 (.box 24 (tp 0)) 0,
  rq 6 (.alloc 24) 0]
def c43_0 : RC := .reg [] o43_0
def o43_1 : List ROp := [
  rq 8 (.fieldAddr 24 (tp 3) 0) 0,
  rq 9 (.load 3 (tp 8)) 3,
  rq 10 (.fieldAddr 24 (tp 3) 1) 0,
  rq 11 (.load 22 (tp 10)) 22,
  rq 13 (.fieldAddr 24 (tp 3) 2) 0,
  rq 14 (.load 22 (tp 13)) 22,
  rq 7 (.alloc 24) 0,
  ⟨(some 12), cf 63 #[(tp 11)] #[22], 22, none, [(tp 13), (tp 8)]⟩,
  ⟨(some 15), cf 63 #[(tp 14)] #[22], 22, none, [(tp 8)]⟩,
  rq 16 (.build 24 #[(0, (tp 9)), (1, (tp 12)), (2, (tp 15))]) 24,
  rn (.store 24 (tp 7) (tp 16)) 0]
def c43_1 : RC := .reg [0, 1, 2, 3, 5, 6, 9, 4, 7, 8, 10] o43_1
def o43_2 : List ROp := [
  rq 17 (.fieldAddr 24 (tp 7) 1) 0,
  rq 18 (.load 22 (tp 17)) 22,
  rq 19 (.move (tp 1)) 3,
  rq 20 (.fieldAddr 24 (tp 7) 1) 0,
  rq 21 (.load 22 (tp 20)) 22,
  rq 22 (.move (tp 2)) 3,
  rq 23 (.fieldAddr 24 (tp 7) 1) 0,
  rq 24 (.load 22 (tp 23)) 22,
  rq 25 (.move (tp 2)) 3,
  rq 26 (.indexAddr 22 (tp 24) (tp 25)) 0,
  rq 27 (.load 3 (tp 26)) 3,
  rq 28 (.fieldAddr 24 (tp 7) 1) 0,
  rq 29 (.load 22 (tp 28)) 22,
  rq 30 (.move (tp 1)) 3,
  rq 31 (.indexAddr 22 (tp 29) (tp 30)) 0,
  rq 32 (.load 3 (tp 31)) 3,
  rq 33 (.indexAddr 22 (tp 18) (tp 19)) 0,
  ⟨none, .store 3 (tp 33) (tp 27), 0, none, [(tp 20)]⟩,
  rq 34 (.indexAddr 22 (tp 21) (tp 22)) 0,
  rn (.store 3 (tp 34) (tp 32)) 0]
def c43_2 : RC := .reg [0, 1, 2, 3, 4, 5, 6, 7, 8, 9, 10, 11, 12, 13, 14, 15, 16, 17, 18, 19] o43_2
def o43_3 : List ROp := [
  rq 35 (.load 24 (tp 7)) 24,
  rn (.store 24 (tp 6) (tp 35)) 0]
def c43_3 : RC := .reg [] o43_3
def c43_4 : RC := .seq c43_3 .ret
def c43_5 : RC := .seq c43_2 c43_4
def c43_6 : RC := .seq c43_1 c43_5
def c43_7 : RC := .seq c43_0 c43_6
def o44_0 : List ROp := [
  rq 1 (.box 24 (tp 0)) 0,
  rq 2 (.assign (ki 0)) 3]
def c44_0 : RC := .reg [] o44_0
def o44_1 : List ROp := [
  rq 4 (.load 24 (tp 1)) 24,
  rq 5 (cf 51 #[(tp 4)] #[24]) 80,
  rq 3 (.assign (tp 5)) 80]
def c44_1 : RC := .reg [] o44_1
def o44_2 : List ROp := [
  rq 6 (.move (tp 3)) 80,
  rq 8 (.load 24 (tp 1)) 24,
  rq 10 (.move (tp 3)) 80,
  ⟨(some 7), cf 64 #[(tp 6)] #[79], 3, none, [(tp 1)]⟩,
  rq 9 (cf 65 #[(tp 8)] #[24]) 94,
  rq 11 (cf 66 #[(tp 9), (tp 10)] #[94, 80]) 3,
  rq 12 (.binOp .sub 3 (tp 7) (tp 11) 3) 3,
  rq 2 (.assign (tp 12)) 3]
def c44_2 : RC := .reg [0, 2, 4, 1, 3, 5, 6, 7] o44_2
def c44_3 : RC := .seq c44_2 .ret
def c44_4 : RC := .seq c44_1 c44_3
def c44_5 : RC := .seq c44_0 c44_4
def o45_0 : List ROp := [
  rq 1 (.box 32 (tp 0)) 0,
  rq 2 (.assign (ki 0)) 3]
def c45_0 : RC := .reg [] o45_0
def o45_1 : List ROp := [
  rq 3 (.load 32 (tp 1)) 32,
  rq 6 (.load 32 (tp 1)) 32,
  ⟨(some 4), cf 56 #[(tp 3)] #[32], 22, none, [(tp 1)]⟩,
  rq 5 (cb .len #[(tp 4)] #[22]) 3,
  ⟨(some 7), cf 50 #[(tp 6)] #[32], 34, none, [(tp 4)]⟩,
  rq 8 (cb .len #[(tp 7)] #[34]) 3,
  rq 9 (.binOp .sub 3 (tp 5) (tp 8) 3) 3,
  rq 2 (.assign (tp 9)) 3]
def c45_1 : RC := .reg [0, 3, 1, 2, 4, 5, 6, 7] o45_1
def c45_2 : RC := .seq c45_1 .ret
def c45_3 : RC := .seq c45_0 c45_2
def o46_0 : List ROp := [
  rq 3 (.box 32 (tp 0)) 0,
  rq 6 (.alloc 32) 0]
def c46_0 : RC := .reg [] o46_0
def o46_1 : List ROp := [
  rq 8 (.fieldAddr 32 (tp 3) 0) 0,
  rq 9 (.load 3 (tp 8)) 3,
  rq 10 (.buildSlice 22 0 #[]) 22,
  rq 11 (.fieldAddr 32 (tp 3) 1) 0,
  rq 12 (.load 22 (tp 11)) 22,
  rq 14 (.buildSlice 22 0 #[]) 22,
  rq 15 (.fieldAddr 32 (tp 3) 2) 0,
  rq 16 (.load 22 (tp 15)) 22,
  rq 7 (.alloc 32) 0,
  ⟨(some 13), cb .append #[(tp 10), (tp 12)] #[22, 22], 22, none, [(tp 15), (tp 8)]⟩,
  ⟨(some 17), cb .append #[(tp 14), (tp 16)] #[22, 22], 22, none, [(tp 8)]⟩,
  rq 18 (.build 32 #[(0, (tp 9)), (1, (tp 13)), (2, (tp 17))]) 32,
  rn (.store 32 (tp 7) (tp 18)) 0]
def c46_1 : RC := .reg [0, 1, 2, 3, 4, 6, 7, 8, 11, 5, 9, 10, 12] o46_1
def o46_2 : List ROp := [
  rq 19 (.fieldAddr 32 (tp 7) 1) 0,
  rq 20 (.load 22 (tp 19)) 22,
  rq 21 (.move (tp 1)) 3,
  rq 22 (.fieldAddr 32 (tp 7) 1) 0,
  rq 23 (.load 22 (tp 22)) 22,
  rq 24 (.move (tp 2)) 3,
  rq 25 (.fieldAddr 32 (tp 7) 1) 0,
  rq 26 (.load 22 (tp 25)) 22,
  rq 27 (.move (tp 2)) 3,
  rq 28 (.indexAddr 22 (tp 26) (tp 27)) 0,
  rq 29 (.load 3 (tp 28)) 3,
  rq 30 (.fieldAddr 32 (tp 7) 1) 0,
  rq 31 (.load 22 (tp 30)) 22,
  rq 32 (.move (tp 1)) 3,
  rq 33 (.indexAddr 22 (tp 31) (tp 32)) 0,
  rq 34 (.load 3 (tp 33)) 3,
  rq 35 (.indexAddr 22 (tp 20) (tp 21)) 0,
  ⟨none, .store 3 (tp 35) (tp 29), 0, none, [(tp 22)]⟩,
  rq 36 (.indexAddr 22 (tp 23) (tp 24)) 0,
  rn (.store 3 (tp 36) (tp 34)) 0]
def c46_2 : RC := .reg [0, 1, 2, 3, 4, 5, 6, 7, 8, 9, 10, 11, 12, 13, 14, 15, 16, 17, 18, 19] o46_2
def o46_3 : List ROp := [
  rq 37 (.load 32 (tp 7)) 32,
  rn (.store 32 (tp 6) (tp 37)) 0]
def c46_3 : RC := .reg [] o46_3
def c46_4 : RC := .seq c46_3 .ret
def c46_5 : RC := .seq c46_2 c46_4
def c46_6 : RC := .seq c46_1 c46_5
def c46_7 : RC := .seq c46_0 c46_6
def o47_0 : List ROp := [
  rq 1 (.box 24 (tp 0)) 0,
  rq 2 (.assign (ki 0)) 28]
def c47_0 : RC := .reg [] o47_0
def o47_1 : List ROp := [
  rq 8 (.fieldAddr 24 (tp 1) 0) 0,
  rq 9 (.load 3 (tp 8)) 3,
  rq 10 (cf 52 #[(ki 1), (tp 9), (ki 5)] #[3, 3, 3]) 4,
  rq 11 (.unOp .not 4 (tp 10)) 4,
  rq 7 (.assign (tp 11)) 4]
def c47_1 : RC := .reg [] o47_1
def o47_2 : List ROp := [
  rq 2 (.assign (ki 1)) 28]
def c47_2 : RC := .reg [] o47_2
def c47_3 : RC := .seq c47_2 .ret
def o47_4 : List ROp := [
  rq 13 (.fieldAddr 24 (tp 1) 1) 0,
  rq 14 (.load 22 (tp 13)) 22,
  rq 15 (cb .len #[(tp 14)] #[22]) 3,
  rq 16 (.binOp .eql 3 (tp 15) (ki 0) 3) 4,
  rq 12 (.assign (tp 16)) 4]
def c47_4 : RC := .reg [] o47_4
def o47_5 : List ROp := [
  rq 2 (.assign (ki 4)) 28]
def c47_5 : RC := .reg [] o47_5
def c47_6 : RC := .seq c47_5 .ret
def o47_7 : List ROp := [
  rq 18 (.fieldAddr 24 (tp 1) 1) 0,
  rq 19 (.load 22 (tp 18)) 22,
  rq 20 (cb .len #[(tp 19)] #[22]) 3,
  rq 21 (.binOp .gtr 3 (tp 20) (ki 10) 3) 4,
  rq 17 (.assign (tp 21)) 4]
def c47_7 : RC := .reg [] o47_7
def o47_8 : List ROp := [
  rq 2 (.assign (ki 3)) 28]
def c47_8 : RC := .reg [] o47_8
def c47_9 : RC := .seq c47_8 .ret
def o47_10 : List ROp := [
  rq 23 (.fieldAddr 24 (tp 1) 2) 0,
  rq 24 (.load 22 (tp 23)) 22,
  rq 25 (cb .len #[(tp 24)] #[22]) 3,
  rq 26 (.fieldAddr 24 (tp 1) 1) 0,
  rq 27 (.load 22 (tp 26)) 22,
  rq 28 (cb .len #[(tp 27)] #[22]) 3,
  rq 29 (.binOp .neq 3 (tp 25) (tp 28) 3) 4,
  rq 22 (.assign (tp 29)) 4]
def c47_10 : RC := .reg [] o47_10
def o47_11 : List ROp := [
  rq 2 (.assign (ki 5)) 28]
def c47_11 : RC := .reg [] o47_11
def c47_12 : RC := .seq c47_11 .ret
def c47_13 : RC := .cond (tp 22) c47_12 .skip
def c47_14 : RC := .seq c47_10 c47_13
def c47_15 : RC := .cond (tp 17) c47_9 c47_14
def c47_16 : RC := .seq c47_7 c47_15
def c47_17 : RC := .cond (tp 12) c47_6 c47_16
def c47_18 : RC := .seq c47_4 c47_17
def c47_19 : RC := .cond (tp 7) c47_3 c47_18
def c47_20 : RC := .seq c47_1 c47_19
def c47_21 : RC := .block 0 c47_20
def o47_22 : List ROp := [
  rq 3 (.alloc 97) 0]
def c47_22 : RC := .reg [] o47_22
def o47_23 : List ROp := [
  rq 30 (.fieldAddr 24 (tp 1) 1) 0,
  rq 31 (.load 22 (tp 30)) 22,
  rq 32 (cb .len #[(tp 31)] #[22]) 3,
  rq 33 (.move (ki 0)) 3]
def c47_23 : RC := .reg [] o47_23
def o47_24 : List ROp := [
  rq 34 (.binOp .lss 3 (tp 33) (tp 32) 3) 0]
def c47_24 : RC := .reg [] o47_24
def c47_25 : RC := .cond (tp 34) .skip (.exit 1)
def o47_26 : List ROp := [
  rq 35 (.move (tp 33)) 3,
  rq 36 (.indexAddr 22 (tp 31) (tp 33)) 0,
  rq 37 (.load 3 (tp 36)) 3,
  rq 4 (.assign (tp 35)) 3,
  rq 5 (.assign (tp 37)) 3]
def c47_26 : RC := .reg [] o47_26
def o47_27 : List ROp := [
  rq 38 (.fieldAddr 24 (tp 1) 2) 0,
  rq 39 (.load 22 (tp 38)) 22,
  rq 40 (.move (tp 4)) 3,
  rq 41 (.indexAddr 22 (tp 39) (tp 40)) 0,
  rq 42 (.load 3 (tp 41)) 3,
  rq 6 (.assign (tp 42)) 3]
def c47_27 : RC := .reg [] o47_27
def o47_28 : List ROp := [
  rq 43 (.move (tp 5)) 3,
  rq 44 (.move (tp 6)) 3,
  rq 45 (cb .min #[(tp 43), (tp 44)] #[3, 3]) 3,
  rq 46 (.fieldAddr 24 (tp 1) 0) 0,
  rq 47 (.load 3 (tp 46)) 3,
  rq 48 (.binOp .sub 3 (tp 47) (ki 1) 3) 3,
  rq 49 (cf 52 #[(ki 0), (tp 45), (tp 48)] #[3, 3, 3]) 4,
  rq 50 (.unOp .not 4 (tp 49)) 4,
  rq 51 (.move (tp 50)) 4,
  rg 52 (.move (tp 5)) 3 51 false,
  rg 53 (.move (tp 6)) 3 51 false,
  rg 54 (cb .max #[(tp 52), (tp 53)] #[3, 3]) 3 51 false,
  rg 55 (.fieldAddr 24 (tp 1) 0) 0 51 false,
  rg 56 (.load 3 (tp 55)) 3 51 false,
  rg 57 (.binOp .geq 3 (tp 54) (tp 56) 3) 4 51 false,
  rq 58 (.pick (tp 51) (kb true) (tp 57)) 4]
def c47_28 : RC := .reg [] o47_28
def o47_29 : List ROp := [
  rq 2 (.assign (ki 2)) 28]
def c47_29 : RC := .reg [] o47_29
def c47_30 : RC := .seq c47_29 .ret
def c47_31 : RC := .cond (tp 58) c47_30 .skip
def c47_32 : RC := .seq c47_28 c47_31
def o47_33 : List ROp := [
  rq 59 (.move (tp 5)) 3,
  rq 60 (.indexAddr 97 (tp 3) (tp 59)) 0,
  rq 61 (.load 3 (tp 60)) 3,
  rq 62 (.binOp .add 3 (tp 61) (ki 1) 3) 3,
  rq 63 (.indexAddr 97 (tp 3) (tp 59)) 0,
  rn (.store 3 (tp 63) (tp 62)) 0]
def c47_33 : RC := .reg [] o47_33
def o47_34 : List ROp := [
  rq 64 (.move (tp 6)) 3,
  rq 65 (.indexAddr 97 (tp 3) (tp 64)) 0,
  rq 66 (.load 3 (tp 65)) 3,
  rq 67 (.binOp .sub 3 (tp 66) (ki 1) 3) 3,
  rq 68 (.indexAddr 97 (tp 3) (tp 64)) 0,
  rn (.store 3 (tp 68) (tp 67)) 0]
def c47_34 : RC := .reg [] o47_34
def c47_35 : RC := .seq c47_33 c47_34
def c47_36 : RC := .seq c47_32 c47_35
def c47_37 : RC := .seq c47_27 c47_36
def c47_38 : RC := .seq c47_26 c47_37
def c47_39 : RC := .block 2 c47_38
def o47_40 : List ROp := [
  rq 69 (.binOp .add 3 (tp 33) (ki 1) 3) 3,
  rq 33 (.move (tp 69)) 3]
def c47_40 : RC := .reg [] o47_40
def c47_41 : RC := .seq c47_39 c47_40
def c47_42 : RC := .seq c47_25 c47_41
def c47_43 : RC := .seq c47_24 c47_42
def c47_44 : RC := .loop c47_43
def c47_45 : RC := .block 1 c47_44
def c47_46 : RC := .seq c47_23 c47_45
def o47_47 : List ROp := [
  rq 70 (.load 97 (tp 3)) 97,
  rq 71 (.build 97 #[]) 97,
  rq 72 (.binOp .neq 97 (tp 70) (tp 71) 97) 4]
def c47_47 : RC := .reg [] o47_47
def o47_48 : List ROp := [
  rq 2 (.assign (ki 17)) 28]
def c47_48 : RC := .reg [] o47_48
def c47_49 : RC := .seq c47_48 .ret
def c47_50 : RC := .cond (tp 72) c47_49 .skip
def c47_51 : RC := .seq c47_47 c47_50
def o47_52 : List ROp := [
  rq 2 (.assign (ki 0)) 28]
def c47_52 : RC := .reg [] o47_52
def c47_53 : RC := .seq c47_52 .ret
def c47_54 : RC := .seq c47_51 c47_53
def c47_55 : RC := .seq c47_46 c47_54
def c47_56 : RC := .seq c47_22 c47_55
def c47_57 : RC := .seq c47_21 c47_56
def c47_58 : RC := .seq c47_0 c47_57
def o49_0 : List ROp := [
  rq 1 (.box 32 (tp 0)) 0,
  rq 2 (.assign (ki 0)) 28]
def c49_0 : RC := .reg [] o49_0
def o49_1 : List ROp := [
  rq 5 (.fieldAddr 32 (tp 1) 0) 0,
  rq 6 (.load 3 (tp 5)) 3,
  rq 7 (cf 54 #[(tp 6), (ki 1), (ki 5)] #[3, 3, 3]) 4,
  rq 8 (.unOp .not 4 (tp 7)) 4]
def c49_1 : RC := .reg [] o49_1
def o49_2 : List ROp := [
  rq 2 (.assign (ki 1)) 28]
def c49_2 : RC := .reg [] o49_2
def c49_3 : RC := .seq c49_2 .ret
def c49_4 : RC := .cond (tp 8) c49_3 .skip
def c49_5 : RC := .seq c49_1 c49_4
def o49_6 : List ROp := [
  rq 9 (.fieldAddr 32 (tp 1) 1) 0,
  rq 10 (.load 22 (tp 9)) 22,
  rq 11 (cb .len #[(tp 10)] #[22]) 3,
  rq 12 (.binOp .eql 3 (tp 11) (ki 0) 3) 4]
def c49_6 : RC := .reg [] o49_6
def o49_7 : List ROp := [
  rq 2 (.assign (ki 4)) 28]
def c49_7 : RC := .reg [] o49_7
def c49_8 : RC := .seq c49_7 .ret
def c49_9 : RC := .cond (tp 12) c49_8 .skip
def c49_10 : RC := .seq c49_6 c49_9
def o49_11 : List ROp := [
  rq 13 (.fieldAddr 32 (tp 1) 1) 0,
  rq 14 (.load 22 (tp 13)) 22,
  rq 15 (cb .len #[(tp 14)] #[22]) 3,
  rq 16 (.binOp .gtr 3 (tp 15) (ki 10) 3) 4]
def c49_11 : RC := .reg [] o49_11
def o49_12 : List ROp := [
  rq 2 (.assign (ki 3)) 28]
def c49_12 : RC := .reg [] o49_12
def c49_13 : RC := .seq c49_12 .ret
def c49_14 : RC := .cond (tp 16) c49_13 .skip
def c49_15 : RC := .seq c49_11 c49_14
def o49_16 : List ROp := [
  rq 17 (.fieldAddr 32 (tp 1) 2) 0,
  rq 18 (.load 22 (tp 17)) 22,
  rq 19 (cb .len #[(tp 18)] #[22]) 3,
  rq 20 (.fieldAddr 32 (tp 1) 1) 0,
  rq 21 (.load 22 (tp 20)) 22,
  rq 22 (cb .len #[(tp 21)] #[22]) 3,
  rq 23 (.binOp .neq 3 (tp 19) (tp 22) 3) 4]
def c49_16 : RC := .reg [] o49_16
def o49_17 : List ROp := [
  rq 2 (.assign (ki 5)) 28]
def c49_17 : RC := .reg [] o49_17
def c49_18 : RC := .seq c49_17 .ret
def c49_19 : RC := .cond (tp 23) c49_18 .skip
def c49_20 : RC := .seq c49_16 c49_19
def o49_21 : List ROp := [
  rq 3 (.assign (ki 0)) 3]
def c49_21 : RC := .reg [] o49_21
def o49_22 : List ROp := [
  rq 24 (.move (tp 3)) 3,
  rq 25 (.fieldAddr 32 (tp 1) 1) 0,
  rq 26 (.load 22 (tp 25)) 22,
  rq 27 (cb .len #[(tp 26)] #[22]) 3,
  rq 28 (.binOp .lss 3 (tp 24) (tp 27) 3) 4]
def c49_22 : RC := .reg [] o49_22
def c49_23 : RC := .cond (tp 28) .skip (.exit 0)
def c49_24 : RC := .seq c49_22 c49_23
def o49_25 : List ROp := [
  rq 31 (.fieldAddr 32 (tp 1) 1) 0,
  rq 32 (.load 22 (tp 31)) 22,
  rq 33 (.move (tp 3)) 3,
  rq 34 (.indexAddr 22 (tp 32) (tp 33)) 0,
  rq 35 (.load 3 (tp 34)) 3,
  rq 36 (.fieldAddr 32 (tp 1) 0) 0,
  rq 37 (.load 3 (tp 36)) 3,
  rq 38 (.binOp .sub 3 (tp 37) (ki 1) 3) 3,
  rq 39 (cf 54 #[(tp 35), (ki 0), (tp 38)] #[3, 3, 3]) 4,
  rq 40 (.unOp .not 4 (tp 39)) 4,
  rq 41 (.move (tp 40)) 4,
  rg 42 (.fieldAddr 32 (tp 1) 2) 0 41 false,
  rg 43 (.load 22 (tp 42)) 22 41 false,
  rg 44 (.move (tp 3)) 3 41 false,
  rg 45 (.indexAddr 22 (tp 43) (tp 44)) 0 41 false,
  rg 46 (.load 3 (tp 45)) 3 41 false,
  rg 47 (.fieldAddr 32 (tp 1) 0) 0 41 false,
  rg 48 (.load 3 (tp 47)) 3 41 false,
  rg 49 (.binOp .sub 3 (tp 48) (ki 1) 3) 3 41 false,
  rg 50 (cf 54 #[(tp 46), (ki 0), (tp 49)] #[3, 3, 3]) 4 41 false,
  rg 51 (.unOp .not 4 (tp 50)) 4 41 false,
  rq 52 (.pick (tp 41) (kb true) (tp 51)) 4]
def c49_25 : RC := .reg [0, 1, 2, 3, 4, 5, 6, 7, 8, 9, 10, 11, 12, 13, 14, 15, 16, 17, 18, 19, 20, 21] o49_25
def o49_26 : List ROp := [
  rq 2 (.assign (ki 2)) 28]
def c49_26 : RC := .reg [] o49_26
def c49_27 : RC := .seq c49_26 .ret
def c49_28 : RC := .cond (tp 52) c49_27 .skip
def c49_29 : RC := .seq c49_25 c49_28
def c49_30 : RC := .block 1 c49_29
def o49_31 : List ROp := [
  rq 29 (.move (tp 3)) 3,
  rq 30 (.binOp .add 3 (tp 29) (ki 1) 3) 3,
  rq 3 (.assign (tp 30)) 3]
def c49_31 : RC := .reg [] o49_31
def c49_32 : RC := .seq c49_30 c49_31
def c49_33 : RC := .seq c49_24 c49_32
def c49_34 : RC := .loop c49_33
def c49_35 : RC := .block 0 c49_34
def c49_36 : RC := .seq c49_21 c49_35
def o49_37 : List ROp := [
  rq 4 (.assign (ki 0)) 3]
def c49_37 : RC := .reg [] o49_37
def o49_38 : List ROp := [
  rq 53 (.move (tp 4)) 3,
  rq 54 (.fieldAddr 32 (tp 1) 0) 0,
  rq 55 (.load 3 (tp 54)) 3,
  rq 56 (.binOp .lss 3 (tp 53) (tp 55) 3) 4]
def c49_38 : RC := .reg [] o49_38
def c49_39 : RC := .cond (tp 56) .skip (.exit 2)
def c49_40 : RC := .seq c49_38 c49_39
def o49_41 : List ROp := [
  rq 59 (.fieldAddr 32 (tp 1) 1) 0,
  rq 60 (.load 22 (tp 59)) 22,
  rq 61 (.move (tp 4)) 3,
  rq 63 (.fieldAddr 32 (tp 1) 2) 0,
  rq 64 (.load 22 (tp 63)) 22,
  rq 65 (.move (tp 4)) 3,
  ⟨(some 62), cf 69 #[(tp 60), (tp 61)] #[22, 3], 3, none, [(tp 63)]⟩,
  rq 66 (cf 69 #[(tp 64), (tp 65)] #[22, 3]) 3,
  rq 67 (.binOp .neq 3 (tp 62) (tp 66) 3) 4]
def c49_41 : RC := .reg [0, 1, 2, 4, 5, 6, 3, 7, 8] o49_41
def o49_42 : List ROp := [
  rq 2 (.assign (ki 17)) 28]
def c49_42 : RC := .reg [] o49_42
def c49_43 : RC := .seq c49_42 .ret
def c49_44 : RC := .cond (tp 67) c49_43 .skip
def c49_45 : RC := .seq c49_41 c49_44
def c49_46 : RC := .block 3 c49_45
def o49_47 : List ROp := [
  rq 57 (.move (tp 4)) 3,
  rq 58 (.binOp .add 3 (tp 57) (ki 1) 3) 3,
  rq 4 (.assign (tp 58)) 3]
def c49_47 : RC := .reg [] o49_47
def c49_48 : RC := .seq c49_46 c49_47
def c49_49 : RC := .seq c49_40 c49_48
def c49_50 : RC := .loop c49_49
def c49_51 : RC := .block 2 c49_50
def c49_52 : RC := .seq c49_37 c49_51
def o49_53 : List ROp := [
  rq 2 (.assign (ki 0)) 28]
def c49_53 : RC := .reg [] o49_53
def c49_54 : RC := .seq c49_53 .ret
def c49_55 : RC := .seq c49_52 c49_54
def c49_56 : RC := .seq c49_36 c49_55
def c49_57 : RC := .seq c49_20 c49_56
def c49_58 : RC := .seq c49_15 c49_57
def c49_59 : RC := .seq c49_10 c49_58
def c49_60 : RC := .seq c49_5 c49_59
def c49_61 : RC := .seq c49_0 c49_60
def o50_0 : List ROp := [
  rq 1 (.box 32 (tp 0)) 0,
  rq 2 (.assign (.const (.slice none 0 0))) 34]
def c50_0 : RC := .reg [] o50_0
def o50_1 : List ROp := [
  rq 3 (.load 32 (tp 1)) 32,
  rq 4 (.load 32 (tp 1)) 32,
  ⟨(some 5), cf 56 #[(tp 4)] #[32], 22, none, [(tp 1)]⟩,
  rq 6 (cf 70 #[(tp 3), (tp 5), (.const (.slice none 0 0)), (.const (.slice none 0 0))] #[32, 22, 22, 34]) 34,
  rq 2 (.assign (tp 6)) 34]
def c50_1 : RC := .reg [0, 1, 2, 3, 4] o50_1
def c50_2 : RC := .seq c50_1 .ret
def c50_3 : RC := .seq c50_0 c50_2
def o51_0 : List ROp := [
  rq 1 (.box 24 (tp 0)) 0,
  rq 2 (.assign (.const (.int .u16 0))) 80]
def c51_0 : RC := .reg [] o51_0
def o51_1 : List ROp := [
  rq 3 (.assign (.const (.int .u16 0))) 80]
def c51_1 : RC := .reg [] o51_1
def o51_2 : List ROp := [
  rq 6 (.fieldAddr 24 (tp 1) 1) 0,
  rq 7 (.load 22 (tp 6)) 22,
  rq 8 (cb .len #[(tp 7)] #[22]) 3,
  rq 9 (.move (ki 0)) 3]
def c51_2 : RC := .reg [] o51_2
def o51_3 : List ROp := [
  rq 10 (.binOp .lss 3 (tp 9) (tp 8) 3) 0]
def c51_3 : RC := .reg [] o51_3
def c51_4 : RC := .cond (tp 10) .skip (.exit 0)
def o51_5 : List ROp := [
  rq 11 (.move (tp 9)) 3,
  rq 12 (.indexAddr 22 (tp 7) (tp 9)) 0,
  rq 13 (.load 3 (tp 12)) 3,
  rq 4 (.assign (tp 11)) 3,
  rq 5 (.assign (tp 13)) 3]
def c51_5 : RC := .reg [] o51_5
def o51_6 : List ROp := [
  rq 14 (.move (tp 5)) 3,
  rq 15 (.fieldAddr 24 (tp 1) 2) 0,
  rq 16 (.load 22 (tp 15)) 22,
  rq 17 (.move (tp 4)) 3,
  rq 18 (.indexAddr 22 (tp 16) (tp 17)) 0,
  rq 19 (.load 3 (tp 18)) 3,
  rq 20 (.binOp .neq 3 (tp 14) (tp 19) 3) 4]
def c51_6 : RC := .reg [] o51_6
def o51_7 : List ROp := [
  rq 21 (.move (tp 3)) 80,
  rq 22 (.move (tp 4)) 3,
  rq 23 (.binOp .shl 80 (.const (.int .u16 1)) (tp 22) 3) 80,
  rq 24 (.binOp .or 80 (tp 21) (tp 23) 80) 80,
  rq 3 (.assign (tp 24)) 80]
def c51_7 : RC := .reg [] o51_7
def c51_8 : RC := .cond (tp 20) c51_7 .skip
def c51_9 : RC := .seq c51_6 c51_8
def c51_10 : RC := .seq c51_5 c51_9
def c51_11 : RC := .block 1 c51_10
def o51_12 : List ROp := [
  rq 25 (.binOp .add 3 (tp 9) (ki 1) 3) 3,
  rq 9 (.move (tp 25)) 3]
def c51_12 : RC := .reg [] o51_12
def c51_13 : RC := .seq c51_11 c51_12
def c51_14 : RC := .seq c51_4 c51_13
def c51_15 : RC := .seq c51_3 c51_14
def c51_16 : RC := .loop c51_15
def c51_17 : RC := .block 0 c51_16
def c51_18 : RC := .seq c51_2 c51_17
def o51_19 : List ROp := [
  rq 26 (.move (tp 3)) 80,
  rq 2 (.assign (tp 26)) 80]
def c51_19 : RC := .reg [] o51_19
def c51_20 : RC := .seq c51_19 .ret
def c51_21 : RC := .seq c51_18 c51_20
def c51_22 : RC := .seq c51_1 c51_21
def c51_23 : RC := .seq c51_0 c51_22
def o52_0 : List ROp := [
  rq 6 (.assign (kb false)) 4]
def c52_0 : RC := .reg [] o52_0
def o52_1 : List ROp := [
  rq 7 (.move (tp 0)) 3,
  rq 8 (.move (tp 1)) 3,
  rq 9 (.binOp .leq 3 (tp 7) (tp 8) 3) 4,
  rq 10 (.move (tp 9)) 4,
  rg 11 (.move (tp 1)) 3 10 true,
  rg 12 (.move (tp 2)) 3 10 true,
  rg 13 (.binOp .leq 3 (tp 11) (tp 12) 3) 4 10 true,
  rq 14 (.pick (tp 10) (tp 13) (kb false)) 4,
  rq 6 (.assign (tp 14)) 4]
def c52_1 : RC := .reg [] o52_1
def c52_2 : RC := .seq c52_1 .ret
def c52_3 : RC := .seq c52_0 c52_2
def o53_0 : List ROp := [
  rq 4 (.assign (kb false)) 4]
def c53_0 : RC := .reg [] o53_0
def o53_1 : List ROp := [
  rq 5 (.move (tp 0)) 80,
  rq 6 (.move (tp 1)) 3,
  rq 7 (.binOp .shr 80 (tp 5) (tp 6) 3) 80,
  rq 8 (.binOp .and 80 (tp 7) (.const (.int .u16 1)) 80) 80,
  rq 9 (.binOp .eql 80 (tp 8) (.const (.int .u16 1)) 80) 4,
  rq 4 (.assign (tp 9)) 4]
def c53_1 : RC := .reg [] o53_1
def c53_2 : RC := .seq c53_1 .ret
def c53_3 : RC := .seq c53_0 c53_2
def o54_0 : List ROp := [
  rq 6 (.assign (kb false)) 4]
def c54_0 : RC := .reg [] o54_0
def o54_1 : List ROp := [
  rq 7 (.move (tp 0)) 3,
  rq 8 (.move (tp 1)) 3,
  rq 9 (.binOp .geq 3 (tp 7) (tp 8) 3) 4,
  rq 10 (.move (tp 9)) 4,
  rg 11 (.move (tp 0)) 3 10 true,
  rg 12 (.move (tp 2)) 3 10 true,
  rg 13 (.binOp .leq 3 (tp 11) (tp 12) 3) 4 10 true,
  rq 14 (.pick (tp 10) (tp 13) (kb false)) 4,
  rq 6 (.assign (tp 14)) 4]
def c54_1 : RC := .reg [] o54_1
def c54_2 : RC := .seq c54_1 .ret
def c54_3 : RC := .seq c54_0 c54_2
def o56_0 : List ROp := [
  rq 1 (.box 32 (tp 0)) 0,
  rq 2 (.assign (.const (.slice none 0 0))) 22]
def c56_0 : RC := .reg [] o56_0
def o56_1 : List ROp := [
  rq 3 (.assign (.const (.slice none 0 0))) 22]
def c56_1 : RC := .reg [] o56_1
def o56_2 : List ROp := [
  rq 4 (.assign (ki 0)) 3]
def c56_2 : RC := .reg [] o56_2
def o56_3 : List ROp := [
  rq 5 (.move (tp 4)) 3,
  rq 6 (.fieldAddr 32 (tp 1) 1) 0,
  rq 7 (.load 22 (tp 6)) 22,
  rq 8 (cb .len #[(tp 7)] #[22]) 3,
  rq 9 (.binOp .lss 3 (tp 5) (tp 8) 3) 4]
def c56_3 : RC := .reg [] o56_3
def c56_4 : RC := .cond (tp 9) .skip (.exit 0)
def c56_5 : RC := .seq c56_3 c56_4
def o56_6 : List ROp := [
  rq 12 (.fieldAddr 32 (tp 1) 1) 0,
  rq 13 (.load 22 (tp 12)) 22,
  rq 14 (.move (tp 4)) 3,
  rq 15 (.indexAddr 22 (tp 13) (tp 14)) 0,
  rq 16 (.load 3 (tp 15)) 3,
  rq 17 (.fieldAddr 32 (tp 1) 2) 0,
  rq 18 (.load 22 (tp 17)) 22,
  rq 19 (.move (tp 4)) 3,
  rq 20 (.indexAddr 22 (tp 18) (tp 19)) 0,
  rq 21 (.load 3 (tp 20)) 3,
  rq 22 (.binOp .neq 3 (tp 16) (tp 21) 3) 4]
def c56_6 : RC := .reg [0, 1, 2, 3, 4, 5, 6, 7, 8, 9, 10] o56_6
def o56_7 : List ROp := [
  rq 23 (.move (tp 3)) 22,
  rq 24 (.move (tp 4)) 3,
  rq 25 (.buildSlice 22 1 #[(0, (tp 24))]) 22,
  rq 26 (cb .append #[(tp 23), (tp 25)] #[22, 22]) 22,
  rq 3 (.assign (tp 26)) 22]
def c56_7 : RC := .reg [] o56_7
def c56_8 : RC := .cond (tp 22) c56_7 .skip
def c56_9 : RC := .seq c56_6 c56_8
def c56_10 : RC := .block 1 c56_9
def o56_11 : List ROp := [
  rq 10 (.move (tp 4)) 3,
  rq 11 (.binOp .add 3 (tp 10) (ki 1) 3) 3,
  rq 4 (.assign (tp 11)) 3]
def c56_11 : RC := .reg [] o56_11
def c56_12 : RC := .seq c56_10 c56_11
def c56_13 : RC := .seq c56_5 c56_12
def c56_14 : RC := .loop c56_13
def c56_15 : RC := .block 0 c56_14
def c56_16 : RC := .seq c56_2 c56_15
def o56_17 : List ROp := [
  rq 27 (.move (tp 3)) 22,
  rq 2 (.assign (tp 27)) 22]
def c56_17 : RC := .reg [] o56_17
def c56_18 : RC := .seq c56_17 .ret
def c56_19 : RC := .seq c56_16 c56_18
def c56_20 : RC := .seq c56_1 c56_19
def c56_21 : RC := .seq c56_0 c56_20
def o62_0 : List ROp := [
  rq 2 (.assign (.const (.slice none 0 0))) 22]
def c62_0 : RC := .reg [] o62_0
def o62_1 : List ROp := [
  rq 3 (.assign (.const (.slice none 0 0))) 22]
def c62_1 : RC := .reg [] o62_1
def o62_2 : List ROp := [
  rq 4 (.move (tp 0)) 80,
  rq 5 (.binOp .neq 80 (tp 4) (.const (.int .u16 0)) 80) 4]
def c62_2 : RC := .reg [] o62_2
def c62_3 : RC := .cond (tp 5) .skip (.exit 0)
def c62_4 : RC := .seq c62_2 c62_3
def o62_5 : List ROp := [
  rq 10 (.move (tp 3)) 22,
  rq 11 (.move (tp 0)) 80,
  rq 12 (cf 67 #[(tp 11)] #[79]) 3,
  rq 13 (.buildSlice 22 1 #[(0, (tp 12))]) 22,
  rq 14 (cb .append #[(tp 10), (tp 13)] #[22, 22]) 22,
  rq 3 (.assign (tp 14)) 22]
def c62_5 : RC := .reg [] o62_5
def c62_6 : RC := .block 1 c62_5
def o62_7 : List ROp := [
  rq 6 (.move (tp 0)) 80,
  rq 7 (.move (tp 0)) 80,
  rq 8 (.binOp .sub 80 (tp 7) (.const (.int .u16 1)) 80) 80,
  rq 9 (.binOp .and 80 (tp 6) (tp 8) 80) 80,
  rq 0 (.assign (tp 9)) 80]
def c62_7 : RC := .reg [] o62_7
def c62_8 : RC := .seq c62_6 c62_7
def c62_9 : RC := .seq c62_4 c62_8
def c62_10 : RC := .loop c62_9
def c62_11 : RC := .block 0 c62_10
def o62_12 : List ROp := [
  rq 15 (.move (tp 3)) 22,
  rq 2 (.assign (tp 15)) 22]
def c62_12 : RC := .reg [] o62_12
def c62_13 : RC := .seq c62_12 .ret
def c62_14 : RC := .seq c62_11 c62_13
def c62_15 : RC := .seq c62_1 c62_14
def c62_16 : RC := .seq c62_0 c62_15
def o64_0 : List ROp := [
  rq 2 (.assign (ki 0)) 3]
def c64_0 : RC := .reg [] o64_0
def o64_1 : List ROp := [
  rq 3 (.move (tp 0)) 79,
  rq 4 (.binOp .shr 79 (tp 3) (.const (.int .u64 8)) 102) 79,
  rq 5 (.index 9 (.const (.string ⟨#[0, 1, 1, 2, 1, 2, 2, 3, 1, 2, 2, 3, 2, 3, 3, 4, 1, 2, 2, 3, 2, 3, 3, 4, 2, 3, 3, 4, 3, 4, 4, 5, 1, 2, 2, 3, 2, 3, 3, 4, 2, 3, 3, 4, 3, 4, 4, 5, 2, 3, 3, 4, 3, 4, 4, 5, 3, 4, 4, 5, 4, 5, 5, 6, 1, 2, 2, 3, 2, 3, 3, 4, 2, 3, 3, 4, 3, 4, 4, 5, 2, 3, 3, 4, 3, 4, 4, 5, 3, 4, 4, 5, 4, 5, 5, 6, 2, 3, 3, 4, 3, 4, 4, 5, 3, 4, 4, 5, 4, 5, 5, 6, 3, 4, 4, 5, 4, 5, 5, 6, 4, 5, 5, 6, 5, 6, 6, 7, 1, 2, 2, 3, 2, 3, 3, 4, 2, 3, 3, 4, 3, 4, 4, 5, 2, 3, 3, 4, 3, 4, 4, 5, 3, 4, 4, 5, 4, 5, 5, 6, 2, 3, 3, 4, 3, 4, 4, 5, 3, 4, 4, 5, 4, 5, 5, 6, 3, 4, 4, 5, 4, 5, 5, 6, 4, 5, 5, 6, 5, 6, 6, 7, 2, 3, 3, 4, 3, 4, 4, 5, 3, 4, 4, 5, 4, 5, 5, 6, 3, 4, 4, 5, 4, 5, 5, 6, 4, 5, 5, 6, 5, 6, 6, 7, 3, 4, 4, 5, 4, 5, 5, 6, 4, 5, 5, 6, 5, 6, 6, 7, 4, 5, 5, 6, 5, 6, 6, 7, 5, 6, 6, 7, 6, 7, 7, 8]⟩)) (tp 4)) 5,
  rq 6 (.move (tp 0)) 79,
  rq 7 (.binOp .and 79 (tp 6) (.const (.int .u16 255)) 79) 79,
  rq 8 (.index 9 (.const (.string ⟨#[0, 1, 1, 2, 1, 2, 2, 3, 1, 2, 2, 3, 2, 3, 3, 4, 1, 2, 2, 3, 2, 3, 3, 4, 2, 3, 3, 4, 3, 4, 4, 5, 1, 2, 2, 3, 2, 3, 3, 4, 2, 3, 3, 4, 3, 4, 4, 5, 2, 3, 3, 4, 3, 4, 4, 5, 3, 4, 4, 5, 4, 5, 5, 6, 1, 2, 2, 3, 2, 3, 3, 4, 2, 3, 3, 4, 3, 4, 4, 5, 2, 3, 3, 4, 3, 4, 4, 5, 3, 4, 4, 5, 4, 5, 5, 6, 2, 3, 3, 4, 3, 4, 4, 5, 3, 4, 4, 5, 4, 5, 5, 6, 3, 4, 4, 5, 4, 5, 5, 6, 4, 5, 5, 6, 5, 6, 6, 7, 1, 2, 2, 3, 2, 3, 3, 4, 2, 3, 3, 4, 3, 4, 4, 5, 2, 3, 3, 4, 3, 4, 4, 5, 3, 4, 4, 5, 4, 5, 5, 6, 2, 3, 3, 4, 3, 4, 4, 5, 3, 4, 4, 5, 4, 5, 5, 6, 3, 4, 4, 5, 4, 5, 5, 6, 4, 5, 5, 6, 5, 6, 6, 7, 2, 3, 3, 4, 3, 4, 4, 5, 3, 4, 4, 5, 4, 5, 5, 6, 3, 4, 4, 5, 4, 5, 5, 6, 4, 5, 5, 6, 5, 6, 6, 7, 3, 4, 4, 5, 4, 5, 5, 6, 4, 5, 5, 6, 5, 6, 6, 7, 4, 5, 5, 6, 5, 6, 6, 7, 5, 6, 6, 7, 6, 7, 7, 8]⟩)) (tp 7)) 5,
  rq 9 (.binOp .add 5 (tp 5) (tp 8) 5) 5,
  rq 10 (.convert 5 3 (tp 9)) 3,
  rq 2 (.assign (tp 10)) 3]
def c64_1 : RC := .reg [0, 1, 2, 3, 4, 5, 6, 7, 8] o64_1
def c64_2 : RC := .seq c64_1 .ret
def c64_3 : RC := .seq c64_0 c64_2
def o67_0 : List ROp := [
  rq 2 (.assign (ki 0)) 3]
def c67_0 : RC := .reg [] o67_0
def o67_1 : List ROp := [
  rq 3 (.move (tp 0)) 79,
  rq 4 (.binOp .eql 79 (tp 3) (.const (.int .u16 0)) 79) 4]
def c67_1 : RC := .reg [] o67_1
def o67_2 : List ROp := [
  rq 2 (.assign (ki 16)) 3]
def c67_2 : RC := .reg [] o67_2
def c67_3 : RC := .seq c67_2 .ret
def c67_4 : RC := .cond (tp 4) c67_3 .skip
def c67_5 : RC := .seq c67_1 c67_4
def o67_6 : List ROp := [
  rq 5 (.move (tp 0)) 79,
  rq 6 (.move (tp 0)) 79,
  rq 7 (.unOp .neg 79 (tp 6)) 79,
  rq 8 (.binOp .and 79 (tp 5) (tp 7) 79) 79,
  rq 9 (.convert 79 108 (tp 8)) 108,
  rq 10 (.binOp .mul 108 (tp 9) (.const (.int .u32 125613361)) 108) 108,
  rq 11 (.binOp .shr 108 (tp 10) (.const (.int .u64 27)) 102) 108,
  rq 12 (.indexAddr 107 (.global 0) (tp 11)) 0,
  rq 13 (.load 5 (tp 12)) 5,
  rq 14 (.convert 5 3 (tp 13)) 3,
  rq 2 (.assign (tp 14)) 3]
def c67_6 : RC := .reg [] o67_6
def c67_7 : RC := .seq c67_6 .ret
def c67_8 : RC := .seq c67_5 c67_7
def c67_9 : RC := .seq c67_0 c67_8
def o71_0 : List ROp := [
  rq 2 (.box 24 (tp 0)) 0,
  rq 4 (.assign (kb false)) 4]
def c71_0 : RC := .reg [] o71_0
def o71_1 : List ROp := [
  rq 5 (.alloc 97) 0]
def c71_1 : RC := .reg [] o71_1
def o71_2 : List ROp := [
  rq 7 (.fieldAddr 24 (tp 2) 1) 0,
  rq 8 (.load 22 (tp 7)) 22,
  rq 9 (cb .len #[(tp 8)] #[22]) 3,
  rq 10 (.move (ki 0)) 3]
def c71_2 : RC := .reg [] o71_2
def o71_3 : List ROp := [
  rq 11 (.binOp .lss 3 (tp 10) (tp 9) 3) 0]
def c71_3 : RC := .reg [] o71_3
def c71_4 : RC := .cond (tp 11) .skip (.exit 0)
def o71_5 : List ROp := [
  rq 12 (.move (tp 10)) 3,
  rq 6 (.assign (tp 12)) 3]
def c71_5 : RC := .reg [] o71_5
def o71_6 : List ROp := [
  rq 13 (.move (tp 1)) 80,
  rq 14 (.move (tp 6)) 3,
  rq 15 (cf 53 #[(tp 13), (tp 14)] #[80, 3]) 4]
def c71_6 : RC := .reg [] o71_6
def o71_7 : List ROp := [
  rq 16 (.fieldAddr 24 (tp 2) 1) 0,
  rq 17 (.load 22 (tp 16)) 22,
  rq 18 (.move (tp 6)) 3,
  rq 19 (.indexAddr 22 (tp 17) (tp 18)) 0,
  rq 20 (.load 3 (tp 19)) 3,
  rq 21 (.indexAddr 97 (tp 5) (tp 20)) 0,
  rq 22 (.load 3 (tp 21)) 3,
  rq 23 (.binOp .add 3 (tp 22) (ki 1) 3) 3,
  rq 24 (.indexAddr 97 (tp 5) (tp 20)) 0,
  rn (.store 3 (tp 24) (tp 23)) 0]
def c71_7 : RC := .reg [] o71_7
def o71_8 : List ROp := [
  rq 25 (.fieldAddr 24 (tp 2) 2) 0,
  rq 26 (.load 22 (tp 25)) 22,
  rq 27 (.move (tp 6)) 3,
  rq 28 (.indexAddr 22 (tp 26) (tp 27)) 0,
  rq 29 (.load 3 (tp 28)) 3,
  rq 30 (.indexAddr 97 (tp 5) (tp 29)) 0,
  rq 31 (.load 3 (tp 30)) 3,
  rq 32 (.binOp .sub 3 (tp 31) (ki 1) 3) 3,
  rq 33 (.indexAddr 97 (tp 5) (tp 29)) 0,
  rn (.store 3 (tp 33) (tp 32)) 0]
def c71_8 : RC := .reg [] o71_8
def c71_9 : RC := .seq c71_7 c71_8
def c71_10 : RC := .cond (tp 15) c71_9 .skip
def c71_11 : RC := .seq c71_6 c71_10
def c71_12 : RC := .seq c71_5 c71_11
def c71_13 : RC := .block 1 c71_12
def o71_14 : List ROp := [
  rq 34 (.binOp .add 3 (tp 10) (ki 1) 3) 3,
  rq 10 (.move (tp 34)) 3]
def c71_14 : RC := .reg [] o71_14
def c71_15 : RC := .seq c71_13 c71_14
def c71_16 : RC := .seq c71_4 c71_15
def c71_17 : RC := .seq c71_3 c71_16
def c71_18 : RC := .loop c71_17
def c71_19 : RC := .block 0 c71_18
def c71_20 : RC := .seq c71_2 c71_19
def o71_21 : List ROp := [
  rq 35 (.load 97 (tp 5)) 97,
  rq 36 (.build 97 #[]) 97,
  rq 37 (.binOp .eql 97 (tp 35) (tp 36) 97) 4,
  rq 4 (.assign (tp 37)) 4]
def c71_21 : RC := .reg [] o71_21
def c71_22 : RC := .seq c71_21 .ret
def c71_23 : RC := .seq c71_20 c71_22
def c71_24 : RC := .seq c71_1 c71_23
def c71_25 : RC := .seq c71_0 c71_24
def o73_0 : List ROp := [
  rq 4 (.assign (.const (.slice none 0 0))) 34]
def c73_0 : RC := .reg [] o73_0
def o73_1 : List ROp := [
  rq 5 (.assign (.const (.slice none 0 0))) 34]
def c73_1 : RC := .reg [] o73_1
def o73_2 : List ROp := [
  rq 6 (.assign (.const (.slice none 0 0))) 22]
def c73_2 : RC := .reg [] o73_2
def o73_3 : List ROp := [
  rq 7 (.assign (ki 0)) 3]
def c73_3 : RC := .reg [] o73_3
def o73_4 : List ROp := [
  rq 11 (.move (tp 7)) 3,
  rq 12 (.move (tp 0)) 22,
  rq 13 (cb .len #[(tp 12)] #[22]) 3,
  rq 14 (.binOp .lss 3 (tp 11) (tp 13) 3) 4]
def c73_4 : RC := .reg [] o73_4
def c73_5 : RC := .cond (tp 14) .skip (.exit 0)
def c73_6 : RC := .seq c73_4 c73_5
def o73_7 : List ROp := [
  rq 17 (.move (tp 6)) 22,
  rq 18 (.move (tp 0)) 22,
  rq 19 (.move (tp 7)) 3,
  rq 20 (.indexAddr 22 (tp 18) (tp 19)) 0,
  rq 21 (.load 3 (tp 20)) 3,
  rq 22 (cf 55 #[(tp 17), (tp 21)] #[22, 3]) 4]
def c73_7 : RC := .reg [] o73_7
def c73_8 : RC := .cond (tp 22) (.exit 1) .skip
def c73_9 : RC := .seq c73_7 c73_8
def o73_10 : List ROp := [
  rq 8 (.assign (.const (.slice none 0 0))) 22]
def c73_10 : RC := .reg [] o73_10
def o73_11 : List ROp := [
  rq 23 (.move (tp 0)) 22,
  rq 24 (.move (tp 7)) 3,
  rq 25 (.indexAddr 22 (tp 23) (tp 24)) 0,
  rq 26 (.load 3 (tp 25)) 3,
  rq 9 (.assign (tp 26)) 3]
def c73_11 : RC := .reg [] o73_11
def o73_12 : List ROp := [
  rq 27 (.move (tp 8)) 22,
  rq 28 (.move (tp 9)) 3,
  rq 29 (cf 55 #[(tp 27), (tp 28)] #[22, 3]) 4,
  rq 30 (.unOp .not 4 (tp 29)) 4]
def c73_12 : RC := .reg [] o73_12
def c73_13 : RC := .cond (tp 30) .skip (.exit 2)
def c73_14 : RC := .seq c73_12 c73_13
def o73_15 : List ROp := [
  rq 31 (.move (tp 8)) 22,
  rq 32 (.move (tp 9)) 3,
  rq 33 (.buildSlice 22 1 #[(0, (tp 32))]) 22,
  rq 34 (cb .append #[(tp 31), (tp 33)] #[22, 22]) 22,
  rq 8 (.assign (tp 34)) 22]
def c73_15 : RC := .reg [] o73_15
def o73_16 : List ROp := [
  rq 10 (.assign (ki 0)) 3]
def c73_16 : RC := .reg [] o73_16
def o73_17 : List ROp := [
  rq 35 (.move (tp 0)) 22,
  rq 36 (.move (tp 10)) 3,
  rq 37 (.indexAddr 22 (tp 35) (tp 36)) 0,
  rq 38 (.load 3 (tp 37)) 3,
  rq 39 (.move (tp 9)) 3,
  rq 40 (.binOp .neq 3 (tp 38) (tp 39) 3) 4]
def c73_17 : RC := .reg [] o73_17
def c73_18 : RC := .cond (tp 40) .skip (.exit 4)
def c73_19 : RC := .seq c73_17 c73_18
def o73_20 : List ROp := [
  rq 41 (.move (tp 10)) 3,
  rq 42 (.binOp .add 3 (tp 41) (ki 1) 3) 3,
  rq 10 (.assign (tp 42)) 3]
def c73_20 : RC := .reg [] o73_20
def c73_21 : RC := .block 5 c73_20
def c73_22 : RC := .seq c73_19 c73_21
def c73_23 : RC := .loop c73_22
def c73_24 : RC := .block 4 c73_23
def o73_25 : List ROp := [
  rq 43 (.move (tp 1)) 22,
  rq 44 (.move (tp 10)) 3,
  rq 45 (.indexAddr 22 (tp 43) (tp 44)) 0,
  rq 46 (.load 3 (tp 45)) 3,
  rq 9 (.assign (tp 46)) 3]
def c73_25 : RC := .reg [] o73_25
def c73_26 : RC := .seq c73_24 c73_25
def c73_27 : RC := .seq c73_16 c73_26
def c73_28 : RC := .seq c73_15 c73_27
def c73_29 : RC := .block 3 c73_28
def c73_30 : RC := .seq c73_14 c73_29
def c73_31 : RC := .loop c73_30
def c73_32 : RC := .block 2 c73_31
def c73_33 : RC := .seq c73_11 c73_32
def o73_34 : List ROp := [
  rq 47 (.move (tp 5)) 34,
  rq 48 (.move (tp 8)) 22,
  rq 49 (.buildSlice 34 1 #[(0, (tp 48))]) 34,
  rq 50 (cb .append #[(tp 47), (tp 49)] #[34, 34]) 34,
  rq 5 (.assign (tp 50)) 34]
def c73_34 : RC := .reg [] o73_34
def o73_35 : List ROp := [
  rq 51 (.move (tp 6)) 22,
  rq 52 (.move (tp 8)) 22,
  rq 53 (cb .append #[(tp 51), (tp 52)] #[22, 22]) 22,
  rq 6 (.assign (tp 53)) 22]
def c73_35 : RC := .reg [] o73_35
def c73_36 : RC := .seq c73_34 c73_35
def c73_37 : RC := .seq c73_33 c73_36
def c73_38 : RC := .seq c73_10 c73_37
def c73_39 : RC := .seq c73_9 c73_38
def c73_40 : RC := .block 1 c73_39
def o73_41 : List ROp := [
  rq 15 (.move (tp 7)) 3,
  rq 16 (.binOp .add 3 (tp 15) (ki 1) 3) 3,
  rq 7 (.assign (tp 16)) 3]
def c73_41 : RC := .reg [] o73_41
def c73_42 : RC := .seq c73_40 c73_41
def c73_43 : RC := .seq c73_6 c73_42
def c73_44 : RC := .loop c73_43
def c73_45 : RC := .block 0 c73_44
def c73_46 : RC := .seq c73_3 c73_45
def o73_47 : List ROp := [
  rq 54 (.move (tp 5)) 34,
  rq 4 (.assign (tp 54)) 34]
def c73_47 : RC := .reg [] o73_47
def c73_48 : RC := .seq c73_47 .ret
def c73_49 : RC := .seq c73_46 c73_48
def c73_50 : RC := .seq c73_2 c73_49
def c73_51 : RC := .seq c73_1 c73_50
def c73_52 : RC := .seq c73_0 c73_51
def o74_0 : List ROp := [
  rq 4 (.assign (kb false)) 4]
def c74_0 : RC := .reg [] o74_0
def o74_1 : List ROp := [
  rq 5 (.assign (ki 0)) 3]
def c74_1 : RC := .reg [] o74_1
def o74_2 : List ROp := [
  rq 7 (.move (tp 5)) 3,
  rq 8 (.move (tp 0)) 34,
  rq 9 (cb .len #[(tp 8)] #[34]) 3,
  rq 10 (.binOp .lss 3 (tp 7) (tp 9) 3) 4]
def c74_2 : RC := .reg [] o74_2
def c74_3 : RC := .cond (tp 10) .skip (.exit 0)
def c74_4 : RC := .seq c74_2 c74_3
def o74_5 : List ROp := [
  rq 6 (.assign (ki 0)) 3]
def c74_5 : RC := .reg [] o74_5
def o74_6 : List ROp := [
  rq 13 (.move (tp 6)) 3,
  rq 14 (.move (tp 0)) 34,
  rq 15 (.move (tp 5)) 3,
  rq 16 (.indexAddr 34 (tp 14) (tp 15)) 0,
  rq 17 (.load 22 (tp 16)) 22,
  rq 18 (cb .len #[(tp 17)] #[22]) 3,
  rq 19 (.binOp .lss 3 (tp 13) (tp 18) 3) 4,
  rq 20 (.move (tp 19)) 4,
  rg 21 (.move (tp 6)) 3 20 true,
  rg 22 (.move (tp 1)) 34 20 true,
  rg 23 (.move (tp 5)) 3 20 true,
  rg 24 (.indexAddr 34 (tp 22) (tp 23)) 0 20 true,
  rg 25 (.load 22 (tp 24)) 22 20 true,
  rg 26 (cb .len #[(tp 25)] #[22]) 3 20 true,
  rg 27 (.binOp .lss 3 (tp 21) (tp 26) 3) 4 20 true,
  rq 28 (.pick (tp 20) (tp 27) (kb false)) 4]
def c74_6 : RC := .reg [] o74_6
def c74_7 : RC := .cond (tp 28) .skip (.exit 2)
def c74_8 : RC := .seq c74_6 c74_7
def o74_9 : List ROp := [
  rq 31 (.move (tp 0)) 34,
  rq 32 (.move (tp 5)) 3,
  rq 33 (.indexAddr 34 (tp 31) (tp 32)) 0,
  rq 34 (.load 22 (tp 33)) 22,
  rq 35 (.move (tp 6)) 3,
  rq 36 (.indexAddr 22 (tp 34) (tp 35)) 0,
  rq 37 (.load 3 (tp 36)) 3,
  rq 38 (.move (tp 1)) 34,
  rq 39 (.move (tp 5)) 3,
  rq 40 (.indexAddr 34 (tp 38) (tp 39)) 0,
  rq 41 (.load 22 (tp 40)) 22,
  rq 42 (.move (tp 6)) 3,
  rq 43 (.indexAddr 22 (tp 41) (tp 42)) 0,
  rq 44 (.load 3 (tp 43)) 3,
  rq 45 (.binOp .neq 3 (tp 37) (tp 44) 3) 4]
def c74_9 : RC := .reg [0, 1, 2, 3, 4, 5, 6, 7, 8, 9, 10, 11, 12, 13, 14] o74_9
def o74_10 : List ROp := [
  rq 46 (.move (tp 0)) 34,
  rq 47 (.move (tp 5)) 3,
  rq 48 (.indexAddr 34 (tp 46) (tp 47)) 0,
  rq 49 (.load 22 (tp 48)) 22,
  rq 50 (.move (tp 6)) 3,
  rq 51 (.indexAddr 22 (tp 49) (tp 50)) 0,
  rq 52 (.load 3 (tp 51)) 3,
  rq 53 (.move (tp 1)) 34,
  rq 54 (.move (tp 5)) 3,
  rq 55 (.indexAddr 34 (tp 53) (tp 54)) 0,
  rq 56 (.load 22 (tp 55)) 22,
  rq 57 (.move (tp 6)) 3,
  rq 58 (.indexAddr 22 (tp 56) (tp 57)) 0,
  rq 59 (.load 3 (tp 58)) 3,
  rq 60 (.binOp .lss 3 (tp 52) (tp 59) 3) 4,
  rq 4 (.assign (tp 60)) 4]
def c74_10 : RC := .reg [0, 1, 2, 3, 4, 5, 6, 7, 8, 9, 10, 11, 12, 13, 14, 15] o74_10
def c74_11 : RC := .seq c74_10 .ret
def c74_12 : RC := .cond (tp 45) c74_11 .skip
def c74_13 : RC := .seq c74_9 c74_12
def c74_14 : RC := .block 3 c74_13
def o74_15 : List ROp := [
  rq 29 (.move (tp 6)) 3,
  rq 30 (.binOp .add 3 (tp 29) (ki 1) 3) 3,
  rq 6 (.assign (tp 30)) 3]
def c74_15 : RC := .reg [] o74_15
def c74_16 : RC := .seq c74_14 c74_15
def c74_17 : RC := .seq c74_8 c74_16
def c74_18 : RC := .loop c74_17
def c74_19 : RC := .block 2 c74_18
def c74_20 : RC := .seq c74_5 c74_19
def o74_21 : List ROp := [
  rq 61 (.move (tp 0)) 34,
  rq 62 (.move (tp 5)) 3,
  rq 63 (.indexAddr 34 (tp 61) (tp 62)) 0,
  rq 64 (.load 22 (tp 63)) 22,
  rq 65 (cb .len #[(tp 64)] #[22]) 3,
  rq 66 (.move (tp 1)) 34,
  rq 67 (.move (tp 5)) 3,
  rq 68 (.indexAddr 34 (tp 66) (tp 67)) 0,
  rq 69 (.load 22 (tp 68)) 22,
  rq 70 (cb .len #[(tp 69)] #[22]) 3,
  rq 71 (.binOp .neq 3 (tp 65) (tp 70) 3) 4]
def c74_21 : RC := .reg [0, 1, 2, 3, 4, 5, 6, 7, 8, 9, 10] o74_21
def o74_22 : List ROp := [
  rq 72 (.move (tp 0)) 34,
  rq 73 (.move (tp 5)) 3,
  rq 74 (.indexAddr 34 (tp 72) (tp 73)) 0,
  rq 75 (.load 22 (tp 74)) 22,
  rq 76 (cb .len #[(tp 75)] #[22]) 3,
  rq 77 (.move (tp 1)) 34,
  rq 78 (.move (tp 5)) 3,
  rq 79 (.indexAddr 34 (tp 77) (tp 78)) 0,
  rq 80 (.load 22 (tp 79)) 22,
  rq 81 (cb .len #[(tp 80)] #[22]) 3,
  rq 82 (.binOp .lss 3 (tp 76) (tp 81) 3) 4,
  rq 4 (.assign (tp 82)) 4]
def c74_22 : RC := .reg [0, 1, 2, 3, 4, 5, 6, 7, 8, 9, 10, 11] o74_22
def c74_23 : RC := .seq c74_22 .ret
def c74_24 : RC := .cond (tp 71) c74_23 .skip
def c74_25 : RC := .seq c74_21 c74_24
def c74_26 : RC := .seq c74_20 c74_25
def c74_27 : RC := .block 1 c74_26
def o74_28 : List ROp := [
  rq 11 (.move (tp 5)) 3,
  rq 12 (.binOp .add 3 (tp 11) (ki 1) 3) 3,
  rq 5 (.assign (tp 12)) 3]
def c74_28 : RC := .reg [] o74_28
def c74_29 : RC := .seq c74_27 c74_28
def c74_30 : RC := .seq c74_4 c74_29
def c74_31 : RC := .loop c74_30
def c74_32 : RC := .block 0 c74_31
def c74_33 : RC := .seq c74_1 c74_32
def o74_34 : List ROp := [
  rq 4 (.assign (kb false)) 4]
def c74_34 : RC := .reg [] o74_34
def c74_35 : RC := .seq c74_34 .ret
def c74_36 : RC := .seq c74_33 c74_35
def c74_37 : RC := .seq c74_0 c74_36
def o65_0 : List ROp := [
  rq 1 (.box 24 (tp 0)) 0,
  rq 2 (.assign (.const (.pointer none))) 94]
def c65_0 : RC := .reg [] o65_0
def o65_1 : List ROp := [
  rq 3 (.load 24 (tp 1)) 24,
  rq 4 (.makeMap 103 none) 103,
  rn (.insert 103 (tp 4) (.const (.int .u16 0)) (ki 0)) 0,
  rq 5 (.move (tp 4)) 103,
  rq 6 (.build 105 #[(0, (tp 3)), (1, (tp 5))]) 105,
  rq 7 (.box 105 (tp 6)) 94,
  rq 2 (.assign (tp 7)) 94]
def c65_1 : RC := .reg [] o65_1
def c65_2 : RC := .seq c65_1 .ret
def c65_3 : RC := .seq c65_0 c65_2
def o66_0 : List ROp := [
  rq 4 (.assign (ki 0)) 3]
def c66_0 : RC := .reg [] o66_0
def o66_1 : List ROp := [
  rq 11 (.move (tp 0)) 94,
  rq 12 (.nilCheck (tp 11)) 0,
  rq 13 (.fieldAddr 105 (tp 12) 1) 0,
  rq 14 (.load 103 (tp 13)) 103,
  rq 15 (.move (tp 1)) 80,
  rq 16 (.lookup 103 (tp 14) (tp 15) true) 86,
  rq 10 (.move (tp 16)) 86,
  rq 17 (.extract (tp 10) 0) 3,
  rq 18 (.extract (tp 10) 1) 4,
  rq 5 (.assign (tp 17)) 3,
  rq 6 (.assign (tp 18)) 4]
def c66_1 : RC := .reg [] o66_1
def o66_2 : List ROp := [
  rq 19 (.move (tp 6)) 4]
def c66_2 : RC := .reg [] o66_2
def o66_3 : List ROp := [
  rq 20 (.move (tp 5)) 3,
  rq 4 (.assign (tp 20)) 3]
def c66_3 : RC := .reg [] o66_3
def c66_4 : RC := .seq c66_3 .ret
def c66_5 : RC := .cond (tp 19) c66_4 .skip
def c66_6 : RC := .seq c66_2 c66_5
def c66_7 : RC := .seq c66_1 c66_6
def o66_8 : List ROp := [
  rq 7 (.assign (ki 0)) 3]
def c66_8 : RC := .reg [] o66_8
def o66_9 : List ROp := [
  rq 21 (.move (tp 1)) 80,
  rq 22 (cf 62 #[(tp 21)] #[80]) 22,
  rq 23 (cb .len #[(tp 22)] #[22]) 3,
  rq 24 (.move (ki 0)) 3]
def c66_9 : RC := .reg [] o66_9
def o66_10 : List ROp := [
  rq 25 (.binOp .lss 3 (tp 24) (tp 23) 3) 0]
def c66_10 : RC := .reg [] o66_10
def c66_11 : RC := .cond (tp 25) .skip (.exit 0)
def o66_12 : List ROp := [
  rq 26 (.indexAddr 22 (tp 22) (tp 24)) 0,
  rq 27 (.load 3 (tp 26)) 3,
  rq 9 (.assign (tp 27)) 3]
def c66_12 : RC := .reg [] o66_12
def o66_13 : List ROp := [
  rq 28 (.move (tp 7)) 3,
  rq 29 (.move (tp 0)) 94,
  rq 30 (.move (tp 1)) 80,
  rq 31 (.move (tp 9)) 3,
  rq 32 (.binOp .shl 80 (.const (.int .u16 1)) (tp 31) 3) 80,
  rq 33 (.binOp .andNot 80 (tp 30) (tp 32) 80) 80,
  rq 34 (cf 66 #[(tp 29), (tp 33)] #[94, 80]) 3,
  rq 35 (cb .max #[(tp 28), (tp 34)] #[3, 3]) 3,
  rq 7 (.assign (tp 35)) 3]
def c66_13 : RC := .reg [] o66_13
def c66_14 : RC := .seq c66_12 c66_13
def c66_15 : RC := .block 1 c66_14
def o66_16 : List ROp := [
  rq 36 (.binOp .add 3 (tp 24) (ki 1) 3) 3,
  rq 24 (.move (tp 36)) 3]
def c66_16 : RC := .reg [] o66_16
def c66_17 : RC := .seq c66_15 c66_16
def c66_18 : RC := .seq c66_11 c66_17
def c66_19 : RC := .seq c66_10 c66_18
def c66_20 : RC := .loop c66_19
def c66_21 : RC := .block 0 c66_20
def c66_22 : RC := .seq c66_9 c66_21
def o66_23 : List ROp := [
  rq 37 (.move (tp 0)) 94,
  rq 38 (.nilCheck (tp 37)) 0,
  rq 39 (.fieldAddr 105 (tp 38) 0) 0,
  rq 40 (.load 24 (tp 39)) 24,
  rq 41 (.move (tp 1)) 80,
  rq 42 (cf 71 #[(tp 40), (tp 41)] #[24, 80]) 4]
def c66_23 : RC := .reg [] o66_23
def o66_24 : List ROp := [
  rq 43 (.move (tp 7)) 3,
  rq 44 (.binOp .add 3 (tp 43) (ki 1) 3) 3,
  rq 7 (.assign (tp 44)) 3]
def c66_24 : RC := .reg [] o66_24
def c66_25 : RC := .cond (tp 42) c66_24 .skip
def c66_26 : RC := .seq c66_23 c66_25
def o66_27 : List ROp := [
  rq 45 (.move (tp 0)) 94,
  rq 46 (.nilCheck (tp 45)) 0,
  rq 47 (.fieldAddr 105 (tp 46) 1) 0,
  rq 48 (.load 103 (tp 47)) 103,
  rq 49 (.move (tp 1)) 80,
  rq 50 (.move (tp 7)) 3,
  rn (.mapUpdate 103 (tp 48) (tp 49) (tp 50)) 0]
def c66_27 : RC := .reg [] o66_27
def o66_28 : List ROp := [
  rq 51 (.move (tp 7)) 3,
  rq 4 (.assign (tp 51)) 3]
def c66_28 : RC := .reg [] o66_28
def c66_29 : RC := .seq c66_28 .ret
def c66_30 : RC := .seq c66_27 c66_29
def c66_31 : RC := .seq c66_26 c66_30
def c66_32 : RC := .seq c66_22 c66_31
def c66_33 : RC := .seq c66_8 c66_32
def c66_34 : RC := .seq c66_7 c66_33
def c66_35 : RC := .seq c66_0 c66_34
def o69_0 : List ROp := [
  rq 4 (.assign (ki 0)) 3]
def c69_0 : RC := .reg [] o69_0
def o69_1 : List ROp := [
  rq 5 (.assign (ki 0)) 3]
def c69_1 : RC := .reg [] o69_1
def o69_2 : List ROp := [
  rq 6 (.assign (ki 0)) 3]
def c69_2 : RC := .reg [] o69_2
def o69_3 : List ROp := [
  rq 7 (.move (tp 6)) 3,
  rq 8 (.move (tp 0)) 22,
  rq 9 (cb .len #[(tp 8)] #[22]) 3,
  rq 10 (.binOp .lss 3 (tp 7) (tp 9) 3) 4]
def c69_3 : RC := .reg [] o69_3
def c69_4 : RC := .cond (tp 10) .skip (.exit 0)
def c69_5 : RC := .seq c69_3 c69_4
def o69_6 : List ROp := [
  rq 13 (.move (tp 0)) 22,
  rq 14 (.move (tp 6)) 3,
  rq 15 (.indexAddr 22 (tp 13) (tp 14)) 0,
  rq 16 (.load 3 (tp 15)) 3,
  rq 17 (.move (tp 1)) 3,
  rq 18 (.binOp .eql 3 (tp 16) (tp 17) 3) 4]
def c69_6 : RC := .reg [] o69_6
def o69_7 : List ROp := [
  rq 19 (.move (tp 5)) 3,
  rq 20 (.binOp .add 3 (tp 19) (ki 1) 3) 3,
  rq 5 (.assign (tp 20)) 3]
def c69_7 : RC := .reg [] o69_7
def c69_8 : RC := .cond (tp 18) c69_7 .skip
def c69_9 : RC := .seq c69_6 c69_8
def c69_10 : RC := .block 1 c69_9
def o69_11 : List ROp := [
  rq 11 (.move (tp 6)) 3,
  rq 12 (.binOp .add 3 (tp 11) (ki 1) 3) 3,
  rq 6 (.assign (tp 12)) 3]
def c69_11 : RC := .reg [] o69_11
def c69_12 : RC := .seq c69_10 c69_11
def c69_13 : RC := .seq c69_5 c69_12
def c69_14 : RC := .loop c69_13
def c69_15 : RC := .block 0 c69_14
def c69_16 : RC := .seq c69_2 c69_15
def o69_17 : List ROp := [
  rq 21 (.move (tp 5)) 3,
  rq 4 (.assign (tp 21)) 3]
def c69_17 : RC := .reg [] o69_17
def c69_18 : RC := .seq c69_17 .ret
def c69_19 : RC := .seq c69_16 c69_18
def c69_20 : RC := .seq c69_1 c69_19
def c69_21 : RC := .seq c69_0 c69_20
def o70_0 : List ROp := [
  rq 4 (.box 32 (tp 0)) 0,
  rq 8 (.assign (.const (.slice none 0 0))) 34]
def c70_0 : RC := .reg [] o70_0
def o70_1 : List ROp := [
  rq 12 (.move (tp 2)) 22,
  rq 13 (cb .len #[(tp 12)] #[22]) 3,
  rq 14 (.move (tp 1)) 22,
  rq 15 (cb .len #[(tp 14)] #[22]) 3,
  rq 16 (.binOp .eql 3 (tp 13) (tp 15) 3) 4]
def c70_1 : RC := .reg [] o70_1
def o70_2 : List ROp := [
  rq 17 (.move (tp 1)) 22,
  rq 18 (.move (tp 2)) 22,
  rq 19 (cf 73 #[(tp 17), (tp 18)] #[22, 22]) 34,
  rq 9 (.assign (tp 19)) 34]
def c70_2 : RC := .reg [] o70_2
def o70_3 : List ROp := [
  rq 20 (.move (tp 3)) 34,
  rq 21 (.binOp .eql 34 (tp 20) (.const (.slice none 0 0)) 34) 4,
  rq 22 (.move (tp 21)) 4,
  rg 23 (.move (tp 9)) 34 22 false,
  rg 24 (cb .len #[(tp 23)] #[34]) 3 22 false,
  rg 25 (.move (tp 3)) 34 22 false,
  rg 26 (cb .len #[(tp 25)] #[34]) 3 22 false,
  rg 27 (.binOp .gtr 3 (tp 24) (tp 26) 3) 4 22 false,
  rq 28 (.pick (tp 22) (kb true) (tp 27)) 4,
  rq 29 (.move (tp 28)) 4,
  rg 30 (.move (tp 9)) 34 29 false,
  rg 31 (cb .len #[(tp 30)] #[34]) 3 29 false,
  rg 32 (.move (tp 3)) 34 29 false,
  rg 33 (cb .len #[(tp 32)] #[34]) 3 29 false,
  rg 34 (.binOp .eql 3 (tp 31) (tp 33) 3) 4 29 false,
  rg 35 (.move (tp 34)) 4 29 false,
  rg 36 (.move (tp 9)) 34 35 true,
  rg 37 (.move (tp 3)) 34 35 true,
  rg 38 (cf 74 #[(tp 36), (tp 37)] #[34, 34]) 4 35 true,
  rg 39 (.pick (tp 35) (tp 38) (kb false)) 4 29 false,
  rq 40 (.pick (tp 29) (kb true) (tp 39)) 4]
def c70_3 : RC := .reg [] o70_3
def o70_4 : List ROp := [
  rq 41 (.move (tp 9)) 34,
  rq 8 (.assign (tp 41)) 34]
def c70_4 : RC := .reg [] o70_4
def c70_5 : RC := .seq c70_4 .ret
def c70_6 : RC := .cond (tp 40) c70_5 .skip
def c70_7 : RC := .seq c70_3 c70_6
def o70_8 : List ROp := [
  rq 42 (.move (tp 3)) 34,
  rq 8 (.assign (tp 42)) 34]
def c70_8 : RC := .reg [] o70_8
def c70_9 : RC := .seq c70_8 .ret
def c70_10 : RC := .seq c70_7 c70_9
def c70_11 : RC := .seq c70_2 c70_10
def c70_12 : RC := .cond (tp 16) c70_11 .skip
def c70_13 : RC := .seq c70_1 c70_12
def o70_14 : List ROp := [
  rq 10 (.assign (ki 0)) 3]
def c70_14 : RC := .reg [] o70_14
def o70_15 : List ROp := [
  rq 43 (.move (tp 10)) 3,
  rq 44 (.move (tp 1)) 22,
  rq 45 (cb .len #[(tp 44)] #[22]) 3,
  rq 46 (.binOp .lss 3 (tp 43) (tp 45) 3) 4]
def c70_15 : RC := .reg [] o70_15
def c70_16 : RC := .cond (tp 46) .skip (.exit 0)
def c70_17 : RC := .seq c70_15 c70_16
def o70_18 : List ROp := [
  rq 49 (.move (tp 1)) 22,
  rq 50 (.move (tp 10)) 3,
  rq 51 (.indexAddr 22 (tp 49) (tp 50)) 0,
  rq 52 (.load 3 (tp 51)) 3,
  rq 11 (.assign (tp 52)) 3]
def c70_18 : RC := .reg [] o70_18
def o70_19 : List ROp := [
  rq 53 (.fieldAddr 32 (tp 4) 1) 0,
  rq 54 (.load 22 (tp 53)) 22,
  rq 55 (.move (tp 11)) 3,
  rq 56 (.indexAddr 22 (tp 54) (tp 55)) 0,
  rq 57 (.load 3 (tp 56)) 3,
  rq 58 (.fieldAddr 32 (tp 4) 2) 0,
  rq 59 (.load 22 (tp 58)) 22,
  rq 60 (.move (tp 1)) 22,
  rq 61 (.move (tp 2)) 22,
  rq 62 (cb .len #[(tp 61)] #[22]) 3,
  rq 63 (.indexAddr 22 (tp 60) (tp 62)) 0,
  rq 64 (.load 3 (tp 63)) 3,
  rq 65 (.indexAddr 22 (tp 59) (tp 64)) 0,
  rq 66 (.load 3 (tp 65)) 3,
  rq 67 (.binOp .eql 3 (tp 57) (tp 66) 3) 4,
  rq 68 (.move (tp 67)) 4,
  rg 69 (.move (tp 2)) 22 68 true,
  rg 70 (.move (tp 11)) 3 68 true,
  rg 71 (cf 55 #[(tp 69), (tp 70)] #[22, 3]) 4 68 true,
  rg 72 (.unOp .not 4 (tp 71)) 4 68 true,
  rq 73 (.pick (tp 68) (tp 72) (kb false)) 4]
def c70_19 : RC := .reg [0, 1, 2, 3, 4, 5, 6, 7, 8, 9, 10, 11, 12, 13, 14, 15, 16, 17, 18, 19, 20] o70_19
def o70_20 : List ROp := [
  rq 74 (.load 32 (tp 4)) 32,
  rq 75 (.move (tp 1)) 22,
  rq 76 (.buildSlice 22 0 #[]) 22,
  rq 77 (.move (tp 2)) 22,
  rq 79 (.move (tp 11)) 3,
  rq 80 (.buildSlice 22 1 #[(0, (tp 79))]) 22,
  rq 82 (.move (tp 3)) 34,
  ⟨(some 78), cb .append #[(tp 76), (tp 77)] #[22, 22], 22, none, [(tp 4)]⟩,
  ⟨(some 81), cb .append #[(tp 78), (tp 80)] #[22, 22], 22, none, [(tp 4)]⟩,
  rq 83 (cf 70 #[(tp 74), (tp 75), (tp 81), (tp 82)] #[32, 22, 22, 34]) 34,
  rq 3 (.assign (tp 83)) 34]
def c70_20 : RC := .reg [0, 1, 2, 3, 5, 6, 8, 4, 7, 9, 10] o70_20
def c70_21 : RC := .cond (tp 73) c70_20 .skip
def c70_22 : RC := .seq c70_19 c70_21
def c70_23 : RC := .seq c70_18 c70_22
def c70_24 : RC := .block 1 c70_23
def o70_25 : List ROp := [
  rq 47 (.move (tp 10)) 3,
  rq 48 (.binOp .add 3 (tp 47) (ki 1) 3) 3,
  rq 10 (.assign (tp 48)) 3]
def c70_25 : RC := .reg [] o70_25
def c70_26 : RC := .seq c70_24 c70_25
def c70_27 : RC := .seq c70_17 c70_26
def c70_28 : RC := .loop c70_27
def c70_29 : RC := .block 0 c70_28
def c70_30 : RC := .seq c70_14 c70_29
def o70_31 : List ROp := [
  rq 84 (.move (tp 3)) 34,
  rq 8 (.assign (tp 84)) 34]
def c70_31 : RC := .reg [] o70_31
def c70_32 : RC := .seq c70_31 .ret
def c70_33 : RC := .seq c70_30 c70_32
def c70_34 : RC := .seq c70_13 c70_33
def c70_35 : RC := .seq c70_0 c70_34
def o55_0 : List ROp := [
  rq 4 (.assign (kb false)) 4]
def c55_0 : RC := .reg [] o55_0
def o55_1 : List ROp := [
  rq 5 (.move (tp 0)) 22,
  rq 6 (.move (tp 1)) 3,
  rq 7 (cf 69 #[(tp 5), (tp 6)] #[22, 3]) 3,
  rq 8 (.binOp .gtr 3 (tp 7) (ki 0) 3) 4,
  rq 4 (.assign (tp 8)) 4]
def c55_1 : RC := .reg [] o55_1
def c55_2 : RC := .seq c55_1 .ret
def c55_3 : RC := .seq c55_0 c55_2
end Go.MdH
