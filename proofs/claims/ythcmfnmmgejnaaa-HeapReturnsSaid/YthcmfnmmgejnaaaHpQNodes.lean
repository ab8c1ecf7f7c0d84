/- Slim code of the functions that have a model, piece by piece: MADE BY PROGRAM (wip/tools/dec.py). -/
import Derived.Test.YthcmfnmmgejnaaaSpFramex

set_option maxRecDepth 100000
namespace Go.HpQ
open Go.Sp
def o4_0 : List ROp := [
  rq 2 (.assign (kb false)) 4]
def c4_0 : RC := .reg [] o4_0
def o4_1 : List ROp := [
  rq 15 (.move (tp 0)) 22,
  rq 16 (cf 5 #[(tp 15)] #[22]) 4]
def c4_1 : RC := .reg [] o4_1
def o4_2 : List ROp := [
  rq 17 (cf 6 #[] #[]) 4,
  rq 2 (.assign (tp 17)) 4]
def c4_2 : RC := .reg [] o4_2
def c4_3 : RC := .seq c4_2 .ret
def c4_4 : RC := .cond (tp 16) c4_3 .skip
def c4_5 : RC := .seq c4_1 c4_4
def o4_6 : List ROp := [
  rq 19 (.move (tp 0)) 22,
  rq 20 (cf 10 #[(tp 19)] #[22]) 30,
  rq 18 (.move (tp 20)) 30,
  rq 21 (.extract (tp 18) 0) 4,
  rq 22 (.extract (tp 18) 1) 26,
  rq 3 (.assign (tp 21)) 4,
  rq 4 (.assign (tp 22)) 26]
def c4_6 : RC := .reg [] o4_6
def o4_7 : List ROp := [
  rq 24 (.move (tp 0)) 22,
  rq 25 (cf 11 #[(tp 24)] #[22]) 30,
  rq 23 (.move (tp 25)) 30,
  rq 26 (.extract (tp 23) 0) 4,
  rq 27 (.extract (tp 23) 1) 26,
  rq 5 (.assign (tp 26)) 4,
  rq 6 (.assign (tp 27)) 26]
def c4_7 : RC := .reg [] o4_7
def o4_8 : List ROp := [
  rq 29 (.move (tp 0)) 22,
  rq 30 (cf 12 #[(tp 29)] #[22]) 32,
  rq 28 (.move (tp 30)) 32,
  rq 31 (.extract (tp 28) 0) 3,
  rq 32 (.extract (tp 28) 1) 26,
  rq 7 (.assign (tp 31)) 3,
  rq 8 (.assign (tp 32)) 26]
def c4_8 : RC := .reg [] o4_8
def o4_9 : List ROp := [
  rq 34 (.move (tp 0)) 22,
  rq 35 (cf 13 #[(tp 34)] #[22]) 32,
  rq 33 (.move (tp 35)) 32,
  rq 36 (.extract (tp 33) 0) 3,
  rq 37 (.extract (tp 33) 1) 26,
  rq 9 (.assign (tp 36)) 3,
  rq 10 (.assign (tp 37)) 26]
def c4_9 : RC := .reg [] o4_9
def o4_10 : List ROp := [
  rq 39 (.move (tp 0)) 22,
  rq 40 (cf 14 #[(tp 39)] #[22]) 27,
  rq 38 (.move (tp 40)) 27,
  rq 41 (.extract (tp 38) 0) 25,
  rq 42 (.extract (tp 38) 1) 26,
  rq 11 (.assign (tp 41)) 25,
  rq 12 (.assign (tp 42)) 26]
def c4_10 : RC := .reg [] o4_10
def o4_11 : List ROp := [
  rq 44 (.move (tp 0)) 22,
  rq 45 (cf 15 #[(tp 44)] #[22]) 27,
  rq 43 (.move (tp 45)) 27,
  rq 46 (.extract (tp 43) 0) 25,
  rq 47 (.extract (tp 43) 1) 26,
  rq 13 (.assign (tp 46)) 25,
  rq 14 (.assign (tp 47)) 26]
def c4_11 : RC := .reg [] o4_11
def o4_12 : List ROp := [
  rq 48 (.move (tp 3)) 4,
  rq 49 (.move (tp 5)) 4,
  rq 50 (.binOp .eql 4 (tp 48) (tp 49) 4) 4,
  rq 51 (.move (tp 50)) 4,
  rg 52 (.move (tp 4)) 26 51 true,
  rg 53 (.move (tp 6)) 26 51 true,
  rg 54 (.binOp .eql 26 (tp 52) (tp 53) 26) 4 51 true,
  rq 55 (.pick (tp 51) (tp 54) (kb false)) 4,
  rq 56 (.move (tp 55)) 4,
  rg 57 (.move (tp 7)) 3 56 true,
  rg 58 (.move (tp 9)) 3 56 true,
  rg 59 (.binOp .eql 3 (tp 57) (tp 58) 3) 4 56 true,
  rq 60 (.pick (tp 56) (tp 59) (kb false)) 4,
  rq 61 (.move (tp 60)) 4,
  rg 62 (.move (tp 8)) 26 61 true,
  rg 63 (.move (tp 10)) 26 61 true,
  rg 64 (.binOp .eql 26 (tp 62) (tp 63) 26) 4 61 true,
  rq 65 (.pick (tp 61) (tp 64) (kb false)) 4,
  rq 66 (.move (tp 65)) 4,
  rg 67 (.move (tp 11)) 25 66 true,
  rg 68 (.move (tp 13)) 25 66 true,
  rg 69 (cf 9 #[(tp 67), (tp 68)] #[25, 25]) 4 66 true,
  rq 70 (.pick (tp 66) (tp 69) (kb false)) 4,
  rq 71 (.move (tp 70)) 4,
  rg 72 (.move (tp 12)) 26 71 true,
  rg 73 (.move (tp 14)) 26 71 true,
  rg 74 (.binOp .eql 26 (tp 72) (tp 73) 26) 4 71 true,
  rq 75 (.pick (tp 71) (tp 74) (kb false)) 4,
  rq 76 (.move (tp 75)) 4,
  rg 77 (cf 6 #[] #[]) 4 76 true,
  rq 78 (.pick (tp 76) (tp 77) (kb false)) 4,
  rq 2 (.assign (tp 78)) 4]
def c4_12 : RC := .reg [] o4_12
def c4_13 : RC := .seq c4_12 .ret
def c4_14 : RC := .seq c4_11 c4_13
def c4_15 : RC := .seq c4_10 c4_14
def c4_16 : RC := .seq c4_9 c4_15
def c4_17 : RC := .seq c4_8 c4_16
def c4_18 : RC := .seq c4_7 c4_17
def c4_19 : RC := .seq c4_6 c4_18
def c4_20 : RC := .seq c4_5 c4_19
def c4_21 : RC := .seq c4_0 c4_20
def o5_0 : List ROp := [
  rq 2 (.assign (kb false)) 4]
def c5_0 : RC := .reg [] o5_0
def o5_1 : List ROp := [
  rq 3 (.move (tp 0)) 22,
  rq 4 (cb .len #[(tp 3)] #[22]) 3,
  rq 5 (.binOp .gtr 3 (tp 4) (ki 60) 3) 4,
  rq 2 (.assign (tp 5)) 4]
def c5_1 : RC := .reg [] o5_1
def c5_2 : RC := .seq c5_1 .ret
def c5_3 : RC := .seq c5_0 c5_2
def o9_0 : List ROp := [
  rq 4 (.assign (kb false)) 4]
def c9_0 : RC := .reg [] o9_0
def o9_1 : List ROp := [
  rq 6 (.move (tp 0)) 25,
  rq 7 (cb .len #[(tp 6)] #[25]) 3,
  rq 8 (.move (tp 1)) 25,
  rq 9 (cb .len #[(tp 8)] #[25]) 3,
  rq 10 (.binOp .neq 3 (tp 7) (tp 9) 3) 4]
def c9_1 : RC := .reg [] o9_1
def o9_2 : List ROp := [
  rq 4 (.assign (kb false)) 4]
def c9_2 : RC := .reg [] o9_2
def c9_3 : RC := .seq c9_2 .ret
def c9_4 : RC := .cond (tp 10) c9_3 .skip
def c9_5 : RC := .seq c9_1 c9_4
def o9_6 : List ROp := [
  rq 5 (.assign (ki 0)) 3]
def c9_6 : RC := .reg [] o9_6
def o9_7 : List ROp := [
  rq 11 (.move (tp 5)) 3,
  rq 12 (.move (tp 0)) 25,
  rq 13 (cb .len #[(tp 12)] #[25]) 3,
  rq 14 (.binOp .lss 3 (tp 11) (tp 13) 3) 4]
def c9_7 : RC := .reg [] o9_7
def c9_8 : RC := .cond (tp 14) .skip (.exit 0)
def c9_9 : RC := .seq c9_7 c9_8
def o9_10 : List ROp := [
  rq 17 (.move (tp 0)) 25,
  rq 18 (.move (tp 5)) 3,
  rq 19 (.indexAddr 25 (tp 17) (tp 18)) 0,
  rq 20 (.load 22 (tp 19)) 22,
  rq 21 (.move (tp 1)) 25,
  rq 22 (.move (tp 5)) 3,
  rq 23 (.indexAddr 25 (tp 21) (tp 22)) 0,
  rq 24 (.load 22 (tp 23)) 22,
  rq 25 (cf 24 #[(tp 20), (tp 24)] #[22, 22]) 4,
  rq 26 (.unOp .not 4 (tp 25)) 4]
def c9_10 : RC := .reg [0, 1, 2, 3, 4, 5, 6, 7, 8, 9] o9_10
def o9_11 : List ROp := [
  rq 4 (.assign (kb false)) 4]
def c9_11 : RC := .reg [] o9_11
def c9_12 : RC := .seq c9_11 .ret
def c9_13 : RC := .cond (tp 26) c9_12 .skip
def c9_14 : RC := .seq c9_10 c9_13
def c9_15 : RC := .block 1 c9_14
def o9_16 : List ROp := [
  rq 15 (.move (tp 5)) 3,
  rq 16 (.binOp .add 3 (tp 15) (ki 1) 3) 3,
  rq 5 (.assign (tp 16)) 3]
def c9_16 : RC := .reg [] o9_16
def c9_17 : RC := .seq c9_15 c9_16
def c9_18 : RC := .seq c9_9 c9_17
def c9_19 : RC := .loop c9_18
def c9_20 : RC := .block 0 c9_19
def c9_21 : RC := .seq c9_6 c9_20
def o9_22 : List ROp := [
  rq 4 (.assign (kb true)) 4]
def c9_22 : RC := .reg [] o9_22
def c9_23 : RC := .seq c9_22 .ret
def c9_24 : RC := .seq c9_21 c9_23
def c9_25 : RC := .seq c9_5 c9_24
def c9_26 : RC := .seq c9_0 c9_25
def o10_0 : List ROp := [
  rq 2 (.assign (kb false)) 4,
  rq 3 (.assign (ki 0)) 26]
def c10_0 : RC := .reg [] o10_0
def o10_1 : List ROp := [
  rq 5 (.move (tp 0)) 22,
  rq 6 (cf 26 #[(tp 5)] #[22]) 26,
  rq 4 (.assign (tp 6)) 26]
def c10_1 : RC := .reg [] o10_1
def o10_2 : List ROp := [
  rq 7 (.move (tp 4)) 26,
  rq 8 (.binOp .neq 26 (tp 7) (ki 0) 26) 4]
def c10_2 : RC := .reg [] o10_2
def o10_3 : List ROp := [
  rq 9 (.move (tp 4)) 26,
  rq 2 (.assign (kb false)) 4,
  rq 3 (.assign (tp 9)) 26]
def c10_3 : RC := .reg [] o10_3
def c10_4 : RC := .seq c10_3 .ret
def c10_5 : RC := .cond (tp 8) c10_4 .skip
def c10_6 : RC := .seq c10_2 c10_5
def c10_7 : RC := .seq c10_1 c10_6
def o10_8 : List ROp := [
  rq 10 (.move (tp 0)) 22,
  rq 11 (cf 27 #[(tp 10)] #[22]) 48,
  rq 12 (cf 34 #[(tp 11)] #[48]) 4,
  rq 2 (.assign (tp 12)) 4,
  rq 3 (.assign (ki 0)) 26]
def c10_8 : RC := .reg [] o10_8
def c10_9 : RC := .seq c10_8 .ret
def c10_10 : RC := .seq c10_7 c10_9
def c10_11 : RC := .seq c10_0 c10_10
def o11_0 : List ROp := [
  rq 2 (.assign (kb false)) 4,
  rq 3 (.assign (ki 0)) 26]
def c11_0 : RC := .reg [] o11_0
def o11_1 : List ROp := [
  rq 5 (.move (tp 0)) 22,
  rq 6 (cf 29 #[(tp 5)] #[22]) 26,
  rq 4 (.assign (tp 6)) 26]
def c11_1 : RC := .reg [] o11_1
def o11_2 : List ROp := [
  rq 7 (.move (tp 4)) 26,
  rq 8 (.binOp .neq 26 (tp 7) (ki 0) 26) 4]
def c11_2 : RC := .reg [] o11_2
def o11_3 : List ROp := [
  rq 9 (.move (tp 4)) 26,
  rq 2 (.assign (kb false)) 4,
  rq 3 (.assign (tp 9)) 26]
def c11_3 : RC := .reg [] o11_3
def c11_4 : RC := .seq c11_3 .ret
def c11_5 : RC := .cond (tp 8) c11_4 .skip
def c11_6 : RC := .seq c11_2 c11_5
def o11_7 : List ROp := [
  rq 10 (.move (tp 0)) 22,
  rq 11 (cf 35 #[(tp 10)] #[22]) 4,
  rq 2 (.assign (tp 11)) 4,
  rq 3 (.assign (ki 0)) 26]
def c11_7 : RC := .reg [] o11_7
def c11_8 : RC := .seq c11_7 .ret
def c11_9 : RC := .seq c11_6 c11_8
def c11_10 : RC := .seq c11_1 c11_9
def c11_11 : RC := .seq c11_0 c11_10
def o12_0 : List ROp := [
  rq 2 (.assign (ki 0)) 3,
  rq 3 (.assign (ki 0)) 26]
def c12_0 : RC := .reg [] o12_0
def o12_1 : List ROp := [
  rq 7 (.move (tp 0)) 22,
  rq 8 (cf 26 #[(tp 7)] #[22]) 26,
  rq 4 (.assign (tp 8)) 26]
def c12_1 : RC := .reg [] o12_1
def o12_2 : List ROp := [
  rq 9 (.move (tp 4)) 26,
  rq 10 (.binOp .neq 26 (tp 9) (ki 0) 26) 4]
def c12_2 : RC := .reg [] o12_2
def o12_3 : List ROp := [
  rq 11 (.move (tp 4)) 26,
  rq 2 (.assign (ki 0)) 3,
  rq 3 (.assign (tp 11)) 26]
def c12_3 : RC := .reg [] o12_3
def c12_4 : RC := .seq c12_3 .ret
def c12_5 : RC := .cond (tp 10) c12_4 .skip
def c12_6 : RC := .seq c12_2 c12_5
def c12_7 : RC := .seq c12_1 c12_6
def o12_8 : List ROp := [
  rq 13 (.move (tp 0)) 22,
  rq 14 (cf 27 #[(tp 13)] #[22]) 48,
  rq 15 (cf 36 #[(tp 14)] #[48]) 54,
  rq 12 (.move (tp 15)) 54,
  rq 16 (.extract (tp 12) 0) 3,
  rq 17 (.extract (tp 12) 1) 48,
  rq 6 (.alloc 48) 0,
  rq 5 (.assign (tp 16)) 3,
  rn (.store 48 (tp 6) (tp 17)) 0]
def c12_8 : RC := .reg [] o12_8
def o12_9 : List ROp := [
  rq 18 (.move (tp 5)) 3,
  rq 2 (.assign (tp 18)) 3,
  rq 3 (.assign (ki 0)) 26]
def c12_9 : RC := .reg [] o12_9
def c12_10 : RC := .seq c12_9 .ret
def c12_11 : RC := .seq c12_8 c12_10
def c12_12 : RC := .seq c12_7 c12_11
def c12_13 : RC := .seq c12_0 c12_12
def o13_0 : List ROp := [
  rq 2 (.assign (ki 0)) 3,
  rq 3 (.assign (ki 0)) 26]
def c13_0 : RC := .reg [] o13_0
def o13_1 : List ROp := [
  rq 7 (.move (tp 0)) 22,
  rq 8 (cf 29 #[(tp 7)] #[22]) 26,
  rq 4 (.assign (tp 8)) 26]
def c13_1 : RC := .reg [] o13_1
def o13_2 : List ROp := [
  rq 9 (.move (tp 4)) 26,
  rq 10 (.binOp .neq 26 (tp 9) (ki 0) 26) 4]
def c13_2 : RC := .reg [] o13_2
def o13_3 : List ROp := [
  rq 11 (.move (tp 4)) 26,
  rq 2 (.assign (ki 0)) 3,
  rq 3 (.assign (tp 11)) 26]
def c13_3 : RC := .reg [] o13_3
def c13_4 : RC := .seq c13_3 .ret
def c13_5 : RC := .cond (tp 10) c13_4 .skip
def c13_6 : RC := .seq c13_2 c13_5
def o13_7 : List ROp := [
  rq 13 (.move (tp 0)) 22,
  rq 14 (cf 37 #[(tp 13)] #[22]) 56,
  rq 12 (.move (tp 14)) 56,
  rq 15 (.extract (tp 12) 0) 3,
  rq 16 (.extract (tp 12) 1) 22,
  rq 5 (.assign (tp 15)) 3,
  rq 6 (.assign (tp 16)) 22]
def c13_7 : RC := .reg [] o13_7
def o13_8 : List ROp := [
  rq 17 (.move (tp 5)) 3,
  rq 2 (.assign (tp 17)) 3,
  rq 3 (.assign (ki 0)) 26]
def c13_8 : RC := .reg [] o13_8
def c13_9 : RC := .seq c13_8 .ret
def c13_10 : RC := .seq c13_7 c13_9
def c13_11 : RC := .seq c13_6 c13_10
def c13_12 : RC := .seq c13_1 c13_11
def c13_13 : RC := .seq c13_0 c13_12
def o14_0 : List ROp := [
  rq 2 (.assign (.const (.slice none 0 0))) 25,
  rq 3 (.assign (ki 0)) 26]
def c14_0 : RC := .reg [] o14_0
def o14_1 : List ROp := [
  rq 5 (.move (tp 0)) 22,
  rq 6 (cf 26 #[(tp 5)] #[22]) 26,
  rq 4 (.assign (tp 6)) 26]
def c14_1 : RC := .reg [] o14_1
def o14_2 : List ROp := [
  rq 7 (.move (tp 4)) 26,
  rq 8 (.binOp .neq 26 (tp 7) (ki 0) 26) 4]
def c14_2 : RC := .reg [] o14_2
def o14_3 : List ROp := [
  rq 9 (.move (tp 4)) 26,
  rq 2 (.assign (.const (.slice none 0 0))) 25,
  rq 3 (.assign (tp 9)) 26]
def c14_3 : RC := .reg [] o14_3
def c14_4 : RC := .seq c14_3 .ret
def c14_5 : RC := .cond (tp 8) c14_4 .skip
def c14_6 : RC := .seq c14_2 c14_5
def c14_7 : RC := .seq c14_1 c14_6
def o14_8 : List ROp := [
  rq 10 (.move (tp 0)) 22,
  rq 11 (cf 27 #[(tp 10)] #[22]) 48,
  rq 12 (cf 38 #[(tp 11)] #[48]) 25,
  rq 2 (.assign (tp 12)) 25,
  rq 3 (.assign (ki 0)) 26]
def c14_8 : RC := .reg [] o14_8
def c14_9 : RC := .seq c14_8 .ret
def c14_10 : RC := .seq c14_7 c14_9
def c14_11 : RC := .seq c14_0 c14_10
def o15_0 : List ROp := [
  rq 2 (.assign (.const (.slice none 0 0))) 25,
  rq 3 (.assign (ki 0)) 26]
def c15_0 : RC := .reg [] o15_0
def o15_1 : List ROp := [
  rq 5 (.move (tp 0)) 22,
  rq 6 (cf 29 #[(tp 5)] #[22]) 26,
  rq 4 (.assign (tp 6)) 26]
def c15_1 : RC := .reg [] o15_1
def o15_2 : List ROp := [
  rq 7 (.move (tp 4)) 26,
  rq 8 (.binOp .neq 26 (tp 7) (ki 0) 26) 4]
def c15_2 : RC := .reg [] o15_2
def o15_3 : List ROp := [
  rq 9 (.move (tp 4)) 26,
  rq 2 (.assign (.const (.slice none 0 0))) 25,
  rq 3 (.assign (tp 9)) 26]
def c15_3 : RC := .reg [] o15_3
def c15_4 : RC := .seq c15_3 .ret
def c15_5 : RC := .cond (tp 8) c15_4 .skip
def c15_6 : RC := .seq c15_2 c15_5
def o15_7 : List ROp := [
  rq 10 (.move (tp 0)) 22,
  rq 11 (cf 39 #[(tp 10)] #[22]) 25,
  rq 2 (.assign (tp 11)) 25,
  rq 3 (.assign (ki 0)) 26]
def c15_7 : RC := .reg [] o15_7
def c15_8 : RC := .seq c15_7 .ret
def c15_9 : RC := .seq c15_6 c15_8
def c15_10 : RC := .seq c15_1 c15_9
def c15_11 : RC := .seq c15_0 c15_10
def o24_0 : List ROp := [
  rq 4 (.assign (kb false)) 4]
def c24_0 : RC := .reg [] o24_0
def o24_1 : List ROp := [
  rq 6 (.move (tp 0)) 22,
  rq 7 (cb .len #[(tp 6)] #[22]) 3,
  rq 8 (.move (tp 1)) 22,
  rq 9 (cb .len #[(tp 8)] #[22]) 3,
  rq 10 (.binOp .neq 3 (tp 7) (tp 9) 3) 4]
def c24_1 : RC := .reg [] o24_1
def o24_2 : List ROp := [
  rq 4 (.assign (kb false)) 4]
def c24_2 : RC := .reg [] o24_2
def c24_3 : RC := .seq c24_2 .ret
def c24_4 : RC := .cond (tp 10) c24_3 .skip
def c24_5 : RC := .seq c24_1 c24_4
def o24_6 : List ROp := [
  rq 5 (.assign (ki 0)) 3]
def c24_6 : RC := .reg [] o24_6
def o24_7 : List ROp := [
  rq 11 (.move (tp 5)) 3,
  rq 12 (.move (tp 0)) 22,
  rq 13 (cb .len #[(tp 12)] #[22]) 3,
  rq 14 (.binOp .lss 3 (tp 11) (tp 13) 3) 4]
def c24_7 : RC := .reg [] o24_7
def c24_8 : RC := .cond (tp 14) .skip (.exit 0)
def c24_9 : RC := .seq c24_7 c24_8
def o24_10 : List ROp := [
  rq 17 (.move (tp 0)) 22,
  rq 18 (.move (tp 5)) 3,
  rq 19 (.indexAddr 22 (tp 17) (tp 18)) 0,
  rq 20 (.load 3 (tp 19)) 3,
  rq 21 (.move (tp 1)) 22,
  rq 22 (.move (tp 5)) 3,
  rq 23 (.indexAddr 22 (tp 21) (tp 22)) 0,
  rq 24 (.load 3 (tp 23)) 3,
  rq 25 (.binOp .neq 3 (tp 20) (tp 24) 3) 4]
def c24_10 : RC := .reg [0, 1, 2, 3, 4, 5, 6, 7, 8] o24_10
def o24_11 : List ROp := [
  rq 4 (.assign (kb false)) 4]
def c24_11 : RC := .reg [] o24_11
def c24_12 : RC := .seq c24_11 .ret
def c24_13 : RC := .cond (tp 25) c24_12 .skip
def c24_14 : RC := .seq c24_10 c24_13
def c24_15 : RC := .block 1 c24_14
def o24_16 : List ROp := [
  rq 15 (.move (tp 5)) 3,
  rq 16 (.binOp .add 3 (tp 15) (ki 1) 3) 3,
  rq 5 (.assign (tp 16)) 3]
def c24_16 : RC := .reg [] o24_16
def c24_17 : RC := .seq c24_15 c24_16
def c24_18 : RC := .seq c24_9 c24_17
def c24_19 : RC := .loop c24_18
def c24_20 : RC := .block 0 c24_19
def c24_21 : RC := .seq c24_6 c24_20
def o24_22 : List ROp := [
  rq 4 (.assign (kb true)) 4]
def c24_22 : RC := .reg [] o24_22
def c24_23 : RC := .seq c24_22 .ret
def c24_24 : RC := .seq c24_21 c24_23
def c24_25 : RC := .seq c24_5 c24_24
def c24_26 : RC := .seq c24_0 c24_25
def o26_0 : List ROp := [
  rq 2 (.assign (ki 0)) 26]
def c26_0 : RC := .reg [] o26_0
def o26_1 : List ROp := [
  rq 7 (.move (tp 0)) 22,
  rq 8 (cb .len #[(tp 7)] #[22]) 3,
  rq 9 (.binOp .eql 3 (tp 8) (ki 0) 3) 4]
def c26_1 : RC := .reg [] o26_1
def o26_2 : List ROp := [
  rq 2 (.assign (ki 4)) 26]
def c26_2 : RC := .reg [] o26_2
def c26_3 : RC := .seq c26_2 .ret
def c26_4 : RC := .cond (tp 9) c26_3 .skip
def c26_5 : RC := .seq c26_1 c26_4
def o26_6 : List ROp := [
  rq 3 (.assign (ki 0)) 3,
  rq 4 (.assign (ki 21)) 3]
def c26_6 : RC := .reg [] o26_6
def o26_7 : List ROp := [
  rq 10 (.move (tp 0)) 22,
  rq 11 (cb .len #[(tp 10)] #[22]) 3,
  rq 12 (.move (ki 0)) 3]
def c26_7 : RC := .reg [] o26_7
def o26_8 : List ROp := [
  rq 13 (.binOp .lss 3 (tp 12) (tp 11) 3) 0]
def c26_8 : RC := .reg [] o26_8
def c26_9 : RC := .cond (tp 13) .skip (.exit 0)
def o26_10 : List ROp := [
  rq 14 (.indexAddr 22 (tp 10) (tp 12)) 0,
  rq 15 (.load 3 (tp 14)) 3,
  rq 6 (.assign (tp 15)) 3]
def c26_10 : RC := .reg [] o26_10
def o26_11 : List ROp := [
  rq 17 (.move (tp 6)) 3,
  rq 18 (cf 42 #[(ki 1), (tp 17), (ki 21)] #[3, 3, 3]) 4,
  rq 19 (.unOp .not 4 (tp 18)) 4,
  rq 16 (.assign (tp 19)) 4]
def c26_11 : RC := .reg [] o26_11
def o26_12 : List ROp := [
  rq 2 (.assign (ki 1)) 26]
def c26_12 : RC := .reg [] o26_12
def c26_13 : RC := .seq c26_12 .ret
def o26_14 : List ROp := [
  rq 21 (.move (tp 6)) 3,
  rq 22 (.move (tp 4)) 3,
  rq 23 (.binOp .gtr 3 (tp 21) (tp 22) 3) 4,
  rq 20 (.assign (tp 23)) 4]
def c26_14 : RC := .reg [] o26_14
def o26_15 : List ROp := [
  rq 2 (.assign (ki 7)) 26]
def c26_15 : RC := .reg [] o26_15
def c26_16 : RC := .seq c26_15 .ret
def c26_17 : RC := .cond (tp 20) c26_16 .skip
def c26_18 : RC := .seq c26_14 c26_17
def c26_19 : RC := .cond (tp 16) c26_13 c26_18
def c26_20 : RC := .seq c26_11 c26_19
def c26_21 : RC := .block 2 c26_20
def o26_22 : List ROp := [
  rq 24 (.move (tp 6)) 3,
  rq 4 (.assign (tp 24)) 3]
def c26_22 : RC := .reg [] o26_22
def o26_23 : List ROp := [
  rq 25 (.move (tp 3)) 3,
  rq 26 (.move (tp 6)) 3,
  rq 27 (.binOp .add 3 (tp 25) (tp 26) 3) 3,
  rq 28 (cb .min #[(tp 27), (ki 22)] #[3, 3]) 3,
  rq 3 (.assign (tp 28)) 3]
def c26_23 : RC := .reg [] o26_23
def c26_24 : RC := .seq c26_22 c26_23
def c26_25 : RC := .seq c26_21 c26_24
def c26_26 : RC := .seq c26_10 c26_25
def c26_27 : RC := .block 1 c26_26
def o26_28 : List ROp := [
  rq 29 (.binOp .add 3 (tp 12) (ki 1) 3) 3,
  rq 12 (.move (tp 29)) 3]
def c26_28 : RC := .reg [] o26_28
def c26_29 : RC := .seq c26_27 c26_28
def c26_30 : RC := .seq c26_9 c26_29
def c26_31 : RC := .seq c26_8 c26_30
def c26_32 : RC := .loop c26_31
def c26_33 : RC := .block 0 c26_32
def c26_34 : RC := .seq c26_7 c26_33
def o26_35 : List ROp := [
  rq 30 (.move (tp 3)) 3,
  rq 31 (.binOp .gtr 3 (tp 30) (ki 21) 3) 4]
def c26_35 : RC := .reg [] o26_35
def o26_36 : List ROp := [
  rq 2 (.assign (ki 3)) 26]
def c26_36 : RC := .reg [] o26_36
def c26_37 : RC := .seq c26_36 .ret
def c26_38 : RC := .cond (tp 31) c26_37 .skip
def c26_39 : RC := .seq c26_35 c26_38
def o26_40 : List ROp := [
  rq 2 (.assign (ki 0)) 26]
def c26_40 : RC := .reg [] o26_40
def c26_41 : RC := .seq c26_40 .ret
def c26_42 : RC := .seq c26_39 c26_41
def c26_43 : RC := .seq c26_34 c26_42
def c26_44 : RC := .seq c26_6 c26_43
def c26_45 : RC := .seq c26_5 c26_44
def c26_46 : RC := .seq c26_0 c26_45
def o27_0 : List ROp := [
  rq 2 (.alloc 48) 0]
def c27_0 : RC := .reg [] o27_0
def o27_1 : List ROp := [
  rq 3 (.alloc 48) 0]
def c27_1 : RC := .reg [] o27_1
def o27_2 : List ROp := [
  rq 6 (.move (tp 0)) 22,
  rq 7 (cb .len #[(tp 6)] #[22]) 3,
  rq 8 (.move (ki 0)) 3]
def c27_2 : RC := .reg [] o27_2
def o27_3 : List ROp := [
  rq 9 (.binOp .lss 3 (tp 8) (tp 7) 3) 0]
def c27_3 : RC := .reg [] o27_3
def c27_4 : RC := .cond (tp 9) .skip (.exit 0)
def o27_5 : List ROp := [
  rq 10 (.indexAddr 22 (tp 6) (tp 8)) 0,
  rq 11 (.load 3 (tp 10)) 3,
  rq 5 (.assign (tp 11)) 3]
def c27_5 : RC := .reg [] o27_5
def o27_6 : List ROp := [
  rq 12 (.move (tp 5)) 3,
  rq 13 (.indexAddr 48 (tp 3) (tp 12)) 0,
  rq 14 (.load 3 (tp 13)) 3,
  rq 15 (.binOp .add 3 (tp 14) (ki 1) 3) 3,
  rq 16 (.indexAddr 48 (tp 3) (tp 12)) 0,
  rn (.store 3 (tp 16) (tp 15)) 0]
def c27_6 : RC := .reg [] o27_6
def c27_7 : RC := .seq c27_5 c27_6
def c27_8 : RC := .block 1 c27_7
def o27_9 : List ROp := [
  rq 17 (.binOp .add 3 (tp 8) (ki 1) 3) 3,
  rq 8 (.move (tp 17)) 3]
def c27_9 : RC := .reg [] o27_9
def c27_10 : RC := .seq c27_8 c27_9
def c27_11 : RC := .seq c27_4 c27_10
def c27_12 : RC := .seq c27_3 c27_11
def c27_13 : RC := .loop c27_12
def c27_14 : RC := .block 0 c27_13
def c27_15 : RC := .seq c27_2 c27_14
def o27_16 : List ROp := [
  rq 18 (.load 48 (tp 3)) 48,
  rn (.store 48 (tp 2) (tp 18)) 0]
def c27_16 : RC := .reg [] o27_16
def c27_17 : RC := .seq c27_16 .ret
def c27_18 : RC := .seq c27_15 c27_17
def c27_19 : RC := .seq c27_1 c27_18
def c27_20 : RC := .seq c27_0 c27_19
def o29_0 : List ROp := [
  rq 2 (.assign (ki 0)) 26]
def c29_0 : RC := .reg [] o29_0
def o29_1 : List ROp := [
  rq 6 (.move (tp 0)) 22,
  rq 7 (cb .len #[(tp 6)] #[22]) 3,
  rq 8 (.binOp .eql 3 (tp 7) (ki 0) 3) 4]
def c29_1 : RC := .reg [] o29_1
def o29_2 : List ROp := [
  rq 2 (.assign (ki 4)) 26]
def c29_2 : RC := .reg [] o29_2
def c29_3 : RC := .seq c29_2 .ret
def c29_4 : RC := .cond (tp 8) c29_3 .skip
def c29_5 : RC := .seq c29_1 c29_4
def o29_6 : List ROp := [
  rq 3 (.assign (ki 0)) 3]
def c29_6 : RC := .reg [] o29_6
def o29_7 : List ROp := [
  rq 9 (.move (tp 3)) 3,
  rq 10 (.move (tp 0)) 22,
  rq 11 (cb .len #[(tp 10)] #[22]) 3,
  rq 12 (.binOp .lss 3 (tp 9) (tp 11) 3) 4]
def c29_7 : RC := .reg [] o29_7
def c29_8 : RC := .cond (tp 12) .skip (.exit 0)
def c29_9 : RC := .seq c29_7 c29_8
def o29_10 : List ROp := [
  rq 15 (.move (tp 0)) 22,
  rq 16 (.move (tp 3)) 3,
  rq 17 (.indexAddr 22 (tp 15) (tp 16)) 0,
  rq 18 (.load 3 (tp 17)) 3,
  rq 19 (cf 59 #[(tp 18), (ki 1), (ki 21)] #[3, 3, 3]) 4,
  rq 20 (.unOp .not 4 (tp 19)) 4]
def c29_10 : RC := .reg [] o29_10
def o29_11 : List ROp := [
  rq 2 (.assign (ki 1)) 26]
def c29_11 : RC := .reg [] o29_11
def c29_12 : RC := .seq c29_11 .ret
def c29_13 : RC := .cond (tp 20) c29_12 .skip
def c29_14 : RC := .seq c29_10 c29_13
def o29_15 : List ROp := [
  rq 21 (.move (tp 3)) 3,
  rq 22 (.binOp .gtr 3 (tp 21) (ki 0) 3) 4,
  rq 23 (.move (tp 22)) 4,
  rg 24 (.move (tp 0)) 22 23 true,
  rg 25 (.move (tp 3)) 3 23 true,
  rg 26 (.indexAddr 22 (tp 24) (tp 25)) 0 23 true,
  rg 27 (.load 3 (tp 26)) 3 23 true,
  rg 28 (.move (tp 0)) 22 23 true,
  rg 29 (.move (tp 3)) 3 23 true,
  rg 30 (.binOp .sub 3 (tp 29) (ki 1) 3) 3 23 true,
  rg 31 (.indexAddr 22 (tp 28) (tp 30)) 0 23 true,
  rg 32 (.load 3 (tp 31)) 3 23 true,
  rg 33 (.binOp .gtr 3 (tp 27) (tp 32) 3) 4 23 true,
  rq 34 (.pick (tp 23) (tp 33) (kb false)) 4]
def c29_15 : RC := .reg [0, 1, 2, 3, 4, 5, 6, 7, 8, 9, 10, 11, 12, 13] o29_15
def o29_16 : List ROp := [
  rq 2 (.assign (ki 7)) 26]
def c29_16 : RC := .reg [] o29_16
def c29_17 : RC := .seq c29_16 .ret
def c29_18 : RC := .cond (tp 34) c29_17 .skip
def c29_19 : RC := .seq c29_15 c29_18
def c29_20 : RC := .seq c29_14 c29_19
def c29_21 : RC := .block 1 c29_20
def o29_22 : List ROp := [
  rq 13 (.move (tp 3)) 3,
  rq 14 (.binOp .add 3 (tp 13) (ki 1) 3) 3,
  rq 3 (.assign (tp 14)) 3]
def c29_22 : RC := .reg [] o29_22
def c29_23 : RC := .seq c29_21 c29_22
def c29_24 : RC := .seq c29_9 c29_23
def c29_25 : RC := .loop c29_24
def c29_26 : RC := .block 0 c29_25
def c29_27 : RC := .seq c29_6 c29_26
def o29_28 : List ROp := [
  rq 4 (.assign (ki 0)) 3]
def c29_28 : RC := .reg [] o29_28
def o29_29 : List ROp := [
  rq 5 (.assign (ki 0)) 3]
def c29_29 : RC := .reg [] o29_29
def o29_30 : List ROp := [
  rq 35 (.move (tp 5)) 3,
  rq 36 (.move (tp 0)) 22,
  rq 37 (cb .len #[(tp 36)] #[22]) 3,
  rq 38 (.binOp .lss 3 (tp 35) (tp 37) 3) 4]
def c29_30 : RC := .reg [] o29_30
def c29_31 : RC := .cond (tp 38) .skip (.exit 2)
def c29_32 : RC := .seq c29_30 c29_31
def o29_33 : List ROp := [
  rq 41 (.move (tp 4)) 3,
  rq 42 (.move (tp 0)) 22,
  rq 43 (.move (tp 5)) 3,
  rq 44 (.indexAddr 22 (tp 42) (tp 43)) 0,
  rq 45 (.load 3 (tp 44)) 3,
  rq 46 (.binOp .add 3 (tp 41) (tp 45) 3) 3,
  rq 4 (.assign (tp 46)) 3]
def c29_33 : RC := .reg [] o29_33
def o29_34 : List ROp := [
  rq 47 (.move (tp 4)) 3,
  rq 48 (.binOp .gtr 3 (tp 47) (ki 21) 3) 4]
def c29_34 : RC := .reg [] o29_34
def o29_35 : List ROp := [
  rq 2 (.assign (ki 3)) 26]
def c29_35 : RC := .reg [] o29_35
def c29_36 : RC := .seq c29_35 .ret
def c29_37 : RC := .cond (tp 48) c29_36 .skip
def c29_38 : RC := .seq c29_34 c29_37
def c29_39 : RC := .seq c29_33 c29_38
def c29_40 : RC := .block 3 c29_39
def o29_41 : List ROp := [
  rq 39 (.move (tp 5)) 3,
  rq 40 (.binOp .add 3 (tp 39) (ki 1) 3) 3,
  rq 5 (.assign (tp 40)) 3]
def c29_41 : RC := .reg [] o29_41
def c29_42 : RC := .seq c29_40 c29_41
def c29_43 : RC := .seq c29_32 c29_42
def c29_44 : RC := .loop c29_43
def c29_45 : RC := .block 2 c29_44
def c29_46 : RC := .seq c29_29 c29_45
def o29_47 : List ROp := [
  rq 2 (.assign (ki 0)) 26]
def c29_47 : RC := .reg [] o29_47
def c29_48 : RC := .seq c29_47 .ret
def c29_49 : RC := .seq c29_46 c29_48
def c29_50 : RC := .seq c29_28 c29_49
def c29_51 : RC := .seq c29_27 c29_50
def c29_52 : RC := .seq c29_5 c29_51
def c29_53 : RC := .seq c29_0 c29_52
def o32_0 : List ROp := [
  rq 4 (.assign (kb false)) 4]
def c32_0 : RC := .reg [] o32_0
def o32_1 : List ROp := [
  rq 6 (.move (tp 0)) 22,
  rq 7 (cb .len #[(tp 6)] #[22]) 3,
  rq 8 (.move (tp 1)) 22,
  rq 9 (cb .len #[(tp 8)] #[22]) 3,
  rq 10 (.binOp .neq 3 (tp 7) (tp 9) 3) 4]
def c32_1 : RC := .reg [] o32_1
def o32_2 : List ROp := [
  rq 4 (.assign (kb false)) 4]
def c32_2 : RC := .reg [] o32_2
def c32_3 : RC := .seq c32_2 .ret
def c32_4 : RC := .cond (tp 10) c32_3 .skip
def c32_5 : RC := .seq c32_1 c32_4
def o32_6 : List ROp := [
  rq 5 (.assign (ki 0)) 3]
def c32_6 : RC := .reg [] o32_6
def o32_7 : List ROp := [
  rq 11 (.move (tp 5)) 3,
  rq 12 (.move (tp 0)) 22,
  rq 13 (cb .len #[(tp 12)] #[22]) 3,
  rq 14 (.binOp .lss 3 (tp 11) (tp 13) 3) 4]
def c32_7 : RC := .reg [] o32_7
def c32_8 : RC := .cond (tp 14) .skip (.exit 0)
def c32_9 : RC := .seq c32_7 c32_8
def o32_10 : List ROp := [
  rq 17 (.move (tp 0)) 22,
  rq 18 (.move (tp 5)) 3,
  rq 19 (.indexAddr 22 (tp 17) (tp 18)) 0,
  rq 20 (.load 3 (tp 19)) 3,
  rq 21 (.move (tp 1)) 22,
  rq 22 (.move (tp 5)) 3,
  rq 23 (.indexAddr 22 (tp 21) (tp 22)) 0,
  rq 24 (.load 3 (tp 23)) 3,
  rq 25 (.binOp .neq 3 (tp 20) (tp 24) 3) 4]
def c32_10 : RC := .reg [0, 1, 2, 3, 4, 5, 6, 7, 8] o32_10
def o32_11 : List ROp := [
  rq 4 (.assign (kb false)) 4]
def c32_11 : RC := .reg [] o32_11
def c32_12 : RC := .seq c32_11 .ret
def c32_13 : RC := .cond (tp 25) c32_12 .skip
def c32_14 : RC := .seq c32_10 c32_13
def c32_15 : RC := .block 1 c32_14
def o32_16 : List ROp := [
  rq 15 (.move (tp 5)) 3,
  rq 16 (.binOp .add 3 (tp 15) (ki 1) 3) 3,
  rq 5 (.assign (tp 16)) 3]
def c32_16 : RC := .reg [] o32_16
def c32_17 : RC := .seq c32_15 c32_16
def c32_18 : RC := .seq c32_9 c32_17
def c32_19 : RC := .loop c32_18
def c32_20 : RC := .block 0 c32_19
def c32_21 : RC := .seq c32_6 c32_20
def o32_22 : List ROp := [
  rq 4 (.assign (kb true)) 4]
def c32_22 : RC := .reg [] o32_22
def c32_23 : RC := .seq c32_22 .ret
def c32_24 : RC := .seq c32_21 c32_23
def c32_25 : RC := .seq c32_5 c32_24
def c32_26 : RC := .seq c32_0 c32_25
def o33_0 : List ROp := [
  rq 2 (.assign (.const (.slice none 0 0))) 22]
def c33_0 : RC := .reg [] o33_0
def o33_1 : List ROp := [
  rq 3 (.assign (.const (.slice none 0 0))) 22]
def c33_1 : RC := .reg [] o33_1
def o33_2 : List ROp := [
  rq 4 (.assign (kb false)) 4]
def c33_2 : RC := .reg [] o33_2
def o33_3 : List ROp := [
  rq 5 (.assign (ki 0)) 3]
def c33_3 : RC := .reg [] o33_3
def o33_4 : List ROp := [
  rq 6 (.move (tp 5)) 3,
  rq 7 (.move (tp 0)) 22,
  rq 8 (cb .len #[(tp 7)] #[22]) 3,
  rq 9 (.binOp .lss 3 (tp 6) (tp 8) 3) 4]
def c33_4 : RC := .reg [] o33_4
def c33_5 : RC := .cond (tp 9) .skip (.exit 0)
def c33_6 : RC := .seq c33_4 c33_5
def o33_7 : List ROp := [
  rq 12 (.move (tp 4)) 4,
  rq 13 (.unOp .not 4 (tp 12)) 4,
  rq 14 (.move (tp 13)) 4,
  rg 15 (.move (tp 0)) 22 14 true,
  rg 16 (.move (tp 5)) 3 14 true,
  rg 17 (.indexAddr 22 (tp 15) (tp 16)) 0 14 true,
  rg 18 (.load 3 (tp 17)) 3 14 true,
  rg 19 (.binOp .sub 3 (tp 18) (ki 1) 3) 3 14 true,
  rg 20 (.move (tp 0)) 22 14 true,
  rg 21 (cb .len #[(tp 20)] #[22]) 3 14 true,
  rg 22 (.binOp .leq 3 (tp 19) (tp 21) 3) 4 14 true,
  rq 23 (.pick (tp 14) (tp 22) (kb false)) 4]
def c33_7 : RC := .reg [] o33_7
def o33_8 : List ROp := [
  rq 24 (.move (tp 3)) 22,
  rq 25 (.move (tp 0)) 22,
  rq 26 (cb .len #[(tp 25)] #[22]) 3,
  rq 27 (.buildSlice 22 1 #[(0, (tp 26))]) 22,
  rq 28 (cb .append #[(tp 24), (tp 27)] #[22, 22]) 22,
  rq 3 (.assign (tp 28)) 22]
def c33_8 : RC := .reg [] o33_8
def o33_9 : List ROp := [
  rq 4 (.assign (kb true)) 4]
def c33_9 : RC := .reg [] o33_9
def c33_10 : RC := .seq c33_8 c33_9
def c33_11 : RC := .cond (tp 23) c33_10 .skip
def c33_12 : RC := .seq c33_7 c33_11
def o33_13 : List ROp := [
  rq 29 (.move (tp 0)) 22,
  rq 30 (.move (tp 5)) 3,
  rq 31 (.indexAddr 22 (tp 29) (tp 30)) 0,
  rq 32 (.load 3 (tp 31)) 3,
  rq 33 (.binOp .gtr 3 (tp 32) (ki 1) 3) 4]
def c33_13 : RC := .reg [] o33_13
def o33_14 : List ROp := [
  rq 34 (.move (tp 3)) 22,
  rq 35 (.move (tp 0)) 22,
  rq 36 (.move (tp 5)) 3,
  rq 37 (.indexAddr 22 (tp 35) (tp 36)) 0,
  rq 38 (.load 3 (tp 37)) 3,
  rq 39 (.binOp .sub 3 (tp 38) (ki 1) 3) 3,
  rq 40 (.buildSlice 22 1 #[(0, (tp 39))]) 22,
  rq 41 (cb .append #[(tp 34), (tp 40)] #[22, 22]) 22,
  rq 3 (.assign (tp 41)) 22]
def c33_14 : RC := .reg [] o33_14
def c33_15 : RC := .cond (tp 33) c33_14 .skip
def c33_16 : RC := .seq c33_13 c33_15
def c33_17 : RC := .seq c33_12 c33_16
def c33_18 : RC := .block 1 c33_17
def o33_19 : List ROp := [
  rq 10 (.move (tp 5)) 3,
  rq 11 (.binOp .add 3 (tp 10) (ki 1) 3) 3,
  rq 5 (.assign (tp 11)) 3]
def c33_19 : RC := .reg [] o33_19
def c33_20 : RC := .seq c33_18 c33_19
def c33_21 : RC := .seq c33_6 c33_20
def c33_22 : RC := .loop c33_21
def c33_23 : RC := .block 0 c33_22
def c33_24 : RC := .seq c33_3 c33_23
def o33_25 : List ROp := [
  rq 42 (.move (tp 4)) 4,
  rq 43 (.unOp .not 4 (tp 42)) 4]
def c33_25 : RC := .reg [] o33_25
def o33_26 : List ROp := [
  rq 44 (.move (tp 3)) 22,
  rq 45 (.move (tp 0)) 22,
  rq 46 (cb .len #[(tp 45)] #[22]) 3,
  rq 47 (.buildSlice 22 1 #[(0, (tp 46))]) 22,
  rq 48 (cb .append #[(tp 44), (tp 47)] #[22, 22]) 22,
  rq 3 (.assign (tp 48)) 22]
def c33_26 : RC := .reg [] o33_26
def c33_27 : RC := .cond (tp 43) c33_26 .skip
def c33_28 : RC := .seq c33_25 c33_27
def o33_29 : List ROp := [
  rq 49 (.move (tp 3)) 22,
  rq 2 (.assign (tp 49)) 22]
def c33_29 : RC := .reg [] o33_29
def c33_30 : RC := .seq c33_29 .ret
def c33_31 : RC := .seq c33_28 c33_30
def c33_32 : RC := .seq c33_24 c33_31
def c33_33 : RC := .seq c33_2 c33_32
def c33_34 : RC := .seq c33_1 c33_33
def c33_35 : RC := .seq c33_0 c33_34
def o34_0 : List ROp := [
  rq 1 (.box 48 (tp 0)) 0,
  rq 2 (.assign (kb false)) 4]
def c34_0 : RC := .reg [] o34_0
def o34_1 : List ROp := [
  rq 8 (.load 48 (tp 1)) 48,
  rq 9 (cf 41 #[(tp 8)] #[48]) 22,
  rq 3 (.assign (tp 9)) 22]
def c34_1 : RC := .reg [] o34_1
def o34_2 : List ROp := [
  rq 11 (.load 48 (tp 1)) 48,
  rq 12 (cf 44 #[(tp 11)] #[48]) 3,
  rq 13 (cf 43 #[(tp 12)] #[3]) 62,
  rq 10 (.move (tp 13)) 62,
  rq 14 (.extract (tp 10) 0) 3,
  rq 15 (.extract (tp 10) 1) 3,
  rq 4 (.assign (tp 14)) 3,
  rq 5 (.assign (tp 15)) 3]
def c34_2 : RC := .reg [] o34_2
def o34_3 : List ROp := [
  rq 16 (.move (tp 3)) 22,
  rq 17 (cb .len #[(tp 16)] #[22]) 3,
  rq 18 (.move (tp 4)) 3,
  rq 19 (.binOp .add 3 (tp 18) (ki 1) 3) 3,
  rq 20 (.binOp .gtr 3 (tp 17) (tp 19) 3) 4]
def c34_3 : RC := .reg [] o34_3
def o34_4 : List ROp := [
  rq 2 (.assign (kb false)) 4]
def c34_4 : RC := .reg [] o34_4
def c34_5 : RC := .seq c34_4 .ret
def c34_6 : RC := .cond (tp 20) c34_5 .skip
def c34_7 : RC := .seq c34_3 c34_6
def o34_8 : List ROp := [
  rq 21 (.move (tp 3)) 22,
  rq 22 (.move (tp 4)) 3,
  rq 23 (.binOp .add 3 (tp 22) (ki 1) 3) 3,
  rq 24 (.move (tp 3)) 22,
  rq 25 (cb .len #[(tp 24)] #[22]) 3,
  rq 26 (.binOp .sub 3 (tp 23) (tp 25) 3) 3,
  rq 27 (cb .append #[(tp 21), (tp 26)] #[22, 3]) 22,
  rq 28 (cb .len #[(tp 27)] #[22]) 3,
  rq 29 (.move (ki 0)) 3]
def c34_8 : RC := .reg [] o34_8
def o34_9 : List ROp := [
  rq 30 (.binOp .lss 3 (tp 29) (tp 28) 3) 0]
def c34_9 : RC := .reg [] o34_9
def c34_10 : RC := .cond (tp 30) .skip (.exit 0)
def o34_11 : List ROp := [
  rq 31 (.move (tp 29)) 3,
  rq 32 (.indexAddr 22 (tp 27) (tp 29)) 0,
  rq 33 (.load 3 (tp 32)) 3,
  rq 6 (.assign (tp 31)) 3,
  rq 7 (.assign (tp 33)) 3]
def c34_11 : RC := .reg [] o34_11
def o34_12 : List ROp := [
  rq 34 (.move (tp 4)) 3,
  rq 35 (.move (tp 6)) 3,
  rq 36 (.binOp .sub 3 (tp 34) (tp 35) 3) 3,
  rq 37 (.move (tp 7)) 3,
  rq 38 (.move (tp 4)) 3,
  rq 39 (.binOp .add 3 (tp 38) (ki 1) 3) 3,
  rq 40 (.move (tp 6)) 3,
  rq 41 (.binOp .sub 3 (tp 39) (tp 40) 3) 3,
  rq 42 (cf 42 #[(tp 36), (tp 37), (tp 41)] #[3, 3, 3]) 4,
  rq 43 (.unOp .not 4 (tp 42)) 4]
def c34_12 : RC := .reg [] o34_12
def o34_13 : List ROp := [
  rq 2 (.assign (kb false)) 4]
def c34_13 : RC := .reg [] o34_13
def c34_14 : RC := .seq c34_13 .ret
def c34_15 : RC := .cond (tp 43) c34_14 .skip
def c34_16 : RC := .seq c34_12 c34_15
def c34_17 : RC := .seq c34_11 c34_16
def c34_18 : RC := .block 1 c34_17
def o34_19 : List ROp := [
  rq 44 (.binOp .add 3 (tp 29) (ki 1) 3) 3,
  rq 29 (.move (tp 44)) 3]
def c34_19 : RC := .reg [] o34_19
def c34_20 : RC := .seq c34_18 c34_19
def c34_21 : RC := .seq c34_10 c34_20
def c34_22 : RC := .seq c34_9 c34_21
def c34_23 : RC := .loop c34_22
def c34_24 : RC := .block 0 c34_23
def c34_25 : RC := .seq c34_8 c34_24
def o34_26 : List ROp := [
  rq 2 (.assign (kb true)) 4]
def c34_26 : RC := .reg [] o34_26
def c34_27 : RC := .seq c34_26 .ret
def c34_28 : RC := .seq c34_25 c34_27
def c34_29 : RC := .seq c34_7 c34_28
def c34_30 : RC := .seq c34_2 c34_29
def c34_31 : RC := .seq c34_1 c34_30
def c34_32 : RC := .seq c34_0 c34_31
def o35_0 : List ROp := [
  rq 2 (.assign (kb false)) 4]
def c35_0 : RC := .reg [] o35_0
def o35_1 : List ROp := [
  rq 5 (.move (tp 0)) 22,
  rq 3 (.assign (tp 5)) 22]
def c35_1 : RC := .reg [] o35_1
def o35_2 : List ROp := [
  rq 4 (.assign (ki 0)) 3]
def c35_2 : RC := .reg [] o35_2
def o35_3 : List ROp := [
  rq 6 (.move (tp 4)) 3,
  rq 7 (.binOp .lss 3 (tp 6) (ki 21) 3) 4]
def c35_3 : RC := .reg [] o35_3
def c35_4 : RC := .cond (tp 7) .skip (.exit 0)
def c35_5 : RC := .seq c35_3 c35_4
def o35_6 : List ROp := [
  rq 10 (.move (tp 3)) 22,
  rq 11 (cf 33 #[(tp 10)] #[22]) 22,
  rq 3 (.assign (tp 11)) 22]
def c35_6 : RC := .reg [] o35_6
def o35_7 : List ROp := [
  rq 12 (.move (tp 3)) 22,
  rq 13 (.move (tp 0)) 22,
  rq 14 (cf 32 #[(tp 12), (tp 13)] #[22, 22]) 4]
def c35_7 : RC := .reg [] o35_7
def o35_8 : List ROp := [
  rq 2 (.assign (kb true)) 4]
def c35_8 : RC := .reg [] o35_8
def c35_9 : RC := .seq c35_8 .ret
def c35_10 : RC := .cond (tp 14) c35_9 .skip
def c35_11 : RC := .seq c35_7 c35_10
def c35_12 : RC := .seq c35_6 c35_11
def c35_13 : RC := .block 1 c35_12
def o35_14 : List ROp := [
  rq 8 (.move (tp 4)) 3,
  rq 9 (.binOp .add 3 (tp 8) (ki 1) 3) 3,
  rq 4 (.assign (tp 9)) 3]
def c35_14 : RC := .reg [] o35_14
def c35_15 : RC := .seq c35_13 c35_14
def c35_16 : RC := .seq c35_5 c35_15
def c35_17 : RC := .loop c35_16
def c35_18 : RC := .block 0 c35_17
def c35_19 : RC := .seq c35_2 c35_18
def o35_20 : List ROp := [
  rq 2 (.assign (kb false)) 4]
def c35_20 : RC := .reg [] o35_20
def c35_21 : RC := .seq c35_20 .ret
def c35_22 : RC := .seq c35_19 c35_21
def c35_23 : RC := .seq c35_1 c35_22
def c35_24 : RC := .seq c35_0 c35_23
def o36_0 : List ROp := [
  rq 1 (.box 48 (tp 0)) 0,
  rq 2 (.assign (ki 0)) 3,
  rq 3 (.alloc 48) 0]
def c36_0 : RC := .reg [] o36_0
def o36_1 : List ROp := [
  rq 4 (.assign (ki 0)) 3]
def c36_1 : RC := .reg [] o36_1
def o36_2 : List ROp := [
  rq 5 (.load 48 (tp 1)) 48,
  rq 6 (cf 34 #[(tp 5)] #[48]) 4,
  rq 7 (.unOp .not 4 (tp 6)) 4]
def c36_2 : RC := .reg [] o36_2
def o36_3 : List ROp := [
  rq 8 (.load 48 (tp 1)) 48,
  rq 9 (cf 40 #[(tp 8)] #[48]) 48,
  rn (.store 48 (tp 1) (tp 9)) 0]
def c36_3 : RC := .reg [] o36_3
def o36_4 : List ROp := [
  rq 10 (.move (tp 4)) 3,
  rq 11 (.binOp .add 3 (tp 10) (ki 1) 3) 3,
  rq 4 (.assign (tp 11)) 3]
def c36_4 : RC := .reg [] o36_4
def c36_5 : RC := .seq c36_4 (.goto 0)
def c36_6 : RC := .seq c36_3 c36_5
def c36_7 : RC := .cond (tp 7) c36_6 .skip
def c36_8 : RC := .seq c36_2 c36_7
def o36_9 : List ROp := [
  rq 12 (.move (tp 4)) 3,
  rq 13 (.load 48 (tp 1)) 48,
  rq 2 (.assign (tp 12)) 3,
  rn (.store 48 (tp 3) (tp 13)) 0]
def c36_9 : RC := .reg [0, 1, 2, 3] o36_9
def c36_10 : RC := .seq c36_9 .ret
def c36_11 : RC := .seq c36_8 c36_10
def c36_12 : RC := .seq (.label 0) c36_11
def c36_13 : RC := .seq c36_1 c36_12
def o36_14 : List ROp := [
  rq 5 (.load 48 (tp 1)) 48,
  rq 6 (cf 34 #[(tp 5)] #[48]) 4,
  rq 7 (.unOp .not 4 (tp 6)) 4]
def c36_14 : RC := .reg [] o36_14
def o36_15 : List ROp := [
  rq 8 (.load 48 (tp 1)) 48,
  rq 9 (cf 40 #[(tp 8)] #[48]) 48,
  rn (.store 48 (tp 1) (tp 9)) 0]
def c36_15 : RC := .reg [] o36_15
def o36_16 : List ROp := [
  rq 10 (.move (tp 4)) 3,
  rq 11 (.binOp .add 3 (tp 10) (ki 1) 3) 3,
  rq 4 (.assign (tp 11)) 3]
def c36_16 : RC := .reg [] o36_16
def c36_17 : RC := .seq c36_16 (.goto 0)
def c36_18 : RC := .seq c36_15 c36_17
def c36_19 : RC := .cond (tp 7) c36_18 .skip
def c36_20 : RC := .seq c36_14 c36_19
def o36_21 : List ROp := [
  rq 12 (.move (tp 4)) 3,
  rq 13 (.load 48 (tp 1)) 48,
  rq 2 (.assign (tp 12)) 3,
  rn (.store 48 (tp 3) (tp 13)) 0]
def c36_21 : RC := .reg [0, 1, 2, 3] o36_21
def c36_22 : RC := .seq c36_21 .ret
def c36_23 : RC := .seq c36_20 c36_22
def c36_24 : RC := .seq .skip c36_23
def c36_25 : RC := .scope c36_13 0 c36_24
def c36_26 : RC := .seq c36_0 c36_25
def o37_0 : List ROp := [
  rq 2 (.assign (ki 0)) 3,
  rq 3 (.assign (.const (.slice none 0 0))) 22]
def c37_0 : RC := .reg [] o37_0
def o37_1 : List ROp := [
  rq 4 (.assign (ki 0)) 3]
def c37_1 : RC := .reg [] o37_1
def o37_2 : List ROp := [
  rq 5 (.move (tp 0)) 22,
  rq 6 (cf 35 #[(tp 5)] #[22]) 4,
  rq 7 (.unOp .not 4 (tp 6)) 4]
def c37_2 : RC := .reg [] o37_2
def c37_3 : RC := .cond (tp 7) .skip (.exit 0)
def c37_4 : RC := .seq c37_2 c37_3
def o37_5 : List ROp := [
  rq 8 (.move (tp 0)) 22,
  rq 9 (cf 33 #[(tp 8)] #[22]) 22,
  rq 0 (.assign (tp 9)) 22]
def c37_5 : RC := .reg [] o37_5
def o37_6 : List ROp := [
  rq 10 (.move (tp 4)) 3,
  rq 11 (.binOp .add 3 (tp 10) (ki 1) 3) 3,
  rq 4 (.assign (tp 11)) 3]
def c37_6 : RC := .reg [] o37_6
def c37_7 : RC := .seq c37_5 c37_6
def c37_8 : RC := .block 1 c37_7
def c37_9 : RC := .seq c37_4 c37_8
def c37_10 : RC := .loop c37_9
def c37_11 : RC := .block 0 c37_10
def o37_12 : List ROp := [
  rq 12 (.move (tp 4)) 3,
  rq 13 (.move (tp 0)) 22,
  rq 2 (.assign (tp 12)) 3,
  rq 3 (.assign (tp 13)) 22]
def c37_12 : RC := .reg [] o37_12
def c37_13 : RC := .seq c37_12 .ret
def c37_14 : RC := .seq c37_11 c37_13
def c37_15 : RC := .seq c37_1 c37_14
def c37_16 : RC := .seq c37_0 c37_15
def o38_0 : List ROp := [
  rq 1 (.box 48 (tp 0)) 0,
  rq 2 (.assign (.const (.slice none 0 0))) 25]
def c38_0 : RC := .reg [] o38_0
def o38_1 : List ROp := [
  rq 10 (.load 48 (tp 1)) 48,
  rq 11 (cf 36 #[(tp 10)] #[48]) 54,
  rq 9 (.move (tp 11)) 54,
  rq 12 (.extract (tp 9) 0) 3,
  rq 13 (.extract (tp 9) 1) 48,
  rq 4 (.alloc 48) 0,
  rq 3 (.assign (tp 12)) 3,
  rn (.store 48 (tp 4) (tp 13)) 0]
def c38_1 : RC := .reg [] o38_1
def o38_2 : List ROp := [
  rq 5 (.assign (.const (.slice none 0 0))) 25]
def c38_2 : RC := .reg [] o38_2
def o38_3 : List ROp := [
  rq 6 (.assign (ki 0)) 3]
def c38_3 : RC := .reg [] o38_3
def o38_4 : List ROp := [
  rq 14 (.load 48 (tp 4)) 48,
  rq 7 (.alloc 48) 0,
  rn (.store 48 (tp 7) (tp 14)) 0,
  rq 8 (.assign (ki 0)) 3]
def c38_4 : RC := .reg [] o38_4
def o38_5 : List ROp := [
  rq 15 (.move (tp 8)) 3,
  rq 16 (.binOp .eql 3 (tp 15) (ki 0) 3) 4,
  rq 17 (.move (tp 16)) 4,
  rg 18 (.load 48 (tp 7)) 48 17 false,
  rg 19 (.load 48 (tp 4)) 48 17 false,
  rg 20 (.binOp .neq 48 (tp 18) (tp 19) 48) 4 17 false,
  rq 21 (.pick (tp 17) (kb true) (tp 20)) 4]
def c38_5 : RC := .reg [] o38_5
def c38_6 : RC := .cond (tp 21) .skip (.exit 0)
def c38_7 : RC := .seq c38_5 c38_6
def o38_8 : List ROp := [
  rq 26 (.move (tp 5)) 25,
  rq 27 (.load 48 (tp 7)) 48,
  rq 28 (cf 41 #[(tp 27)] #[48]) 22,
  rq 29 (.buildSlice 25 1 #[(0, (tp 28))]) 25,
  rq 30 (cb .append #[(tp 26), (tp 29)] #[25, 25]) 25,
  rq 5 (.assign (tp 30)) 25]
def c38_8 : RC := .reg [] o38_8
def o38_9 : List ROp := [
  rq 31 (.move (tp 5)) 25,
  rq 32 (.move (tp 8)) 3,
  rq 33 (.indexAddr 25 (tp 31) (tp 32)) 0,
  rq 34 (.load 22 (tp 33)) 22,
  rq 35 (.move (tp 5)) 25,
  rq 36 (.move (tp 6)) 3,
  rq 37 (.indexAddr 25 (tp 35) (tp 36)) 0,
  rq 38 (.load 22 (tp 37)) 22,
  rq 39 (cf 53 #[(tp 34), (tp 38)] #[22, 22]) 3,
  rq 40 (.binOp .lss 3 (tp 39) (ki 0) 3) 4]
def c38_9 : RC := .reg [0, 1, 2, 3, 4, 5, 6, 7, 8, 9] o38_9
def o38_10 : List ROp := [
  rq 41 (.move (tp 8)) 3,
  rq 6 (.assign (tp 41)) 3]
def c38_10 : RC := .reg [] o38_10
def c38_11 : RC := .cond (tp 40) c38_10 .skip
def c38_12 : RC := .seq c38_9 c38_11
def c38_13 : RC := .seq c38_8 c38_12
def c38_14 : RC := .block 1 c38_13
def o38_15 : List ROp := [
  rq 42 (.load 48 (tp 7)) 48]
def c38_15 : RC := .reg [] o38_15
def o38_16 : List ROp := [
  rq 7 (.alloc 48) 0,
  rn (.store 48 (tp 7) (tp 42)) 0]
def c38_16 : RC := .reg [] o38_16
def c38_17 : RC := .seq c38_15 c38_16
def o38_18 : List ROp := [
  rq 22 (.load 48 (tp 7)) 48,
  rq 23 (cf 40 #[(tp 22)] #[48]) 48,
  rq 24 (.move (tp 8)) 3,
  rq 25 (.binOp .add 3 (tp 24) (ki 1) 3) 3,
  rn (.store 48 (tp 7) (tp 23)) 0,
  rq 8 (.assign (tp 25)) 3]
def c38_18 : RC := .reg [] o38_18
def c38_19 : RC := .seq c38_17 c38_18
def c38_20 : RC := .seq c38_14 c38_19
def c38_21 : RC := .seq c38_7 c38_20
def c38_22 : RC := .loop c38_21
def c38_23 : RC := .block 0 c38_22
def c38_24 : RC := .seq c38_4 c38_23
def o38_25 : List ROp := [
  rq 43 (.move (tp 5)) 25,
  rq 44 (.move (tp 6)) 3,
  rq 45 (.slice 25 (tp 43) (some (tp 44)) none none) 25,
  rq 46 (.move (tp 5)) 25,
  rq 47 (.move (tp 6)) 3,
  rq 48 (.slice 25 (tp 46) none (some (tp 47)) none) 25,
  rq 49 (.buildSlice 38 2 #[(0, (tp 45)), (1, (tp 48))]) 38,
  rq 50 (cf 60 #[(tp 49)] #[38]) 25,
  rq 2 (.assign (tp 50)) 25]
def c38_25 : RC := .reg [0, 1, 2, 3, 4, 5, 6, 7, 8] o38_25
def c38_26 : RC := .seq c38_25 .ret
def c38_27 : RC := .seq c38_24 c38_26
def c38_28 : RC := .seq c38_3 c38_27
def c38_29 : RC := .seq c38_2 c38_28
def c38_30 : RC := .seq c38_1 c38_29
def c38_31 : RC := .seq c38_0 c38_30
def o39_0 : List ROp := [
  rq 2 (.assign (.const (.slice none 0 0))) 25]
def c39_0 : RC := .reg [] o39_0
def o39_1 : List ROp := [
  rq 10 (.move (tp 0)) 22,
  rq 11 (cf 37 #[(tp 10)] #[22]) 56,
  rq 9 (.move (tp 11)) 56,
  rq 12 (.extract (tp 9) 0) 3,
  rq 13 (.extract (tp 9) 1) 22,
  rq 3 (.assign (tp 12)) 3,
  rq 4 (.assign (tp 13)) 22]
def c39_1 : RC := .reg [] o39_1
def o39_2 : List ROp := [
  rq 14 (.move (tp 4)) 22,
  rq 5 (.assign (tp 14)) 22]
def c39_2 : RC := .reg [] o39_2
def o39_3 : List ROp := [
  rq 15 (.move (tp 4)) 22,
  rq 16 (cf 33 #[(tp 15)] #[22]) 22,
  rq 6 (.assign (tp 16)) 22]
def c39_3 : RC := .reg [] o39_3
def o39_4 : List ROp := [
  rq 17 (.move (tp 6)) 22,
  rq 18 (.move (tp 4)) 22,
  rq 19 (cf 32 #[(tp 17), (tp 18)] #[22, 22]) 4,
  rq 20 (.unOp .not 4 (tp 19)) 4]
def c39_4 : RC := .reg [] o39_4
def c39_5 : RC := .cond (tp 20) .skip (.exit 0)
def c39_6 : RC := .seq c39_4 c39_5
def o39_7 : List ROp := [
  rq 23 (.move (tp 6)) 22,
  rq 24 (.move (tp 5)) 22,
  rq 25 (cf 61 #[(tp 23), (tp 24)] #[22, 22]) 4]
def c39_7 : RC := .reg [] o39_7
def o39_8 : List ROp := [
  rq 26 (.move (tp 6)) 22,
  rq 5 (.assign (tp 26)) 22]
def c39_8 : RC := .reg [] o39_8
def c39_9 : RC := .cond (tp 25) c39_8 .skip
def c39_10 : RC := .seq c39_7 c39_9
def c39_11 : RC := .block 1 c39_10
def o39_12 : List ROp := [
  rq 21 (.move (tp 6)) 22,
  rq 22 (cf 33 #[(tp 21)] #[22]) 22,
  rq 6 (.assign (tp 22)) 22]
def c39_12 : RC := .reg [] o39_12
def c39_13 : RC := .seq c39_11 c39_12
def c39_14 : RC := .seq c39_6 c39_13
def c39_15 : RC := .loop c39_14
def c39_16 : RC := .block 0 c39_15
def c39_17 : RC := .seq c39_3 c39_16
def o39_18 : List ROp := [
  rq 27 (.move (tp 5)) 22,
  rq 28 (.buildSlice 25 1 #[(0, (tp 27))]) 25,
  rq 7 (.assign (tp 28)) 25]
def c39_18 : RC := .reg [] o39_18
def o39_19 : List ROp := [
  rq 29 (.move (tp 5)) 22,
  rq 30 (cf 33 #[(tp 29)] #[22]) 22,
  rq 8 (.assign (tp 30)) 22]
def c39_19 : RC := .reg [] o39_19
def o39_20 : List ROp := [
  rq 31 (.move (tp 8)) 22,
  rq 32 (.move (tp 5)) 22,
  rq 33 (cf 32 #[(tp 31), (tp 32)] #[22, 22]) 4,
  rq 34 (.unOp .not 4 (tp 33)) 4]
def c39_20 : RC := .reg [] o39_20
def c39_21 : RC := .cond (tp 34) .skip (.exit 2)
def c39_22 : RC := .seq c39_20 c39_21
def o39_23 : List ROp := [
  rq 37 (.move (tp 7)) 25,
  rq 38 (.move (tp 8)) 22,
  rq 39 (.buildSlice 25 1 #[(0, (tp 38))]) 25,
  rq 40 (cb .append #[(tp 37), (tp 39)] #[25, 25]) 25,
  rq 7 (.assign (tp 40)) 25]
def c39_23 : RC := .reg [] o39_23
def c39_24 : RC := .block 3 c39_23
def o39_25 : List ROp := [
  rq 35 (.move (tp 8)) 22,
  rq 36 (cf 33 #[(tp 35)] #[22]) 22,
  rq 8 (.assign (tp 36)) 22]
def c39_25 : RC := .reg [] o39_25
def c39_26 : RC := .seq c39_24 c39_25
def c39_27 : RC := .seq c39_22 c39_26
def c39_28 : RC := .loop c39_27
def c39_29 : RC := .block 2 c39_28
def c39_30 : RC := .seq c39_19 c39_29
def o39_31 : List ROp := [
  rq 41 (.move (tp 7)) 25,
  rq 2 (.assign (tp 41)) 25]
def c39_31 : RC := .reg [] o39_31
def c39_32 : RC := .seq c39_31 .ret
def c39_33 : RC := .seq c39_30 c39_32
def c39_34 : RC := .seq c39_18 c39_33
def c39_35 : RC := .seq c39_17 c39_34
def c39_36 : RC := .seq c39_2 c39_35
def c39_37 : RC := .seq c39_1 c39_36
def c39_38 : RC := .seq c39_0 c39_37
def o40_0 : List ROp := [
  rq 1 (.box 48 (tp 0)) 0,
  rq 2 (.alloc 48) 0]
def c40_0 : RC := .reg [] o40_0
def o40_1 : List ROp := [
  rq 3 (.alloc 48) 0]
def c40_1 : RC := .reg [] o40_1
def o40_2 : List ROp := [
  rq 4 (.slice 48 (tp 3) none none none) 22,
  rq 5 (.slice 48 (tp 1) (some (ki 1)) none none) 22,
  rq 6 (cb .copy #[(tp 4), (tp 5)] #[22, 22]) 3]
def c40_2 : RC := .reg [0, 1, 2] o40_2
def o40_3 : List ROp := [
  rq 7 (.indexAddr 48 (tp 3) (ki 0)) 0,
  rn (.store 3 (tp 7) (ki 0)) 0]
def c40_3 : RC := .reg [] o40_3
def o40_4 : List ROp := [
  rq 8 (.load 48 (tp 1)) 48,
  rq 9 (cf 57 #[(tp 8)] #[48]) 3,
  rq 10 (.indexAddr 48 (tp 3) (tp 9)) 0,
  rq 11 (.load 3 (tp 10)) 3,
  rq 12 (.binOp .add 3 (tp 11) (ki 1) 3) 3,
  rq 13 (.indexAddr 48 (tp 3) (tp 9)) 0,
  rn (.store 3 (tp 13) (tp 12)) 0]
def c40_4 : RC := .reg [] o40_4
def o40_5 : List ROp := [
  rq 14 (.load 48 (tp 3)) 48,
  rn (.store 48 (tp 2) (tp 14)) 0]
def c40_5 : RC := .reg [] o40_5
def c40_6 : RC := .seq c40_5 .ret
def c40_7 : RC := .seq c40_4 c40_6
def c40_8 : RC := .seq c40_3 c40_7
def c40_9 : RC := .seq c40_2 c40_8
def c40_10 : RC := .seq c40_1 c40_9
def c40_11 : RC := .seq c40_0 c40_10
def o41_0 : List ROp := [
  rq 1 (.box 48 (tp 0)) 0,
  rq 2 (.assign (.const (.slice none 0 0))) 22]
def c41_0 : RC := .reg [] o41_0
def o41_1 : List ROp := [
  rq 3 (.assign (.const (.slice none 0 0))) 22]
def c41_1 : RC := .reg [] o41_1
def o41_2 : List ROp := [
  rq 4 (.assign (ki 21)) 3]
def c41_2 : RC := .reg [] o41_2
def o41_3 : List ROp := [
  rq 5 (.move (tp 4)) 3,
  rq 6 (.binOp .gtr 3 (tp 5) (ki 0) 3) 4]
def c41_3 : RC := .reg [] o41_3
def c41_4 : RC := .cond (tp 6) .skip (.exit 0)
def c41_5 : RC := .seq c41_3 c41_4
def o41_6 : List ROp := [
  rq 9 (.move (tp 3)) 22,
  rq 10 (.move (tp 4)) 3,
  rq 11 (.buildSlice 22 1 #[(0, (tp 10))]) 22,
  rq 12 (.move (tp 4)) 3,
  rq 13 (.indexAddr 48 (tp 1) (tp 12)) 0,
  rq 14 (.load 3 (tp 13)) 3,
  rq 15 (cf 62 #[(tp 11), (tp 14)] #[22, 3]) 22,
  rq 16 (cb .append #[(tp 9), (tp 15)] #[22, 22]) 22,
  rq 3 (.assign (tp 16)) 22]
def c41_6 : RC := .reg [] o41_6
def c41_7 : RC := .block 1 c41_6
def o41_8 : List ROp := [
  rq 7 (.move (tp 4)) 3,
  rq 8 (.binOp .sub 3 (tp 7) (ki 1) 3) 3,
  rq 4 (.assign (tp 8)) 3]
def c41_8 : RC := .reg [] o41_8
def c41_9 : RC := .seq c41_7 c41_8
def c41_10 : RC := .seq c41_5 c41_9
def c41_11 : RC := .loop c41_10
def c41_12 : RC := .block 0 c41_11
def c41_13 : RC := .seq c41_2 c41_12
def o41_14 : List ROp := [
  rq 17 (.move (tp 3)) 22,
  rq 2 (.assign (tp 17)) 22]
def c41_14 : RC := .reg [] o41_14
def c41_15 : RC := .seq c41_14 .ret
def c41_16 : RC := .seq c41_13 c41_15
def c41_17 : RC := .seq c41_1 c41_16
def c41_18 : RC := .seq c41_0 c41_17
def o42_0 : List ROp := [
  rq 6 (.assign (kb false)) 4]
def c42_0 : RC := .reg [] o42_0
def o42_1 : List ROp := [
  rq 7 (.move (tp 0)) 3,
  rq 8 (.move (tp 1)) 3,
  rq 9 (.binOp .leq 3 (tp 7) (tp 8) 3) 4,
  rq 10 (.move (tp 9)) 4,
  rg 11 (.move (tp 1)) 3 10 true,
  rg 12 (.move (tp 2)) 3 10 true,
  rg 13 (.binOp .leq 3 (tp 11) (tp 12) 3) 4 10 true,
  rq 14 (.pick (tp 10) (tp 13) (kb false)) 4,
  rq 6 (.assign (tp 14)) 4]
def c42_1 : RC := .reg [] o42_1
def c42_2 : RC := .seq c42_1 .ret
def c42_3 : RC := .seq c42_0 c42_2
def o43_0 : List ROp := [
  rq 2 (.assign (ki 0)) 3,
  rq 3 (.assign (ki 0)) 3]
def c43_0 : RC := .reg [] o43_0
def o43_1 : List ROp := [
  rq 4 (.move (tp 0)) 3,
  rq 3 (.assign (tp 4)) 3]
def c43_1 : RC := .reg [] o43_1
def o43_2 : List ROp := [
  rq 5 (.move (tp 3)) 3,
  rq 6 (.move (tp 2)) 3,
  rq 7 (.binOp .gtr 3 (tp 5) (tp 6) 3) 4]
def c43_2 : RC := .reg [] o43_2
def c43_3 : RC := .cond (tp 7) .skip (.exit 0)
def c43_4 : RC := .seq c43_2 c43_3
def o43_5 : List ROp := [
  rq 8 (.move (tp 2)) 3,
  rq 9 (.binOp .add 3 (tp 8) (ki 1) 3) 3,
  rq 2 (.assign (tp 9)) 3]
def c43_5 : RC := .reg [] o43_5
def o43_6 : List ROp := [
  rq 10 (.move (tp 3)) 3,
  rq 11 (.move (tp 2)) 3,
  rq 12 (.binOp .sub 3 (tp 10) (tp 11) 3) 3,
  rq 3 (.assign (tp 12)) 3]
def c43_6 : RC := .reg [] o43_6
def c43_7 : RC := .seq c43_5 c43_6
def c43_8 : RC := .block 1 c43_7
def c43_9 : RC := .seq c43_4 c43_8
def c43_10 : RC := .loop c43_9
def c43_11 : RC := .block 0 c43_10
def c43_12 : RC := .seq c43_1 c43_11
def o43_13 : List ROp := [
  rq 13 (.move (tp 2)) 3,
  rq 14 (.move (tp 3)) 3,
  rq 2 (.assign (tp 13)) 3,
  rq 3 (.assign (tp 14)) 3]
def c43_13 : RC := .reg [] o43_13
def c43_14 : RC := .seq c43_13 .ret
def c43_15 : RC := .seq c43_12 c43_14
def c43_16 : RC := .seq c43_0 c43_15
def o44_0 : List ROp := [
  rq 1 (.box 48 (tp 0)) 0,
  rq 2 (.assign (ki 0)) 3]
def c44_0 : RC := .reg [] o44_0
def o44_1 : List ROp := [
  rq 3 (.assign (ki 0)) 3]
def c44_1 : RC := .reg [] o44_1
def o44_2 : List ROp := [
  rq 6 (.load 48 (tp 1)) 48,
  rq 7 (.move (ki 0)) 3]
def c44_2 : RC := .reg [] o44_2
def o44_3 : List ROp := [
  rq 8 (.binOp .lss 3 (tp 7) (ki 22) 3) 0]
def c44_3 : RC := .reg [] o44_3
def c44_4 : RC := .cond (tp 8) .skip (.exit 0)
def o44_5 : List ROp := [
  rq 9 (.move (tp 7)) 3,
  rq 10 (.index 48 (tp 6) (tp 7)) 3,
  rq 4 (.assign (tp 9)) 3,
  rq 5 (.assign (tp 10)) 3]
def c44_5 : RC := .reg [] o44_5
def o44_6 : List ROp := [
  rq 11 (.move (tp 3)) 3,
  rq 12 (.move (tp 4)) 3,
  rq 13 (.move (tp 5)) 3,
  rq 14 (.binOp .mul 3 (tp 12) (tp 13) 3) 3,
  rq 15 (.binOp .add 3 (tp 11) (tp 14) 3) 3,
  rq 3 (.assign (tp 15)) 3]
def c44_6 : RC := .reg [] o44_6
def c44_7 : RC := .seq c44_5 c44_6
def c44_8 : RC := .block 1 c44_7
def o44_9 : List ROp := [
  rq 16 (.binOp .add 3 (tp 7) (ki 1) 3) 3,
  rq 7 (.move (tp 16)) 3]
def c44_9 : RC := .reg [] o44_9
def c44_10 : RC := .seq c44_8 c44_9
def c44_11 : RC := .seq c44_4 c44_10
def c44_12 : RC := .seq c44_3 c44_11
def c44_13 : RC := .loop c44_12
def c44_14 : RC := .block 0 c44_13
def c44_15 : RC := .seq c44_2 c44_14
def o44_16 : List ROp := [
  rq 17 (.move (tp 3)) 3,
  rq 2 (.assign (tp 17)) 3]
def c44_16 : RC := .reg [] o44_16
def c44_17 : RC := .seq c44_16 .ret
def c44_18 : RC := .seq c44_15 c44_17
def c44_19 : RC := .seq c44_1 c44_18
def c44_20 : RC := .seq c44_0 c44_19
def o53_0 : List ROp := [
  rq 4 (.assign (ki 0)) 3]
def c53_0 : RC := .reg [] o53_0
def o53_1 : List ROp := [
  rq 9 (.move (tp 0)) 22,
  rq 10 (cb .len #[(tp 9)] #[22]) 3,
  rq 11 (.move (ki 0)) 3]
def c53_1 : RC := .reg [] o53_1
def o53_2 : List ROp := [
  rq 12 (.binOp .lss 3 (tp 11) (tp 10) 3) 0]
def c53_2 : RC := .reg [] o53_2
def c53_3 : RC := .cond (tp 12) .skip (.exit 0)
def o53_4 : List ROp := [
  rq 13 (.move (tp 11)) 3,
  rq 14 (.indexAddr 22 (tp 9) (tp 11)) 0,
  rq 15 (.load 3 (tp 14)) 3,
  rq 5 (.assign (tp 13)) 3,
  rq 6 (.assign (tp 15)) 3]
def c53_4 : RC := .reg [] o53_4
def o53_5 : List ROp := [
  rq 16 (.move (tp 5)) 3,
  rq 17 (.move (tp 1)) 22,
  rq 18 (cb .len #[(tp 17)] #[22]) 3,
  rq 19 (.binOp .geq 3 (tp 16) (tp 18) 3) 4]
def c53_5 : RC := .reg [] o53_5
def o53_6 : List ROp := [
  rq 4 (.assign (ki 1)) 3]
def c53_6 : RC := .reg [] o53_6
def c53_7 : RC := .seq c53_6 .ret
def c53_8 : RC := .cond (tp 19) c53_7 .skip
def c53_9 : RC := .seq c53_5 c53_8
def o53_10 : List ROp := [
  rq 20 (.move (tp 1)) 22,
  rq 21 (.move (tp 5)) 3,
  rq 22 (.indexAddr 22 (tp 20) (tp 21)) 0,
  rq 23 (.load 3 (tp 22)) 3,
  rq 7 (.assign (tp 23)) 3]
def c53_10 : RC := .reg [] o53_10
def o53_11 : List ROp := [
  rq 24 (.move (tp 6)) 3,
  rq 25 (.move (tp 7)) 3,
  rq 26 (cf 66 #[(tp 24), (tp 25)] #[3, 3]) 3,
  rq 8 (.assign (tp 26)) 3]
def c53_11 : RC := .reg [] o53_11
def o53_12 : List ROp := [
  rq 27 (.move (tp 8)) 3,
  rq 28 (.binOp .neq 3 (tp 27) (ki 0) 3) 4]
def c53_12 : RC := .reg [] o53_12
def o53_13 : List ROp := [
  rq 29 (.move (tp 8)) 3,
  rq 4 (.assign (tp 29)) 3]
def c53_13 : RC := .reg [] o53_13
def c53_14 : RC := .seq c53_13 .ret
def c53_15 : RC := .cond (tp 28) c53_14 .skip
def c53_16 : RC := .seq c53_12 c53_15
def c53_17 : RC := .seq c53_11 c53_16
def c53_18 : RC := .seq c53_10 c53_17
def c53_19 : RC := .seq c53_9 c53_18
def c53_20 : RC := .seq c53_4 c53_19
def c53_21 : RC := .block 1 c53_20
def o53_22 : List ROp := [
  rq 30 (.binOp .add 3 (tp 11) (ki 1) 3) 3,
  rq 11 (.move (tp 30)) 3]
def c53_22 : RC := .reg [] o53_22
def c53_23 : RC := .seq c53_21 c53_22
def c53_24 : RC := .seq c53_3 c53_23
def c53_25 : RC := .seq c53_2 c53_24
def c53_26 : RC := .loop c53_25
def c53_27 : RC := .block 0 c53_26
def c53_28 : RC := .seq c53_1 c53_27
def o53_29 : List ROp := [
  rq 31 (.move (tp 0)) 22,
  rq 32 (cb .len #[(tp 31)] #[22]) 3,
  rq 33 (.move (tp 1)) 22,
  rq 34 (cb .len #[(tp 33)] #[22]) 3,
  rq 35 (.binOp .lss 3 (tp 32) (tp 34) 3) 4]
def c53_29 : RC := .reg [] o53_29
def o53_30 : List ROp := [
  rq 4 (.assign (ki (-1))) 3]
def c53_30 : RC := .reg [] o53_30
def c53_31 : RC := .seq c53_30 .ret
def c53_32 : RC := .cond (tp 35) c53_31 .skip
def c53_33 : RC := .seq c53_29 c53_32
def o53_34 : List ROp := [
  rq 4 (.assign (ki 0)) 3]
def c53_34 : RC := .reg [] o53_34
def c53_35 : RC := .seq c53_34 .ret
def c53_36 : RC := .seq c53_33 c53_35
def c53_37 : RC := .seq c53_28 c53_36
def c53_38 : RC := .seq c53_0 c53_37
def o57_0 : List ROp := [
  rq 1 (.box 48 (tp 0)) 0,
  rq 2 (.assign (ki 0)) 3]
def c57_0 : RC := .reg [] o57_0
def o57_1 : List ROp := [
  rq 3 (.assign (ki 0)) 3]
def c57_1 : RC := .reg [] o57_1
def o57_2 : List ROp := [
  rq 6 (.slice 48 (tp 1) (some (ki 1)) none none) 22,
  rq 7 (cb .len #[(tp 6)] #[22]) 3,
  rq 8 (.move (ki 0)) 3]
def c57_2 : RC := .reg [] o57_2
def o57_3 : List ROp := [
  rq 9 (.binOp .lss 3 (tp 8) (tp 7) 3) 0]
def c57_3 : RC := .reg [] o57_3
def c57_4 : RC := .cond (tp 9) .skip (.exit 0)
def o57_5 : List ROp := [
  rq 10 (.indexAddr 22 (tp 6) (tp 8)) 0,
  rq 11 (.load 3 (tp 10)) 3,
  rq 5 (.assign (tp 11)) 3]
def c57_5 : RC := .reg [] o57_5
def o57_6 : List ROp := [
  rq 12 (.move (tp 3)) 3,
  rq 13 (.move (tp 5)) 3,
  rq 14 (.binOp .add 3 (tp 12) (tp 13) 3) 3,
  rq 3 (.assign (tp 14)) 3]
def c57_6 : RC := .reg [] o57_6
def c57_7 : RC := .seq c57_5 c57_6
def c57_8 : RC := .block 1 c57_7
def o57_9 : List ROp := [
  rq 15 (.binOp .add 3 (tp 8) (ki 1) 3) 3,
  rq 8 (.move (tp 15)) 3]
def c57_9 : RC := .reg [] o57_9
def c57_10 : RC := .seq c57_8 c57_9
def c57_11 : RC := .seq c57_4 c57_10
def c57_12 : RC := .seq c57_3 c57_11
def c57_13 : RC := .loop c57_12
def c57_14 : RC := .block 0 c57_13
def c57_15 : RC := .seq c57_2 c57_14
def o57_16 : List ROp := [
  rq 16 (.move (tp 3)) 3,
  rq 2 (.assign (tp 16)) 3]
def c57_16 : RC := .reg [] o57_16
def c57_17 : RC := .seq c57_16 .ret
def c57_18 : RC := .seq c57_15 c57_17
def c57_19 : RC := .seq c57_1 c57_18
def c57_20 : RC := .seq c57_0 c57_19
def o59_0 : List ROp := [
  rq 6 (.assign (kb false)) 4]
def c59_0 : RC := .reg [] o59_0
def o59_1 : List ROp := [
  rq 7 (.move (tp 0)) 3,
  rq 8 (.move (tp 1)) 3,
  rq 9 (.binOp .geq 3 (tp 7) (tp 8) 3) 4,
  rq 10 (.move (tp 9)) 4,
  rg 11 (.move (tp 0)) 3 10 true,
  rg 12 (.move (tp 2)) 3 10 true,
  rg 13 (.binOp .leq 3 (tp 11) (tp 12) 3) 4 10 true,
  rq 14 (.pick (tp 10) (tp 13) (kb false)) 4,
  rq 6 (.assign (tp 14)) 4]
def c59_1 : RC := .reg [] o59_1
def c59_2 : RC := .seq c59_1 .ret
def c59_3 : RC := .seq c59_0 c59_2
def o61_0 : List ROp := [
  rq 4 (.assign (kb false)) 4]
def c61_0 : RC := .reg [] o61_0
def o61_1 : List ROp := [
  rq 5 (.assign (ki 0)) 3]
def c61_1 : RC := .reg [] o61_1
def o61_2 : List ROp := [
  rq 6 (.move (tp 5)) 3,
  rq 7 (.move (tp 0)) 22,
  rq 8 (cb .len #[(tp 7)] #[22]) 3,
  rq 9 (.binOp .lss 3 (tp 6) (tp 8) 3) 4,
  rq 10 (.move (tp 9)) 4,
  rg 11 (.move (tp 5)) 3 10 true,
  rg 12 (.move (tp 1)) 22 10 true,
  rg 13 (cb .len #[(tp 12)] #[22]) 3 10 true,
  rg 14 (.binOp .lss 3 (tp 11) (tp 13) 3) 4 10 true,
  rq 15 (.pick (tp 10) (tp 14) (kb false)) 4]
def c61_2 : RC := .reg [] o61_2
def c61_3 : RC := .cond (tp 15) .skip (.exit 0)
def c61_4 : RC := .seq c61_2 c61_3
def o61_5 : List ROp := [
  rq 18 (.move (tp 0)) 22,
  rq 19 (.move (tp 5)) 3,
  rq 20 (.indexAddr 22 (tp 18) (tp 19)) 0,
  rq 21 (.load 3 (tp 20)) 3,
  rq 22 (.move (tp 1)) 22,
  rq 23 (.move (tp 5)) 3,
  rq 24 (.indexAddr 22 (tp 22) (tp 23)) 0,
  rq 25 (.load 3 (tp 24)) 3,
  rq 26 (.binOp .neq 3 (tp 21) (tp 25) 3) 4]
def c61_5 : RC := .reg [0, 1, 2, 3, 4, 5, 6, 7, 8] o61_5
def o61_6 : List ROp := [
  rq 27 (.move (tp 0)) 22,
  rq 28 (.move (tp 5)) 3,
  rq 29 (.indexAddr 22 (tp 27) (tp 28)) 0,
  rq 30 (.load 3 (tp 29)) 3,
  rq 31 (.move (tp 1)) 22,
  rq 32 (.move (tp 5)) 3,
  rq 33 (.indexAddr 22 (tp 31) (tp 32)) 0,
  rq 34 (.load 3 (tp 33)) 3,
  rq 35 (.binOp .lss 3 (tp 30) (tp 34) 3) 4,
  rq 4 (.assign (tp 35)) 4]
def c61_6 : RC := .reg [0, 1, 2, 3, 4, 5, 6, 7, 8, 9] o61_6
def c61_7 : RC := .seq c61_6 .ret
def c61_8 : RC := .cond (tp 26) c61_7 .skip
def c61_9 : RC := .seq c61_5 c61_8
def c61_10 : RC := .block 1 c61_9
def o61_11 : List ROp := [
  rq 16 (.move (tp 5)) 3,
  rq 17 (.binOp .add 3 (tp 16) (ki 1) 3) 3,
  rq 5 (.assign (tp 17)) 3]
def c61_11 : RC := .reg [] o61_11
def c61_12 : RC := .seq c61_10 c61_11
def c61_13 : RC := .seq c61_4 c61_12
def c61_14 : RC := .loop c61_13
def c61_15 : RC := .block 0 c61_14
def c61_16 : RC := .seq c61_1 c61_15
def o61_17 : List ROp := [
  rq 36 (.move (tp 0)) 22,
  rq 37 (cb .len #[(tp 36)] #[22]) 3,
  rq 38 (.move (tp 1)) 22,
  rq 39 (cb .len #[(tp 38)] #[22]) 3,
  rq 40 (.binOp .lss 3 (tp 37) (tp 39) 3) 4,
  rq 4 (.assign (tp 40)) 4]
def c61_17 : RC := .reg [] o61_17
def c61_18 : RC := .seq c61_17 .ret
def c61_19 : RC := .seq c61_16 c61_18
def c61_20 : RC := .seq c61_0 c61_19
def o66_0 : List ROp := [
  rq 4 (.assign (ki 0)) 3]
def c66_0 : RC := .reg [] o66_0
def o66_1 : List ROp := [
  rq 7 (.move (tp 0)) 3,
  rq 8 (cf 81 #[(tp 7)] #[3]) 4,
  rq 5 (.assign (tp 8)) 4]
def c66_1 : RC := .reg [] o66_1
def o66_2 : List ROp := [
  rq 9 (.move (tp 1)) 3,
  rq 10 (cf 81 #[(tp 9)] #[3]) 4,
  rq 6 (.assign (tp 10)) 4]
def c66_2 : RC := .reg [] o66_2
def o66_3 : List ROp := [
  rq 11 (.move (tp 5)) 4]
def c66_3 : RC := .reg [] o66_3
def o66_4 : List ROp := [
  rq 12 (.move (tp 6)) 4]
def c66_4 : RC := .reg [] o66_4
def o66_5 : List ROp := [
  rq 4 (.assign (ki 0)) 3]
def c66_5 : RC := .reg [] o66_5
def c66_6 : RC := .seq c66_5 .ret
def c66_7 : RC := .cond (tp 12) c66_6 .skip
def c66_8 : RC := .seq c66_4 c66_7
def o66_9 : List ROp := [
  rq 4 (.assign (ki (-1))) 3]
def c66_9 : RC := .reg [] o66_9
def c66_10 : RC := .seq c66_9 .ret
def c66_11 : RC := .seq c66_8 c66_10
def c66_12 : RC := .cond (tp 11) c66_11 .skip
def c66_13 : RC := .seq c66_3 c66_12
def o66_14 : List ROp := [
  rq 13 (.move (tp 6)) 4]
def c66_14 : RC := .reg [] o66_14
def o66_15 : List ROp := [
  rq 4 (.assign (ki 1)) 3]
def c66_15 : RC := .reg [] o66_15
def c66_16 : RC := .seq c66_15 .ret
def c66_17 : RC := .cond (tp 13) c66_16 .skip
def c66_18 : RC := .seq c66_14 c66_17
def o66_19 : List ROp := [
  rq 14 (.move (tp 0)) 3,
  rq 15 (.move (tp 1)) 3,
  rq 16 (.binOp .lss 3 (tp 14) (tp 15) 3) 4]
def c66_19 : RC := .reg [] o66_19
def o66_20 : List ROp := [
  rq 4 (.assign (ki (-1))) 3]
def c66_20 : RC := .reg [] o66_20
def c66_21 : RC := .seq c66_20 .ret
def c66_22 : RC := .cond (tp 16) c66_21 .skip
def c66_23 : RC := .seq c66_19 c66_22
def o66_24 : List ROp := [
  rq 17 (.move (tp 0)) 3,
  rq 18 (.move (tp 1)) 3,
  rq 19 (.binOp .gtr 3 (tp 17) (tp 18) 3) 4]
def c66_24 : RC := .reg [] o66_24
def o66_25 : List ROp := [
  rq 4 (.assign (ki 1)) 3]
def c66_25 : RC := .reg [] o66_25
def c66_26 : RC := .seq c66_25 .ret
def c66_27 : RC := .cond (tp 19) c66_26 .skip
def c66_28 : RC := .seq c66_24 c66_27
def o66_29 : List ROp := [
  rq 4 (.assign (ki 0)) 3]
def c66_29 : RC := .reg [] o66_29
def c66_30 : RC := .seq c66_29 .ret
def c66_31 : RC := .seq c66_28 c66_30
def c66_32 : RC := .seq c66_23 c66_31
def c66_33 : RC := .seq c66_18 c66_32
def c66_34 : RC := .seq c66_13 c66_33
def c66_35 : RC := .seq c66_2 c66_34
def c66_36 : RC := .seq c66_1 c66_35
def c66_37 : RC := .seq c66_0 c66_36
def o81_0 : List ROp := [
  rq 2 (.assign (kb false)) 4]
def c81_0 : RC := .reg [] o81_0
def o81_1 : List ROp := [
  rq 3 (.move (tp 0)) 3,
  rq 4 (.move (tp 0)) 3,
  rq 5 (.binOp .neq 3 (tp 3) (tp 4) 3) 4,
  rq 2 (.assign (tp 5)) 4]
def c81_1 : RC := .reg [] o81_1
def c81_2 : RC := .seq c81_1 .ret
def c81_3 : RC := .seq c81_0 c81_2
end Go.HpQ
