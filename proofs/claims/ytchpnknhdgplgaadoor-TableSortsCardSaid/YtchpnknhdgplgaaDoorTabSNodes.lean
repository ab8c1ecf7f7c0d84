/- Slim code of the functions that have a model, piece by piece: MADE BY PROGRAM (wip/tools/dec.py). -/
import Derived.Test.YtchpnknhdgplgaaDoorSpFramex

set_option maxRecDepth 100000
namespace Go.TabS
open Go.Sp
def o3_0 : List ROp := [
  rq 1 (.box 24 (tp 0)) 0,
  rq 2 (.assign (kb false)) 4]
def c3_0 : RC := .reg [] o3_0
def o3_1 : List ROp := [
  rq 16 (.load 24 (tp 1)) 24,
  rq 17 (cf 7 #[(tp 16), (.const (.slice none 0 0))] #[24, 32]) 4]
def c3_1 : RC := .reg [] o3_1
def o3_2 : List ROp := [
  rq 18 (cf 8 #[] #[]) 4,
  rq 2 (.assign (tp 18)) 4]
def c3_2 : RC := .reg [] o3_2
def c3_3 : RC := .seq c3_2 .ret
def c3_4 : RC := .cond (tp 17) c3_3 .skip
def c3_5 : RC := .seq c3_1 c3_4
def o3_6 : List ROp := [
  rq 19 (.load 24 (tp 1)) 24,
  rq 3 (.alloc 27) 0,
  rn (.store 27 (tp 3) (tp 19)) 0]
def c3_6 : RC := .reg [] o3_6
def o3_7 : List ROp := [
  rq 21 (.load 24 (tp 1)) 24,
  rq 22 (cf 9 #[(tp 21)] #[24]) 29,
  rq 20 (.move (tp 22)) 29,
  rq 23 (.extract (tp 20) 0) 4,
  rq 24 (.extract (tp 20) 1) 28,
  rq 4 (.assign (tp 23)) 4,
  rq 5 (.assign (tp 24)) 28]
def c3_7 : RC := .reg [] o3_7
def o3_8 : List ROp := [
  rq 26 (.load 27 (tp 3)) 27,
  rq 27 (cf 10 #[(tp 26)] #[27]) 29,
  rq 25 (.move (tp 27)) 29,
  rq 28 (.extract (tp 25) 0) 4,
  rq 29 (.extract (tp 25) 1) 28,
  rq 6 (.assign (tp 28)) 4,
  rq 7 (.assign (tp 29)) 28]
def c3_8 : RC := .reg [] o3_8
def o3_9 : List ROp := [
  rq 31 (.load 24 (tp 1)) 24,
  rq 32 (cf 11 #[(tp 31)] #[24]) 33,
  rq 30 (.move (tp 32)) 33,
  rq 33 (.extract (tp 30) 0) 32,
  rq 34 (.extract (tp 30) 1) 28,
  rq 8 (.assign (tp 33)) 32,
  rq 9 (.assign (tp 34)) 28]
def c3_9 : RC := .reg [] o3_9
def o3_10 : List ROp := [
  rq 36 (.load 27 (tp 3)) 27,
  rq 37 (cf 12 #[(tp 36)] #[27]) 33,
  rq 35 (.move (tp 37)) 33,
  rq 38 (.extract (tp 35) 0) 32,
  rq 39 (.extract (tp 35) 1) 28,
  rq 10 (.assign (tp 38)) 32,
  rq 11 (.assign (tp 39)) 28]
def c3_10 : RC := .reg [] o3_10
def o3_11 : List ROp := [
  rq 41 (.load 24 (tp 1)) 24,
  rq 42 (cf 13 #[(tp 41)] #[24]) 37,
  rq 40 (.move (tp 42)) 37,
  rq 43 (.extract (tp 40) 0) 36,
  rq 44 (.extract (tp 40) 1) 28,
  rq 12 (.assign (tp 43)) 36,
  rq 13 (.assign (tp 44)) 28]
def c3_11 : RC := .reg [] o3_11
def o3_12 : List ROp := [
  rq 46 (.load 27 (tp 3)) 27,
  rq 47 (cf 14 #[(tp 46)] #[27]) 37,
  rq 45 (.move (tp 47)) 37,
  rq 48 (.extract (tp 45) 0) 36,
  rq 49 (.extract (tp 45) 1) 28,
  rq 14 (.assign (tp 48)) 36,
  rq 15 (.assign (tp 49)) 28]
def c3_12 : RC := .reg [] o3_12
def o3_13 : List ROp := [
  rq 50 (.move (tp 4)) 4,
  rq 51 (.move (tp 6)) 4,
  rq 52 (.binOp .eql 4 (tp 50) (tp 51) 4) 4,
  rq 53 (.move (tp 52)) 4,
  rg 54 (.move (tp 5)) 28 53 true,
  rg 55 (.move (tp 7)) 28 53 true,
  rg 56 (.binOp .eql 28 (tp 54) (tp 55) 28) 4 53 true,
  rq 57 (.pick (tp 53) (tp 56) (kb false)) 4,
  rq 58 (.move (tp 57)) 4,
  rg 59 (.move (tp 8)) 32 58 true,
  rg 60 (.move (tp 10)) 32 58 true,
  rg 61 (cf 15 #[(tp 59), (tp 60)] #[32, 32]) 4 58 true,
  rq 62 (.pick (tp 58) (tp 61) (kb false)) 4,
  rq 63 (.move (tp 62)) 4,
  rg 64 (.move (tp 9)) 28 63 true,
  rg 65 (.move (tp 11)) 28 63 true,
  rg 66 (.binOp .eql 28 (tp 64) (tp 65) 28) 4 63 true,
  rq 67 (.pick (tp 63) (tp 66) (kb false)) 4,
  rq 68 (.move (tp 67)) 4,
  rg 69 (.move (tp 12)) 36 68 true,
  rg 70 (.move (tp 14)) 36 68 true,
  rg 71 (cf 16 #[(tp 69), (tp 70)] #[36, 36]) 4 68 true,
  rq 72 (.pick (tp 68) (tp 71) (kb false)) 4,
  rq 73 (.move (tp 72)) 4,
  rg 74 (.move (tp 13)) 28 73 true,
  rg 75 (.move (tp 15)) 28 73 true,
  rg 76 (.binOp .eql 28 (tp 74) (tp 75) 28) 4 73 true,
  rq 77 (.pick (tp 73) (tp 76) (kb false)) 4,
  rq 78 (.move (tp 77)) 4,
  rg 79 (cf 8 #[] #[]) 4 78 true,
  rq 80 (.pick (tp 78) (tp 79) (kb false)) 4,
  rq 2 (.assign (tp 80)) 4]
def c3_13 : RC := .reg [] o3_13
def c3_14 : RC := .seq c3_13 .ret
def c3_15 : RC := .seq c3_12 c3_14
def c3_16 : RC := .seq c3_11 c3_15
def c3_17 : RC := .seq c3_10 c3_16
def c3_18 : RC := .seq c3_9 c3_17
def c3_19 : RC := .seq c3_8 c3_18
def c3_20 : RC := .seq c3_7 c3_19
def c3_21 : RC := .seq c3_6 c3_20
def c3_22 : RC := .seq c3_5 c3_21
def c3_23 : RC := .seq c3_0 c3_22
def o7_0 : List ROp := [
  rq 2 (.box 24 (tp 0)) 0,
  rq 4 (.assign (kb false)) 4]
def c7_0 : RC := .reg [] o7_0
def o7_1 : List ROp := [
  rq 5 (.fieldAddr 24 (tp 2) 1) 0,
  rq 6 (.load 22 (tp 5)) 22,
  rq 7 (cb .len #[(tp 6)] #[22]) 3,
  rq 8 (.binOp .gtr 3 (tp 7) (ki 60) 3) 4,
  rq 9 (.move (tp 8)) 4,
  rg 10 (.move (tp 1)) 32 9 false,
  rg 11 (cb .len #[(tp 10)] #[32]) 3 9 false,
  rg 12 (.binOp .gtr 3 (tp 11) (ki 40) 3) 4 9 false,
  rq 13 (.pick (tp 9) (kb true) (tp 12)) 4,
  rq 4 (.assign (tp 13)) 4]
def c7_1 : RC := .reg [] o7_1
def c7_2 : RC := .seq c7_1 .ret
def c7_3 : RC := .seq c7_0 c7_2
def o9_0 : List ROp := [
  rq 1 (.box 24 (tp 0)) 0,
  rq 2 (.assign (kb false)) 4,
  rq 3 (.assign (ki 0)) 28]
def c9_0 : RC := .reg [] o9_0
def o9_1 : List ROp := [
  rq 7 (.load 24 (tp 1)) 24,
  rq 8 (cf 38 #[(tp 7)] #[24]) 74,
  rq 6 (.move (tp 8)) 74,
  rq 9 (.extract (tp 6) 0) 73,
  rq 10 (.extract (tp 6) 1) 28,
  rq 4 (.alloc 73) 0,
  rn (.store 73 (tp 4) (tp 9)) 0,
  rq 5 (.assign (tp 10)) 28]
def c9_1 : RC := .reg [] o9_1
def o9_2 : List ROp := [
  rq 11 (.move (tp 5)) 28,
  rq 12 (.binOp .neq 28 (tp 11) (ki 0) 28) 4]
def c9_2 : RC := .reg [] o9_2
def o9_3 : List ROp := [
  rq 13 (.move (tp 5)) 28,
  rq 2 (.assign (kb false)) 4,
  rq 3 (.assign (tp 13)) 28]
def c9_3 : RC := .reg [] o9_3
def c9_4 : RC := .seq c9_3 .ret
def c9_5 : RC := .cond (tp 12) c9_4 .skip
def c9_6 : RC := .seq c9_2 c9_5
def o9_7 : List ROp := [
  rq 14 (.load 73 (tp 4)) 73,
  rq 15 (.fieldAddr 24 (tp 1) 0) 0,
  rq 16 (.load 3 (tp 15)) 3,
  rq 17 (cf 39 #[(tp 14), (tp 16)] #[73, 3]) 3,
  rq 18 (.binOp .lss 3 (tp 17) (ki 0) 3) 4,
  rq 2 (.assign (tp 18)) 4,
  rq 3 (.assign (ki 0)) 28]
def c9_7 : RC := .reg [] o9_7
def c9_8 : RC := .seq c9_7 .ret
def c9_9 : RC := .seq c9_6 c9_8
def c9_10 : RC := .seq c9_1 c9_9
def c9_11 : RC := .seq c9_0 c9_10
def o10_0 : List ROp := [
  rq 1 (.box 27 (tp 0)) 0,
  rq 2 (.assign (kb false)) 4,
  rq 3 (.assign (ki 0)) 28]
def c10_0 : RC := .reg [] o10_0
def o10_1 : List ROp := [
  rq 5 (.load 27 (tp 1)) 27,
  rq 6 (cf 40 #[(tp 5)] #[27]) 28,
  rq 4 (.assign (tp 6)) 28]
def c10_1 : RC := .reg [] o10_1
def o10_2 : List ROp := [
  rq 7 (.move (tp 4)) 28,
  rq 8 (.binOp .neq 28 (tp 7) (ki 0) 28) 4]
def c10_2 : RC := .reg [] o10_2
def o10_3 : List ROp := [
  rq 9 (.move (tp 4)) 28,
  rq 2 (.assign (kb false)) 4,
  rq 3 (.assign (tp 9)) 28]
def c10_3 : RC := .reg [] o10_3
def c10_4 : RC := .seq c10_3 .ret
def c10_5 : RC := .cond (tp 8) c10_4 .skip
def c10_6 : RC := .seq c10_2 c10_5
def o10_7 : List ROp := [
  rq 10 (.load 27 (tp 1)) 27,
  rq 11 (.fieldAddr 27 (tp 1) 0) 0,
  rq 12 (.load 3 (tp 11)) 3,
  ⟨(some 13), cf 42 #[(tp 12), (.const (.slice none 0 0))] #[3, 32], 36, none, [(tp 1)]⟩,
  rq 14 (cf 41 #[(tp 10), (tp 13), (ki (-1))] #[27, 36, 3]) 4,
  rq 2 (.assign (tp 14)) 4,
  rq 3 (.assign (ki 0)) 28]
def c10_7 : RC := .reg [0, 1, 2, 3, 4, 5, 6] o10_7
def c10_8 : RC := .seq c10_7 .ret
def c10_9 : RC := .seq c10_6 c10_8
def c10_10 : RC := .seq c10_1 c10_9
def c10_11 : RC := .seq c10_0 c10_10
def o11_0 : List ROp := [
  rq 1 (.box 24 (tp 0)) 0,
  rq 2 (.assign (.const (.slice none 0 0))) 32,
  rq 3 (.assign (ki 0)) 28]
def c11_0 : RC := .reg [] o11_0
def o11_1 : List ROp := [
  rq 8 (.load 24 (tp 1)) 24,
  rq 9 (cf 38 #[(tp 8)] #[24]) 74,
  rq 7 (.move (tp 9)) 74,
  rq 10 (.extract (tp 7) 0) 73,
  rq 11 (.extract (tp 7) 1) 28,
  rq 4 (.alloc 73) 0,
  rn (.store 73 (tp 4) (tp 10)) 0,
  rq 5 (.assign (tp 11)) 28]
def c11_1 : RC := .reg [] o11_1
def o11_2 : List ROp := [
  rq 12 (.move (tp 5)) 28,
  rq 13 (.binOp .neq 28 (tp 12) (ki 0) 28) 4]
def c11_2 : RC := .reg [] o11_2
def o11_3 : List ROp := [
  rq 14 (.move (tp 5)) 28,
  rq 2 (.assign (.const (.slice none 0 0))) 32,
  rq 3 (.assign (tp 14)) 28]
def c11_3 : RC := .reg [] o11_3
def c11_4 : RC := .seq c11_3 .ret
def c11_5 : RC := .cond (tp 13) c11_4 .skip
def c11_6 : RC := .seq c11_2 c11_5
def o11_7 : List ROp := [
  rq 15 (.load 73 (tp 4)) 73,
  rq 16 (.fieldAddr 24 (tp 1) 0) 0,
  rq 17 (.load 3 (tp 16)) 3,
  rq 18 (cf 39 #[(tp 15), (tp 17)] #[73, 3]) 3,
  rq 6 (.assign (tp 18)) 3]
def c11_7 : RC := .reg [] o11_7
def o11_8 : List ROp := [
  rq 19 (.move (tp 6)) 3,
  rq 20 (.binOp .lss 3 (tp 19) (ki 0) 3) 4]
def c11_8 : RC := .reg [] o11_8
def o11_9 : List ROp := [
  rq 2 (.assign (.const (.slice none 0 0))) 32,
  rq 3 (.assign (ki 13)) 28]
def c11_9 : RC := .reg [] o11_9
def c11_10 : RC := .seq c11_9 .ret
def c11_11 : RC := .cond (tp 20) c11_10 .skip
def c11_12 : RC := .seq c11_8 c11_11
def o11_13 : List ROp := [
  rq 21 (.fieldAddr 24 (tp 1) 0) 0,
  rq 22 (.load 3 (tp 21)) 3,
  rq 23 (.move (tp 6)) 3,
  rq 24 (cf 43 #[(tp 22), (tp 23)] #[3, 3]) 32,
  rq 2 (.assign (tp 24)) 32,
  rq 3 (.assign (ki 0)) 28]
def c11_13 : RC := .reg [] o11_13
def c11_14 : RC := .seq c11_13 .ret
def c11_15 : RC := .seq c11_12 c11_14
def c11_16 : RC := .seq c11_7 c11_15
def c11_17 : RC := .seq c11_6 c11_16
def c11_18 : RC := .seq c11_1 c11_17
def c11_19 : RC := .seq c11_0 c11_18
def o12_0 : List ROp := [
  rq 1 (.box 27 (tp 0)) 0,
  rq 2 (.assign (.const (.slice none 0 0))) 32,
  rq 3 (.assign (ki 0)) 28]
def c12_0 : RC := .reg [] o12_0
def o12_1 : List ROp := [
  rq 6 (.load 27 (tp 1)) 27,
  rq 7 (cf 40 #[(tp 6)] #[27]) 28,
  rq 4 (.assign (tp 7)) 28]
def c12_1 : RC := .reg [] o12_1
def o12_2 : List ROp := [
  rq 8 (.move (tp 4)) 28,
  rq 9 (.binOp .neq 28 (tp 8) (ki 0) 28) 4]
def c12_2 : RC := .reg [] o12_2
def o12_3 : List ROp := [
  rq 10 (.move (tp 4)) 28,
  rq 2 (.assign (.const (.slice none 0 0))) 32,
  rq 3 (.assign (tp 10)) 28]
def c12_3 : RC := .reg [] o12_3
def c12_4 : RC := .seq c12_3 .ret
def c12_5 : RC := .cond (tp 9) c12_4 .skip
def c12_6 : RC := .seq c12_2 c12_5
def o12_7 : List ROp := [
  rq 5 (.assign (ki 0)) 3]
def c12_7 : RC := .reg [] o12_7
def o12_8 : List ROp := [
  rq 11 (.move (tp 5)) 3,
  rq 12 (.fieldAddr 27 (tp 1) 0) 0,
  rq 13 (.load 3 (tp 12)) 3,
  rq 14 (.binOp .shl 3 (ki 1) (tp 13) 3) 3,
  rq 15 (.binOp .lss 3 (tp 11) (tp 14) 3) 4]
def c12_8 : RC := .reg [] o12_8
def c12_9 : RC := .cond (tp 15) .skip (.exit 0)
def c12_10 : RC := .seq c12_8 c12_9
def o12_11 : List ROp := [
  rq 18 (.load 27 (tp 1)) 27,
  rq 19 (.fieldAddr 27 (tp 1) 0) 0,
  rq 20 (.load 3 (tp 19)) 3,
  rq 21 (.move (tp 5)) 3,
  ⟨(some 22), cf 46 #[(tp 20), (tp 21)] #[3, 3], 32, none, [(tp 1)]⟩,
  rq 23 (cf 45 #[(tp 18), (tp 22), (ki (-1))] #[27, 32, 3]) 32,
  rq 24 (cf 44 #[(tp 23)] #[32]) 4,
  rq 25 (.unOp .not 4 (tp 24)) 4]
def c12_11 : RC := .reg [0, 1, 2, 3, 4, 5, 6, 7] o12_11
def o12_12 : List ROp := [
  rq 26 (.fieldAddr 27 (tp 1) 0) 0,
  rq 27 (.load 3 (tp 26)) 3,
  rq 28 (.move (tp 5)) 3,
  rq 29 (cf 46 #[(tp 27), (tp 28)] #[3, 3]) 32,
  rq 2 (.assign (tp 29)) 32,
  rq 3 (.assign (ki 0)) 28]
def c12_12 : RC := .reg [] o12_12
def c12_13 : RC := .seq c12_12 .ret
def c12_14 : RC := .cond (tp 25) c12_13 .skip
def c12_15 : RC := .seq c12_11 c12_14
def c12_16 : RC := .block 1 c12_15
def o12_17 : List ROp := [
  rq 16 (.move (tp 5)) 3,
  rq 17 (.binOp .add 3 (tp 16) (ki 1) 3) 3,
  rq 5 (.assign (tp 17)) 3]
def c12_17 : RC := .reg [] o12_17
def c12_18 : RC := .seq c12_16 c12_17
def c12_19 : RC := .seq c12_10 c12_18
def c12_20 : RC := .loop c12_19
def c12_21 : RC := .block 0 c12_20
def c12_22 : RC := .seq c12_7 c12_21
def o12_23 : List ROp := [
  rq 2 (.assign (.const (.slice none 0 0))) 32,
  rq 3 (.assign (ki 13)) 28]
def c12_23 : RC := .reg [] o12_23
def c12_24 : RC := .seq c12_23 .ret
def c12_25 : RC := .seq c12_22 c12_24
def c12_26 : RC := .seq c12_6 c12_25
def c12_27 : RC := .seq c12_1 c12_26
def c12_28 : RC := .seq c12_0 c12_27
def o13_0 : List ROp := [
  rq 1 (.box 24 (tp 0)) 0,
  rq 2 (.assign (.const (.slice none 0 0))) 36,
  rq 3 (.assign (ki 0)) 28]
def c13_0 : RC := .reg [] o13_0
def o13_1 : List ROp := [
  rq 11 (.load 24 (tp 1)) 24,
  rq 12 (cf 38 #[(tp 11)] #[24]) 74,
  rq 10 (.move (tp 12)) 74,
  rq 13 (.extract (tp 10) 0) 73,
  rq 14 (.extract (tp 10) 1) 28,
  rq 4 (.alloc 73) 0,
  rn (.store 73 (tp 4) (tp 13)) 0,
  rq 5 (.assign (tp 14)) 28]
def c13_1 : RC := .reg [] o13_1
def o13_2 : List ROp := [
  rq 15 (.move (tp 5)) 28,
  rq 16 (.binOp .neq 28 (tp 15) (ki 0) 28) 4]
def c13_2 : RC := .reg [] o13_2
def o13_3 : List ROp := [
  rq 17 (.move (tp 5)) 28,
  rq 2 (.assign (.const (.slice none 0 0))) 36,
  rq 3 (.assign (tp 17)) 28]
def c13_3 : RC := .reg [] o13_3
def c13_4 : RC := .seq c13_3 .ret
def c13_5 : RC := .cond (tp 16) c13_4 .skip
def c13_6 : RC := .seq c13_2 c13_5
def o13_7 : List ROp := [
  rq 18 (.load 73 (tp 4)) 73,
  rq 19 (.fieldAddr 24 (tp 1) 0) 0,
  rq 20 (.load 3 (tp 19)) 3,
  rq 21 (cf 47 #[(tp 18), (tp 20)] #[73, 3]) 32,
  rq 6 (.assign (tp 21)) 32]
def c13_7 : RC := .reg [] o13_7
def o13_8 : List ROp := [
  rq 22 (.move (tp 6)) 32,
  rq 23 (cf 26 #[(tp 22)] #[32]) 0]
def c13_8 : RC := .reg [] o13_8
def o13_9 : List ROp := [
  rq 7 (.assign (.const (.slice none 0 0))) 36]
def c13_9 : RC := .reg [] o13_9
def o13_10 : List ROp := [
  rq 24 (.move (tp 6)) 32,
  rq 25 (cf 48 #[(tp 24)] #[32]) 32,
  rq 26 (cb .len #[(tp 25)] #[32]) 3,
  rq 27 (.move (ki 0)) 3]
def c13_10 : RC := .reg [] o13_10
def o13_11 : List ROp := [
  rq 28 (.binOp .lss 3 (tp 27) (tp 26) 3) 0]
def c13_11 : RC := .reg [] o13_11
def c13_12 : RC := .cond (tp 28) .skip (.exit 0)
def o13_13 : List ROp := [
  rq 29 (.indexAddr 32 (tp 25) (tp 27)) 0,
  rq 30 (.load 3 (tp 29)) 3,
  rq 9 (.assign (tp 30)) 3]
def c13_13 : RC := .reg [] o13_13
def o13_14 : List ROp := [
  rq 31 (.move (tp 7)) 36,
  rq 32 (.fieldAddr 24 (tp 1) 0) 0,
  rq 33 (.load 3 (tp 32)) 3,
  rq 34 (.move (tp 9)) 3,
  rq 35 (cf 43 #[(tp 33), (tp 34)] #[3, 3]) 32,
  rq 36 (.buildSlice 36 1 #[(0, (tp 35))]) 36,
  rq 37 (cb .append #[(tp 31), (tp 36)] #[36, 36]) 36,
  rq 7 (.assign (tp 37)) 36]
def c13_14 : RC := .reg [] o13_14
def c13_15 : RC := .seq c13_13 c13_14
def c13_16 : RC := .block 1 c13_15
def o13_17 : List ROp := [
  rq 38 (.binOp .add 3 (tp 27) (ki 1) 3) 3,
  rq 27 (.move (tp 38)) 3]
def c13_17 : RC := .reg [] o13_17
def c13_18 : RC := .seq c13_16 c13_17
def c13_19 : RC := .seq c13_12 c13_18
def c13_20 : RC := .seq c13_11 c13_19
def c13_21 : RC := .loop c13_20
def c13_22 : RC := .block 0 c13_21
def c13_23 : RC := .seq c13_10 c13_22
def o13_24 : List ROp := [
  rq 39 (.move (tp 7)) 36,
  rq 2 (.assign (tp 39)) 36,
  rq 3 (.assign (ki 0)) 28]
def c13_24 : RC := .reg [] o13_24
def c13_25 : RC := .seq c13_24 .ret
def c13_26 : RC := .seq c13_23 c13_25
def c13_27 : RC := .seq c13_9 c13_26
def c13_28 : RC := .seq c13_8 c13_27
def c13_29 : RC := .seq c13_7 c13_28
def c13_30 : RC := .seq c13_6 c13_29
def c13_31 : RC := .seq c13_1 c13_30
def c13_32 : RC := .seq c13_0 c13_31
def o14_0 : List ROp := [
  rq 1 (.box 27 (tp 0)) 0,
  rq 2 (.assign (.const (.slice none 0 0))) 36,
  rq 3 (.assign (ki 0)) 28]
def c14_0 : RC := .reg [] o14_0
def o14_1 : List ROp := [
  rq 9 (.load 27 (tp 1)) 27,
  rq 10 (cf 40 #[(tp 9)] #[27]) 28,
  rq 4 (.assign (tp 10)) 28]
def c14_1 : RC := .reg [] o14_1
def o14_2 : List ROp := [
  rq 11 (.move (tp 4)) 28,
  rq 12 (.binOp .neq 28 (tp 11) (ki 0) 28) 4]
def c14_2 : RC := .reg [] o14_2
def o14_3 : List ROp := [
  rq 13 (.move (tp 4)) 28,
  rq 2 (.assign (.const (.slice none 0 0))) 36,
  rq 3 (.assign (tp 13)) 28]
def c14_3 : RC := .reg [] o14_3
def c14_4 : RC := .seq c14_3 .ret
def c14_5 : RC := .cond (tp 12) c14_4 .skip
def c14_6 : RC := .seq c14_2 c14_5
def o14_7 : List ROp := [
  rq 5 (.assign (.const (.slice none 0 0))) 36]
def c14_7 : RC := .reg [] o14_7
def o14_8 : List ROp := [
  rq 6 (.assign (ki 0)) 3]
def c14_8 : RC := .reg [] o14_8
def o14_9 : List ROp := [
  rq 14 (.move (tp 6)) 3,
  rq 15 (.fieldAddr 27 (tp 1) 0) 0,
  rq 16 (.load 3 (tp 15)) 3,
  rq 17 (.binOp .shl 3 (ki 1) (tp 16) 3) 3,
  rq 18 (.binOp .lss 3 (tp 14) (tp 17) 3) 4]
def c14_9 : RC := .reg [] o14_9
def c14_10 : RC := .cond (tp 18) .skip (.exit 0)
def c14_11 : RC := .seq c14_9 c14_10
def o14_12 : List ROp := [
  rq 7 (.assign (kb false)) 4]
def c14_12 : RC := .reg [] o14_12
def o14_13 : List ROp := [
  rq 8 (.assign (ki 0)) 3]
def c14_13 : RC := .reg [] o14_13
def o14_14 : List ROp := [
  rq 21 (.move (tp 8)) 3,
  rq 22 (.fieldAddr 27 (tp 1) 0) 0,
  rq 23 (.load 3 (tp 22)) 3,
  rq 24 (.binOp .shl 3 (ki 1) (tp 23) 3) 3,
  rq 25 (.binOp .lss 3 (tp 21) (tp 24) 3) 4,
  rq 26 (.move (tp 25)) 4,
  rg 27 (.move (tp 7)) 4 26 true,
  rg 28 (.unOp .not 4 (tp 27)) 4 26 true,
  rq 29 (.pick (tp 26) (tp 28) (kb false)) 4]
def c14_14 : RC := .reg [] o14_14
def c14_15 : RC := .cond (tp 29) .skip (.exit 2)
def c14_16 : RC := .seq c14_14 c14_15
def o14_17 : List ROp := [
  rq 32 (.load 27 (tp 1)) 27,
  rq 33 (.fieldAddr 27 (tp 1) 0) 0,
  rq 34 (.load 3 (tp 33)) 3,
  rq 35 (.move (tp 8)) 3,
  rq 38 (.fieldAddr 27 (tp 1) 0) 0,
  rq 39 (.load 3 (tp 38)) 3,
  rq 40 (.move (tp 6)) 3,
  ⟨(some 36), cf 46 #[(tp 34), (tp 35)] #[3, 3], 32, none, [(tp 38), (tp 1)]⟩,
  ⟨(some 37), cf 45 #[(tp 32), (tp 36), (ki (-1))] #[27, 32, 3], 32, none, [(tp 38)]⟩,
  rq 41 (cf 46 #[(tp 39), (tp 40)] #[3, 3]) 32,
  rq 42 (cf 49 #[(tp 37), (tp 41)] #[32, 32]) 4,
  rq 7 (.assign (tp 42)) 4]
def c14_17 : RC := .reg [0, 1, 2, 3, 6, 7, 8, 4, 5, 9, 10, 11] o14_17
def c14_18 : RC := .block 3 c14_17
def o14_19 : List ROp := [
  rq 30 (.move (tp 8)) 3,
  rq 31 (.binOp .add 3 (tp 30) (ki 1) 3) 3,
  rq 8 (.assign (tp 31)) 3]
def c14_19 : RC := .reg [] o14_19
def c14_20 : RC := .seq c14_18 c14_19
def c14_21 : RC := .seq c14_16 c14_20
def c14_22 : RC := .loop c14_21
def c14_23 : RC := .block 2 c14_22
def c14_24 : RC := .seq c14_13 c14_23
def o14_25 : List ROp := [
  rq 43 (.move (tp 7)) 4]
def c14_25 : RC := .reg [] o14_25
def o14_26 : List ROp := [
  rq 44 (.move (tp 5)) 36,
  rq 45 (.fieldAddr 27 (tp 1) 0) 0,
  rq 46 (.load 3 (tp 45)) 3,
  rq 47 (.move (tp 6)) 3,
  rq 48 (cf 46 #[(tp 46), (tp 47)] #[3, 3]) 32,
  rq 49 (.buildSlice 36 1 #[(0, (tp 48))]) 36,
  rq 50 (cb .append #[(tp 44), (tp 49)] #[36, 36]) 36,
  rq 5 (.assign (tp 50)) 36]
def c14_26 : RC := .reg [] o14_26
def c14_27 : RC := .cond (tp 43) c14_26 .skip
def c14_28 : RC := .seq c14_25 c14_27
def c14_29 : RC := .seq c14_24 c14_28
def c14_30 : RC := .seq c14_12 c14_29
def c14_31 : RC := .block 1 c14_30
def o14_32 : List ROp := [
  rq 19 (.move (tp 6)) 3,
  rq 20 (.binOp .add 3 (tp 19) (ki 1) 3) 3,
  rq 6 (.assign (tp 20)) 3]
def c14_32 : RC := .reg [] o14_32
def c14_33 : RC := .seq c14_31 c14_32
def c14_34 : RC := .seq c14_11 c14_33
def c14_35 : RC := .loop c14_34
def c14_36 : RC := .block 0 c14_35
def c14_37 : RC := .seq c14_8 c14_36
def o14_38 : List ROp := [
  rq 51 (.move (tp 5)) 36,
  rq 2 (.assign (tp 51)) 36,
  rq 3 (.assign (ki 0)) 28]
def c14_38 : RC := .reg [] o14_38
def c14_39 : RC := .seq c14_38 .ret
def c14_40 : RC := .seq c14_37 c14_39
def c14_41 : RC := .seq c14_7 c14_40
def c14_42 : RC := .seq c14_6 c14_41
def c14_43 : RC := .seq c14_1 c14_42
def c14_44 : RC := .seq c14_0 c14_43
def o15_0 : List ROp := [
  rq 4 (.assign (kb false)) 4]
def c15_0 : RC := .reg [] o15_0
def o15_1 : List ROp := [
  rq 6 (.move (tp 0)) 32,
  rq 7 (cb .len #[(tp 6)] #[32]) 3,
  rq 8 (.move (tp 1)) 32,
  rq 9 (cb .len #[(tp 8)] #[32]) 3,
  rq 10 (.binOp .neq 3 (tp 7) (tp 9) 3) 4]
def c15_1 : RC := .reg [] o15_1
def o15_2 : List ROp := [
  rq 4 (.assign (kb false)) 4]
def c15_2 : RC := .reg [] o15_2
def c15_3 : RC := .seq c15_2 .ret
def c15_4 : RC := .cond (tp 10) c15_3 .skip
def c15_5 : RC := .seq c15_1 c15_4
def o15_6 : List ROp := [
  rq 5 (.assign (ki 0)) 3]
def c15_6 : RC := .reg [] o15_6
def o15_7 : List ROp := [
  rq 11 (.move (tp 5)) 3,
  rq 12 (.move (tp 0)) 32,
  rq 13 (cb .len #[(tp 12)] #[32]) 3,
  rq 14 (.binOp .lss 3 (tp 11) (tp 13) 3) 4]
def c15_7 : RC := .reg [] o15_7
def c15_8 : RC := .cond (tp 14) .skip (.exit 0)
def c15_9 : RC := .seq c15_7 c15_8
def o15_10 : List ROp := [
  rq 17 (.move (tp 0)) 32,
  rq 18 (.move (tp 5)) 3,
  rq 19 (.indexAddr 32 (tp 17) (tp 18)) 0,
  rq 20 (.load 3 (tp 19)) 3,
  rq 21 (.move (tp 1)) 32,
  rq 22 (.move (tp 5)) 3,
  rq 23 (.indexAddr 32 (tp 21) (tp 22)) 0,
  rq 24 (.load 3 (tp 23)) 3,
  rq 25 (.binOp .neq 3 (tp 20) (tp 24) 3) 4]
def c15_10 : RC := .reg [0, 1, 2, 3, 4, 5, 6, 7, 8] o15_10
def o15_11 : List ROp := [
  rq 4 (.assign (kb false)) 4]
def c15_11 : RC := .reg [] o15_11
def c15_12 : RC := .seq c15_11 .ret
def c15_13 : RC := .cond (tp 25) c15_12 .skip
def c15_14 : RC := .seq c15_10 c15_13
def c15_15 : RC := .block 1 c15_14
def o15_16 : List ROp := [
  rq 15 (.move (tp 5)) 3,
  rq 16 (.binOp .add 3 (tp 15) (ki 1) 3) 3,
  rq 5 (.assign (tp 16)) 3]
def c15_16 : RC := .reg [] o15_16
def c15_17 : RC := .seq c15_15 c15_16
def c15_18 : RC := .seq c15_9 c15_17
def c15_19 : RC := .loop c15_18
def c15_20 : RC := .block 0 c15_19
def c15_21 : RC := .seq c15_6 c15_20
def o15_22 : List ROp := [
  rq 4 (.assign (kb true)) 4]
def c15_22 : RC := .reg [] o15_22
def c15_23 : RC := .seq c15_22 .ret
def c15_24 : RC := .seq c15_21 c15_23
def c15_25 : RC := .seq c15_5 c15_24
def c15_26 : RC := .seq c15_0 c15_25
def o16_0 : List ROp := [
  rq 4 (.assign (kb false)) 4]
def c16_0 : RC := .reg [] o16_0
def o16_1 : List ROp := [
  rq 6 (.move (tp 0)) 36,
  rq 7 (cb .len #[(tp 6)] #[36]) 3,
  rq 8 (.move (tp 1)) 36,
  rq 9 (cb .len #[(tp 8)] #[36]) 3,
  rq 10 (.binOp .neq 3 (tp 7) (tp 9) 3) 4]
def c16_1 : RC := .reg [] o16_1
def o16_2 : List ROp := [
  rq 4 (.assign (kb false)) 4]
def c16_2 : RC := .reg [] o16_2
def c16_3 : RC := .seq c16_2 .ret
def c16_4 : RC := .cond (tp 10) c16_3 .skip
def c16_5 : RC := .seq c16_1 c16_4
def o16_6 : List ROp := [
  rq 5 (.assign (ki 0)) 3]
def c16_6 : RC := .reg [] o16_6
def o16_7 : List ROp := [
  rq 11 (.move (tp 5)) 3,
  rq 12 (.move (tp 0)) 36,
  rq 13 (cb .len #[(tp 12)] #[36]) 3,
  rq 14 (.binOp .lss 3 (tp 11) (tp 13) 3) 4]
def c16_7 : RC := .reg [] o16_7
def c16_8 : RC := .cond (tp 14) .skip (.exit 0)
def c16_9 : RC := .seq c16_7 c16_8
def o16_10 : List ROp := [
  rq 17 (.move (tp 0)) 36,
  rq 18 (.move (tp 5)) 3,
  rq 19 (.indexAddr 36 (tp 17) (tp 18)) 0,
  rq 20 (.load 32 (tp 19)) 32,
  rq 21 (.move (tp 1)) 36,
  rq 22 (.move (tp 5)) 3,
  rq 23 (.indexAddr 36 (tp 21) (tp 22)) 0,
  rq 24 (.load 32 (tp 23)) 32,
  rq 25 (cf 15 #[(tp 20), (tp 24)] #[32, 32]) 4,
  rq 26 (.unOp .not 4 (tp 25)) 4]
def c16_10 : RC := .reg [0, 1, 2, 3, 4, 5, 6, 7, 8, 9] o16_10
def o16_11 : List ROp := [
  rq 4 (.assign (kb false)) 4]
def c16_11 : RC := .reg [] o16_11
def c16_12 : RC := .seq c16_11 .ret
def c16_13 : RC := .cond (tp 26) c16_12 .skip
def c16_14 : RC := .seq c16_10 c16_13
def c16_15 : RC := .block 1 c16_14
def o16_16 : List ROp := [
  rq 15 (.move (tp 5)) 3,
  rq 16 (.binOp .add 3 (tp 15) (ki 1) 3) 3,
  rq 5 (.assign (tp 16)) 3]
def c16_16 : RC := .reg [] o16_16
def c16_17 : RC := .seq c16_15 c16_16
def c16_18 : RC := .seq c16_9 c16_17
def c16_19 : RC := .loop c16_18
def c16_20 : RC := .block 0 c16_19
def c16_21 : RC := .seq c16_6 c16_20
def o16_22 : List ROp := [
  rq 4 (.assign (kb true)) 4]
def c16_22 : RC := .reg [] o16_22
def c16_23 : RC := .seq c16_22 .ret
def c16_24 : RC := .seq c16_21 c16_23
def c16_25 : RC := .seq c16_5 c16_24
def c16_26 : RC := .seq c16_0 c16_25
def o38_0 : List ROp := [
  rq 1 (.box 24 (tp 0)) 0,
  rq 2 (.alloc 73) 0,
  rq 3 (.assign (ki 0)) 28]
def c38_0 : RC := .reg [] o38_0
def o38_1 : List ROp := [
  rq 5 (.load 24 (tp 1)) 24,
  rq 6 (cf 50 #[(tp 5)] #[24]) 28,
  rq 4 (.assign (tp 6)) 28]
def c38_1 : RC := .reg [] o38_1
def o38_2 : List ROp := [
  rq 7 (.move (tp 4)) 28,
  rq 8 (.binOp .neq 28 (tp 7) (ki 0) 28) 4]
def c38_2 : RC := .reg [] o38_2
def o38_3 : List ROp := [
  rq 9 (.build 73 #[]) 73,
  rq 10 (.move (tp 4)) 28,
  rn (.store 73 (tp 2) (tp 9)) 0,
  rq 3 (.assign (tp 10)) 28]
def c38_3 : RC := .reg [] o38_3
def c38_4 : RC := .seq c38_3 .ret
def c38_5 : RC := .cond (tp 8) c38_4 .skip
def c38_6 : RC := .seq c38_2 c38_5
def c38_7 : RC := .seq c38_1 c38_6
def o38_8 : List ROp := [
  rq 11 (.fieldAddr 24 (tp 1) 0) 0,
  rq 12 (.load 3 (tp 11)) 3,
  rq 14 (.fieldAddr 24 (tp 1) 1) 0,
  rq 15 (.load 22 (tp 14)) 22,
  ⟨(some 13), cf 51 #[(tp 12)] #[3], 73, none, [(tp 14)]⟩,
  rq 16 (cf 53 #[(tp 13), (tp 15)] #[73, 22]) 73,
  rn (.store 73 (tp 2) (tp 16)) 0,
  rq 3 (.assign (ki 0)) 28]
def c38_8 : RC := .reg [0, 1, 3, 4, 2, 5, 6, 7] o38_8
def c38_9 : RC := .seq c38_8 .ret
def c38_10 : RC := .seq c38_7 c38_9
def c38_11 : RC := .seq c38_0 c38_10
def o39_0 : List ROp := [
  rq 2 (.box 73 (tp 0)) 0,
  rq 4 (.assign (ki 0)) 3]
def c39_0 : RC := .reg [] o39_0
def o39_1 : List ROp := [
  rq 8 (.move (ki 0)) 3]
def c39_1 : RC := .reg [] o39_1
def o39_2 : List ROp := [
  rq 9 (.binOp .lss 3 (tp 8) (ki 2) 3) 0]
def c39_2 : RC := .reg [] o39_2
def c39_3 : RC := .cond (tp 9) .skip (.exit 0)
def o39_4 : List ROp := [
  rq 10 (.move (tp 8)) 3,
  rq 5 (.assign (tp 10)) 3]
def c39_4 : RC := .reg [] o39_4
def o39_5 : List ROp := [
  rq 6 (.assign (.const (.int .u64 0))) 70]
def c39_5 : RC := .reg [] o39_5
def o39_6 : List ROp := [
  rq 7 (.assign (ki 1)) 3]
def c39_6 : RC := .reg [] o39_6
def o39_7 : List ROp := [
  rq 11 (.move (tp 7)) 3,
  rq 12 (.move (tp 1)) 3,
  rq 13 (.binOp .lss 3 (tp 11) (tp 12) 3) 4]
def c39_7 : RC := .reg [] o39_7
def c39_8 : RC := .cond (tp 13) .skip (.exit 2)
def c39_9 : RC := .seq c39_7 c39_8
def o39_10 : List ROp := [
  rq 16 (.move (tp 6)) 70,
  rq 17 (.move (tp 7)) 3,
  rq 18 (.binOp .sub 3 (tp 17) (ki 1) 3) 3,
  rq 19 (.move (tp 5)) 3,
  rq 20 (.indexAddr 73 (tp 2) (tp 18)) 0,
  rq 21 (.indexAddr 71 (tp 20) (tp 19)) 0,
  rq 22 (.load 70 (tp 21)) 70,
  rq 23 (.move (tp 7)) 3,
  rq 24 (.move (tp 5)) 3,
  rq 25 (.indexAddr 73 (tp 2) (tp 23)) 0,
  rq 26 (.indexAddr 71 (tp 25) (tp 24)) 0,
  rq 27 (.load 70 (tp 26)) 70,
  rq 28 (.binOp .andNot 70 (tp 22) (tp 27) 70) 70,
  rq 29 (.binOp .or 70 (tp 16) (tp 28) 70) 70,
  rq 6 (.assign (tp 29)) 70]
def c39_10 : RC := .reg [0, 1, 2, 3, 4, 5, 6, 7, 8, 9, 10, 11, 12, 13, 14] o39_10
def c39_11 : RC := .block 3 c39_10
def o39_12 : List ROp := [
  rq 14 (.move (tp 7)) 3,
  rq 15 (.binOp .add 3 (tp 14) (ki 1) 3) 3,
  rq 7 (.assign (tp 15)) 3]
def c39_12 : RC := .reg [] o39_12
def c39_13 : RC := .seq c39_11 c39_12
def c39_14 : RC := .seq c39_9 c39_13
def c39_15 : RC := .loop c39_14
def c39_16 : RC := .block 2 c39_15
def c39_17 : RC := .seq c39_6 c39_16
def o39_18 : List ROp := [
  rq 30 (.move (tp 6)) 70,
  rq 31 (.binOp .neq 70 (tp 30) (.const (.int .u64 0)) 70) 4]
def c39_18 : RC := .reg [] o39_18
def o39_19 : List ROp := [
  rq 32 (.move (tp 5)) 3,
  rq 33 (.binOp .mul 3 (ki 64) (tp 32) 3) 3,
  rq 34 (.move (tp 6)) 70,
  rq 35 (cf 60 #[(tp 34)] #[70]) 3,
  rq 36 (.binOp .add 3 (tp 33) (tp 35) 3) 3,
  rq 4 (.assign (tp 36)) 3]
def c39_19 : RC := .reg [] o39_19
def c39_20 : RC := .seq c39_19 .ret
def c39_21 : RC := .cond (tp 31) c39_20 .skip
def c39_22 : RC := .seq c39_18 c39_21
def c39_23 : RC := .seq c39_17 c39_22
def c39_24 : RC := .seq c39_5 c39_23
def c39_25 : RC := .seq c39_4 c39_24
def c39_26 : RC := .block 1 c39_25
def o39_27 : List ROp := [
  rq 37 (.binOp .add 3 (tp 8) (ki 1) 3) 3,
  rq 8 (.move (tp 37)) 3]
def c39_27 : RC := .reg [] o39_27
def c39_28 : RC := .seq c39_26 c39_27
def c39_29 : RC := .seq c39_3 c39_28
def c39_30 : RC := .seq c39_2 c39_29
def c39_31 : RC := .loop c39_30
def c39_32 : RC := .block 0 c39_31
def c39_33 : RC := .seq c39_1 c39_32
def o39_34 : List ROp := [
  rq 4 (.assign (ki (-1))) 3]
def c39_34 : RC := .reg [] o39_34
def c39_35 : RC := .seq c39_34 .ret
def c39_36 : RC := .seq c39_33 c39_35
def c39_37 : RC := .seq c39_0 c39_36
def o40_0 : List ROp := [
  rq 1 (.box 27 (tp 0)) 0,
  rq 2 (.assign (ki 0)) 28]
def c40_0 : RC := .reg [] o40_0
def o40_1 : List ROp := [
  rq 5 (.fieldAddr 27 (tp 1) 0) 0,
  rq 6 (.load 3 (tp 5)) 3,
  rq 7 (cf 61 #[(tp 6), (ki 1), (ki 7)] #[3, 3, 3]) 4,
  rq 8 (.unOp .not 4 (tp 7)) 4]
def c40_1 : RC := .reg [] o40_1
def o40_2 : List ROp := [
  rq 2 (.assign (ki 1)) 28]
def c40_2 : RC := .reg [] o40_2
def c40_3 : RC := .seq c40_2 .ret
def c40_4 : RC := .cond (tp 8) c40_3 .skip
def c40_5 : RC := .seq c40_1 c40_4
def o40_6 : List ROp := [
  rq 9 (.fieldAddr 27 (tp 1) 1) 0,
  rq 10 (.load 22 (tp 9)) 22,
  rq 11 (cb .len #[(tp 10)] #[22]) 3,
  rq 12 (.binOp .gtr 3 (tp 11) (ki 24) 3) 4]
def c40_6 : RC := .reg [] o40_6
def o40_7 : List ROp := [
  rq 2 (.assign (ki 3)) 28]
def c40_7 : RC := .reg [] o40_7
def c40_8 : RC := .seq c40_7 .ret
def c40_9 : RC := .cond (tp 12) c40_8 .skip
def c40_10 : RC := .seq c40_6 c40_9
def o40_11 : List ROp := [
  rq 3 (.assign (ki 0)) 3]
def c40_11 : RC := .reg [] o40_11
def o40_12 : List ROp := [
  rq 13 (.move (tp 3)) 3,
  rq 14 (.fieldAddr 27 (tp 1) 1) 0,
  rq 15 (.load 22 (tp 14)) 22,
  rq 16 (cb .len #[(tp 15)] #[22]) 3,
  rq 17 (.binOp .lss 3 (tp 13) (tp 16) 3) 4]
def c40_12 : RC := .reg [] o40_12
def c40_13 : RC := .cond (tp 17) .skip (.exit 0)
def c40_14 : RC := .seq c40_12 c40_13
def o40_15 : List ROp := [
  rq 20 (.fieldAddr 27 (tp 1) 1) 0,
  rq 21 (.load 22 (tp 20)) 22,
  rq 22 (.move (tp 3)) 3,
  rq 23 (.indexAddr 22 (tp 21) (tp 22)) 0,
  rq 24 (.load 50 (tp 23)) 50,
  rq 4 (.alloc 50) 0,
  rn (.store 50 (tp 4) (tp 24)) 0]
def c40_15 : RC := .reg [] o40_15
def o40_16 : List ROp := [
  rq 25 (.indexAddr 50 (tp 4) (ki 0)) 0,
  rq 26 (.load 3 (tp 25)) 3,
  rq 27 (.fieldAddr 27 (tp 1) 0) 0,
  rq 28 (.load 3 (tp 27)) 3,
  rq 29 (.binOp .sub 3 (tp 28) (ki 1) 3) 3,
  rq 30 (cf 61 #[(tp 26), (ki 0), (tp 29)] #[3, 3, 3]) 4,
  rq 31 (.unOp .not 4 (tp 30)) 4,
  rq 32 (.move (tp 31)) 4,
  rg 33 (.indexAddr 50 (tp 4) (ki 1)) 0 32 false,
  rg 34 (.load 3 (tp 33)) 3 32 false,
  rg 35 (.fieldAddr 27 (tp 1) 0) 0 32 false,
  rg 36 (.load 3 (tp 35)) 3 32 false,
  rg 37 (.binOp .sub 3 (tp 36) (ki 1) 3) 3 32 false,
  rg 38 (cf 61 #[(tp 34), (ki 0), (tp 37)] #[3, 3, 3]) 4 32 false,
  rg 39 (.unOp .not 4 (tp 38)) 4 32 false,
  rq 40 (.pick (tp 32) (kb true) (tp 39)) 4]
def c40_16 : RC := .reg [] o40_16
def o40_17 : List ROp := [
  rq 2 (.assign (ki 2)) 28]
def c40_17 : RC := .reg [] o40_17
def c40_18 : RC := .seq c40_17 .ret
def c40_19 : RC := .cond (tp 40) c40_18 .skip
def c40_20 : RC := .seq c40_16 c40_19
def o40_21 : List ROp := [
  rq 41 (.indexAddr 50 (tp 4) (ki 0)) 0,
  rq 42 (.load 3 (tp 41)) 3,
  rq 43 (.indexAddr 50 (tp 4) (ki 1)) 0,
  rq 44 (.load 3 (tp 43)) 3,
  rq 45 (.binOp .geq 3 (tp 42) (tp 44) 3) 4]
def c40_21 : RC := .reg [] o40_21
def o40_22 : List ROp := [
  rq 2 (.assign (ki 7)) 28]
def c40_22 : RC := .reg [] o40_22
def c40_23 : RC := .seq c40_22 .ret
def c40_24 : RC := .cond (tp 45) c40_23 .skip
def c40_25 : RC := .seq c40_21 c40_24
def c40_26 : RC := .seq c40_20 c40_25
def c40_27 : RC := .seq c40_15 c40_26
def c40_28 : RC := .block 1 c40_27
def o40_29 : List ROp := [
  rq 18 (.move (tp 3)) 3,
  rq 19 (.binOp .add 3 (tp 18) (ki 1) 3) 3,
  rq 3 (.assign (tp 19)) 3]
def c40_29 : RC := .reg [] o40_29
def c40_30 : RC := .seq c40_28 c40_29
def c40_31 : RC := .seq c40_14 c40_30
def c40_32 : RC := .loop c40_31
def c40_33 : RC := .block 0 c40_32
def c40_34 : RC := .seq c40_11 c40_33
def o40_35 : List ROp := [
  rq 2 (.assign (ki 0)) 28]
def c40_35 : RC := .reg [] o40_35
def c40_36 : RC := .seq c40_35 .ret
def c40_37 : RC := .seq c40_34 c40_36
def c40_38 : RC := .seq c40_10 c40_37
def c40_39 : RC := .seq c40_5 c40_38
def c40_40 : RC := .seq c40_0 c40_39
def o41_0 : List ROp := [
  rq 3 (.box 27 (tp 0)) 0,
  rq 6 (.assign (kb false)) 4]
def c41_0 : RC := .reg [] o41_0
def o41_1 : List ROp := [
  rq 7 (.assign (ki 0)) 3]
def c41_1 : RC := .reg [] o41_1
def o41_2 : List ROp := [
  rq 8 (.move (tp 7)) 3,
  rq 9 (.move (tp 1)) 36,
  rq 10 (cb .len #[(tp 9)] #[36]) 3,
  rq 11 (.binOp .lss 3 (tp 8) (tp 10) 3) 4]
def c41_2 : RC := .reg [] o41_2
def c41_3 : RC := .cond (tp 11) .skip (.exit 0)
def c41_4 : RC := .seq c41_2 c41_3
def o41_5 : List ROp := [
  rq 14 (.load 27 (tp 3)) 27,
  rq 15 (.move (tp 1)) 36,
  rq 16 (.move (tp 7)) 3,
  rq 17 (.indexAddr 36 (tp 15) (tp 16)) 0,
  rq 18 (.load 32 (tp 17)) 32,
  rq 19 (.move (tp 2)) 3,
  rq 20 (cf 45 #[(tp 14), (tp 18), (tp 19)] #[27, 32, 3]) 32,
  rq 21 (cf 44 #[(tp 20)] #[32]) 4,
  rq 22 (.unOp .not 4 (tp 21)) 4]
def c41_5 : RC := .reg [0, 1, 2, 3, 4, 5, 6, 7, 8] o41_5
def o41_6 : List ROp := [
  rq 6 (.assign (kb false)) 4]
def c41_6 : RC := .reg [] o41_6
def c41_7 : RC := .seq c41_6 .ret
def c41_8 : RC := .cond (tp 22) c41_7 .skip
def c41_9 : RC := .seq c41_5 c41_8
def c41_10 : RC := .block 1 c41_9
def o41_11 : List ROp := [
  rq 12 (.move (tp 7)) 3,
  rq 13 (.binOp .add 3 (tp 12) (ki 1) 3) 3,
  rq 7 (.assign (tp 13)) 3]
def c41_11 : RC := .reg [] o41_11
def c41_12 : RC := .seq c41_10 c41_11
def c41_13 : RC := .seq c41_4 c41_12
def c41_14 : RC := .loop c41_13
def c41_15 : RC := .block 0 c41_14
def c41_16 : RC := .seq c41_1 c41_15
def o41_17 : List ROp := [
  rq 6 (.assign (kb true)) 4]
def c41_17 : RC := .reg [] o41_17
def c41_18 : RC := .seq c41_17 .ret
def c41_19 : RC := .seq c41_16 c41_18
def c41_20 : RC := .seq c41_0 c41_19
def o42_0 : List ROp := [
  rq 4 (.assign (.const (.slice none 0 0))) 36]
def c42_0 : RC := .reg [] o42_0
def o42_1 : List ROp := [
  rq 7 (.move (tp 1)) 32,
  rq 8 (cb .len #[(tp 7)] #[32]) 3,
  rq 9 (.move (tp 0)) 3,
  rq 10 (.binOp .eql 3 (tp 8) (tp 9) 3) 4]
def c42_1 : RC := .reg [] o42_1
def o42_2 : List ROp := [
  rq 11 (.move (tp 1)) 32,
  rq 12 (.buildSlice 36 1 #[(0, (tp 11))]) 36,
  rq 4 (.assign (tp 12)) 36]
def c42_2 : RC := .reg [] o42_2
def c42_3 : RC := .seq c42_2 .ret
def c42_4 : RC := .cond (tp 10) c42_3 .skip
def c42_5 : RC := .seq c42_1 c42_4
def o42_6 : List ROp := [
  rq 5 (.assign (.const (.slice none 0 0))) 36]
def c42_6 : RC := .reg [] o42_6
def o42_7 : List ROp := [
  rq 6 (.assign (ki 0)) 3]
def c42_7 : RC := .reg [] o42_7
def o42_8 : List ROp := [
  rq 13 (.move (tp 6)) 3,
  rq 14 (.move (tp 0)) 3,
  rq 15 (.binOp .lss 3 (tp 13) (tp 14) 3) 4]
def c42_8 : RC := .reg [] o42_8
def c42_9 : RC := .cond (tp 15) .skip (.exit 0)
def c42_10 : RC := .seq c42_8 c42_9
def o42_11 : List ROp := [
  rq 18 (.move (tp 1)) 32,
  rq 19 (.move (tp 6)) 3,
  rq 20 (cf 62 #[(tp 18), (tp 19)] #[32, 3]) 4,
  rq 21 (.unOp .not 4 (tp 20)) 4]
def c42_11 : RC := .reg [] o42_11
def o42_12 : List ROp := [
  rq 22 (.move (tp 5)) 36,
  rq 23 (.move (tp 0)) 3,
  rq 24 (.buildSlice 32 0 #[]) 32,
  rq 25 (.move (tp 1)) 32,
  rq 26 (cb .append #[(tp 24), (tp 25)] #[32, 32]) 32,
  rq 27 (.move (tp 6)) 3,
  rq 28 (.buildSlice 32 1 #[(0, (tp 27))]) 32,
  rq 29 (cb .append #[(tp 26), (tp 28)] #[32, 32]) 32,
  rq 30 (cf 42 #[(tp 23), (tp 29)] #[3, 32]) 36,
  rq 31 (cb .append #[(tp 22), (tp 30)] #[36, 36]) 36,
  rq 5 (.assign (tp 31)) 36]
def c42_12 : RC := .reg [] o42_12
def c42_13 : RC := .cond (tp 21) c42_12 .skip
def c42_14 : RC := .seq c42_11 c42_13
def c42_15 : RC := .block 1 c42_14
def o42_16 : List ROp := [
  rq 16 (.move (tp 6)) 3,
  rq 17 (.binOp .add 3 (tp 16) (ki 1) 3) 3,
  rq 6 (.assign (tp 17)) 3]
def c42_16 : RC := .reg [] o42_16
def c42_17 : RC := .seq c42_15 c42_16
def c42_18 : RC := .seq c42_10 c42_17
def c42_19 : RC := .loop c42_18
def c42_20 : RC := .block 0 c42_19
def c42_21 : RC := .seq c42_7 c42_20
def o42_22 : List ROp := [
  rq 32 (.move (tp 5)) 36,
  rq 4 (.assign (tp 32)) 36]
def c42_22 : RC := .reg [] o42_22
def c42_23 : RC := .seq c42_22 .ret
def c42_24 : RC := .seq c42_21 c42_23
def c42_25 : RC := .seq c42_6 c42_24
def c42_26 : RC := .seq c42_5 c42_25
def c42_27 : RC := .seq c42_0 c42_26
def o43_0 : List ROp := [
  rq 4 (.assign (.const (.slice none 0 0))) 32]
def c43_0 : RC := .reg [] o43_0
def o43_1 : List ROp := [
  rq 7 (.move (tp 0)) 3,
  rq 8 (.makeSlice 32 (tp 7) (tp 7)) 32,
  rq 5 (.assign (tp 8)) 32]
def c43_1 : RC := .reg [] o43_1
def o43_2 : List ROp := [
  rq 9 (.move (tp 5)) 32,
  rq 10 (cb .len #[(tp 9)] #[32]) 3,
  rq 11 (.move (ki 0)) 3]
def c43_2 : RC := .reg [] o43_2
def o43_3 : List ROp := [
  rq 12 (.binOp .lss 3 (tp 11) (tp 10) 3) 0]
def c43_3 : RC := .reg [] o43_3
def c43_4 : RC := .cond (tp 12) .skip (.exit 0)
def o43_5 : List ROp := [
  rq 13 (.move (tp 11)) 3,
  rq 6 (.assign (tp 13)) 3]
def c43_5 : RC := .reg [] o43_5
def o43_6 : List ROp := [
  rq 14 (.move (tp 5)) 32,
  rq 15 (.move (tp 6)) 3,
  rq 16 (.move (tp 1)) 3,
  rq 17 (.move (tp 0)) 3,
  rq 18 (.binOp .sub 3 (tp 17) (ki 1) 3) 3,
  rq 19 (.move (tp 6)) 3,
  rq 20 (.binOp .sub 3 (tp 18) (tp 19) 3) 3,
  rq 21 (.binOp .shr 3 (tp 16) (tp 20) 3) 3,
  rq 22 (.binOp .and 3 (tp 21) (ki 1) 3) 3,
  rq 23 (.indexAddr 32 (tp 14) (tp 15)) 0,
  rn (.store 3 (tp 23) (tp 22)) 0]
def c43_6 : RC := .reg [] o43_6
def c43_7 : RC := .seq c43_5 c43_6
def c43_8 : RC := .block 1 c43_7
def o43_9 : List ROp := [
  rq 24 (.binOp .add 3 (tp 11) (ki 1) 3) 3,
  rq 11 (.move (tp 24)) 3]
def c43_9 : RC := .reg [] o43_9
def c43_10 : RC := .seq c43_8 c43_9
def c43_11 : RC := .seq c43_4 c43_10
def c43_12 : RC := .seq c43_3 c43_11
def c43_13 : RC := .loop c43_12
def c43_14 : RC := .block 0 c43_13
def c43_15 : RC := .seq c43_2 c43_14
def o43_16 : List ROp := [
  rq 25 (.move (tp 5)) 32,
  rq 4 (.assign (tp 25)) 32]
def c43_16 : RC := .reg [] o43_16
def c43_17 : RC := .seq c43_16 .ret
def c43_18 : RC := .seq c43_15 c43_17
def c43_19 : RC := .seq c43_1 c43_18
def c43_20 : RC := .seq c43_0 c43_19
def o44_0 : List ROp := [
  rq 2 (.assign (kb false)) 4]
def c44_0 : RC := .reg [] o44_0
def o44_1 : List ROp := [
  rq 3 (.assign (ki 1)) 3]
def c44_1 : RC := .reg [] o44_1
def o44_2 : List ROp := [
  rq 4 (.move (tp 3)) 3,
  rq 5 (.move (tp 0)) 32,
  rq 6 (cb .len #[(tp 5)] #[32]) 3,
  rq 7 (.binOp .lss 3 (tp 4) (tp 6) 3) 4]
def c44_2 : RC := .reg [] o44_2
def c44_3 : RC := .cond (tp 7) .skip (.exit 0)
def c44_4 : RC := .seq c44_2 c44_3
def o44_5 : List ROp := [
  rq 10 (.move (tp 0)) 32,
  rq 11 (.move (tp 3)) 3,
  rq 12 (.indexAddr 32 (tp 10) (tp 11)) 0,
  rq 13 (.load 3 (tp 12)) 3,
  rq 14 (.move (tp 0)) 32,
  rq 15 (.move (tp 3)) 3,
  rq 16 (.binOp .sub 3 (tp 15) (ki 1) 3) 3,
  rq 17 (.indexAddr 32 (tp 14) (tp 16)) 0,
  rq 18 (.load 3 (tp 17)) 3,
  rq 19 (.binOp .lss 3 (tp 13) (tp 18) 3) 4]
def c44_5 : RC := .reg [0, 1, 2, 3, 4, 5, 6, 7, 8, 9] o44_5
def o44_6 : List ROp := [
  rq 2 (.assign (kb false)) 4]
def c44_6 : RC := .reg [] o44_6
def c44_7 : RC := .seq c44_6 .ret
def c44_8 : RC := .cond (tp 19) c44_7 .skip
def c44_9 : RC := .seq c44_5 c44_8
def c44_10 : RC := .block 1 c44_9
def o44_11 : List ROp := [
  rq 8 (.move (tp 3)) 3,
  rq 9 (.binOp .add 3 (tp 8) (ki 1) 3) 3,
  rq 3 (.assign (tp 9)) 3]
def c44_11 : RC := .reg [] o44_11
def c44_12 : RC := .seq c44_10 c44_11
def c44_13 : RC := .seq c44_4 c44_12
def c44_14 : RC := .loop c44_13
def c44_15 : RC := .block 0 c44_14
def c44_16 : RC := .seq c44_1 c44_15
def o44_17 : List ROp := [
  rq 2 (.assign (kb true)) 4]
def c44_17 : RC := .reg [] o44_17
def c44_18 : RC := .seq c44_17 .ret
def c44_19 : RC := .seq c44_16 c44_18
def c44_20 : RC := .seq c44_0 c44_19
def o45_0 : List ROp := [
  rq 3 (.box 27 (tp 0)) 0,
  rq 6 (.assign (.const (.slice none 0 0))) 32]
def c45_0 : RC := .reg [] o45_0
def o45_1 : List ROp := [
  rq 11 (.buildSlice 32 0 #[]) 32,
  rq 12 (.move (tp 1)) 32,
  rq 13 (cb .append #[(tp 11), (tp 12)] #[32, 32]) 32,
  rq 7 (.assign (tp 13)) 32]
def c45_1 : RC := .reg [] o45_1
def o45_2 : List ROp := [
  rq 8 (.assign (ki 0)) 3]
def c45_2 : RC := .reg [] o45_2
def o45_3 : List ROp := [
  rq 14 (.move (tp 8)) 3,
  rq 15 (.fieldAddr 27 (tp 3) 1) 0,
  rq 16 (.load 22 (tp 15)) 22,
  rq 17 (cb .len #[(tp 16)] #[22]) 3,
  rq 18 (.binOp .lss 3 (tp 14) (tp 17) 3) 4]
def c45_3 : RC := .reg [] o45_3
def c45_4 : RC := .cond (tp 18) .skip (.exit 0)
def c45_5 : RC := .seq c45_3 c45_4
def o45_6 : List ROp := [
  rq 21 (.fieldAddr 27 (tp 3) 1) 0,
  rq 22 (.load 22 (tp 21)) 22,
  rq 23 (.move (tp 8)) 3,
  rq 24 (.indexAddr 22 (tp 22) (tp 23)) 0,
  rq 25 (.indexAddr 50 (tp 24) (ki 0)) 0,
  rq 26 (.load 3 (tp 25)) 3,
  rq 27 (.fieldAddr 27 (tp 3) 1) 0,
  rq 28 (.load 22 (tp 27)) 22,
  rq 29 (.move (tp 8)) 3,
  rq 30 (.indexAddr 22 (tp 28) (tp 29)) 0,
  rq 31 (.indexAddr 50 (tp 30) (ki 1)) 0,
  rq 32 (.load 3 (tp 31)) 3,
  rq 9 (.assign (tp 26)) 3,
  rq 10 (.assign (tp 32)) 3]
def c45_6 : RC := .reg [0, 1, 2, 3, 4, 5, 6, 7, 8, 9, 10, 11, 12, 13] o45_6
def o45_7 : List ROp := [
  rq 33 (.move (tp 8)) 3,
  rq 34 (.move (tp 2)) 3,
  rq 35 (.binOp .neq 3 (tp 33) (tp 34) 3) 4,
  rq 36 (.move (tp 35)) 4,
  rg 37 (.move (tp 7)) 32 36 true,
  rg 38 (.move (tp 9)) 3 36 true,
  rg 39 (.indexAddr 32 (tp 37) (tp 38)) 0 36 true,
  rg 40 (.load 3 (tp 39)) 3 36 true,
  rg 41 (.move (tp 7)) 32 36 true,
  rg 42 (.move (tp 10)) 3 36 true,
  rg 43 (.indexAddr 32 (tp 41) (tp 42)) 0 36 true,
  rg 44 (.load 3 (tp 43)) 3 36 true,
  rg 45 (.binOp .gtr 3 (tp 40) (tp 44) 3) 4 36 true,
  rq 46 (.pick (tp 36) (tp 45) (kb false)) 4]
def c45_7 : RC := .reg [0, 1, 2, 3, 4, 5, 6, 7, 8, 9, 10, 11, 12, 13] o45_7
def o45_8 : List ROp := [
  rq 47 (.move (tp 7)) 32,
  rq 48 (.move (tp 9)) 3,
  rq 49 (.move (tp 7)) 32,
  rq 50 (.move (tp 10)) 3,
  rq 51 (.move (tp 7)) 32,
  rq 52 (.move (tp 10)) 3,
  rq 53 (.indexAddr 32 (tp 51) (tp 52)) 0,
  rq 54 (.load 3 (tp 53)) 3,
  rq 55 (.move (tp 7)) 32,
  rq 56 (.move (tp 9)) 3,
  rq 57 (.indexAddr 32 (tp 55) (tp 56)) 0,
  rq 58 (.load 3 (tp 57)) 3,
  rq 59 (.indexAddr 32 (tp 47) (tp 48)) 0,
  rn (.store 3 (tp 59) (tp 54)) 0,
  rq 60 (.indexAddr 32 (tp 49) (tp 50)) 0,
  rn (.store 3 (tp 60) (tp 58)) 0]
def c45_8 : RC := .reg [0, 1, 2, 3, 4, 5, 6, 7, 8, 9, 10, 11, 12, 13, 14, 15] o45_8
def c45_9 : RC := .cond (tp 46) c45_8 .skip
def c45_10 : RC := .seq c45_7 c45_9
def c45_11 : RC := .seq c45_6 c45_10
def c45_12 : RC := .block 1 c45_11
def o45_13 : List ROp := [
  rq 19 (.move (tp 8)) 3,
  rq 20 (.binOp .add 3 (tp 19) (ki 1) 3) 3,
  rq 8 (.assign (tp 20)) 3]
def c45_13 : RC := .reg [] o45_13
def c45_14 : RC := .seq c45_12 c45_13
def c45_15 : RC := .seq c45_5 c45_14
def c45_16 : RC := .loop c45_15
def c45_17 : RC := .block 0 c45_16
def c45_18 : RC := .seq c45_2 c45_17
def o45_19 : List ROp := [
  rq 61 (.move (tp 7)) 32,
  rq 6 (.assign (tp 61)) 32]
def c45_19 : RC := .reg [] o45_19
def c45_20 : RC := .seq c45_19 .ret
def c45_21 : RC := .seq c45_18 c45_20
def c45_22 : RC := .seq c45_1 c45_21
def c45_23 : RC := .seq c45_0 c45_22
def o46_0 : List ROp := [
  rq 4 (.assign (.const (.slice none 0 0))) 32]
def c46_0 : RC := .reg [] o46_0
def o46_1 : List ROp := [
  rq 7 (.move (tp 0)) 3,
  rq 8 (.makeSlice 32 (tp 7) (tp 7)) 32,
  rq 5 (.assign (tp 8)) 32]
def c46_1 : RC := .reg [] o46_1
def o46_2 : List ROp := [
  rq 6 (.assign (ki 0)) 3]
def c46_2 : RC := .reg [] o46_2
def o46_3 : List ROp := [
  rq 9 (.move (tp 6)) 3,
  rq 10 (.move (tp 0)) 3,
  rq 11 (.binOp .lss 3 (tp 9) (tp 10) 3) 4]
def c46_3 : RC := .reg [] o46_3
def c46_4 : RC := .cond (tp 11) .skip (.exit 0)
def c46_5 : RC := .seq c46_3 c46_4
def o46_6 : List ROp := [
  rq 14 (.move (tp 5)) 32,
  rq 15 (.move (tp 6)) 3,
  rq 16 (.move (tp 1)) 3,
  rq 17 (.move (tp 0)) 3,
  rq 18 (.binOp .sub 3 (tp 17) (ki 1) 3) 3,
  rq 19 (.move (tp 6)) 3,
  rq 20 (.binOp .sub 3 (tp 18) (tp 19) 3) 3,
  rq 21 (.binOp .shr 3 (tp 16) (tp 20) 3) 3,
  rq 22 (.binOp .and 3 (tp 21) (ki 1) 3) 3,
  rq 23 (.indexAddr 32 (tp 14) (tp 15)) 0,
  rn (.store 3 (tp 23) (tp 22)) 0]
def c46_6 : RC := .reg [] o46_6
def c46_7 : RC := .block 1 c46_6
def o46_8 : List ROp := [
  rq 12 (.move (tp 6)) 3,
  rq 13 (.binOp .add 3 (tp 12) (ki 1) 3) 3,
  rq 6 (.assign (tp 13)) 3]
def c46_8 : RC := .reg [] o46_8
def c46_9 : RC := .seq c46_7 c46_8
def c46_10 : RC := .seq c46_5 c46_9
def c46_11 : RC := .loop c46_10
def c46_12 : RC := .block 0 c46_11
def c46_13 : RC := .seq c46_2 c46_12
def o46_14 : List ROp := [
  rq 24 (.move (tp 5)) 32,
  rq 4 (.assign (tp 24)) 32]
def c46_14 : RC := .reg [] o46_14
def c46_15 : RC := .seq c46_14 .ret
def c46_16 : RC := .seq c46_13 c46_15
def c46_17 : RC := .seq c46_1 c46_16
def c46_18 : RC := .seq c46_0 c46_17
def o47_0 : List ROp := [
  rq 2 (.box 73 (tp 0)) 0,
  rq 4 (.assign (.const (.slice none 0 0))) 32]
def c47_0 : RC := .reg [] o47_0
def o47_1 : List ROp := [
  rq 8 (.move (tp 1)) 3,
  rq 9 (.binOp .shl 3 (ki 1) (tp 8) 3) 3,
  rq 10 (.makeSlice 32 (tp 9) (tp 9)) 32,
  rq 5 (.assign (tp 10)) 32]
def c47_1 : RC := .reg [] o47_1
def o47_2 : List ROp := [
  rq 11 (.move (tp 5)) 32,
  rq 12 (cb .len #[(tp 11)] #[32]) 3,
  rq 13 (.move (ki 0)) 3]
def c47_2 : RC := .reg [] o47_2
def o47_3 : List ROp := [
  rq 14 (.binOp .lss 3 (tp 13) (tp 12) 3) 0]
def c47_3 : RC := .reg [] o47_3
def c47_4 : RC := .cond (tp 14) .skip (.exit 0)
def o47_5 : List ROp := [
  rq 15 (.move (tp 13)) 3,
  rq 6 (.assign (tp 15)) 3]
def c47_5 : RC := .reg [] o47_5
def o47_6 : List ROp := [
  rq 16 (.move (tp 1)) 3,
  rq 17 (.move (ki 0)) 3]
def c47_6 : RC := .reg [] o47_6
def o47_7 : List ROp := [
  rq 18 (.binOp .lss 3 (tp 17) (tp 16) 3) 4]
def c47_7 : RC := .reg [] o47_7
def c47_8 : RC := .cond (tp 18) .skip (.exit 2)
def o47_9 : List ROp := [
  rq 19 (.move (tp 17)) 3,
  rq 7 (.assign (tp 19)) 3]
def c47_9 : RC := .reg [] o47_9
def o47_10 : List ROp := [
  rq 20 (.move (tp 5)) 32,
  rq 21 (.move (tp 6)) 3,
  rq 22 (.move (tp 5)) 32,
  rq 23 (.move (tp 6)) 3,
  rq 24 (.indexAddr 32 (tp 22) (tp 23)) 0,
  rq 25 (.load 3 (tp 24)) 3,
  rq 26 (.binOp .shl 3 (tp 25) (.const (.int .u64 1)) 54) 3,
  rq 27 (.move (tp 7)) 3,
  rq 28 (.move (tp 6)) 3,
  rq 29 (.binOp .quo 3 (tp 28) (ki 64) 3) 3,
  rq 30 (.indexAddr 73 (tp 2) (tp 27)) 0,
  rq 31 (.indexAddr 71 (tp 30) (tp 29)) 0,
  rq 32 (.load 70 (tp 31)) 70,
  rq 33 (.move (tp 6)) 3,
  rq 34 (.binOp .rem 3 (tp 33) (ki 64) 3) 3,
  rq 35 (.binOp .shr 70 (tp 32) (tp 34) 3) 70,
  rq 36 (.binOp .and 70 (tp 35) (.const (.int .u64 1)) 70) 70,
  rq 37 (.convert 70 3 (tp 36)) 3,
  rq 38 (.binOp .or 3 (tp 26) (tp 37) 3) 3,
  rq 39 (.indexAddr 32 (tp 20) (tp 21)) 0,
  rn (.store 3 (tp 39) (tp 38)) 0]
def c47_10 : RC := .reg [0, 1, 2, 3, 4, 5, 6, 7, 8, 9, 10, 11, 12, 13, 14, 15, 16, 17, 18, 19, 20] o47_10
def c47_11 : RC := .seq c47_9 c47_10
def c47_12 : RC := .block 3 c47_11
def o47_13 : List ROp := [
  rq 40 (.binOp .add 3 (tp 17) (ki 1) 3) 3,
  rq 17 (.move (tp 40)) 3]
def c47_13 : RC := .reg [] o47_13
def c47_14 : RC := .seq c47_12 c47_13
def c47_15 : RC := .seq c47_8 c47_14
def c47_16 : RC := .seq c47_7 c47_15
def c47_17 : RC := .loop c47_16
def c47_18 : RC := .block 2 c47_17
def c47_19 : RC := .seq c47_6 c47_18
def c47_20 : RC := .seq c47_5 c47_19
def c47_21 : RC := .block 1 c47_20
def o47_22 : List ROp := [
  rq 41 (.binOp .add 3 (tp 13) (ki 1) 3) 3,
  rq 13 (.move (tp 41)) 3]
def c47_22 : RC := .reg [] o47_22
def c47_23 : RC := .seq c47_21 c47_22
def c47_24 : RC := .seq c47_4 c47_23
def c47_25 : RC := .seq c47_3 c47_24
def c47_26 : RC := .loop c47_25
def c47_27 : RC := .block 0 c47_26
def c47_28 : RC := .seq c47_2 c47_27
def o47_29 : List ROp := [
  rq 42 (.move (tp 5)) 32,
  rq 4 (.assign (tp 42)) 32]
def c47_29 : RC := .reg [] o47_29
def c47_30 : RC := .seq c47_29 .ret
def c47_31 : RC := .seq c47_28 c47_30
def c47_32 : RC := .seq c47_1 c47_31
def c47_33 : RC := .seq c47_0 c47_32
def o49_0 : List ROp := [
  rq 4 (.assign (kb false)) 4]
def c49_0 : RC := .reg [] o49_0
def o49_1 : List ROp := [
  rq 5 (.assign (ki 0)) 3]
def c49_1 : RC := .reg [] o49_1
def o49_2 : List ROp := [
  rq 6 (.move (tp 5)) 3,
  rq 7 (.move (tp 0)) 32,
  rq 8 (cb .len #[(tp 7)] #[32]) 3,
  rq 9 (.binOp .lss 3 (tp 6) (tp 8) 3) 4]
def c49_2 : RC := .reg [] o49_2
def c49_3 : RC := .cond (tp 9) .skip (.exit 0)
def c49_4 : RC := .seq c49_2 c49_3
def o49_5 : List ROp := [
  rq 12 (.move (tp 0)) 32,
  rq 13 (.move (tp 5)) 3,
  rq 14 (.indexAddr 32 (tp 12) (tp 13)) 0,
  rq 15 (.load 3 (tp 14)) 3,
  rq 16 (.move (tp 1)) 32,
  rq 17 (.move (tp 5)) 3,
  rq 18 (.indexAddr 32 (tp 16) (tp 17)) 0,
  rq 19 (.load 3 (tp 18)) 3,
  rq 20 (.binOp .neq 3 (tp 15) (tp 19) 3) 4]
def c49_5 : RC := .reg [0, 1, 2, 3, 4, 5, 6, 7, 8] o49_5
def o49_6 : List ROp := [
  rq 4 (.assign (kb false)) 4]
def c49_6 : RC := .reg [] o49_6
def c49_7 : RC := .seq c49_6 .ret
def c49_8 : RC := .cond (tp 20) c49_7 .skip
def c49_9 : RC := .seq c49_5 c49_8
def c49_10 : RC := .block 1 c49_9
def o49_11 : List ROp := [
  rq 10 (.move (tp 5)) 3,
  rq 11 (.binOp .add 3 (tp 10) (ki 1) 3) 3,
  rq 5 (.assign (tp 11)) 3]
def c49_11 : RC := .reg [] o49_11
def c49_12 : RC := .seq c49_10 c49_11
def c49_13 : RC := .seq c49_4 c49_12
def c49_14 : RC := .loop c49_13
def c49_15 : RC := .block 0 c49_14
def c49_16 : RC := .seq c49_1 c49_15
def o49_17 : List ROp := [
  rq 4 (.assign (kb true)) 4]
def c49_17 : RC := .reg [] o49_17
def c49_18 : RC := .seq c49_17 .ret
def c49_19 : RC := .seq c49_16 c49_18
def c49_20 : RC := .seq c49_0 c49_19
def o50_0 : List ROp := [
  rq 1 (.box 24 (tp 0)) 0,
  rq 2 (.assign (ki 0)) 28]
def c50_0 : RC := .reg [] o50_0
def o50_1 : List ROp := [
  rq 6 (.fieldAddr 24 (tp 1) 0) 0,
  rq 7 (.load 3 (tp 6)) 3,
  rq 8 (cf 56 #[(ki 1), (tp 7), (ki 7)] #[3, 3, 3]) 4,
  rq 9 (.unOp .not 4 (tp 8)) 4,
  rq 5 (.assign (tp 9)) 4]
def c50_1 : RC := .reg [] o50_1
def o50_2 : List ROp := [
  rq 2 (.assign (ki 1)) 28]
def c50_2 : RC := .reg [] o50_2
def c50_3 : RC := .seq c50_2 .ret
def o50_4 : List ROp := [
  rq 11 (.fieldAddr 24 (tp 1) 1) 0,
  rq 12 (.load 22 (tp 11)) 22,
  rq 13 (cb .len #[(tp 12)] #[22]) 3,
  rq 14 (.binOp .gtr 3 (tp 13) (ki 24) 3) 4,
  rq 10 (.assign (tp 14)) 4]
def c50_4 : RC := .reg [] o50_4
def o50_5 : List ROp := [
  rq 2 (.assign (ki 3)) 28]
def c50_5 : RC := .reg [] o50_5
def c50_6 : RC := .seq c50_5 .ret
def c50_7 : RC := .cond (tp 10) c50_6 .skip
def c50_8 : RC := .seq c50_4 c50_7
def c50_9 : RC := .cond (tp 5) c50_3 c50_8
def c50_10 : RC := .seq c50_1 c50_9
def c50_11 : RC := .block 0 c50_10
def o50_12 : List ROp := [
  rq 15 (.fieldAddr 24 (tp 1) 1) 0,
  rq 16 (.load 22 (tp 15)) 22,
  rq 17 (cb .len #[(tp 16)] #[22]) 3,
  rq 18 (.move (ki 0)) 3]
def c50_12 : RC := .reg [] o50_12
def o50_13 : List ROp := [
  rq 19 (.binOp .lss 3 (tp 18) (tp 17) 3) 0]
def c50_13 : RC := .reg [] o50_13
def c50_14 : RC := .cond (tp 19) .skip (.exit 1)
def o50_15 : List ROp := [
  rq 20 (.indexAddr 22 (tp 16) (tp 18)) 0,
  rq 21 (.load 50 (tp 20)) 50,
  rq 4 (.alloc 50) 0,
  rn (.store 50 (tp 4) (tp 21)) 0]
def c50_15 : RC := .reg [] o50_15
def o50_16 : List ROp := [
  rq 23 (.indexAddr 50 (tp 4) (ki 0)) 0,
  rq 24 (.load 3 (tp 23)) 3,
  rq 25 (.indexAddr 50 (tp 4) (ki 1)) 0,
  rq 26 (.load 3 (tp 25)) 3,
  rq 27 (cb .min #[(tp 24), (tp 26)] #[3, 3]) 3,
  rq 28 (.binOp .lss 3 (tp 27) (ki 0) 3) 4,
  rq 29 (.move (tp 28)) 4,
  rg 30 (.indexAddr 50 (tp 4) (ki 0)) 0 29 false,
  rg 31 (.load 3 (tp 30)) 3 29 false,
  rg 32 (.indexAddr 50 (tp 4) (ki 1)) 0 29 false,
  rg 33 (.load 3 (tp 32)) 3 29 false,
  rg 34 (cb .max #[(tp 31), (tp 33)] #[3, 3]) 3 29 false,
  rg 35 (.fieldAddr 24 (tp 1) 0) 0 29 false,
  rg 36 (.load 3 (tp 35)) 3 29 false,
  rg 37 (.binOp .geq 3 (tp 34) (tp 36) 3) 4 29 false,
  rq 38 (.pick (tp 29) (kb true) (tp 37)) 4,
  rq 22 (.assign (tp 38)) 4]
def c50_16 : RC := .reg [] o50_16
def o50_17 : List ROp := [
  rq 2 (.assign (ki 2)) 28]
def c50_17 : RC := .reg [] o50_17
def c50_18 : RC := .seq c50_17 .ret
def o50_19 : List ROp := [
  rq 40 (.indexAddr 50 (tp 4) (ki 0)) 0,
  rq 41 (.load 3 (tp 40)) 3,
  rq 42 (.indexAddr 50 (tp 4) (ki 1)) 0,
  rq 43 (.load 3 (tp 42)) 3,
  rq 44 (.binOp .geq 3 (tp 41) (tp 43) 3) 4,
  rq 39 (.assign (tp 44)) 4]
def c50_19 : RC := .reg [] o50_19
def o50_20 : List ROp := [
  rq 2 (.assign (ki 7)) 28]
def c50_20 : RC := .reg [] o50_20
def c50_21 : RC := .seq c50_20 .ret
def c50_22 : RC := .cond (tp 39) c50_21 .skip
def c50_23 : RC := .seq c50_19 c50_22
def c50_24 : RC := .cond (tp 22) c50_18 c50_23
def c50_25 : RC := .seq c50_16 c50_24
def c50_26 : RC := .block 3 c50_25
def c50_27 : RC := .seq c50_15 c50_26
def c50_28 : RC := .block 2 c50_27
def o50_29 : List ROp := [
  rq 45 (.binOp .add 3 (tp 18) (ki 1) 3) 3,
  rq 18 (.move (tp 45)) 3]
def c50_29 : RC := .reg [] o50_29
def c50_30 : RC := .seq c50_28 c50_29
def c50_31 : RC := .seq c50_14 c50_30
def c50_32 : RC := .seq c50_13 c50_31
def c50_33 : RC := .loop c50_32
def c50_34 : RC := .block 1 c50_33
def c50_35 : RC := .seq c50_12 c50_34
def o50_36 : List ROp := [
  rq 2 (.assign (ki 0)) 28]
def c50_36 : RC := .reg [] o50_36
def c50_37 : RC := .seq c50_36 .ret
def c50_38 : RC := .seq c50_35 c50_37
def c50_39 : RC := .seq c50_11 c50_38
def c50_40 : RC := .seq c50_0 c50_39
def o51_0 : List ROp := [
  rq 2 (.alloc 73) 0]
def c51_0 : RC := .reg [] o51_0
def o51_1 : List ROp := [
  rq 3 (.alloc 73) 0]
def c51_1 : RC := .reg [] o51_1
def o51_2 : List ROp := [
  rq 6 (.move (tp 0)) 3,
  rq 7 (.binOp .shl 3 (ki 1) (tp 6) 3) 3,
  rq 8 (.move (ki 0)) 3]
def c51_2 : RC := .reg [] o51_2
def o51_3 : List ROp := [
  rq 9 (.binOp .lss 3 (tp 8) (tp 7) 3) 4]
def c51_3 : RC := .reg [] o51_3
def c51_4 : RC := .cond (tp 9) .skip (.exit 0)
def o51_5 : List ROp := [
  rq 10 (.move (tp 8)) 3,
  rq 4 (.assign (tp 10)) 3]
def c51_5 : RC := .reg [] o51_5
def o51_6 : List ROp := [
  rq 11 (.move (tp 0)) 3,
  rq 12 (.move (ki 0)) 3]
def c51_6 : RC := .reg [] o51_6
def o51_7 : List ROp := [
  rq 13 (.binOp .lss 3 (tp 12) (tp 11) 3) 4]
def c51_7 : RC := .reg [] o51_7
def c51_8 : RC := .cond (tp 13) .skip (.exit 2)
def o51_9 : List ROp := [
  rq 14 (.move (tp 12)) 3,
  rq 5 (.assign (tp 14)) 3]
def c51_9 : RC := .reg [] o51_9
def o51_10 : List ROp := [
  rq 15 (.move (tp 5)) 3,
  rq 16 (.move (tp 4)) 3,
  rq 17 (.binOp .quo 3 (tp 16) (ki 64) 3) 3,
  rq 18 (.indexAddr 73 (tp 3) (tp 15)) 0,
  rq 19 (.indexAddr 71 (tp 18) (tp 17)) 0,
  rq 20 (.load 70 (tp 19)) 70,
  rq 21 (.move (tp 4)) 3,
  rq 22 (.move (tp 0)) 3,
  rq 23 (.binOp .sub 3 (tp 22) (ki 1) 3) 3,
  rq 24 (.move (tp 5)) 3,
  rq 25 (.binOp .sub 3 (tp 23) (tp 24) 3) 3,
  rq 26 (.binOp .shr 3 (tp 21) (tp 25) 3) 3,
  rq 27 (.binOp .and 3 (tp 26) (ki 1) 3) 3,
  rq 28 (.convert 3 70 (tp 27)) 70,
  rq 29 (.move (tp 4)) 3,
  rq 30 (.binOp .rem 3 (tp 29) (ki 64) 3) 3,
  rq 31 (.binOp .shl 70 (tp 28) (tp 30) 3) 70,
  rq 32 (.binOp .or 70 (tp 20) (tp 31) 70) 70,
  rq 33 (.indexAddr 73 (tp 3) (tp 15)) 0,
  rq 34 (.indexAddr 71 (tp 33) (tp 17)) 0,
  rn (.store 70 (tp 34) (tp 32)) 0]
def c51_10 : RC := .reg [0, 1, 2, 3, 4, 5, 6, 7, 8, 9, 10, 11, 12, 13, 14, 15, 16, 17, 18, 19, 20] o51_10
def c51_11 : RC := .seq c51_9 c51_10
def c51_12 : RC := .block 3 c51_11
def o51_13 : List ROp := [
  rq 35 (.binOp .add 3 (tp 12) (ki 1) 3) 3,
  rq 12 (.move (tp 35)) 3]
def c51_13 : RC := .reg [] o51_13
def c51_14 : RC := .seq c51_12 c51_13
def c51_15 : RC := .seq c51_8 c51_14
def c51_16 : RC := .seq c51_7 c51_15
def c51_17 : RC := .loop c51_16
def c51_18 : RC := .block 2 c51_17
def c51_19 : RC := .seq c51_6 c51_18
def c51_20 : RC := .seq c51_5 c51_19
def c51_21 : RC := .block 1 c51_20
def o51_22 : List ROp := [
  rq 36 (.binOp .add 3 (tp 8) (ki 1) 3) 3,
  rq 8 (.move (tp 36)) 3]
def c51_22 : RC := .reg [] o51_22
def c51_23 : RC := .seq c51_21 c51_22
def c51_24 : RC := .seq c51_4 c51_23
def c51_25 : RC := .seq c51_3 c51_24
def c51_26 : RC := .loop c51_25
def c51_27 : RC := .block 0 c51_26
def c51_28 : RC := .seq c51_2 c51_27
def o51_29 : List ROp := [
  rq 37 (.load 73 (tp 3)) 73,
  rn (.store 73 (tp 2) (tp 37)) 0]
def c51_29 : RC := .reg [] o51_29
def c51_30 : RC := .seq c51_29 .ret
def c51_31 : RC := .seq c51_28 c51_30
def c51_32 : RC := .seq c51_1 c51_31
def c51_33 : RC := .seq c51_0 c51_32
def o52_0 : List ROp := [
  rq 2 (.box 73 (tp 0)) 0,
  rq 3 (.box 50 (tp 1)) 0,
  rq 4 (.alloc 73) 0]
def c52_0 : RC := .reg [] o52_0
def o52_1 : List ROp := [
  rq 8 (.move (ki 0)) 3]
def c52_1 : RC := .reg [] o52_1
def o52_2 : List ROp := [
  rq 9 (.binOp .lss 3 (tp 8) (ki 2) 3) 0]
def c52_2 : RC := .reg [] o52_2
def c52_3 : RC := .cond (tp 9) .skip (.exit 0)
def o52_4 : List ROp := [
  rq 10 (.move (tp 8)) 3,
  rq 5 (.assign (tp 10)) 3]
def c52_4 : RC := .reg [] o52_4
def o52_5 : List ROp := [
  rq 11 (.indexAddr 50 (tp 3) (ki 0)) 0,
  rq 12 (.load 3 (tp 11)) 3,
  rq 13 (.move (tp 5)) 3,
  rq 14 (.indexAddr 73 (tp 2) (tp 12)) 0,
  rq 15 (.indexAddr 71 (tp 14) (tp 13)) 0,
  rq 16 (.load 70 (tp 15)) 70,
  rq 17 (.indexAddr 50 (tp 3) (ki 1)) 0,
  rq 18 (.load 3 (tp 17)) 3,
  rq 19 (.move (tp 5)) 3,
  rq 20 (.indexAddr 73 (tp 2) (tp 18)) 0,
  rq 21 (.indexAddr 71 (tp 20) (tp 19)) 0,
  rq 22 (.load 70 (tp 21)) 70,
  rq 6 (.assign (tp 16)) 70,
  rq 7 (.assign (tp 22)) 70]
def c52_5 : RC := .reg [0, 1, 2, 3, 4, 5, 6, 7, 8, 9, 10, 11, 12, 13] o52_5
def o52_6 : List ROp := [
  rq 23 (.indexAddr 50 (tp 3) (ki 0)) 0,
  rq 24 (.load 3 (tp 23)) 3,
  rq 25 (.move (tp 5)) 3,
  rq 26 (.indexAddr 50 (tp 3) (ki 1)) 0,
  rq 27 (.load 3 (tp 26)) 3,
  rq 28 (.move (tp 5)) 3,
  rq 29 (.move (tp 6)) 70,
  rq 30 (.move (tp 7)) 70,
  rq 31 (.binOp .and 70 (tp 29) (tp 30) 70) 70,
  rq 32 (.move (tp 6)) 70,
  rq 33 (.move (tp 7)) 70,
  rq 34 (.binOp .or 70 (tp 32) (tp 33) 70) 70,
  rq 35 (.indexAddr 73 (tp 2) (tp 24)) 0,
  rq 36 (.indexAddr 71 (tp 35) (tp 25)) 0,
  rq 37 (.indexAddr 73 (tp 2) (tp 27)) 0,
  ⟨none, .store 70 (tp 36) (tp 31), 0, none, [(tp 26)]⟩,
  rq 38 (.indexAddr 71 (tp 37) (tp 28)) 0,
  rn (.store 70 (tp 38) (tp 34)) 0]
def c52_6 : RC := .reg [0, 1, 2, 3, 4, 5, 6, 7, 8, 9, 10, 11, 12, 13, 15, 14, 16, 17] o52_6
def c52_7 : RC := .seq c52_5 c52_6
def c52_8 : RC := .seq c52_4 c52_7
def c52_9 : RC := .block 1 c52_8
def o52_10 : List ROp := [
  rq 39 (.binOp .add 3 (tp 8) (ki 1) 3) 3,
  rq 8 (.move (tp 39)) 3]
def c52_10 : RC := .reg [] o52_10
def c52_11 : RC := .seq c52_9 c52_10
def c52_12 : RC := .seq c52_3 c52_11
def c52_13 : RC := .seq c52_2 c52_12
def c52_14 : RC := .loop c52_13
def c52_15 : RC := .block 0 c52_14
def c52_16 : RC := .seq c52_1 c52_15
def o52_17 : List ROp := [
  rq 40 (.load 73 (tp 2)) 73,
  rn (.store 73 (tp 4) (tp 40)) 0]
def c52_17 : RC := .reg [] o52_17
def c52_18 : RC := .seq c52_17 .ret
def c52_19 : RC := .seq c52_16 c52_18
def c52_20 : RC := .seq c52_0 c52_19
def o53_0 : List ROp := [
  rq 2 (.box 73 (tp 0)) 0,
  rq 4 (.alloc 73) 0]
def c53_0 : RC := .reg [] o53_0
def o53_1 : List ROp := [
  rq 8 (.move (tp 1)) 22,
  rq 9 (cb .len #[(tp 8)] #[22]) 3,
  rq 10 (.move (ki 0)) 3]
def c53_1 : RC := .reg [] o53_1
def o53_2 : List ROp := [
  rq 11 (.binOp .lss 3 (tp 10) (tp 9) 3) 0]
def c53_2 : RC := .reg [] o53_2
def c53_3 : RC := .cond (tp 11) .skip (.exit 0)
def o53_4 : List ROp := [
  rq 12 (.indexAddr 22 (tp 8) (tp 10)) 0,
  rq 13 (.load 50 (tp 12)) 50,
  rq 6 (.alloc 50) 0,
  rn (.store 50 (tp 6) (tp 13)) 0]
def c53_4 : RC := .reg [] o53_4
def o53_5 : List ROp := [
  rq 14 (.load 73 (tp 2)) 73,
  rq 15 (.makeFunc (.func 52) #[(tp 14)] #[]) 86,
  rq 7 (.assign (tp 15)) 86]
def c53_5 : RC := .reg [] o53_5
def o53_6 : List ROp := [
  rq 16 (.move (tp 7)) 86,
  rq 17 (.load 50 (tp 6)) 50,
  rq 18 (.call ⟨.value (tp 16), #[(tp 17)], #[50]⟩) 73,
  rn (.store 73 (tp 2) (tp 18)) 0]
def c53_6 : RC := .reg [] o53_6
def c53_7 : RC := .seq c53_5 c53_6
def c53_8 : RC := .seq c53_4 c53_7
def c53_9 : RC := .block 1 c53_8
def o53_10 : List ROp := [
  rq 19 (.binOp .add 3 (tp 10) (ki 1) 3) 3,
  rq 10 (.move (tp 19)) 3]
def c53_10 : RC := .reg [] o53_10
def c53_11 : RC := .seq c53_9 c53_10
def c53_12 : RC := .seq c53_3 c53_11
def c53_13 : RC := .seq c53_2 c53_12
def c53_14 : RC := .loop c53_13
def c53_15 : RC := .block 0 c53_14
def c53_16 : RC := .seq c53_1 c53_15
def o53_17 : List ROp := [
  rq 20 (.load 73 (tp 2)) 73,
  rn (.store 73 (tp 4) (tp 20)) 0]
def c53_17 : RC := .reg [] o53_17
def c53_18 : RC := .seq c53_17 .ret
def c53_19 : RC := .seq c53_16 c53_18
def c53_20 : RC := .seq c53_0 c53_19
def o56_0 : List ROp := [
  rq 6 (.assign (kb false)) 4]
def c56_0 : RC := .reg [] o56_0
def o56_1 : List ROp := [
  rq 7 (.move (tp 0)) 3,
  rq 8 (.move (tp 1)) 3,
  rq 9 (.binOp .leq 3 (tp 7) (tp 8) 3) 4,
  rq 10 (.move (tp 9)) 4,
  rg 11 (.move (tp 1)) 3 10 true,
  rg 12 (.move (tp 2)) 3 10 true,
  rg 13 (.binOp .leq 3 (tp 11) (tp 12) 3) 4 10 true,
  rq 14 (.pick (tp 10) (tp 13) (kb false)) 4,
  rq 6 (.assign (tp 14)) 4]
def c56_1 : RC := .reg [] o56_1
def c56_2 : RC := .seq c56_1 .ret
def c56_3 : RC := .seq c56_0 c56_2
def o60_0 : List ROp := [
  rq 2 (.assign (ki 0)) 3]
def c60_0 : RC := .reg [] o60_0
def o60_1 : List ROp := [
  rq 3 (.move (tp 0)) 70,
  rq 4 (.binOp .eql 70 (tp 3) (.const (.int .u64 0)) 70) 4]
def c60_1 : RC := .reg [] o60_1
def o60_2 : List ROp := [
  rq 2 (.assign (ki 64)) 3]
def c60_2 : RC := .reg [] o60_2
def c60_3 : RC := .seq c60_2 .ret
def c60_4 : RC := .cond (tp 4) c60_3 .skip
def c60_5 : RC := .seq c60_1 c60_4
def o60_6 : List ROp := [
  rq 5 (.move (tp 0)) 70,
  rq 6 (.move (tp 0)) 70,
  rq 7 (.unOp .neg 70 (tp 6)) 70,
  rq 8 (.binOp .and 70 (tp 5) (tp 7) 70) 70,
  rq 9 (.binOp .mul 70 (tp 8) (.const (.int .u64 285870213051353865)) 70) 70,
  rq 10 (.binOp .shr 70 (tp 9) (.const (.int .u64 58)) 54) 70,
  rq 11 (.indexAddr 110 (.global 0) (tp 10)) 0,
  rq 12 (.load 5 (tp 11)) 5,
  rq 13 (.convert 5 3 (tp 12)) 3,
  rq 2 (.assign (tp 13)) 3]
def c60_6 : RC := .reg [] o60_6
def c60_7 : RC := .seq c60_6 .ret
def c60_8 : RC := .seq c60_5 c60_7
def c60_9 : RC := .seq c60_0 c60_8
def o61_0 : List ROp := [
  rq 6 (.assign (kb false)) 4]
def c61_0 : RC := .reg [] o61_0
def o61_1 : List ROp := [
  rq 7 (.move (tp 0)) 3,
  rq 8 (.move (tp 1)) 3,
  rq 9 (.binOp .geq 3 (tp 7) (tp 8) 3) 4,
  rq 10 (.move (tp 9)) 4,
  rg 11 (.move (tp 0)) 3 10 true,
  rg 12 (.move (tp 2)) 3 10 true,
  rg 13 (.binOp .leq 3 (tp 11) (tp 12) 3) 4 10 true,
  rq 14 (.pick (tp 10) (tp 13) (kb false)) 4,
  rq 6 (.assign (tp 14)) 4]
def c61_1 : RC := .reg [] o61_1
def c61_2 : RC := .seq c61_1 .ret
def c61_3 : RC := .seq c61_0 c61_2
def o62_0 : List ROp := [
  rq 4 (.assign (kb false)) 4]
def c62_0 : RC := .reg [] o62_0
def o62_1 : List ROp := [
  rq 5 (.assign (ki 0)) 3]
def c62_1 : RC := .reg [] o62_1
def o62_2 : List ROp := [
  rq 6 (.move (tp 5)) 3,
  rq 7 (.move (tp 0)) 32,
  rq 8 (cb .len #[(tp 7)] #[32]) 3,
  rq 9 (.binOp .lss 3 (tp 6) (tp 8) 3) 4]
def c62_2 : RC := .reg [] o62_2
def c62_3 : RC := .cond (tp 9) .skip (.exit 0)
def c62_4 : RC := .seq c62_2 c62_3
def o62_5 : List ROp := [
  rq 12 (.move (tp 0)) 32,
  rq 13 (.move (tp 5)) 3,
  rq 14 (.indexAddr 32 (tp 12) (tp 13)) 0,
  rq 15 (.load 3 (tp 14)) 3,
  rq 16 (.move (tp 1)) 3,
  rq 17 (.binOp .eql 3 (tp 15) (tp 16) 3) 4]
def c62_5 : RC := .reg [] o62_5
def o62_6 : List ROp := [
  rq 4 (.assign (kb true)) 4]
def c62_6 : RC := .reg [] o62_6
def c62_7 : RC := .seq c62_6 .ret
def c62_8 : RC := .cond (tp 17) c62_7 .skip
def c62_9 : RC := .seq c62_5 c62_8
def c62_10 : RC := .block 1 c62_9
def o62_11 : List ROp := [
  rq 10 (.move (tp 5)) 3,
  rq 11 (.binOp .add 3 (tp 10) (ki 1) 3) 3,
  rq 5 (.assign (tp 11)) 3]
def c62_11 : RC := .reg [] o62_11
def c62_12 : RC := .seq c62_10 c62_11
def c62_13 : RC := .seq c62_4 c62_12
def c62_14 : RC := .loop c62_13
def c62_15 : RC := .block 0 c62_14
def c62_16 : RC := .seq c62_1 c62_15
def o62_17 : List ROp := [
  rq 4 (.assign (kb false)) 4]
def c62_17 : RC := .reg [] o62_17
def c62_18 : RC := .seq c62_17 .ret
def c62_19 : RC := .seq c62_16 c62_18
def c62_20 : RC := .seq c62_0 c62_19
end Go.TabS
