/- Made from wip. -/
import Derived.Test.YtokbaaeimejjlaaDoorSpFramex
import Derived.Test.YtokbaaeimejjlaaDoorBkPNodesx

set_option maxRecDepth 100000
namespace Go.BkP
open Go.Sp
def c6:RC:=c6_96
def c10:RC:=c10_95
def c11:RC:=c11_19
def c12:RC:=c12_26
def c14:RC:=
 .seq (.reg [] [
  rq 2 (.box 27 (tp 0)) 0,rq 4 (.assign (.const (.slice none 0 0))) 30,rq 5 (.assign (ki 0)) 32])
 (.seq (.reg [] [
   rq 9 (.load 27 (tp 2)) 27,rq 10 (.move (tp 1)) 25,rq 11 (.buildSlice 30 1 #[(0,(tp 10))]) 30,rq 12 (cf 32 #[(tp 9),(tp 11)] #[27,30]) 62,rq 8 (.move (tp 12)) 62,rq 13 (.extract (tp 8) 0) 61,rq 14 (.extract (tp 8) 1) 32,rq 6 (.assign (tp 13)) 61,rq 7 (.assign (tp 14)) 32])
 (.seq (.seq (.reg [] [
   rq 15 (.move (tp 7)) 32,rq 16 (.binOp .neq 32 (tp 15) (ki 0) 32) 4])
 (.cond (tp 16) (.seq (.reg [] [
   rq 17 (.move (tp 7)) 32,
   rq 4 (.assign (.const (.slice none 0 0))) 30,
   rq 5 (.assign (tp 17)) 32])
  (.ret))
 (.skip)))
 (.seq (.reg [] [
   rq 18 (.move (tp 6)) 61,rq 19 (.move (tp 1)) 25,rq 20 (cf 35 #[(tp 18),(tp 19)] #[61,25]) 30,rq 4 (.assign (tp 20)) 30,rq 5 (.assign (ki 0)) 32])
 (.ret))))
def c15:RC:=
 .seq (.reg [] [
  rq 2 (.box 27 (tp 0)) 0,rq 4 (.assign (.const (.slice none 0 0))) 25,rq 5 (.assign (ki 0)) 32])
 (.seq (.reg [] [
   rq 12 (.load 27 (tp 2)) 27,rq 13 (.move (tp 1)) 25,rq 14 (.buildSlice 30 1 #[(0,(tp 13))]) 30,rq 15 (cf 32 #[(tp 12),(tp 14)] #[27,30]) 62,rq 11 (.move (tp 15)) 62,rq 16 (.extract (tp 11) 0) 61,rq 17 (.extract (tp 11) 1) 32,rq 6 (.assign (tp 16)) 61,rq 7 (.assign (tp 17)) 32])
 (.seq (.seq (.reg [] [
   rq 18 (.move (tp 7)) 32,rq 19 (.binOp .neq 32 (tp 18) (ki 0) 32) 4])
 (.cond (tp 19) (.seq (.reg [] [
   rq 20 (.move (tp 7)) 32,
   rq 4 (.assign (.const (.slice none 0 0))) 25,
   rq 5 (.assign (tp 20)) 32])
  (.ret))
 (.skip)))
 (.seq (.reg [] [
   rq 8 (.assign (.const (.slice none 0 0))) 25])
 (.seq (.seq (.reg [] [
   rq 21 (.move (tp 6)) 61,rq 22 (.nilCheck (tp 21)) 0,rq 23 (.fieldAddr 66 (tp 22) 0) 0,rq 24 (.fieldAddr 27 (tp 23) 3) 0,rq 25 (.load 25 (tp 24)) 25,rq 26 (cb .len #[(tp 25)] #[25]) 3,rq 27 (.move (ki 0)) 3])
 (.block 0 (.loop (.seq (.reg [] [
   rq 28 (.binOp .lss 3 (tp 27) (tp 26) 3) 0])
   (.seq (.cond (tp 28) (.skip)
   (.exit 0))
   (.seq (.block 1 (.seq (.reg [] [
     rq 29 (.move (tp 27)) 3,
     rq 30 (.indexAddr 25 (tp 25) (tp 27)) 0,
     rq 31 (.load 3 (tp 30)) 3,
     rq 9 (.assign (tp 29)) 3,
     rq 10 (.assign (tp 31)) 3])
    (.seq (.reg [] [
      rq 32 (.move (tp 6)) 61,
      rq 33 (.move (tp 1)) 25,
      rq 34 (.move (tp 9)) 3,
      rq 35 (cf 36 #[(tp 32),(tp 33),(tp 34)] #[61,25,3]) 69,
      rq 36 (.binOp .eql 69 (tp 35) (.const (.int .u16 0)) 69) 4])
    (.cond (tp 36) (.reg [] [
      rq 37 (.move (tp 8)) 25,
      rq 38 (.move (tp 10)) 3,
      rq 39 (.buildSlice 25 1 #[(0,(tp 38))]) 25,
      rq 40 (cb .append #[(tp 37),(tp 39)] #[25,25]) 25,
      rq 8 (.assign (tp 40)) 25])
    (.skip)))))
   (.reg [] [
     rq 41 (.binOp .add 3 (tp 27) (ki 1) 3) 3,
     rq 27 (.move (tp 41)) 3])))))))
 (.seq (.reg [] [
   rq 42 (.move (tp 8)) 25,rq 4 (.assign (tp 42)) 25,rq 5 (.assign (ki 0)) 32])
 (.ret))))))
def c16:RC:=
 .seq (.reg [] [
  rq 4 (.assign (kb false)) 4])
 (.seq (.seq (.reg [] [
   rq 6 (.move (tp 0)) 30,rq 7 (cb .len #[(tp 6)] #[30]) 3,rq 8 (.move (tp 1)) 30,rq 9 (cb .len #[(tp 8)] #[30]) 3,rq 10 (.binOp .neq 3 (tp 7) (tp 9) 3) 4])
 (.cond (tp 10) (.seq (.reg [] [
   rq 4 (.assign (kb false)) 4])
  (.ret))
 (.skip)))
 (.seq (.seq (.reg [] [
   rq 5 (.assign (ki 0)) 3])
 (.block 0 (.loop (.seq (.seq (.reg [] [
   rq 11 (.move (tp 5)) 3,
   rq 12 (.move (tp 0)) 30,
   rq 13 (cb .len #[(tp 12)] #[30]) 3,
   rq 14 (.binOp .lss 3 (tp 11) (tp 13) 3) 4])
   (.cond (tp 14) (.skip)
   (.exit 0)))
   (.seq (.block 1 (.seq (.reg [0, 1, 2, 3, 4, 5, 6, 7, 8, 9] [
     rq 17 (.move (tp 0)) 30,
     rq 18 (.move (tp 5)) 3,
     rq 19 (.indexAddr 30 (tp 17) (tp 18)) 0,
     rq 20 (.load 25 (tp 19)) 25,
     rq 21 (.move (tp 1)) 30,
     rq 22 (.move (tp 5)) 3,
     rq 23 (.indexAddr 30 (tp 21) (tp 22)) 0,
     rq 24 (.load 25 (tp 23)) 25,
     rq 25 (cf 12 #[(tp 20),(tp 24)] #[25,25]) 4,
     rq 26 (.unOp .not 4 (tp 25)) 4])
    (.cond (tp 26) (.seq (.reg [] [
      rq 4 (.assign (kb false)) 4])
     (.ret))
    (.skip))))
   (.reg [] [
     rq 15 (.move (tp 5)) 3,
     rq 16 (.binOp .add 3 (tp 15) (ki 1) 3) 3,
     rq 5 (.assign (tp 16)) 3]))))))
 (.seq (.reg [] [
   rq 4 (.assign (kb true)) 4])
 (.ret))))
def c17:RC:=
 .seq (.reg [] [
  rq 2 (.box 27 (tp 0)) 0,rq 4 (.assign (.const (.slice none 0 0))) 25,rq 5 (.assign (ki 0)) 32])
 (.seq (.reg [] [
   rq 9 (.load 27 (tp 2)) 27,rq 10 (.move (tp 1)) 25,rq 11 (.buildSlice 30 1 #[(0,(tp 10))]) 30,rq 12 (cf 32 #[(tp 9),(tp 11)] #[27,30]) 62,rq 8 (.move (tp 12)) 62,rq 13 (.extract (tp 8) 0) 61,rq 14 (.extract (tp 8) 1) 32,rq 6 (.assign (tp 13)) 61,rq 7 (.assign (tp 14)) 32])
 (.seq (.seq (.reg [] [
   rq 15 (.move (tp 7)) 32,rq 16 (.binOp .neq 32 (tp 15) (ki 0) 32) 4])
 (.cond (tp 16) (.seq (.reg [] [
   rq 17 (.move (tp 7)) 32,
   rq 4 (.assign (.const (.slice none 0 0))) 25,
   rq 5 (.assign (tp 17)) 32])
  (.ret))
 (.skip)))
 (.seq (.reg [] [
   rq 18 (.move (tp 6)) 61,rq 19 (.move (tp 1)) 25,rq 20 (cf 35 #[(tp 18),(tp 19)] #[61,25]) 30,rq 21 (.indexAddr 30 (tp 20) (ki 0)) 0,rq 22 (.load 25 (tp 21)) 25,rq 4 (.assign (tp 22)) 25,rq 5 (.assign (ki 0)) 32])
 (.ret))))
def c18:RC:=
 .seq (.reg [] [
  rq 3 (.box 27 (tp 0)) 0,rq 6 (.assign (ki 0)) 3,rq 7 (.assign (ki 0)) 32])
 (.seq (.reg [] [
   rq 13 (.load 27 (tp 3)) 27,rq 14 (.move (tp 1)) 25,rq 15 (.move (tp 2)) 25,rq 16 (.buildSlice 30 2 #[(0,(tp 14)),(1,(tp 15))]) 30,rq 17 (cf 32 #[(tp 13),(tp 16)] #[27,30]) 62,rq 12 (.move (tp 17)) 62,rq 18 (.extract (tp 12) 0) 61,rq 19 (.extract (tp 12) 1) 32,rq 8 (.assign (tp 18)) 61,rq 9 (.assign (tp 19)) 32])
 (.seq (.seq (.reg [] [
   rq 20 (.move (tp 9)) 32,rq 21 (.binOp .neq 32 (tp 20) (ki 0) 32) 4])
 (.cond (tp 21) (.seq (.reg [] [
   rq 22 (.move (tp 9)) 32,
   rq 6 (.assign (ki 0)) 3,
   rq 7 (.assign (tp 22)) 32])
  (.ret))
 (.skip)))
 (.seq (.seq (.reg [] [
   rq 23 (.move (tp 8)) 61,rq 24 (.nilCheck (tp 23)) 0,rq 25 (.fieldAddr 66 (tp 24) 0) 0,rq 26 (.fieldAddr 27 (tp 25) 3) 0,rq 27 (.load 25 (tp 26)) 25,rq 28 (cb .len #[(tp 27)] #[25]) 3,rq 29 (.move (ki 0)) 3])
 (.block 0 (.loop (.seq (.reg [] [
   rq 30 (.binOp .lss 3 (tp 29) (tp 28) 3) 0])
   (.seq (.cond (tp 30) (.skip)
   (.exit 0))
   (.seq (.block 1 (.seq (.reg [] [
     rq 31 (.move (tp 29)) 3,
     rq 32 (.indexAddr 25 (tp 27) (tp 29)) 0,
     rq 33 (.load 3 (tp 32)) 3,
     rq 10 (.assign (tp 31)) 3,
     rq 11 (.assign (tp 33)) 3])
    (.seq (.reg [] [
      rq 34 (.move (tp 8)) 61,
      rq 35 (.move (tp 1)) 25,
      rq 36 (.move (tp 10)) 3,
      rq 37 (cf 34 #[(tp 34),(tp 35),(tp 36)] #[61,25,3]) 25,
      rq 38 (.move (tp 2)) 25,
      rq 39 (cf 37 #[(tp 37),(tp 38)] #[25,25]) 4])
    (.cond (tp 39) (.seq (.reg [] [
      rq 40 (.move (tp 11)) 3,
      rq 6 (.assign (tp 40)) 3,
      rq 7 (.assign (ki 0)) 32])
     (.ret))
    (.skip)))))
   (.reg [] [
     rq 41 (.binOp .add 3 (tp 29) (ki 1) 3) 3,
     rq 29 (.move (tp 41)) 3])))))))
 (.seq (.reg [] [
   rq 6 (.assign (ki 0)) 3,rq 7 (.assign (ki 12)) 32])
 (.ret)))))
def c19:RC:=
 .seq (.reg [] [
  rq 0 (.assign (kb false)) 4])
 (.seq (.reg [] [
   rq 21 (cf 24 #[(ki 1),(ki 4)] #[3,3]) 40,rq 20 (.move (tp 21)) 40,rq 22 (.extract (tp 20) 0) 3,rq 23 (.extract (tp 20) 1) 32,rq 1 (.assign (tp 22)) 3,rq 2 (.assign (tp 23)) 32])
 (.seq (.reg [] [
   rq 25 (cf 24 #[(ki 4),(ki 1)] #[3,3]) 40,rq 24 (.move (tp 25)) 40,rq 26 (.extract (tp 24) 0) 3,rq 27 (.extract (tp 24) 1) 32,rq 3 (.assign (tp 26)) 3,rq 4 (.assign (tp 27)) 32])
 (.seq (.reg [] [
   rq 29 (cf 38 #[] #[]) 27,rq 30 (cf 23 #[(tp 29)] #[27]) 40,rq 28 (.move (tp 30)) 40,rq 31 (.extract (tp 28) 0) 3,rq 32 (.extract (tp 28) 1) 32,rq 5 (.assign (tp 31)) 3,rq 6 (.assign (tp 32)) 32])
 (.seq (.reg [] [
   rq 34 (cf 38 #[] #[]) 27,rq 35 (.buildSlice 25 2 #[(0,(ki 2)),(1,(ki 2))]) 25,rq 36 (cf 22 #[(tp 35)] #[25]) 25,rq 37 (cf 30 #[(tp 34),(tp 36)] #[27,25]) 40,rq 33 (.move (tp 37)) 40,rq 38 (.extract (tp 33) 0) 3,rq 39 (.extract (tp 33) 1) 32,rq 7 (.assign (tp 38)) 3,rq 8 (.assign (tp 39)) 32])
 (.seq (.reg [] [
   rq 41 (cf 31 #[] #[]) 27,rq 42 (cf 29 #[(tp 41),(ki 2)] #[27,3]) 40,rq 40 (.move (tp 42)) 40,rq 43 (.extract (tp 40) 0) 3,rq 44 (.extract (tp 40) 1) 32,rq 9 (.assign (tp 43)) 3,rq 10 (.assign (tp 44)) 32])
 (.seq (.reg [] [
   rq 46 (cf 38 #[] #[]) 27,rq 47 (.buildSlice 25 4 #[(0,(ki 0)),(1,(ki 1)),(2,(ki 0)),(3,(ki 0))]) 25,rq 48 (cf 22 #[(tp 47)] #[25]) 25,rq 49 (cf 11 #[(tp 46),(tp 48),(ki 1)] #[27,25,3]) 33,rq 45 (.move (tp 49)) 33,rq 50 (.extract (tp 45) 0) 25,rq 51 (.extract (tp 45) 1) 32,rq 11 (.assign (tp 50)) 25,rq 12 (.assign (tp 51)) 32])
 (.seq (.reg [] [
   rq 53 (cf 38 #[] #[]) 27,rq 54 (.buildSlice 25 4 #[(0,(ki 0)),(1,(ki 1)),(2,(ki 1)),(3,(ki 0))]) 25,rq 55 (cf 22 #[(tp 54)] #[25]) 25,rq 56 (cf 14 #[(tp 53),(tp 55)] #[27,25]) 36,rq 52 (.move (tp 56)) 36,rq 57 (.extract (tp 52) 0) 30,rq 58 (.extract (tp 52) 1) 32,rq 13 (.assign (tp 57)) 30,rq 14 (.assign (tp 58)) 32])
 (.seq (.seq (.reg [] [
   rq 59 (.move (tp 2)) 32,rq 60 (.binOp .neq 32 (tp 59) (ki 0) 32) 4,rq 61 (.move (tp 60)) 4,rg 62 (.move (tp 4)) 32 61 false,rg 63 (.binOp .neq 32 (tp 62) (ki 0) 32) 4 61 false,rq 64 (.pick (tp 61) (kb true) (tp 63)) 4,rq 65 (.move (tp 64)) 4,rg 66 (.move (tp 6)) 32 65 false,rg 67 (.binOp .neq 32 (tp 66) (ki 0) 32) 4 65 false,rq 68 (.pick (tp 65) (kb true) (tp 67)) 4,rq 69 (.move (tp 68)) 4,rg 70 (.move (tp 8)) 32 69 false,rg 71 (.binOp .neq 32 (tp 70) (ki 0) 32) 4 69 false,rq 72 (.pick (tp 69) (kb true) (tp 71)) 4,rq 73 (.move (tp 72)) 4,rg 74 (.move (tp 10)) 32 73 false,rg 75 (.binOp .neq 32 (tp 74) (ki 0) 32) 4 73 false,rq 76 (.pick (tp 73) (kb true) (tp 75)) 4,rq 77 (.move (tp 76)) 4,rg 78 (.move (tp 12)) 32 77 false,rg 79 (.binOp .neq 32 (tp 78) (ki 0) 32) 4 77 false,rq 80 (.pick (tp 77) (kb true) (tp 79)) 4,rq 81 (.move (tp 80)) 4,rg 82 (.move (tp 14)) 32 81 false,rg 83 (.binOp .neq 32 (tp 82) (ki 0) 32) 4 81 false,rq 84 (.pick (tp 81) (kb true) (tp 83)) 4])
 (.cond (tp 84) (.seq (.reg [] [
   rq 0 (.assign (kb false)) 4])
  (.ret))
 (.skip)))
 (.seq (.reg [] [
   rq 86 (cf 38 #[] #[]) 27,rq 87 (.buildSlice 25 4 #[(0,(ki 1)),(1,(ki 0)),(2,(ki 1)),(3,(ki 0))]) 25,rq 88 (cf 22 #[(tp 87)] #[25]) 25,rq 89 (cf 17 #[(tp 86),(tp 88)] #[27,25]) 33,rq 85 (.move (tp 89)) 33,rq 90 (.extract (tp 85) 0) 25,rq 91 (.extract (tp 85) 1) 32,rq 15 (.assign (tp 90)) 25,rq 2 (.assign (tp 91)) 32])
 (.seq (.reg [] [
   rq 93 (cf 38 #[] #[]) 27,rq 94 (.buildSlice 25 4 #[(0,(ki 0)),(1,(ki 1)),(2,(ki 1)),(3,(ki 0))]) 25,rq 95 (cf 22 #[(tp 94)] #[25]) 25,rq 96 (cf 15 #[(tp 93),(tp 95)] #[27,25]) 33,rq 92 (.move (tp 96)) 33,rq 97 (.extract (tp 92) 0) 25,rq 98 (.extract (tp 92) 1) 32,rq 16 (.assign (tp 97)) 25,rq 4 (.assign (tp 98)) 32])
 (.seq (.reg [] [
   rq 100 (cf 38 #[] #[]) 27,rq 101 (.buildSlice 25 4 #[(0,(ki 0)),(1,(ki 1)),(2,(ki 0)),(3,(ki 0))]) 25,rq 102 (cf 22 #[(tp 101)] #[25]) 25,rq 103 (.buildSlice 25 4 #[(0,(ki 0)),(1,(ki 0)),(2,(ki 1)),(3,(ki 0))]) 25,rq 104 (cf 22 #[(tp 103)] #[25]) 25,rq 105 (cf 18 #[(tp 100),(tp 102),(tp 104)] #[27,25,25]) 40,rq 99 (.move (tp 105)) 40,rq 106 (.extract (tp 99) 0) 3,rq 107 (.extract (tp 99) 1) 32,rq 17 (.assign (tp 106)) 3,rq 6 (.assign (tp 107)) 32])
 (.seq (.reg [] [
   rq 109 (cf 38 #[] #[]) 27,rq 110 (.buildSlice 25 4 #[(0,(ki 0)),(1,(ki 1)),(2,(ki 0)),(3,(ki 0))]) 25,rq 111 (cf 22 #[(tp 110)] #[25]) 25,rq 112 (cf 20 #[(tp 109),(tp 111)] #[27,25]) 33,rq 108 (.move (tp 112)) 33,rq 113 (.extract (tp 108) 0) 25,rq 114 (.extract (tp 108) 1) 32,rq 18 (.assign (tp 113)) 25,rq 8 (.assign (tp 114)) 32])
 (.seq (.reg [] [
   rq 116 (cf 31 #[] #[]) 27,rq 117 (cf 23 #[(tp 116)] #[27]) 40,rq 115 (.move (tp 117)) 40,rq 118 (.extract (tp 115) 0) 3,rq 119 (.extract (tp 115) 1) 32,rq 19 (.assign (tp 118)) 3,rq 10 (.assign (tp 119)) 32])
 (.seq (.reg [] [
   rq 120 (.move (tp 2)) 32,rq 121 (.binOp .eql 32 (tp 120) (ki 0) 32) 4,rq 122 (.move (tp 121)) 4,rg 123 (.move (tp 4)) 32 122 true,rg 124 (.binOp .eql 32 (tp 123) (ki 0) 32) 4 122 true,rq 125 (.pick (tp 122) (tp 124) (kb false)) 4,rq 126 (.move (tp 125)) 4,rg 127 (.move (tp 6)) 32 126 true,rg 128 (.binOp .eql 32 (tp 127) (ki 0) 32) 4 126 true,rq 129 (.pick (tp 126) (tp 128) (kb false)) 4,rq 130 (.move (tp 129)) 4,rg 131 (.move (tp 8)) 32 130 true,rg 132 (.binOp .eql 32 (tp 131) (ki 0) 32) 4 130 true,rq 133 (.pick (tp 130) (tp 132) (kb false)) 4,rq 134 (.move (tp 133)) 4,rg 135 (.move (tp 10)) 32 134 true,rg 136 (.binOp .eql 32 (tp 135) (ki 0) 32) 4 134 true,rq 137 (.pick (tp 134) (tp 136) (kb false)) 4,rq 138 (.move (tp 137)) 4,rg 139 (.move (tp 1)) 3 138 true,rg 140 (.binOp .eql 3 (tp 139) (ki 6) 3) 4 138 true,rq 141 (.pick (tp 138) (tp 140) (kb false)) 4,rq 142 (.move (tp 141)) 4,rg 143 (.move (tp 3)) 3 142 true,rg 144 (.binOp .eql 3 (tp 143) (ki 7) 3) 4 142 true,rq 145 (.pick (tp 142) (tp 144) (kb false)) 4,rq 146 (.move (tp 145)) 4,rg 147 (.move (tp 5)) 3 146 true,rg 148 (.binOp .eql 3 (tp 147) (ki 6) 3) 4 146 true,rq 149 (.pick (tp 146) (tp 148) (kb false)) 4,rq 150 (.move (tp 149)) 4,rg 151 (.move (tp 7)) 3 150 true,rg 152 (.binOp .eql 3 (tp 151) (ki 2) 3) 4 150 true,rq 153 (.pick (tp 150) (tp 152) (kb false)) 4,rq 154 (.move (tp 153)) 4,rg 155 (.move (tp 9)) 3 154 true,rg 156 (.binOp .eql 3 (tp 155) (ki 8) 3) 4 154 true,rq 157 (.pick (tp 154) (tp 156) (kb false)) 4,rq 158 (.move (tp 157)) 4,rg 159 (.move (tp 17)) 3 158 true,rg 160 (.binOp .eql 3 (tp 159) (ki 2) 3) 4 158 true,rq 161 (.pick (tp 158) (tp 160) (kb false)) 4,rq 162 (.move (tp 161)) 4,rg 163 (.move (tp 19)) 3 162 true,rg 164 (.binOp .eql 3 (tp 163) (ki 36) 3) 4 162 true,rq 165 (.pick (tp 162) (tp 164) (kb false)) 4,rq 166 (.move (tp 165)) 4,rg 167 (.move (tp 11)) 25 166 true,rg 168 (.buildSlice 25 4 #[(0,(ki 0)),(1,(ki 0)),(2,(ki 0)),(3,(ki 1))]) 25 166 true,rg 169 (cf 22 #[(tp 168)] #[25]) 25 166 true,rg 170 (cf 12 #[(tp 167),(tp 169)] #[25,25]) 4 166 true,rq 171 (.pick (tp 166) (tp 170) (kb false)) 4,rq 172 (.move (tp 171)) 4,rg 173 (.move (tp 13)) 30 172 true,rg 174 (.buildSlice 25 4 #[(0,(ki 0)),(1,(ki 1)),(2,(ki 1)),(3,(ki 0))]) 25 172 true,rg 175 (cf 22 #[(tp 174)] #[25]) 25 172 true,rg 176 (.buildSlice 25 4 #[(0,(ki 1)),(1,(ki 0)),(2,(ki 0)),(3,(ki 1))]) 25 172 true,rg 177 (cf 22 #[(tp 176)] #[25]) 25 172 true,rg 178 (.buildSlice 30 2 #[(0,(tp 175)),(1,(tp 177))]) 30 172 true,rg 179 (cf 39 #[(tp 178)] #[30]) 30 172 true,rg 180 (cf 16 #[(tp 173),(tp 179)] #[30,30]) 4 172 true,rq 181 (.pick (tp 172) (tp 180) (kb false)) 4,rq 182 (.move (tp 181)) 4,rg 183 (.move (tp 15)) 25 182 true,rg 184 (.buildSlice 25 4 #[(0,(ki 0)),(1,(ki 0)),(2,(ki 1)),(3,(ki 1))]) 25 182 true,rg 185 (cf 22 #[(tp 184)] #[25]) 25 182 true,rg 186 (cf 12 #[(tp 183),(tp 185)] #[25,25]) 4 182 true,rq 187 (.pick (tp 182) (tp 186) (kb false)) 4,rq 188 (.move (tp 187)) 4,rg 189 (.move (tp 16)) 25 188 true,rg 190 (.buildSlice 25 2 #[(0,(ki 0)),(1,(ki 2))]) 25 188 true,rg 191 (cf 22 #[(tp 190)] #[25]) 25 188 true,rg 192 (cf 12 #[(tp 189),(tp 191)] #[25,25]) 4 188 true,rq 193 (.pick (tp 188) (tp 192) (kb false)) 4,rq 194 (.move (tp 193)) 4,rg 195 (.move (tp 18)) 25 194 true,rg 196 (.buildSlice 25 1 #[(0,(ki 1))]) 25 194 true,rg 197 (cf 22 #[(tp 196)] #[25]) 25 194 true,rg 198 (cf 12 #[(tp 195),(tp 197)] #[25,25]) 4 194 true,rq 199 (.pick (tp 194) (tp 198) (kb false)) 4,rq 200 (.move (tp 199)) 4,rg 201 (cf 38 #[] #[]) 27 200 true,rg 202 (.buildSlice 25 4 #[(0,(ki 0)),(1,(ki 1)),(2,(ki 0)),(3,(ki 0))]) 25 200 true,rg 203 (cf 22 #[(tp 202)] #[25]) 25 200 true,rg 204 (.buildSlice 25 2 #[(0,(ki 0)),(1,(ki 2))]) 25 200 true,rg 205 (cf 22 #[(tp 204)] #[25]) 25 200 true,rg 206 (cf 21 #[(tp 201),(tp 203),(tp 205)] #[27,25,25]) 32 200 true,rg 207 (.binOp .eql 32 (tp 206) (ki 14) 32) 4 200 true,rq 208 (.pick (tp 200) (tp 207) (kb false)) 4,rq 0 (.assign (tp 208)) 4])
 (.ret)))))))))))))))
def c20:RC:=
 .seq (.reg [] [
  rq 2 (.box 27 (tp 0)) 0,rq 3 (.box 25 (tp 1)) 0,rq 4 (.assign (.const (.slice none 0 0))) 25,rq 5 (.assign (ki 0)) 32])
 (.seq (.reg [] [
   rq 12 (.load 27 (tp 2)) 27,rq 13 (.load 25 (tp 3)) 25,rq 14 (.buildSlice 30 1 #[(0,(tp 13))]) 30,rq 15 (cf 32 #[(tp 12),(tp 14)] #[27,30]) 62,rq 11 (.move (tp 15)) 62,rq 16 (.extract (tp 11) 0) 61,rq 17 (.extract (tp 11) 1) 32,rq 6 (.alloc 61) 0,rn (.store 61 (tp 6) (tp 16)) 0,rq 7 (.assign (tp 17)) 32])
 (.seq (.seq (.reg [] [
   rq 18 (.move (tp 7)) 32,rq 19 (.binOp .neq 32 (tp 18) (ki 0) 32) 4])
 (.cond (tp 19) (.seq (.reg [] [
   rq 20 (.move (tp 7)) 32,
   rq 4 (.assign (.const (.slice none 0 0))) 25,
   rq 5 (.assign (tp 20)) 32])
  (.ret))
 (.skip)))
 (.seq (.reg [] [
   rq 8 (.alloc 25) 0])
 (.seq (.reg [] [
   rq 9 (.alloc 3) 0,rn (.store 3 (tp 9) (ki 64)) 0])
 (.seq (.reg [] [
   rq 10 (.alloc 72) 0])
 (.seq (.reg [] [
   rq 21 (.makeFunc (.func 40) #[] #[(tp 6),(tp 3),(tp 9),(tp 8),(tp 10)]) 72,rn (.store 72 (tp 10) (tp 21)) 0])
 (.seq (.reg [] [
   rq 22 (.load 72 (tp 10)) 72,rq 23 (.call ⟨.value (tp 22),#[(.const (.slice none 0 0)),(ki 0)],#[25,3]⟩) 0])
 (.seq (.reg [] [
   rq 24 (.load 25 (tp 8)) 25,rq 4 (.assign (tp 24)) 25,rq 5 (.assign (ki 0)) 32])
 (.ret)))))))))
def c21:RC:=
 .seq (.reg [] [
  rq 3 (.box 27 (tp 0)) 0,rq 6 (.assign (ki 0)) 32])
 (.seq (.reg [] [
   rq 16 (.load 27 (tp 3)) 27,rq 17 (.move (tp 1)) 25,rq 18 (.buildSlice 30 1 #[(0,(tp 17))]) 30,rq 19 (cf 32 #[(tp 16),(tp 18)] #[27,30]) 62,rq 15 (.move (tp 19)) 62,rq 20 (.extract (tp 15) 0) 61,rq 21 (.extract (tp 15) 1) 32,rq 7 (.assign (tp 20)) 61,rq 8 (.assign (tp 21)) 32])
 (.seq (.seq (.reg [] [
   rq 22 (.move (tp 8)) 32,rq 23 (.binOp .neq 32 (tp 22) (ki 0) 32) 4])
 (.cond (tp 23) (.seq (.reg [] [
   rq 24 (.move (tp 8)) 32,
   rq 6 (.assign (tp 24)) 32])
  (.ret))
 (.skip)))
 (.seq (.reg [] [
   rq 9 (.assign (ki (-1))) 3])
 (.seq (.reg [] [
   rq 10 (.assign (.const (.int .u16 0))) 69])
 (.seq (.seq (.reg [] [
   rq 25 (.move (tp 2)) 25,rq 26 (cb .len #[(tp 25)] #[25]) 3,rq 27 (.move (ki 0)) 3])
 (.block 0 (.loop (.seq (.reg [] [
   rq 28 (.binOp .lss 3 (tp 27) (tp 26) 3) 0])
   (.seq (.cond (tp 28) (.skip)
   (.exit 0))
   (.seq (.block 1 (.seq (.reg [] [
     rq 29 (.indexAddr 25 (tp 25) (tp 27)) 0,
     rq 30 (.load 3 (tp 29)) 3,
     rq 12 (.assign (tp 30)) 3])
    (.seq (.block 2 (.seq (.reg [] [
      rq 32 (.move (tp 12)) 3,
      rq 33 (.move (tp 1)) 25,
      rq 34 (cb .len #[(tp 33)] #[25]) 3,
      rq 35 (.binOp .sub 3 (tp 34) (ki 1) 3) 3,
      rq 36 (cf 48 #[(ki 0),(tp 32),(tp 35)] #[3,3,3]) 4,
      rq 37 (.unOp .not 4 (tp 36)) 4,
      rq 31 (.assign (tp 37)) 4])
     (.cond (tp 31) (.seq (.reg [] [
       rq 6 (.assign (ki 2)) 32])
      (.ret))
     (.seq (.reg [] [
       rq 39 (.move (tp 12)) 3,
       rq 40 (.move (tp 9)) 3,
       rq 41 (.binOp .leq 3 (tp 39) (tp 40) 3) 4,
       rq 38 (.assign (tp 41)) 4])
      (.cond (tp 38) (.seq (.reg [] [
        rq 6 (.assign (ki 7)) 32])
       (.ret))
      (.skip))))))
    (.seq (.reg [] [
      rq 42 (.move (tp 12)) 3,
      rq 9 (.assign (tp 42)) 3])
    (.reg [] [
      rq 43 (.move (tp 10)) 69,
      rq 44 (.move (tp 12)) 3,
      rq 45 (.binOp .shl 69 (.const (.int .u16 1)) (tp 44) 3) 69,
      rq 46 (.binOp .or 69 (tp 43) (tp 45) 69) 69,
      rq 10 (.assign (tp 46)) 69])))))
   (.reg [] [
     rq 47 (.binOp .add 3 (tp 27) (ki 1) 3) 3,
     rq 27 (.move (tp 47)) 3])))))))
 (.seq (.seq (.reg [] [
   rq 48 (.move (tp 7)) 61,rq 49 (.nilCheck (tp 48)) 0,rq 50 (.fieldAddr 66 (tp 49) 0) 0,rq 51 (.fieldAddr 27 (tp 50) 3) 0,rq 52 (.load 25 (tp 51)) 25,rq 53 (cb .len #[(tp 52)] #[25]) 3,rq 54 (.move (ki 0)) 3])
 (.block 3 (.loop (.seq (.reg [] [
   rq 55 (.binOp .lss 3 (tp 54) (tp 53) 3) 0])
   (.seq (.cond (tp 55) (.skip)
   (.exit 3))
   (.seq (.block 4 (.seq (.reg [] [
     rq 56 (.move (tp 54)) 3,
     rq 13 (.assign (tp 56)) 3])
    (.seq (.reg [] [
      rq 57 (.move (tp 7)) 61,
      rq 58 (.move (tp 1)) 25,
      rq 59 (.move (tp 13)) 3,
      rq 60 (cf 36 #[(tp 57),(tp 58),(tp 59)] #[61,25,3]) 69,
      rq 14 (.assign (tp 60)) 69])
    (.seq (.reg [] [
      rq 61 (.move (tp 14)) 69,
      rq 62 (.binOp .neq 69 (tp 61) (.const (.int .u16 0)) 69) 4,
      rq 63 (.move (tp 62)) 4,
      rg 64 (.move (tp 14)) 69 63 true,
      rg 65 (.move (tp 10)) 69 63 true,
      rg 66 (.binOp .and 69 (tp 64) (tp 65) 69) 69 63 true,
      rg 67 (.binOp .eql 69 (tp 66) (.const (.int .u16 0)) 69) 4 63 true,
      rq 68 (.pick (tp 63) (tp 67) (kb false)) 4])
    (.cond (tp 68) (.seq (.reg [] [
      rq 6 (.assign (ki 14)) 32])
     (.ret))
    (.skip))))))
   (.reg [] [
     rq 69 (.binOp .add 3 (tp 54) (ki 1) 3) 3,
     rq 54 (.move (tp 69)) 3])))))))
 (.seq (.reg [] [
   rq 6 (.assign (ki 0)) 32])
 (.ret))))))))
def c22:RC:=c22_3
def c23:RC:=
 .seq (.reg [] [
  rq 1 (.box 27 (tp 0)) 0,rq 2 (.assign (ki 0)) 3,rq 3 (.assign (ki 0)) 32])
 (.seq (.reg [] [
   rq 9 (.load 27 (tp 1)) 27,rq 10 (cf 49 #[(tp 9)] #[27]) 62,rq 8 (.move (tp 10)) 62,rq 11 (.extract (tp 8) 0) 61,rq 12 (.extract (tp 8) 1) 32,rq 4 (.assign (tp 11)) 61,rq 5 (.assign (tp 12)) 32])
 (.seq (.seq (.reg [] [
   rq 13 (.move (tp 5)) 32,rq 14 (.binOp .neq 32 (tp 13) (ki 0) 32) 4])
 (.cond (tp 14) (.seq (.reg [] [
   rq 15 (.move (tp 5)) 32,
   rq 2 (.assign (ki 0)) 3,
   rq 3 (.assign (tp 15)) 32])
  (.ret))
 (.skip)))
 (.seq (.reg [] [
   rq 6 (.assign (ki 0)) 3])
 (.seq (.seq (.reg [] [
   rq 16 (.move (tp 4)) 61,rq 17 (.nilCheck (tp 16)) 0,rq 18 (.fieldAddr 66 (tp 17) 0) 0,rq 19 (.fieldAddr 27 (tp 18) 3) 0,rq 20 (.load 25 (tp 19)) 25,rq 21 (cb .len #[(tp 20)] #[25]) 3,rq 22 (.move (ki 0)) 3])
 (.block 0 (.loop (.seq (.reg [] [
   rq 23 (.binOp .lss 3 (tp 22) (tp 21) 3) 0])
   (.seq (.cond (tp 23) (.skip)
   (.exit 0))
   (.seq (.block 1 (.seq (.reg [] [
     rq 24 (.move (tp 22)) 3,
     rq 7 (.assign (tp 24)) 3])
    (.reg [] [
      rq 25 (.move (tp 6)) 3,
      rq 26 (.move (tp 4)) 61,
      rq 27 (.move (tp 7)) 3,
      rq 28 (cf 50 #[(tp 26),(tp 27)] #[61,3]) 3,
      rq 29 (.binOp .add 3 (tp 25) (tp 28) 3) 3,
      rq 6 (.assign (tp 29)) 3])))
   (.reg [] [
     rq 30 (.binOp .add 3 (tp 22) (ki 1) 3) 3,
     rq 22 (.move (tp 30)) 3])))))))
 (.seq (.reg [] [
   rq 31 (.move (tp 6)) 3,rq 32 (.move (tp 4)) 61,rq 33 (.nilCheck (tp 32)) 0,rq 34 (.fieldAddr 66 (tp 33) 0) 0,rq 35 (.fieldAddr 27 (tp 34) 3) 0,rq 36 (.load 25 (tp 35)) 25,rq 37 (cb .len #[(tp 36)] #[25]) 3,rq 38 (.binOp .quo 3 (tp 31) (tp 37) 3) 3,rq 2 (.assign (tp 38)) 3,rq 3 (.assign (ki 0)) 32])
 (.ret))))))
def c24:RC:=c24_9
def c25:RC:=c25_5
def c29:RC:=
 .seq (.reg [] [
  rq 2 (.box 27 (tp 0)) 0,rq 4 (.assign (ki 0)) 3,rq 5 (.assign (ki 0)) 32])
 (.seq (.reg [] [
   rq 10 (.load 27 (tp 2)) 27,rq 11 (cf 49 #[(tp 10)] #[27]) 62,rq 9 (.move (tp 11)) 62,rq 12 (.extract (tp 9) 0) 61,rq 13 (.extract (tp 9) 1) 32,rq 6 (.assign (tp 12)) 61,rq 7 (.assign (tp 13)) 32])
 (.seq (.seq (.reg [] [
   rq 14 (.move (tp 7)) 32,rq 15 (.binOp .neq 32 (tp 14) (ki 0) 32) 4])
 (.cond (tp 15) (.seq (.reg [] [
   rq 16 (.move (tp 7)) 32,
   rq 4 (.assign (ki 0)) 3,
   rq 5 (.assign (tp 16)) 32])
  (.ret))
 (.skip)))
 (.seq (.reg [] [
   rq 17 (.move (tp 6)) 61,rq 18 (.nilCheck (tp 17)) 0,rq 19 (.fieldAddr 66 (tp 18) 0) 0,rq 20 (.fieldAddr 27 (tp 19) 3) 0,rq 21 (.load 25 (tp 20)) 25,rq 22 (.move (tp 1)) 3,rq 23 (cf 33 #[(tp 21),(tp 22)] #[25,3]) 3,rq 8 (.assign (tp 23)) 3])
 (.seq (.seq (.reg [] [
   rq 24 (.move (tp 8)) 3,rq 25 (.binOp .lss 3 (tp 24) (ki 0) 3) 4])
 (.cond (tp 25) (.seq (.reg [] [
   rq 4 (.assign (ki 0)) 3,
   rq 5 (.assign (ki 2)) 32])
  (.ret))
 (.skip)))
 (.seq (.reg [] [
   rq 26 (.move (tp 6)) 61,rq 27 (.move (tp 8)) 3,rq 28 (cf 50 #[(tp 26),(tp 27)] #[61,3]) 3,rq 4 (.assign (tp 28)) 3,rq 5 (.assign (ki 0)) 32])
 (.ret))))))
def c30:RC:=
 .seq (.reg [] [
  rq 2 (.box 27 (tp 0)) 0,rq 4 (.assign (ki 0)) 3,rq 5 (.assign (ki 0)) 32])
 (.seq (.reg [] [
   rq 14 (.load 27 (tp 2)) 27,rq 15 (cf 49 #[(tp 14)] #[27]) 62,rq 13 (.move (tp 15)) 62,rq 16 (.extract (tp 13) 0) 61,rq 17 (.extract (tp 13) 1) 32,rq 6 (.assign (tp 16)) 61,rq 7 (.assign (tp 17)) 32])
 (.seq (.block 0 (.seq (.reg [] [
   rq 19 (.move (tp 7)) 32,
   rq 20 (.binOp .neq 32 (tp 19) (ki 0) 32) 4,
   rq 18 (.assign (tp 20)) 4])
  (.cond (tp 18) (.seq (.reg [] [
    rq 21 (.move (tp 7)) 32,
    rq 4 (.assign (ki 0)) 3,
    rq 5 (.assign (tp 21)) 32])
   (.ret))
  (.seq (.reg [] [
    rq 23 (.move (tp 1)) 25,
    rq 24 (cb .len #[(tp 23)] #[25]) 3,
    rq 25 (.move (tp 6)) 61,
    rq 26 (.nilCheck (tp 25)) 0,
    rq 27 (.fieldAddr 66 (tp 26) 0) 0,
    rq 28 (.fieldAddr 27 (tp 27) 2) 0,
    rq 29 (.load 3 (tp 28)) 3,
    rq 30 (.binOp .neq 3 (tp 24) (tp 29) 3) 4,
    rq 22 (.assign (tp 30)) 4])
   (.cond (tp 22) (.seq (.reg [] [
     rq 4 (.assign (ki 0)) 3,
     rq 5 (.assign (ki 5)) 32])
    (.ret))
   (.skip))))))
 (.seq (.reg [] [
   rq 8 (.assign (ki 0)) 3])
 (.seq (.seq (.reg [] [
   rq 31 (.move (tp 1)) 25,rq 32 (cb .len #[(tp 31)] #[25]) 3,rq 33 (.move (ki 0)) 3])
 (.block 1 (.loop (.seq (.reg [] [
   rq 34 (.binOp .lss 3 (tp 33) (tp 32) 3) 0])
   (.seq (.cond (tp 34) (.skip)
   (.exit 1))
   (.seq (.block 2 (.seq (.reg [] [
     rq 35 (.indexAddr 25 (tp 31) (tp 33)) 0,
     rq 36 (.load 3 (tp 35)) 3,
     rq 10 (.assign (tp 36)) 3])
    (.seq (.seq (.reg [0, 1, 2, 3, 4, 5, 6, 7, 8, 9, 10, 11, 12, 13] [
      rq 37 (.move (tp 10)) 3,
      rq 38 (.move (tp 6)) 61,
      rq 39 (.nilCheck (tp 38)) 0,
      rq 40 (.fieldAddr 66 (tp 39) 0) 0,
      rq 41 (.fieldAddr 27 (tp 40) 0) 0,
      rq 42 (.load 3 (tp 41)) 3,
      rq 43 (.move (tp 6)) 61,
      rq 44 (.nilCheck (tp 43)) 0,
      rq 45 (.fieldAddr 66 (tp 44) 0) 0,
      rq 46 (.fieldAddr 27 (tp 45) 1) 0,
      rq 47 (.load 3 (tp 46)) 3,
      rq 48 (.binOp .mul 3 (tp 42) (tp 47) 3) 3,
      rq 49 (cf 48 #[(ki 0),(tp 37),(tp 48)] #[3,3,3]) 4,
      rq 50 (.unOp .not 4 (tp 49)) 4])
    (.cond (tp 50) (.seq (.reg [] [
      rq 4 (.assign (ki 0)) 3,
      rq 5 (.assign (ki 1)) 32])
     (.ret))
    (.skip)))
    (.reg [] [
      rq 51 (.move (tp 8)) 3,
      rq 52 (.move (tp 10)) 3,
      rq 53 (.binOp .add 3 (tp 51) (tp 52) 3) 3,
      rq 8 (.assign (tp 53)) 3]))))
   (.reg [] [
     rq 54 (.binOp .add 3 (tp 33) (ki 1) 3) 3,
     rq 33 (.move (tp 54)) 3])))))))
 (.seq (.seq (.reg [0, 1, 2, 3, 4, 5, 6, 7, 8, 9, 10, 11, 12] [
   rq 55 (.move (tp 8)) 3,rq 56 (.move (tp 6)) 61,rq 57 (.nilCheck (tp 56)) 0,rq 58 (.fieldAddr 66 (tp 57) 0) 0,rq 59 (.fieldAddr 27 (tp 58) 0) 0,rq 60 (.load 3 (tp 59)) 3,rq 61 (.move (tp 6)) 61,rq 62 (.nilCheck (tp 61)) 0,rq 63 (.fieldAddr 66 (tp 62) 0) 0,rq 64 (.fieldAddr 27 (tp 63) 1) 0,rq 65 (.load 3 (tp 64)) 3,rq 66 (.binOp .mul 3 (tp 60) (tp 65) 3) 3,rq 67 (.binOp .neq 3 (tp 55) (tp 66) 3) 4])
 (.cond (tp 67) (.seq (.reg [] [
   rq 4 (.assign (ki 0)) 3,
   rq 5 (.assign (ki 17)) 32])
  (.ret))
 (.skip)))
 (.seq (.reg [] [
   rq 11 (.assign (ki 0)) 3])
 (.seq (.seq (.reg [] [
   rq 68 (.move (tp 6)) 61,rq 69 (.nilCheck (tp 68)) 0,rq 70 (.fieldAddr 66 (tp 69) 0) 0,rq 71 (.fieldAddr 27 (tp 70) 3) 0,rq 72 (.load 25 (tp 71)) 25,rq 73 (cb .len #[(tp 72)] #[25]) 3,rq 74 (.move (ki 0)) 3])
 (.block 3 (.loop (.seq (.reg [] [
   rq 75 (.binOp .lss 3 (tp 74) (tp 73) 3) 0])
   (.seq (.cond (tp 75) (.skip)
   (.exit 3))
   (.seq (.block 4 (.seq (.reg [] [
     rq 76 (.move (tp 74)) 3,
     rq 12 (.assign (tp 76)) 3])
    (.reg [] [
      rq 77 (.move (tp 11)) 3,
      rq 78 (.move (tp 6)) 61,
      rq 79 (.move (tp 12)) 3,
      rq 80 (cf 57 #[(tp 78),(tp 79)] #[61,3]) 91,
      rq 81 (.move (tp 1)) 25,
      rq 82 (cf 56 #[(tp 80),(tp 81)] #[91,25]) 3,
      rq 83 (.binOp .add 3 (tp 77) (tp 82) 3) 3,
      rq 11 (.assign (tp 83)) 3])))
   (.reg [] [
     rq 84 (.binOp .add 3 (tp 74) (ki 1) 3) 3,
     rq 74 (.move (tp 84)) 3])))))))
 (.seq (.reg [] [
   rq 85 (.move (tp 11)) 3,rq 86 (.move (tp 6)) 61,rq 87 (.nilCheck (tp 86)) 0,rq 88 (.fieldAddr 66 (tp 87) 0) 0,rq 89 (.fieldAddr 27 (tp 88) 3) 0,rq 90 (.load 25 (tp 89)) 25,rq 91 (cb .len #[(tp 90)] #[25]) 3,rq 92 (.binOp .quo 3 (tp 85) (tp 91) 3) 3,rq 4 (.assign (tp 92)) 3,rq 5 (.assign (ki 0)) 32])
 (.ret)))))))))
def c31:RC:=
 .seq (.reg [] [
  rq 0 (.alloc 27) 0])
 (.seq (.reg [] [
   rq 1 (.buildSlice 25 2 #[(0,(ki 0)),(1,(ki 2))]) 25,rq 2 (cf 22 #[(tp 1)] #[25]) 25,rq 3 (.build 27 #[(0,(ki 2)),(1,(ki 3)),(2,(ki 2)),(3,(tp 2))]) 27,rn (.store 27 (tp 0) (tp 3)) 0])
 (.ret))
def c32:RC:=c32_32
def c33:RC:=c33_22
def c34:RC:=c34_20
def c35:RC:=
 .seq (.reg [] [
  rq 4 (.assign (.const (.slice none 0 0))) 30])
 (.seq (.reg [] [
   rq 5 (.assign (.const (.slice none 0 0))) 30])
 (.seq (.seq (.reg [] [
   rq 7 (.move (tp 0)) 61,rq 8 (.nilCheck (tp 7)) 0,rq 9 (.fieldAddr 66 (tp 8) 0) 0,rq 10 (.fieldAddr 27 (tp 9) 3) 0,rq 11 (.load 25 (tp 10)) 25,rq 12 (cb .len #[(tp 11)] #[25]) 3,rq 13 (.move (ki 0)) 3])
 (.block 0 (.loop (.seq (.reg [] [
   rq 14 (.binOp .lss 3 (tp 13) (tp 12) 3) 0])
   (.seq (.cond (tp 14) (.skip)
   (.exit 0))
   (.seq (.block 1 (.seq (.reg [] [
     rq 15 (.move (tp 13)) 3,
     rq 6 (.assign (tp 15)) 3])
    (.reg [] [
      rq 16 (.move (tp 5)) 30,
      rq 17 (.move (tp 0)) 61,
      rq 18 (.move (tp 1)) 25,
      rq 19 (.move (tp 6)) 3,
      rq 20 (cf 34 #[(tp 17),(tp 18),(tp 19)] #[61,25,3]) 25,
      rq 21 (.buildSlice 30 1 #[(0,(tp 20))]) 30,
      rq 22 (cb .append #[(tp 16),(tp 21)] #[30,30]) 30,
      rq 5 (.assign (tp 22)) 30])))
   (.reg [] [
     rq 23 (.binOp .add 3 (tp 13) (ki 1) 3) 3,
     rq 13 (.move (tp 23)) 3])))))))
 (.seq (.reg [] [
   rq 24 (.move (tp 5)) 30,rq 25 (cf 59 #[(tp 24),(.func 45)] #[30,79]) 0])
 (.seq (.reg [] [
   rq 26 (.move (tp 5)) 30,rq 27 (cf 60 #[(tp 26),(.func 37)] #[30,35]) 30,rq 4 (.assign (tp 27)) 30])
 (.ret)))))
def c36:RC:=
 .seq (.reg [] [
  rq 6 (.assign (.const (.int .u16 0))) 69])
 (.seq (.reg [] [
   rq 7 (.assign (.const (.int .u16 0))) 69])
 (.seq (.seq (.reg [] [
   rq 10 (.move (tp 0)) 61,rq 11 (.nilCheck (tp 10)) 0,rq 12 (.fieldAddr 66 (tp 11) 1) 0,rq 13 (.load 30 (tp 12)) 30,rq 14 (.move (tp 2)) 3,rq 15 (.indexAddr 30 (tp 13) (tp 14)) 0,rq 16 (.load 25 (tp 15)) 25,rq 17 (cb .len #[(tp 16)] #[25]) 3,rq 18 (.move (ki 0)) 3])
 (.block 0 (.loop (.seq (.reg [] [
   rq 19 (.binOp .lss 3 (tp 18) (tp 17) 3) 0])
   (.seq (.cond (tp 19) (.skip)
   (.exit 0))
   (.seq (.block 1 (.seq (.reg [] [
     rq 20 (.move (tp 18)) 3,
     rq 21 (.indexAddr 25 (tp 16) (tp 18)) 0,
     rq 22 (.load 3 (tp 21)) 3,
     rq 8 (.assign (tp 20)) 3,
     rq 9 (.assign (tp 22)) 3])
    (.seq (.reg [0, 1, 2, 3, 4, 5, 6, 7, 8] [
      rq 23 (.move (tp 1)) 25,
      rq 24 (.move (tp 9)) 3,
      rq 25 (.indexAddr 25 (tp 23) (tp 24)) 0,
      rq 26 (.load 3 (tp 25)) 3,
      rq 27 (.move (tp 1)) 25,
      rq 28 (.move (tp 8)) 3,
      rq 29 (.indexAddr 25 (tp 27) (tp 28)) 0,
      rq 30 (.load 3 (tp 29)) 3,
      rq 31 (.binOp .neq 3 (tp 26) (tp 30) 3) 4])
    (.cond (tp 31) (.reg [] [
      rq 32 (.move (tp 7)) 69,
      rq 33 (.move (tp 8)) 3,
      rq 34 (.binOp .shl 69 (.const (.int .u16 1)) (tp 33) 3) 69,
      rq 35 (.binOp .or 69 (tp 32) (tp 34) 69) 69,
      rq 7 (.assign (tp 35)) 69])
    (.skip)))))
   (.reg [] [
     rq 36 (.binOp .add 3 (tp 18) (ki 1) 3) 3,
     rq 18 (.move (tp 36)) 3])))))))
 (.seq (.reg [] [
   rq 37 (.move (tp 7)) 69,rq 6 (.assign (tp 37)) 69])
 (.ret))))
def c37:RC:=
 .seq (.reg [] [
  rq 4 (.assign (kb false)) 4])
 (.seq (.seq (.reg [] [
   rq 6 (.move (tp 0)) 25,rq 7 (cb .len #[(tp 6)] #[25]) 3,rq 8 (.move (tp 1)) 25,rq 9 (cb .len #[(tp 8)] #[25]) 3,rq 10 (.binOp .neq 3 (tp 7) (tp 9) 3) 4])
 (.cond (tp 10) (.seq (.reg [] [
   rq 4 (.assign (kb false)) 4])
  (.ret))
 (.skip)))
 (.seq (.seq (.reg [] [
   rq 11 (.move (tp 0)) 25,rq 12 (cb .len #[(tp 11)] #[25]) 3,rq 13 (.move (ki 0)) 3])
 (.block 0 (.loop (.seq (.reg [] [
   rq 14 (.binOp .lss 3 (tp 13) (tp 12) 3) 0])
   (.seq (.cond (tp 14) (.skip)
   (.exit 0))
   (.seq (.block 1 (.seq (.reg [] [
     rq 15 (.move (tp 13)) 3,
     rq 5 (.assign (tp 15)) 3])
    (.seq (.reg [0, 1, 2, 3, 4, 5, 6, 7, 8] [
      rq 16 (.move (tp 0)) 25,
      rq 17 (.move (tp 5)) 3,
      rq 18 (.indexAddr 25 (tp 16) (tp 17)) 0,
      rq 19 (.load 3 (tp 18)) 3,
      rq 20 (.move (tp 1)) 25,
      rq 21 (.move (tp 5)) 3,
      rq 22 (.indexAddr 25 (tp 20) (tp 21)) 0,
      rq 23 (.load 3 (tp 22)) 3,
      rq 24 (.binOp .neq 3 (tp 19) (tp 23) 3) 4])
    (.cond (tp 24) (.seq (.reg [] [
      rq 4 (.assign (kb false)) 4])
     (.ret))
    (.skip)))))
   (.reg [] [
     rq 25 (.binOp .add 3 (tp 13) (ki 1) 3) 3,
     rq 13 (.move (tp 25)) 3])))))))
 (.seq (.reg [] [
   rq 4 (.assign (kb true)) 4])
 (.ret))))
def c38:RC:=
 .seq (.reg [] [
  rq 0 (.alloc 27) 0])
 (.seq (.reg [] [
   rq 1 (.buildSlice 25 4 #[(0,(ki 0)),(1,(ki 1)),(2,(ki 2)),(3,(ki 3))]) 25,rq 2 (cf 22 #[(tp 1)] #[25]) 25,rq 3 (.build 27 #[(0,(ki 2)),(1,(ki 2)),(2,(ki 2)),(3,(tp 2))]) 27,rn (.store 27 (tp 0) (tp 3)) 0])
 (.ret))
def c39:RC:=
 .seq (.reg [] [
  rq 2 (.assign (.const (.slice none 0 0))) 30])
 (.seq (.reg [] [
   rq 3 (.move (tp 0)) 30,rq 2 (.assign (tp 3)) 30])
 (.ret))
def c40:RC:=
 .seq (.block 0 (.loop (.seq (.seq (.reg [] [
  rq 12 (.move (tp 1)) 3,
  rq 13 (.load 61 (tp 2)) 61,
  rq 14 (.nilCheck (tp 13)) 0,
  rq 15 (.fieldAddr 66 (tp 14) 0) 0,
  rq 16 (.fieldAddr 27 (tp 15) 3) 0,
  rq 17 (.load 25 (tp 16)) 25,
  rq 18 (cb .len #[(tp 17)] #[25]) 3,
  rq 19 (.binOp .lss 3 (tp 12) (tp 18) 3) 4])
  (.cond (tp 19) (.skip)
  (.exit 0)))
  (.block 1 (.seq (.reg [] [
    rq 20 (.load 61 (tp 2)) 61,
    rq 21 (.load 25 (tp 3)) 25,
    rq 22 (.move (tp 1)) 3,
    rq 23 (cf 36 #[(tp 20),(tp 21),(tp 22)] #[61,25,3]) 69,
    rq 9 (.alloc 69) 0,
    rn (.store 69 (tp 9) (tp 23)) 0])
   (.seq (.seq (.reg [] [
     rq 24 (.load 69 (tp 9)) 69,
     rq 25 (.binOp .neq 69 (tp 24) (.const (.int .u16 0)) 69) 4,
     rq 26 (.move (tp 25)) 4,
     rg 27 (.move (tp 0)) 25 26 true,
     rg 28 (.makeFunc (.func 42) #[] #[(tp 9)]) 74 26 true,
     rg 29 (cf 41 #[(tp 27),(tp 28)] #[25,74]) 4 26 true,
     rg 30 (.unOp .not 4 (tp 29)) 4 26 true,
     rq 31 (.pick (tp 26) (tp 30) (kb false)) 4])
   (.cond (tp 31) (.exit 0)
   (.skip)))
   (.reg [] [
     rq 32 (.move (tp 1)) 3,
     rq 33 (.binOp .add 3 (tp 32) (ki 1) 3) 3,
     rq 1 (.assign (tp 33)) 3])))))))
 (.seq (.seq (.reg [] [
   rq 34 (.move (tp 1)) 3,rq 35 (.load 61 (tp 2)) 61,rq 36 (.nilCheck (tp 35)) 0,rq 37 (.fieldAddr 66 (tp 36) 0) 0,rq 38 (.fieldAddr 27 (tp 37) 3) 0,rq 39 (.load 25 (tp 38)) 25,rq 40 (cb .len #[(tp 39)] #[25]) 3,rq 41 (.binOp .eql 3 (tp 34) (tp 40) 3) 4])
 (.cond (tp 41) (.seq (.reg [] [
   rq 42 (.move (tp 0)) 25,
   rq 43 (cf 44 #[(tp 42)] #[25]) 77,
   rq 44 (cf 43 #[(tp 43)] #[77]) 25,
   rq 10 (.assign (tp 44)) 25])
  (.seq (.seq (.reg [] [
    rq 45 (.move (tp 10)) 25,
    rq 46 (cb .len #[(tp 45)] #[25]) 3,
    rq 47 (.load 3 (tp 4)) 3,
    rq 48 (.binOp .lss 3 (tp 46) (tp 47) 3) 4,
    rq 49 (.move (tp 48)) 4,
    rg 50 (.move (tp 10)) 25 49 false,
    rg 51 (cb .len #[(tp 50)] #[25]) 3 49 false,
    rg 52 (.load 3 (tp 4)) 3 49 false,
    rg 53 (.binOp .eql 3 (tp 51) (tp 52) 3) 4 49 false,
    rg 54 (.move (tp 53)) 4 49 false,
    rg 55 (.move (tp 10)) 25 54 true,
    rg 56 (.load 25 (tp 5)) 25 54 true,
    rg 57 (cf 45 #[(tp 55),(tp 56)] #[25,25]) 3 54 true,
    rg 58 (.binOp .lss 3 (tp 57) (ki 0) 3) 4 54 true,
    rg 59 (.pick (tp 54) (tp 58) (kb false)) 4 49 false,
    rq 60 (.pick (tp 49) (kb true) (tp 59)) 4])
  (.cond (tp 60) (.reg [] [
    rq 61 (.move (tp 10)) 25,
    rq 62 (.move (tp 10)) 25,
    rq 63 (cb .len #[(tp 62)] #[25]) 3,
    rn (.store 25 (tp 5) (tp 61)) 0,
    rn (.store 3 (tp 4) (tp 63)) 0])
  (.skip)))
  (.ret)))
 (.skip)))
 (.seq (.seq (.reg [] [
   rq 64 (.move (tp 0)) 25,rq 65 (cb .len #[(tp 64)] #[25]) 3,rq 66 (.load 3 (tp 4)) 3,rq 67 (.binOp .eql 3 (tp 65) (tp 66) 3) 4])
 (.cond (tp 67) (.ret)
 (.skip)))
 (.seq (.reg [] [
   rq 68 (.load 61 (tp 2)) 61,rq 69 (.load 25 (tp 3)) 25,rq 70 (.move (tp 1)) 3,rq 71 (cf 36 #[(tp 68),(tp 69),(tp 70)] #[61,25,3]) 69,rq 11 (.assign (tp 71)) 69])
 (.block 2 (.loop (.seq (.seq (.reg [] [
   rq 72 (.move (tp 11)) 69,
   rq 73 (.binOp .neq 69 (tp 72) (.const (.int .u16 0)) 69) 4])
   (.cond (tp 73) (.skip)
   (.exit 2)))
   (.seq (.block 3 (.reg [0, 1, 3, 7, 8, 2, 4, 5, 6, 9] [
     rq 78 (.load 72 (tp 6)) 72,
     rq 79 (.move (tp 0)) 25,
     rq 81 (.move (tp 11)) 69,
     rq 85 (.move (tp 1)) 3,
     rq 86 (.binOp .add 3 (tp 85) (ki 1) 3) 3,
     ⟨(some 80),cf 46 #[(tp 79)] #[25],25,none,[(tp 6)]⟩,
     ⟨(some 82),cf 47 #[(tp 81)] #[69],3,none,[(tp 6)]⟩,
     rq 83 (.buildSlice 25 1 #[(0,(tp 82))]) 25,
     ⟨(some 84),cb .append #[(tp 80),(tp 83)] #[25,25],25,none,[(tp 6)]⟩,
     rq 87 (.call ⟨.value (tp 78),#[(tp 84),(tp 86)],#[25,3]⟩) 0]))
   (.reg [] [
     rq 74 (.move (tp 11)) 69,
     rq 75 (.move (tp 11)) 69,
     rq 76 (.binOp .sub 69 (tp 75) (.const (.int .u16 1)) 69) 69,
     rq 77 (.binOp .and 69 (tp 74) (tp 76) 69) 69,
     rq 11 (.assign (tp 77)) 69]))))))))
def c41:RC:=
 .seq (.reg [] [
  rq 4 (.assign (kb false)) 4])
 (.seq (.reg [] [
   rq 5 (.move (tp 0)) 25,rq 6 (.move (tp 1)) 74,rq 7 (cf 61 #[(tp 5),(tp 6)] #[25,74]) 3,rq 8 (.binOp .geq 3 (tp 7) (ki 0) 3) 4,rq 4 (.assign (tp 8)) 4])
 (.ret))
def c42:RC:=
 .seq (.reg [] [
  rq 3 (.assign (kb false)) 4])
 (.seq (.reg [] [
   rq 4 (.load 69 (tp 1)) 69,rq 5 (.move (tp 0)) 3,rq 6 (.binOp .shr 69 (tp 4) (tp 5) 3) 69,rq 7 (.binOp .and 69 (tp 6) (.const (.int .u16 1)) 69) 69,rq 8 (.binOp .eql 69 (tp 7) (.const (.int .u16 1)) 69) 4,rq 3 (.assign (tp 8)) 4])
 (.ret))
def c43:RC:=
 .seq (.reg [] [
  rq 2 (.assign (.const (.slice none 0 0))) 25])
 (.seq (.reg [] [
   rq 4 (.move (tp 0)) 77,rq 5 (cf 62 #[(tp 4)] #[77]) 25,rq 3 (.assign (tp 5)) 25])
 (.seq (.reg [] [
   rq 6 (.move (tp 3)) 25,rq 7 (cf 63 #[(tp 6)] #[25]) 0])
 (.seq (.reg [] [
   rq 8 (.move (tp 3)) 25,rq 2 (.assign (tp 8)) 25])
 (.ret))))
def c44:RC:=
 .seq (.reg [] [
  rq 1 (.box 25 (tp 0)) 0,rq 2 (.assign (.const .nilFunc)) 77])
 (.seq (.reg [] [
   rq 3 (.makeFunc (.func 64) #[] #[(tp 1)]) 76,rq 2 (.assign (tp 3)) 77])
 (.ret))
def c45:RC:=
 .seq (.reg [] [
  rq 4 (.assign (ki 0)) 3])
 (.seq (.seq (.reg [] [
   rq 9 (.move (tp 0)) 25,rq 10 (cb .len #[(tp 9)] #[25]) 3,rq 11 (.move (ki 0)) 3])
 (.block 0 (.loop (.seq (.reg [] [
   rq 12 (.binOp .lss 3 (tp 11) (tp 10) 3) 0])
   (.seq (.cond (tp 12) (.skip)
   (.exit 0))
   (.seq (.block 1 (.seq (.reg [] [
     rq 13 (.move (tp 11)) 3,
     rq 14 (.indexAddr 25 (tp 9) (tp 11)) 0,
     rq 15 (.load 3 (tp 14)) 3,
     rq 5 (.assign (tp 13)) 3,
     rq 6 (.assign (tp 15)) 3])
    (.seq (.seq (.reg [] [
      rq 16 (.move (tp 5)) 3,
      rq 17 (.move (tp 1)) 25,
      rq 18 (cb .len #[(tp 17)] #[25]) 3,
      rq 19 (.binOp .geq 3 (tp 16) (tp 18) 3) 4])
    (.cond (tp 19) (.seq (.reg [] [
      rq 4 (.assign (ki 1)) 3])
     (.ret))
    (.skip)))
    (.seq (.reg [] [
      rq 20 (.move (tp 1)) 25,
      rq 21 (.move (tp 5)) 3,
      rq 22 (.indexAddr 25 (tp 20) (tp 21)) 0,
      rq 23 (.load 3 (tp 22)) 3,
      rq 7 (.assign (tp 23)) 3])
    (.seq (.reg [] [
      rq 24 (.move (tp 6)) 3,
      rq 25 (.move (tp 7)) 3,
      rq 26 (cf 65 #[(tp 24),(tp 25)] #[3,3]) 3,
      rq 8 (.assign (tp 26)) 3])
    (.seq (.reg [] [
      rq 27 (.move (tp 8)) 3,
      rq 28 (.binOp .neq 3 (tp 27) (ki 0) 3) 4])
    (.cond (tp 28) (.seq (.reg [] [
      rq 29 (.move (tp 8)) 3,
      rq 4 (.assign (tp 29)) 3])
     (.ret))
    (.skip))))))))
   (.reg [] [
     rq 30 (.binOp .add 3 (tp 11) (ki 1) 3) 3,
     rq 11 (.move (tp 30)) 3])))))))
 (.seq (.seq (.reg [] [
   rq 31 (.move (tp 0)) 25,rq 32 (cb .len #[(tp 31)] #[25]) 3,rq 33 (.move (tp 1)) 25,rq 34 (cb .len #[(tp 33)] #[25]) 3,rq 35 (.binOp .lss 3 (tp 32) (tp 34) 3) 4])
 (.cond (tp 35) (.seq (.reg [] [
   rq 4 (.assign (ki (-1))) 3])
  (.ret))
 (.skip)))
 (.seq (.reg [] [
   rq 4 (.assign (ki 0)) 3])
 (.ret))))
def c46:RC:=
 .seq (.reg [] [
  rq 2 (.assign (.const (.slice none 0 0))) 25])
 (.seq (.reg [] [
   rq 3 (.move (tp 0)) 25,rq 4 (.move (tp 0)) 25,rq 5 (cb .len #[(tp 4)] #[25]) 3,rq 6 (.move (tp 0)) 25,rq 7 (cb .len #[(tp 6)] #[25]) 3,rq 8 (.slice 25 (tp 3) none (some (tp 5)) (some (tp 7))) 25,rq 2 (.assign (tp 8)) 25])
 (.ret))
def c47:RC:=
 .seq (.reg [] [
  rq 2 (.assign (ki 0)) 3])
 (.seq (.seq (.reg [] [
   rq 3 (.move (tp 0)) 69,rq 4 (.binOp .eql 69 (tp 3) (.const (.int .u16 0)) 69) 4])
 (.cond (tp 4) (.seq (.reg [] [
   rq 2 (.assign (ki 16)) 3])
  (.ret))
 (.skip)))
 (.seq (.reg [] [
   rq 5 (.move (tp 0)) 69,rq 6 (.move (tp 0)) 69,rq 7 (.unOp .neg 69 (tp 6)) 69,rq 8 (.binOp .and 69 (tp 5) (tp 7) 69) 69,rq 9 (.convert 69 99 (tp 8)) 99,rq 10 (.binOp .mul 99 (tp 9) (.const (.int .u32 125613361)) 99) 99,rq 11 (.binOp .shr 99 (tp 10) (.const (.int .u64 27)) 100) 99,rq 12 (.indexAddr 98 (.global 0) (tp 11)) 0,rq 13 (.load 5 (tp 12)) 5,rq 14 (.convert 5 3 (tp 13)) 3,rq 2 (.assign (tp 14)) 3])
 (.ret)))
def c48:RC:=c48_3
def c49:RC:=c49_91
def c50:RC:=
 .seq (.reg [] [
  rq 4 (.assign (ki 0)) 3])
 (.seq (.reg [] [
   rq 5 (.assign (ki 1)) 3])
 (.seq (.seq (.reg [] [
   rq 8 (.move (tp 0)) 61,rq 9 (.move (tp 1)) 3,rq 10 (cf 57 #[(tp 8),(tp 9)] #[61,3]) 91,rq 11 (.move (ki 0)) 3])
 (.block 0 (.loop (.seq (.reg [] [
   rq 12 (.binOp .lss 3 (tp 11) (ki 17) 3) 0])
   (.seq (.cond (tp 12) (.skip)
   (.exit 0))
   (.seq (.block 1 (.seq (.reg [] [
     rq 13 (.index 91 (tp 10) (tp 11)) 3,
     rq 7 (.assign (tp 13)) 3])
    (.seq (.reg [] [
      rq 14 (.move (tp 7)) 3,
      rq 15 (.move (ki 0)) 3])
    (.block 2 (.loop (.seq (.reg [] [
      rq 16 (.binOp .lss 3 (tp 15) (tp 14) 3) 4])
      (.seq (.cond (tp 16) (.skip)
      (.exit 2))
      (.seq (.block 3 (.reg [] [
        rq 17 (.move (tp 5)) 3,
        rq 18 (.move (tp 0)) 61,
        rq 19 (.nilCheck (tp 18)) 0,
        rq 20 (.fieldAddr 66 (tp 19) 0) 0,
        rq 21 (.fieldAddr 27 (tp 20) 2) 0,
        rq 22 (.load 3 (tp 21)) 3,
        rq 23 (.binOp .mul 3 (tp 17) (tp 22) 3) 3,
        rq 5 (.assign (tp 23)) 3]))
      (.reg [] [
        rq 24 (.binOp .add 3 (tp 15) (ki 1) 3) 3,
        rq 15 (.move (tp 24)) 3])))))))))
   (.reg [] [
     rq 25 (.binOp .add 3 (tp 11) (ki 1) 3) 3,
     rq 11 (.move (tp 25)) 3])))))))
 (.seq (.reg [] [
   rq 26 (.move (tp 5)) 3,rq 4 (.assign (tp 26)) 3])
 (.ret))))
def c51:RC:=c51_27
def c52:RC:=c52_8
def c53:RC:=c53_27
def c55:RC:=
 .seq (.reg [] [
  rq 2 (.assign (.const (.slice none 0 0))) 25])
 (.seq (.seq (.reg [] [
   rq 3 (.move (tp 0)) 25,rq 4 (.binOp .eql 25 (tp 3) (.const (.slice none 0 0)) 25) 4])
 (.cond (tp 4) (.seq (.reg [] [
   rq 2 (.assign (.const (.slice none 0 0))) 25])
  (.ret))
 (.skip)))
 (.seq (.reg [] [
   rq 5 (.buildSlice 25 0 #[]) 25,rq 6 (.move (tp 0)) 25,rq 7 (cb .append #[(tp 5),(tp 6)] #[25,25]) 25,rq 2 (.assign (tp 7)) 25])
 (.ret)))
def c56:RC:=
 .seq (.reg [] [
  rq 2 (.box 91 (tp 0)) 0,rq 3 (.box 25 (tp 1)) 0,rq 4 (.assign (ki 0)) 3])
 (.seq (.seq (.reg [] [
   rq 6 (.load 25 (tp 3)) 25,rq 7 (cb .len #[(tp 6)] #[25]) 3,rq 8 (.binOp .eql 3 (tp 7) (ki 1) 3) 4])
 (.cond (tp 8) (.seq (.reg [] [
   rq 4 (.assign (ki 1)) 3])
  (.ret))
 (.skip)))
 (.seq (.reg [] [
   rq 5 (.alloc 102) 0])
 (.seq (.reg [] [
   rq 9 (.makeFunc (.func 67) #[] #[(tp 2),(tp 3),(tp 5)]) 102,rn (.store 102 (tp 5) (tp 9)) 0])
 (.seq (.reg [0, 1, 2, 3, 4, 5] [
   rq 10 (.load 102 (tp 5)) 102,rq 11 (.load 25 (tp 3)) 25,rq 12 (.indexAddr 25 (tp 11) (ki 0)) 0,rq 13 (.load 3 (tp 12)) 3,rq 14 (.call ⟨.value (tp 10),#[(ki 1),(tp 13),(ki 1)],#[3,3,3]⟩) 3,rq 4 (.assign (tp 14)) 3])
 (.ret)))))
def c57:RC:=
 .seq (.reg [] [
  rq 4 (.alloc 91) 0])
 (.seq (.reg [] [
   rq 5 (.assign (.const (.int .u16 0))) 69])
 (.seq (.seq (.reg [] [
   rq 9 (.move (tp 0)) 61,rq 10 (.nilCheck (tp 9)) 0,rq 11 (.fieldAddr 66 (tp 10) 1) 0,rq 12 (.load 30 (tp 11)) 30,rq 13 (.move (tp 1)) 3,rq 14 (.indexAddr 30 (tp 12) (tp 13)) 0,rq 15 (.load 25 (tp 14)) 25,rq 16 (cb .len #[(tp 15)] #[25]) 3,rq 17 (.move (ki 0)) 3])
 (.block 0 (.loop (.seq (.reg [] [
   rq 18 (.binOp .lss 3 (tp 17) (tp 16) 3) 0])
   (.seq (.cond (tp 18) (.skip)
   (.exit 0))
   (.seq (.block 1 (.seq (.reg [] [
     rq 19 (.move (tp 17)) 3,
     rq 6 (.assign (tp 19)) 3])
    (.seq (.reg [] [
      rq 7 (.assign (ki 0)) 3])
    (.seq (.seq (.reg [] [
      rq 20 (.move (tp 6)) 3,
      rq 8 (.assign (tp 20)) 3])
    (.block 2 (.loop (.seq (.seq (.reg [] [
      rq 21 (.move (tp 5)) 69,
      rq 22 (.move (tp 8)) 3,
      rq 23 (.binOp .shr 69 (tp 21) (tp 22) 3) 69,
      rq 24 (.binOp .and 69 (tp 23) (.const (.int .u16 1)) 69) 69,
      rq 25 (.binOp .eql 69 (tp 24) (.const (.int .u16 0)) 69) 4])
      (.cond (tp 25) (.skip)
      (.exit 2)))
      (.seq (.block 3 (.seq (.reg [] [
        rq 36 (.move (tp 5)) 69,
        rq 37 (.move (tp 8)) 3,
        rq 38 (.binOp .shl 69 (.const (.int .u16 1)) (tp 37) 3) 69,
        rq 39 (.binOp .or 69 (tp 36) (tp 38) 69) 69,
        rq 5 (.assign (tp 39)) 69])
       (.reg [] [
         rq 40 (.move (tp 7)) 3,
         rq 41 (.binOp .add 3 (tp 40) (ki 1) 3) 3,
         rq 7 (.assign (tp 41)) 3])))
      (.reg [] [
        rq 26 (.move (tp 0)) 61,
        rq 27 (.nilCheck (tp 26)) 0,
        rq 28 (.fieldAddr 66 (tp 27) 1) 0,
        rq 29 (.load 30 (tp 28)) 30,
        rq 30 (.move (tp 1)) 3,
        rq 31 (.indexAddr 30 (tp 29) (tp 30)) 0,
        rq 32 (.load 25 (tp 31)) 25,
        rq 33 (.move (tp 8)) 3,
        rq 34 (.indexAddr 25 (tp 32) (tp 33)) 0,
        rq 35 (.load 3 (tp 34)) 3,
        rq 8 (.assign (tp 35)) 3]))))))
    (.reg [] [
      rq 42 (.move (tp 7)) 3,
      rq 43 (.indexAddr 91 (tp 4) (tp 42)) 0,
      rq 44 (.load 3 (tp 43)) 3,
      rq 45 (.binOp .add 3 (tp 44) (ki 1) 3) 3,
      rq 46 (.indexAddr 91 (tp 4) (tp 42)) 0,
      rn (.store 3 (tp 46) (tp 45)) 0])))))
   (.reg [] [
     rq 47 (.binOp .add 3 (tp 17) (ki 1) 3) 3,
     rq 17 (.move (tp 47)) 3])))))))
 (.seq (.reg [] [
   rq 48 (.indexAddr 91 (tp 4) (ki 0)) 0,rn (.store 3 (tp 48) (ki 0)) 0])
 (.seq (.reg [] [
   rq 49 (.load 91 (tp 4)) 91,rn (.store 91 (tp 4) (tp 49)) 0])
 (.ret)))))
def c58:RC:=c58_15
def c59:RC:=
 .seq (.reg [] [
  rq 5 (.move (tp 0)) 30,rq 6 (cb .len #[(tp 5)] #[30]) 3,rq 4 (.assign (tp 6)) 3])
 (.reg [] [
   rq 7 (.move (tp 0)) 30,rq 8 (.move (tp 4)) 3,rq 9 (.move (tp 4)) 3,rq 10 (.convert 3 100 (tp 9)) 100,rq 11 (cf 71 #[(tp 10)] #[100]) 3,rq 12 (.move (tp 1)) 79,rq 13 (cf 70 #[(tp 7),(ki 0),(tp 8),(tp 11),(tp 12)] #[30,3,3,3,79]) 0])
def c60:RC:=
 .seq (.reg [] [
  rq 4 (.assign (.const (.slice none 0 0))) 30])
 (.seq (.seq (.reg [] [
   rq 8 (.move (tp 0)) 30,rq 9 (cb .len #[(tp 8)] #[30]) 3,rq 10 (.binOp .lss 3 (tp 9) (ki 2) 3) 4])
 (.cond (tp 10) (.seq (.reg [] [
   rq 11 (.move (tp 0)) 30,
   rq 4 (.assign (tp 11)) 30])
  (.ret))
 (.skip)))
 (.seq (.seq (.reg [] [
   rq 5 (.assign (ki 1)) 3])
 (.block 0 (.loop (.seq (.seq (.reg [] [
   rq 12 (.move (tp 5)) 3,
   rq 13 (.move (tp 0)) 30,
   rq 14 (cb .len #[(tp 13)] #[30]) 3,
   rq 15 (.binOp .lss 3 (tp 12) (tp 14) 3) 4])
   (.cond (tp 15) (.skip)
   (.exit 0)))
   (.seq (.block 1 (.seq (.reg [0, 1, 2, 3, 4, 5, 6, 7, 8, 9, 10] [
     rq 18 (.move (tp 1)) 35,
     rq 19 (.move (tp 0)) 30,
     rq 20 (.move (tp 5)) 3,
     rq 21 (.indexAddr 30 (tp 19) (tp 20)) 0,
     rq 22 (.load 25 (tp 21)) 25,
     rq 23 (.move (tp 0)) 30,
     rq 24 (.move (tp 5)) 3,
     rq 25 (.binOp .sub 3 (tp 24) (ki 1) 3) 3,
     rq 26 (.indexAddr 30 (tp 23) (tp 25)) 0,
     rq 27 (.load 25 (tp 26)) 25,
     rq 28 (.call ⟨.value (tp 18),#[(tp 22),(tp 27)],#[25,25]⟩) 4])
    (.cond (tp 28) (.seq (.reg [] [
      rq 29 (.move (tp 0)) 30,
      rq 30 (.move (tp 5)) 3,
      rq 31 (.slice 30 (tp 29) (some (tp 30)) none none) 30,
      rq 6 (.assign (tp 31)) 30])
     (.seq (.seq (.reg [] [
       rq 7 (.assign (ki 1)) 3])
     (.block 2 (.loop (.seq (.seq (.reg [] [
       rq 32 (.move (tp 7)) 3,
       rq 33 (.move (tp 6)) 30,
       rq 34 (cb .len #[(tp 33)] #[30]) 3,
       rq 35 (.binOp .lss 3 (tp 32) (tp 34) 3) 4])
       (.cond (tp 35) (.skip)
       (.exit 2)))
       (.seq (.block 3 (.seq (.reg [0, 1, 2, 3, 4, 5, 6, 7, 8, 9, 10, 11] [
         rq 38 (.move (tp 1)) 35,
         rq 39 (.move (tp 6)) 30,
         rq 40 (.move (tp 7)) 3,
         rq 41 (.indexAddr 30 (tp 39) (tp 40)) 0,
         rq 42 (.load 25 (tp 41)) 25,
         rq 43 (.move (tp 6)) 30,
         rq 44 (.move (tp 7)) 3,
         rq 45 (.binOp .sub 3 (tp 44) (ki 1) 3) 3,
         rq 46 (.indexAddr 30 (tp 43) (tp 45)) 0,
         rq 47 (.load 25 (tp 46)) 25,
         rq 48 (.call ⟨.value (tp 38),#[(tp 42),(tp 47)],#[25,25]⟩) 4,
         rq 49 (.unOp .not 4 (tp 48)) 4])
        (.cond (tp 49) (.seq (.reg [] [
          rq 50 (.move (tp 0)) 30,
          rq 51 (.move (tp 5)) 3,
          rq 52 (.move (tp 6)) 30,
          rq 53 (.move (tp 7)) 3,
          rq 54 (.indexAddr 30 (tp 52) (tp 53)) 0,
          rq 55 (.load 25 (tp 54)) 25,
          rq 56 (.indexAddr 30 (tp 50) (tp 51)) 0,
          rn (.store 25 (tp 56) (tp 55)) 0])
         (.reg [] [
           rq 57 (.move (tp 5)) 3,
           rq 58 (.binOp .add 3 (tp 57) (ki 1) 3) 3,
           rq 5 (.assign (tp 58)) 3]))
        (.skip))))
       (.reg [] [
         rq 36 (.move (tp 7)) 3,
         rq 37 (.binOp .add 3 (tp 36) (ki 1) 3) 3,
         rq 7 (.assign (tp 37)) 3]))))))
     (.seq (.reg [] [
       rq 59 (.move (tp 0)) 30,
       rq 60 (.move (tp 5)) 3,
       rq 61 (.slice 30 (tp 59) (some (tp 60)) none none) 30,
       rn (cb .clear #[(tp 61)] #[30]) 0])
     (.seq (.reg [] [
       rq 62 (.move (tp 0)) 30,
       rq 63 (.move (tp 5)) 3,
       rq 64 (.slice 30 (tp 62) none (some (tp 63)) none) 30,
       rq 4 (.assign (tp 64)) 30])
     (.ret)))))
    (.skip))))
   (.reg [] [
     rq 16 (.move (tp 5)) 3,
     rq 17 (.binOp .add 3 (tp 16) (ki 1) 3) 3,
     rq 5 (.assign (tp 17)) 3]))))))
 (.seq (.reg [] [
   rq 65 (.move (tp 0)) 30,rq 4 (.assign (tp 65)) 30])
 (.ret))))
def c61:RC:=
 .seq (.reg [] [
  rq 4 (.assign (ki 0)) 3])
 (.seq (.seq (.reg [] [
   rq 6 (.move (tp 0)) 25,rq 7 (cb .len #[(tp 6)] #[25]) 3,rq 8 (.move (ki 0)) 3])
 (.block 0 (.loop (.seq (.reg [] [
   rq 9 (.binOp .lss 3 (tp 8) (tp 7) 3) 0])
   (.seq (.cond (tp 9) (.skip)
   (.exit 0))
   (.seq (.block 1 (.seq (.reg [] [
     rq 10 (.move (tp 8)) 3,
     rq 5 (.assign (tp 10)) 3])
    (.seq (.reg [] [
      rq 11 (.move (tp 1)) 74,
      rq 12 (.move (tp 0)) 25,
      rq 13 (.move (tp 5)) 3,
      rq 14 (.indexAddr 25 (tp 12) (tp 13)) 0,
      rq 15 (.load 3 (tp 14)) 3,
      rq 16 (.call ⟨.value (tp 11),#[(tp 15)],#[3]⟩) 4])
    (.cond (tp 16) (.seq (.reg [] [
      rq 17 (.move (tp 5)) 3,
      rq 4 (.assign (tp 17)) 3])
     (.ret))
    (.skip)))))
   (.reg [] [
     rq 18 (.binOp .add 3 (tp 8) (ki 1) 3) 3,
     rq 8 (.move (tp 18)) 3])))))))
 (.seq (.reg [] [
   rq 4 (.assign (ki (-1))) 3])
 (.ret)))
def c62:RC:=
 .seq (.reg [] [
  rq 2 (.assign (.const (.slice none 0 0))) 25])
 (.seq (.reg [] [
   rq 3 (.move (tp 0)) 77,rq 4 (cf 72 #[(.const (.slice none 0 0)),(tp 3)] #[25,77]) 25,rq 2 (.assign (tp 4)) 25])
 (.ret))
def c63:RC:=
 .seq (.reg [] [
  rq 3 (.move (tp 0)) 25,rq 4 (cb .len #[(tp 3)] #[25]) 3,rq 2 (.assign (tp 4)) 3])
 (.reg [] [
   rq 5 (.move (tp 0)) 25,rq 6 (.move (tp 2)) 3,rq 7 (.move (tp 2)) 3,rq 8 (.convert 3 100 (tp 7)) 100,rq 9 (cf 71 #[(tp 8)] #[100]) 3,rq 10 (cf 73 #[(tp 5),(ki 0),(tp 6),(tp 9)] #[25,3,3,3]) 0])
def c64:RC:=
 .seq (.reg [] [
  rq 5 (.load 25 (tp 1)) 25,rq 6 (cb .len #[(tp 5)] #[25]) 3,rq 7 (.move (ki 0)) 3])
 (.block 0 (.loop (.seq (.reg [] [
   rq 8 (.binOp .lss 3 (tp 7) (tp 6) 3) 0])
   (.seq (.cond (tp 8) (.skip)
   (.exit 0))
   (.seq (.block 1 (.seq (.reg [] [
     rq 9 (.indexAddr 25 (tp 5) (tp 7)) 0,
     rq 10 (.load 3 (tp 9)) 3,
     rq 4 (.assign (tp 10)) 3])
    (.seq (.reg [] [
      rq 11 (.move (tp 0)) 74,
      rq 12 (.move (tp 4)) 3,
      rq 13 (.call ⟨.value (tp 11),#[(tp 12)],#[3]⟩) 4,
      rq 14 (.unOp .not 4 (tp 13)) 4])
    (.cond (tp 14) (.ret)
    (.skip)))))
   (.reg [] [
     rq 15 (.binOp .add 3 (tp 7) (ki 1) 3) 3,
     rq 7 (.move (tp 15)) 3]))))))
def c65:RC:=
 .seq (.reg [] [
  rq 4 (.assign (ki 0)) 3])
 (.seq (.reg [] [
   rq 7 (.move (tp 0)) 3,rq 8 (cf 74 #[(tp 7)] #[3]) 4,rq 5 (.assign (tp 8)) 4])
 (.seq (.reg [] [
   rq 9 (.move (tp 1)) 3,rq 10 (cf 74 #[(tp 9)] #[3]) 4,rq 6 (.assign (tp 10)) 4])
 (.seq (.seq (.reg [] [
   rq 11 (.move (tp 5)) 4])
 (.cond (tp 11) (.seq (.seq (.reg [] [
   rq 12 (.move (tp 6)) 4])
  (.cond (tp 12) (.seq (.reg [] [
    rq 4 (.assign (ki 0)) 3])
   (.ret))
  (.skip)))
  (.seq (.reg [] [
    rq 4 (.assign (ki (-1))) 3])
  (.ret)))
 (.skip)))
 (.seq (.seq (.reg [] [
   rq 13 (.move (tp 6)) 4])
 (.cond (tp 13) (.seq (.reg [] [
   rq 4 (.assign (ki 1)) 3])
  (.ret))
 (.skip)))
 (.seq (.seq (.reg [] [
   rq 14 (.move (tp 0)) 3,rq 15 (.move (tp 1)) 3,rq 16 (.binOp .lss 3 (tp 14) (tp 15) 3) 4])
 (.cond (tp 16) (.seq (.reg [] [
   rq 4 (.assign (ki (-1))) 3])
  (.ret))
 (.skip)))
 (.seq (.seq (.reg [] [
   rq 17 (.move (tp 0)) 3,rq 18 (.move (tp 1)) 3,rq 19 (.binOp .gtr 3 (tp 17) (tp 18) 3) 4])
 (.cond (tp 19) (.seq (.reg [] [
   rq 4 (.assign (ki 1)) 3])
  (.ret))
 (.skip)))
 (.seq (.reg [] [
   rq 4 (.assign (ki 0)) 3])
 (.ret))))))))
def c66:RC:=
 .seq (.reg [] [
  rq 2 (.box 27 (tp 0)) 0,rq 4 (.assign (.const (.slice none 0 0))) 25])
 (.seq (.reg [] [
   rq 8 (.fieldAddr 27 (tp 2) 0) 0,rq 9 (.load 3 (tp 8)) 3,rq 10 (.fieldAddr 27 (tp 2) 1) 0,rq 11 (.load 3 (tp 10)) 3,rq 12 (.binOp .mul 3 (tp 9) (tp 11) 3) 3,rq 13 (.makeSlice 25 (tp 12) (tp 12)) 25,rq 5 (.assign (tp 13)) 25])
 (.seq (.seq (.reg [] [
   rq 14 (.move (tp 5)) 25,rq 15 (cb .len #[(tp 14)] #[25]) 3,rq 16 (.move (ki 0)) 3])
 (.block 0 (.loop (.seq (.reg [] [
   rq 17 (.binOp .lss 3 (tp 16) (tp 15) 3) 0])
   (.seq (.cond (tp 17) (.skip)
   (.exit 0))
   (.seq (.block 1 (.seq (.reg [] [
     rq 18 (.move (tp 16)) 3,
     rq 6 (.assign (tp 18)) 3])
    (.reg [] [
      rq 19 (.move (tp 5)) 25,
      rq 20 (.move (tp 6)) 3,
      rq 21 (.move (tp 6)) 3,
      rq 22 (.indexAddr 25 (tp 19) (tp 20)) 0,
      rn (.store 3 (tp 22) (tp 21)) 0])))
   (.reg [] [
     rq 23 (.binOp .add 3 (tp 16) (ki 1) 3) 3,
     rq 16 (.move (tp 23)) 3])))))))
 (.seq (.reg [] [
   rq 24 (.move (tp 1)) 3,rq 25 (cf 51 #[(tp 24)] #[3]) 86,rq 7 (.alloc 86) 0,rn (.store 86 (tp 7) (tp 25)) 0])
 (.seq (.seq (.reg [] [
   rq 26 (.fieldAddr 86 (tp 7) 0) 0,rq 27 (.load 3 (tp 26)) 3,rq 28 (.binOp .eql 3 (tp 27) (ki 2) 3) 4])
 (.cond (tp 28) (.reg [] [
   rq 29 (.move (tp 5)) 25,
   rq 30 (cf 75 #[(tp 29)] #[25]) 0])
 (.seq (.reg [] [
   rq 31 (.fieldAddr 86 (tp 7) 0) 0,
   rq 32 (.load 3 (tp 31)) 3,
   rq 33 (.move (ki 0)) 3])
  (.block 2 (.loop (.seq (.reg [] [
    rq 34 (.binOp .lss 3 (tp 33) (tp 32) 3) 4])
    (.seq (.cond (tp 34) (.skip)
    (.exit 2))
    (.seq (.block 3 (.reg [] [
      rq 35 (.move (tp 5)) 25,
      rq 36 (.fieldAddr 27 (tp 2) 0) 0,
      rq 37 (.load 3 (tp 36)) 3,
      rq 38 (cf 76 #[(tp 35),(tp 37)] #[25,3]) 25,
      rq 5 (.assign (tp 38)) 25]))
    (.reg [] [
      rq 39 (.binOp .add 3 (tp 33) (ki 1) 3) 3,
      rq 33 (.move (tp 39)) 3])))))))))
 (.seq (.seq (.reg [] [
   rq 40 (.fieldAddr 86 (tp 7) 1) 0,rq 41 (.load 4 (tp 40)) 4])
 (.cond (tp 41) (.reg [] [
   rq 42 (.move (tp 5)) 25,
   rq 43 (.fieldAddr 27 (tp 2) 1) 0,
   rq 44 (.load 3 (tp 43)) 3,
   rq 45 (cf 77 #[(tp 42),(tp 44)] #[25,3]) 25,
   rq 5 (.assign (tp 45)) 25])
 (.skip)))
 (.seq (.reg [] [
   rq 46 (.move (tp 5)) 25,rq 4 (.assign (tp 46)) 25])
 (.ret)))))))
def c67:RC:=
 .seq (.reg [] [
  rq 9 (.assign (ki 0)) 3])
 (.seq (.seq (.reg [] [
   rq 14 (.move (tp 0)) 3,rq 15 (.binOp .eql 3 (tp 14) (ki 17) 3) 4])
 (.cond (tp 15) (.seq (.seq (.reg [] [
   rq 16 (.move (tp 1)) 3,
   rq 17 (.binOp .gtr 3 (tp 16) (ki 0) 3) 4])
  (.cond (tp 17) (.seq (.reg [] [
    rq 9 (.assign (ki 0)) 3])
   (.ret))
  (.skip)))
  (.seq (.reg [0, 1, 2, 3, 4, 5, 6] [
    rq 18 (.move (tp 2)) 3,
    rq 19 (.load 91 (tp 3)) 91,
    rq 20 (.load 25 (tp 4)) 25,
    rq 21 (.slice 25 (tp 20) (some (ki 1)) none none) 25,
    rq 22 (cf 56 #[(tp 19),(tp 21)] #[91,25]) 3,
    rq 23 (.binOp .mul 3 (tp 18) (tp 22) 3) 3,
    rq 9 (.assign (tp 23)) 3])
  (.ret)))
 (.skip)))
 (.seq (.reg [0, 1, 2, 3, 4] [
   rq 24 (.move (tp 0)) 3,rq 25 (.indexAddr 91 (tp 3) (tp 24)) 0,rq 26 (.load 3 (tp 25)) 3,rq 10 (.assign (ki 0)) 3,rq 11 (.assign (tp 26)) 3])
 (.seq (.seq (.reg [] [
   rq 12 (.assign (ki 0)) 3,rq 13 (.assign (ki 1)) 3])
 (.block 0 (.loop (.seq (.seq (.reg [] [
   rq 27 (.move (tp 12)) 3,
   rq 28 (.move (tp 11)) 3,
   rq 29 (.binOp .leq 3 (tp 27) (tp 28) 3) 4,
   rq 30 (.move (tp 29)) 4,
   rg 31 (.move (tp 12)) 3 30 true,
   rg 32 (.move (tp 0)) 3 30 true,
   rg 33 (.binOp .mul 3 (tp 31) (tp 32) 3) 3 30 true,
   rg 34 (.move (tp 1)) 3 30 true,
   rg 35 (.binOp .leq 3 (tp 33) (tp 34) 3) 4 30 true,
   rq 36 (.pick (tp 30) (tp 35) (kb false)) 4])
   (.cond (tp 36) (.skip)
   (.exit 0)))
   (.seq (.block 1 (.seq (.reg [] [
     rq 39 (.move (tp 0)) 3,
     rq 40 (.move (tp 11)) 3,
     rq 41 (.move (tp 12)) 3,
     rq 42 (.binOp .sub 3 (tp 40) (tp 41) 3) 3,
     rq 43 (.indexAddr 91 (tp 3) (tp 39)) 0,
     rn (.store 3 (tp 43) (tp 42)) 0])
    (.seq (.reg [] [
      rq 44 (.move (tp 10)) 3,
      rq 45 (.load 102 (tp 5)) 102,
      rq 46 (.move (tp 0)) 3,
      rq 47 (.binOp .add 3 (tp 46) (ki 1) 3) 3,
      rq 48 (.move (tp 1)) 3,
      rq 49 (.move (tp 12)) 3,
      rq 50 (.move (tp 0)) 3,
      rq 51 (.binOp .mul 3 (tp 49) (tp 50) 3) 3,
      rq 52 (.binOp .sub 3 (tp 48) (tp 51) 3) 3,
      rq 53 (.move (tp 2)) 3,
      rq 54 (.move (tp 13)) 3,
      rq 55 (.binOp .mul 3 (tp 53) (tp 54) 3) 3,
      rq 56 (.call ⟨.value (tp 45),#[(tp 47),(tp 52),(tp 55)],#[3,3,3]⟩) 3,
      rq 57 (.binOp .add 3 (tp 44) (tp 56) 3) 3,
      rq 10 (.assign (tp 57)) 3])
    (.reg [] [
      rq 58 (.move (tp 13)) 3,
      rq 59 (.move (tp 11)) 3,
      rq 60 (.move (tp 12)) 3,
      rq 61 (.binOp .sub 3 (tp 59) (tp 60) 3) 3,
      rq 62 (.binOp .mul 3 (tp 58) (tp 61) 3) 3,
      rq 63 (.move (tp 12)) 3,
      rq 64 (.binOp .add 3 (tp 63) (ki 1) 3) 3,
      rq 65 (.binOp .quo 3 (tp 62) (tp 64) 3) 3,
      rq 13 (.assign (tp 65)) 3]))))
   (.reg [] [
     rq 37 (.move (tp 12)) 3,
     rq 38 (.binOp .add 3 (tp 37) (ki 1) 3) 3,
     rq 12 (.assign (tp 38)) 3]))))))
 (.seq (.reg [] [
   rq 66 (.move (tp 0)) 3,rq 67 (.move (tp 11)) 3,rq 68 (.indexAddr 91 (tp 3) (tp 66)) 0,rn (.store 3 (tp 68) (tp 67)) 0])
 (.seq (.reg [] [
   rq 69 (.move (tp 10)) 3,rq 9 (.assign (tp 69)) 3])
 (.ret))))))
def c68:RC:=c68_23
def c69:RC:=c69_23
def c70:RC:=
 .seq (.reg [] [
  rq 10 (.assign (kb true)) 4])
 (.seq (.reg [] [
   rq 11 (.assign (kb true)) 4])
 (.block 0 (.loop (.block 1 (.seq (.reg [] [
   rq 21 (.move (tp 2)) 3,
   rq 22 (.move (tp 1)) 3,
   rq 23 (.binOp .sub 3 (tp 21) (tp 22) 3) 3,
   rq 12 (.assign (tp 23)) 3])
   (.seq (.seq (.reg [] [
     rq 24 (.move (tp 12)) 3,
     rq 25 (.binOp .leq 3 (tp 24) (ki 12) 3) 4])
   (.cond (tp 25) (.seq (.reg [] [
     rq 26 (.move (tp 0)) 30,
     rq 27 (.move (tp 1)) 3,
     rq 28 (.move (tp 2)) 3,
     rq 29 (.move (tp 4)) 79,
     rq 30 (cf 78 #[(tp 26),(tp 27),(tp 28),(tp 29)] #[30,3,3,79]) 0])
    (.ret))
   (.skip)))
   (.seq (.seq (.reg [] [
     rq 31 (.move (tp 3)) 3,
     rq 32 (.binOp .eql 3 (tp 31) (ki 0) 3) 4])
   (.cond (tp 32) (.seq (.reg [] [
     rq 33 (.move (tp 0)) 30,
     rq 34 (.move (tp 1)) 3,
     rq 35 (.move (tp 2)) 3,
     rq 36 (.move (tp 4)) 79,
     rq 37 (cf 79 #[(tp 33),(tp 34),(tp 35),(tp 36)] #[30,3,3,79]) 0])
    (.ret))
   (.skip)))
   (.seq (.seq (.reg [] [
     rq 38 (.move (tp 10)) 4,
     rq 39 (.unOp .not 4 (tp 38)) 4])
   (.cond (tp 39) (.seq (.reg [] [
     rq 40 (.move (tp 0)) 30,
     rq 41 (.move (tp 1)) 3,
     rq 42 (.move (tp 2)) 3,
     rq 43 (.move (tp 4)) 79,
     rq 44 (cf 80 #[(tp 40),(tp 41),(tp 42),(tp 43)] #[30,3,3,79]) 0])
    (.reg [] [
      rq 45 (.move (tp 3)) 3,
      rq 46 (.binOp .sub 3 (tp 45) (ki 1) 3) 3,
      rq 3 (.assign (tp 46)) 3]))
   (.skip)))
   (.seq (.reg [] [
     rq 48 (.move (tp 0)) 30,
     rq 49 (.move (tp 1)) 3,
     rq 50 (.move (tp 2)) 3,
     rq 51 (.move (tp 4)) 79,
     rq 52 (cf 81 #[(tp 48),(tp 49),(tp 50),(tp 51)] #[30,3,3,79]) 110,
     rq 47 (.move (tp 52)) 110,
     rq 53 (.extract (tp 47) 0) 3,
     rq 54 (.extract (tp 47) 1) 109,
     rq 13 (.assign (tp 53)) 3,
     rq 14 (.assign (tp 54)) 109])
   (.seq (.seq (.reg [] [
     rq 55 (.move (tp 14)) 109,
     rq 56 (.binOp .eql 109 (tp 55) (ki 2) 109) 4])
   (.cond (tp 56) (.seq (.reg [] [
     rq 57 (.move (tp 0)) 30,
     rq 58 (.move (tp 1)) 3,
     rq 59 (.move (tp 2)) 3,
     rq 60 (.move (tp 4)) 79,
     rq 61 (cf 82 #[(tp 57),(tp 58),(tp 59),(tp 60)] #[30,3,3,79]) 0])
    (.seq (.reg [] [
      rq 62 (.move (tp 2)) 3,
      rq 63 (.binOp .sub 3 (tp 62) (ki 1) 3) 3,
      rq 64 (.move (tp 13)) 3,
      rq 65 (.move (tp 1)) 3,
      rq 66 (.binOp .sub 3 (tp 64) (tp 65) 3) 3,
      rq 67 (.binOp .sub 3 (tp 63) (tp 66) 3) 3,
      rq 13 (.assign (tp 67)) 3])
    (.reg [] [
      rq 14 (.assign (ki 1)) 109])))
   (.skip)))
   (.seq (.seq (.reg [] [
     rq 68 (.move (tp 10)) 4,
     rq 69 (.move (tp 68)) 4,
     rg 70 (.move (tp 11)) 4 69 true,
     rq 71 (.pick (tp 69) (tp 70) (kb false)) 4,
     rq 72 (.move (tp 71)) 4,
     rg 73 (.move (tp 14)) 109 72 true,
     rg 74 (.binOp .eql 109 (tp 73) (ki 1) 109) 4 72 true,
     rq 75 (.pick (tp 72) (tp 74) (kb false)) 4])
   (.cond (tp 75) (.seq (.reg [] [
     rq 76 (.move (tp 0)) 30,
     rq 77 (.move (tp 1)) 3,
     rq 78 (.move (tp 2)) 3,
     rq 79 (.move (tp 4)) 79,
     rq 80 (cf 83 #[(tp 76),(tp 77),(tp 78),(tp 79)] #[30,3,3,79]) 4])
    (.cond (tp 80) (.ret)
    (.skip)))
   (.skip)))
   (.seq (.seq (.reg [0, 1, 2, 3, 4, 5, 6, 7, 8, 9, 10, 11, 12, 13, 14, 15, 16] [
     rq 81 (.move (tp 1)) 3,
     rq 82 (.binOp .gtr 3 (tp 81) (ki 0) 3) 4,
     rq 83 (.move (tp 82)) 4,
     rg 84 (.move (tp 4)) 79 83 true,
     rg 85 (.move (tp 0)) 30 83 true,
     rg 86 (.move (tp 1)) 3 83 true,
     rg 87 (.binOp .sub 3 (tp 86) (ki 1) 3) 3 83 true,
     rg 88 (.indexAddr 30 (tp 85) (tp 87)) 0 83 true,
     rg 89 (.load 25 (tp 88)) 25 83 true,
     rg 90 (.move (tp 0)) 30 83 true,
     rg 91 (.move (tp 13)) 3 83 true,
     rg 92 (.indexAddr 30 (tp 90) (tp 91)) 0 83 true,
     rg 93 (.load 25 (tp 92)) 25 83 true,
     rg 94 (.call ⟨.value (tp 84),#[(tp 89),(tp 93)],#[25,25]⟩) 3 83 true,
     rg 95 (.binOp .lss 3 (tp 94) (ki 0) 3) 4 83 true,
     rg 96 (.unOp .not 4 (tp 95)) 4 83 true,
     rq 97 (.pick (tp 83) (tp 96) (kb false)) 4])
   (.cond (tp 97) (.seq (.reg [] [
     rq 98 (.move (tp 0)) 30,
     rq 99 (.move (tp 1)) 3,
     rq 100 (.move (tp 2)) 3,
     rq 101 (.move (tp 13)) 3,
     rq 102 (.move (tp 4)) 79,
     rq 103 (cf 84 #[(tp 98),(tp 99),(tp 100),(tp 101),(tp 102)] #[30,3,3,3,79]) 3,
     rq 15 (.assign (tp 103)) 3])
    (.seq (.reg [] [
      rq 104 (.move (tp 15)) 3,
      rq 1 (.assign (tp 104)) 3])
    (.exit 1)))
   (.skip)))
   (.seq (.reg [] [
     rq 106 (.move (tp 0)) 30,
     rq 107 (.move (tp 1)) 3,
     rq 108 (.move (tp 2)) 3,
     rq 109 (.move (tp 13)) 3,
     rq 110 (.move (tp 4)) 79,
     rq 111 (cf 85 #[(tp 106),(tp 107),(tp 108),(tp 109),(tp 110)] #[30,3,3,3,79]) 114,
     rq 105 (.move (tp 111)) 114,
     rq 112 (.extract (tp 105) 0) 3,
     rq 113 (.extract (tp 105) 1) 4,
     rq 16 (.assign (tp 112)) 3,
     rq 17 (.assign (tp 113)) 4])
   (.seq (.reg [] [
     rq 114 (.move (tp 17)) 4,
     rq 11 (.assign (tp 114)) 4])
   (.seq (.reg [] [
     rq 115 (.move (tp 16)) 3,
     rq 116 (.move (tp 1)) 3,
     rq 117 (.binOp .sub 3 (tp 115) (tp 116) 3) 3,
     rq 118 (.move (tp 2)) 3,
     rq 119 (.move (tp 16)) 3,
     rq 120 (.binOp .sub 3 (tp 118) (tp 119) 3) 3,
     rq 18 (.assign (tp 117)) 3,
     rq 19 (.assign (tp 120)) 3])
   (.seq (.reg [] [
     rq 121 (.move (tp 12)) 3,
     rq 122 (.binOp .quo 3 (tp 121) (ki 8) 3) 3,
     rq 20 (.assign (tp 122)) 3])
   (.seq (.reg [] [
     rq 123 (.move (tp 18)) 3,
     rq 124 (.move (tp 19)) 3,
     rq 125 (.binOp .lss 3 (tp 123) (tp 124) 3) 4])
   (.cond (tp 125) (.seq (.reg [] [
     rq 126 (.move (tp 18)) 3,
     rq 127 (.move (tp 20)) 3,
     rq 128 (.binOp .geq 3 (tp 126) (tp 127) 3) 4,
     rq 10 (.assign (tp 128)) 4])
    (.seq (.reg [] [
      rq 129 (.move (tp 0)) 30,
      rq 130 (.move (tp 1)) 3,
      rq 131 (.move (tp 16)) 3,
      rq 132 (.move (tp 3)) 3,
      rq 133 (.move (tp 4)) 79,
      rq 134 (cf 70 #[(tp 129),(tp 130),(tp 131),(tp 132),(tp 133)] #[30,3,3,3,79]) 0])
    (.reg [] [
      rq 135 (.move (tp 16)) 3,
      rq 136 (.binOp .add 3 (tp 135) (ki 1) 3) 3,
      rq 1 (.assign (tp 136)) 3])))
   (.seq (.reg [] [
     rq 137 (.move (tp 19)) 3,
     rq 138 (.move (tp 20)) 3,
     rq 139 (.binOp .geq 3 (tp 137) (tp 138) 3) 4,
     rq 10 (.assign (tp 139)) 4])
    (.seq (.reg [] [
      rq 140 (.move (tp 0)) 30,
      rq 141 (.move (tp 16)) 3,
      rq 142 (.binOp .add 3 (tp 141) (ki 1) 3) 3,
      rq 143 (.move (tp 2)) 3,
      rq 144 (.move (tp 3)) 3,
      rq 145 (.move (tp 4)) 79,
      rq 146 (cf 70 #[(tp 140),(tp 142),(tp 143),(tp 144),(tp 145)] #[30,3,3,3,79]) 0])
    (.reg [] [
      rq 147 (.move (tp 16)) 3,
      rq 2 (.assign (tp 147)) 3])))))))))))))))))))))
def c71:RC:=
 .seq (.reg [] [
  rq 2 (.assign (ki 0)) 3])
 (.seq (.cond (kb false) (.seq (.reg [] [
   rq 3 (.move (tp 0)) 100,
   rq 4 (.convert 100 99 (tp 3)) 99,
   rq 5 (cf 86 #[(tp 4)] #[99]) 3,
   rq 2 (.assign (tp 5)) 3])
  (.ret))
 (.skip))
 (.seq (.reg [] [
   rq 6 (.move (tp 0)) 100,rq 7 (cf 87 #[(tp 6)] #[118]) 3,rq 2 (.assign (tp 7)) 3])
 (.ret)))
def c73:RC:=
 .seq (.reg [] [
  rq 8 (.assign (kb true)) 4])
 (.seq (.reg [] [
   rq 9 (.assign (kb true)) 4])
 (.block 0 (.loop (.block 1 (.seq (.reg [] [
   rq 19 (.move (tp 2)) 3,
   rq 20 (.move (tp 1)) 3,
   rq 21 (.binOp .sub 3 (tp 19) (tp 20) 3) 3,
   rq 10 (.assign (tp 21)) 3])
   (.seq (.seq (.reg [] [
     rq 22 (.move (tp 10)) 3,
     rq 23 (.binOp .leq 3 (tp 22) (ki 12) 3) 4])
   (.cond (tp 23) (.seq (.reg [] [
     rq 24 (.move (tp 0)) 25,
     rq 25 (.move (tp 1)) 3,
     rq 26 (.move (tp 2)) 3,
     rq 27 (cf 88 #[(tp 24),(tp 25),(tp 26)] #[25,3,3]) 0])
    (.ret))
   (.skip)))
   (.seq (.seq (.reg [] [
     rq 28 (.move (tp 3)) 3,
     rq 29 (.binOp .eql 3 (tp 28) (ki 0) 3) 4])
   (.cond (tp 29) (.seq (.reg [] [
     rq 30 (.move (tp 0)) 25,
     rq 31 (.move (tp 1)) 3,
     rq 32 (.move (tp 2)) 3,
     rq 33 (cf 89 #[(tp 30),(tp 31),(tp 32)] #[25,3,3]) 0])
    (.ret))
   (.skip)))
   (.seq (.seq (.reg [] [
     rq 34 (.move (tp 8)) 4,
     rq 35 (.unOp .not 4 (tp 34)) 4])
   (.cond (tp 35) (.seq (.reg [] [
     rq 36 (.move (tp 0)) 25,
     rq 37 (.move (tp 1)) 3,
     rq 38 (.move (tp 2)) 3,
     rq 39 (cf 90 #[(tp 36),(tp 37),(tp 38)] #[25,3,3]) 0])
    (.reg [] [
      rq 40 (.move (tp 3)) 3,
      rq 41 (.binOp .sub 3 (tp 40) (ki 1) 3) 3,
      rq 3 (.assign (tp 41)) 3]))
   (.skip)))
   (.seq (.reg [] [
     rq 43 (.move (tp 0)) 25,
     rq 44 (.move (tp 1)) 3,
     rq 45 (.move (tp 2)) 3,
     rq 46 (cf 91 #[(tp 43),(tp 44),(tp 45)] #[25,3,3]) 110,
     rq 42 (.move (tp 46)) 110,
     rq 47 (.extract (tp 42) 0) 3,
     rq 48 (.extract (tp 42) 1) 109,
     rq 11 (.assign (tp 47)) 3,
     rq 12 (.assign (tp 48)) 109])
   (.seq (.seq (.reg [] [
     rq 49 (.move (tp 12)) 109,
     rq 50 (.binOp .eql 109 (tp 49) (ki 2) 109) 4])
   (.cond (tp 50) (.seq (.reg [] [
     rq 51 (.move (tp 0)) 25,
     rq 52 (.move (tp 1)) 3,
     rq 53 (.move (tp 2)) 3,
     rq 54 (cf 92 #[(tp 51),(tp 52),(tp 53)] #[25,3,3]) 0])
    (.seq (.reg [] [
      rq 55 (.move (tp 2)) 3,
      rq 56 (.binOp .sub 3 (tp 55) (ki 1) 3) 3,
      rq 57 (.move (tp 11)) 3,
      rq 58 (.move (tp 1)) 3,
      rq 59 (.binOp .sub 3 (tp 57) (tp 58) 3) 3,
      rq 60 (.binOp .sub 3 (tp 56) (tp 59) 3) 3,
      rq 11 (.assign (tp 60)) 3])
    (.reg [] [
      rq 12 (.assign (ki 1)) 109])))
   (.skip)))
   (.seq (.seq (.reg [] [
     rq 61 (.move (tp 8)) 4,
     rq 62 (.move (tp 61)) 4,
     rg 63 (.move (tp 9)) 4 62 true,
     rq 64 (.pick (tp 62) (tp 63) (kb false)) 4,
     rq 65 (.move (tp 64)) 4,
     rg 66 (.move (tp 12)) 109 65 true,
     rg 67 (.binOp .eql 109 (tp 66) (ki 1) 109) 4 65 true,
     rq 68 (.pick (tp 65) (tp 67) (kb false)) 4])
   (.cond (tp 68) (.seq (.reg [] [
     rq 69 (.move (tp 0)) 25,
     rq 70 (.move (tp 1)) 3,
     rq 71 (.move (tp 2)) 3,
     rq 72 (cf 93 #[(tp 69),(tp 70),(tp 71)] #[25,3,3]) 4])
    (.cond (tp 72) (.ret)
    (.skip)))
   (.skip)))
   (.seq (.seq (.reg [0, 1, 2, 3, 4, 5, 6, 7, 8, 9, 10, 11, 12, 13, 14] [
     rq 73 (.move (tp 1)) 3,
     rq 74 (.binOp .gtr 3 (tp 73) (ki 0) 3) 4,
     rq 75 (.move (tp 74)) 4,
     rg 76 (.move (tp 0)) 25 75 true,
     rg 77 (.move (tp 1)) 3 75 true,
     rg 78 (.binOp .sub 3 (tp 77) (ki 1) 3) 3 75 true,
     rg 79 (.indexAddr 25 (tp 76) (tp 78)) 0 75 true,
     rg 80 (.load 3 (tp 79)) 3 75 true,
     rg 81 (.move (tp 0)) 25 75 true,
     rg 82 (.move (tp 11)) 3 75 true,
     rg 83 (.indexAddr 25 (tp 81) (tp 82)) 0 75 true,
     rg 84 (.load 3 (tp 83)) 3 75 true,
     rg 85 (cf 94 #[(tp 80),(tp 84)] #[3,3]) 4 75 true,
     rg 86 (.unOp .not 4 (tp 85)) 4 75 true,
     rq 87 (.pick (tp 75) (tp 86) (kb false)) 4])
   (.cond (tp 87) (.seq (.reg [] [
     rq 88 (.move (tp 0)) 25,
     rq 89 (.move (tp 1)) 3,
     rq 90 (.move (tp 2)) 3,
     rq 91 (.move (tp 11)) 3,
     rq 92 (cf 95 #[(tp 88),(tp 89),(tp 90),(tp 91)] #[25,3,3,3]) 3,
     rq 13 (.assign (tp 92)) 3])
    (.seq (.reg [] [
      rq 93 (.move (tp 13)) 3,
      rq 1 (.assign (tp 93)) 3])
    (.exit 1)))
   (.skip)))
   (.seq (.reg [] [
     rq 95 (.move (tp 0)) 25,
     rq 96 (.move (tp 1)) 3,
     rq 97 (.move (tp 2)) 3,
     rq 98 (.move (tp 11)) 3,
     rq 99 (cf 96 #[(tp 95),(tp 96),(tp 97),(tp 98)] #[25,3,3,3]) 114,
     rq 94 (.move (tp 99)) 114,
     rq 100 (.extract (tp 94) 0) 3,
     rq 101 (.extract (tp 94) 1) 4,
     rq 14 (.assign (tp 100)) 3,
     rq 15 (.assign (tp 101)) 4])
   (.seq (.reg [] [
     rq 102 (.move (tp 15)) 4,
     rq 9 (.assign (tp 102)) 4])
   (.seq (.reg [] [
     rq 103 (.move (tp 14)) 3,
     rq 104 (.move (tp 1)) 3,
     rq 105 (.binOp .sub 3 (tp 103) (tp 104) 3) 3,
     rq 106 (.move (tp 2)) 3,
     rq 107 (.move (tp 14)) 3,
     rq 108 (.binOp .sub 3 (tp 106) (tp 107) 3) 3,
     rq 16 (.assign (tp 105)) 3,
     rq 17 (.assign (tp 108)) 3])
   (.seq (.reg [] [
     rq 109 (.move (tp 10)) 3,
     rq 110 (.binOp .quo 3 (tp 109) (ki 8) 3) 3,
     rq 18 (.assign (tp 110)) 3])
   (.seq (.reg [] [
     rq 111 (.move (tp 16)) 3,
     rq 112 (.move (tp 17)) 3,
     rq 113 (.binOp .lss 3 (tp 111) (tp 112) 3) 4])
   (.cond (tp 113) (.seq (.reg [] [
     rq 114 (.move (tp 16)) 3,
     rq 115 (.move (tp 18)) 3,
     rq 116 (.binOp .geq 3 (tp 114) (tp 115) 3) 4,
     rq 8 (.assign (tp 116)) 4])
    (.seq (.reg [] [
      rq 117 (.move (tp 0)) 25,
      rq 118 (.move (tp 1)) 3,
      rq 119 (.move (tp 14)) 3,
      rq 120 (.move (tp 3)) 3,
      rq 121 (cf 73 #[(tp 117),(tp 118),(tp 119),(tp 120)] #[25,3,3,3]) 0])
    (.reg [] [
      rq 122 (.move (tp 14)) 3,
      rq 123 (.binOp .add 3 (tp 122) (ki 1) 3) 3,
      rq 1 (.assign (tp 123)) 3])))
   (.seq (.reg [] [
     rq 124 (.move (tp 17)) 3,
     rq 125 (.move (tp 18)) 3,
     rq 126 (.binOp .geq 3 (tp 124) (tp 125) 3) 4,
     rq 8 (.assign (tp 126)) 4])
    (.seq (.reg [] [
      rq 127 (.move (tp 0)) 25,
      rq 128 (.move (tp 14)) 3,
      rq 129 (.binOp .add 3 (tp 128) (ki 1) 3) 3,
      rq 130 (.move (tp 2)) 3,
      rq 131 (.move (tp 3)) 3,
      rq 132 (cf 73 #[(tp 127),(tp 129),(tp 130),(tp 131)] #[25,3,3,3]) 0])
    (.reg [] [
      rq 133 (.move (tp 14)) 3,
      rq 2 (.assign (tp 133)) 3])))))))))))))))))))))
def c74:RC:=
 .seq (.reg [] [
  rq 2 (.assign (kb false)) 4])
 (.seq (.reg [] [
   rq 3 (.move (tp 0)) 3,rq 4 (.move (tp 0)) 3,rq 5 (.binOp .neq 3 (tp 3) (tp 4) 3) 4,rq 2 (.assign (tp 5)) 4])
 (.ret))
def c75:RC:=
 .seq (.reg [] [
  rq 4 (.move (tp 0)) 25,rq 5 (cb .len #[(tp 4)] #[25]) 3,rq 6 (.binOp .sub 3 (tp 5) (ki 1) 3) 3,rq 2 (.assign (ki 0)) 3,rq 3 (.assign (tp 6)) 3])
 (.block 0 (.loop (.seq (.seq (.reg [] [
   rq 7 (.move (tp 2)) 3,
   rq 8 (.move (tp 3)) 3,
   rq 9 (.binOp .lss 3 (tp 7) (tp 8) 3) 4])
   (.cond (tp 9) (.skip)
   (.exit 0)))
   (.seq (.block 1 (.reg [0, 1, 2, 3, 4, 5, 6, 7, 8, 9, 10, 11, 12, 13, 14, 15] [
     rq 14 (.move (tp 0)) 25,
     rq 15 (.move (tp 2)) 3,
     rq 16 (.move (tp 0)) 25,
     rq 17 (.move (tp 3)) 3,
     rq 18 (.move (tp 0)) 25,
     rq 19 (.move (tp 3)) 3,
     rq 20 (.indexAddr 25 (tp 18) (tp 19)) 0,
     rq 21 (.load 3 (tp 20)) 3,
     rq 22 (.move (tp 0)) 25,
     rq 23 (.move (tp 2)) 3,
     rq 24 (.indexAddr 25 (tp 22) (tp 23)) 0,
     rq 25 (.load 3 (tp 24)) 3,
     rq 26 (.indexAddr 25 (tp 14) (tp 15)) 0,
     rn (.store 3 (tp 26) (tp 21)) 0,
     rq 27 (.indexAddr 25 (tp 16) (tp 17)) 0,
     rn (.store 3 (tp 27) (tp 25)) 0]))
   (.reg [] [
     rq 10 (.move (tp 2)) 3,
     rq 11 (.binOp .add 3 (tp 10) (ki 1) 3) 3,
     rq 12 (.move (tp 3)) 3,
     rq 13 (.binOp .sub 3 (tp 12) (ki 1) 3) 3,
     rq 2 (.assign (tp 11)) 3,
     rq 3 (.assign (tp 13)) 3])))))
def c76:RC:=
 .seq (.reg [] [
  rq 4 (.assign (.const (.slice none 0 0))) 25])
 (.seq (.reg [] [
   rq 8 (.move (tp 0)) 25,rq 9 (cb .len #[(tp 8)] #[25]) 3,rq 10 (.makeSlice 25 (ki 0) (tp 9)) 25,rq 5 (.assign (tp 10)) 25])
 (.seq (.seq (.reg [] [
   rq 11 (.move (tp 1)) 3,rq 12 (.move (ki 0)) 3])
 (.block 0 (.loop (.seq (.reg [] [
   rq 13 (.binOp .lss 3 (tp 12) (tp 11) 3) 4])
   (.seq (.cond (tp 13) (.skip)
   (.exit 0))
   (.seq (.block 1 (.seq (.reg [] [
     rq 14 (.move (tp 12)) 3,
     rq 6 (.assign (tp 14)) 3])
    (.seq (.reg [] [
      rq 15 (.move (tp 1)) 3,
      rq 16 (.binOp .sub 3 (tp 15) (ki 1) 3) 3,
      rq 7 (.assign (tp 16)) 3])
    (.block 2 (.loop (.seq (.seq (.reg [] [
      rq 17 (.move (tp 7)) 3,
      rq 18 (.binOp .geq 3 (tp 17) (ki 0) 3) 4])
      (.cond (tp 18) (.skip)
      (.exit 2)))
      (.seq (.block 3 (.reg [] [
        rq 21 (.move (tp 5)) 25,
        rq 22 (.move (tp 0)) 25,
        rq 23 (.move (tp 7)) 3,
        rq 24 (.move (tp 1)) 3,
        rq 25 (.binOp .mul 3 (tp 23) (tp 24) 3) 3,
        rq 26 (.move (tp 6)) 3,
        rq 27 (.binOp .add 3 (tp 25) (tp 26) 3) 3,
        rq 28 (.indexAddr 25 (tp 22) (tp 27)) 0,
        rq 29 (.load 3 (tp 28)) 3,
        rq 30 (.buildSlice 25 1 #[(0,(tp 29))]) 25,
        rq 31 (cb .append #[(tp 21),(tp 30)] #[25,25]) 25,
        rq 5 (.assign (tp 31)) 25]))
      (.reg [] [
        rq 19 (.move (tp 7)) 3,
        rq 20 (.binOp .sub 3 (tp 19) (ki 1) 3) 3,
        rq 7 (.assign (tp 20)) 3]))))))))
   (.reg [] [
     rq 32 (.binOp .add 3 (tp 12) (ki 1) 3) 3,
     rq 12 (.move (tp 32)) 3])))))))
 (.seq (.reg [] [
   rq 33 (.move (tp 5)) 25,rq 4 (.assign (tp 33)) 25])
 (.ret))))
def c78:RC:=
 .seq (.reg [] [
  rq 10 (.move (tp 1)) 3,rq 11 (.binOp .add 3 (tp 10) (ki 1) 3) 3,rq 8 (.assign (tp 11)) 3])
 (.block 0 (.loop (.seq (.seq (.reg [] [
   rq 12 (.move (tp 8)) 3,
   rq 13 (.move (tp 2)) 3,
   rq 14 (.binOp .lss 3 (tp 12) (tp 13) 3) 4])
   (.cond (tp 14) (.skip)
   (.exit 0)))
   (.seq (.block 1 (.seq (.reg [] [
     rq 17 (.move (tp 8)) 3,
     rq 9 (.assign (tp 17)) 3])
    (.block 2 (.loop (.seq (.seq (.reg [0, 1, 2, 3, 4, 5, 6, 7, 8, 9, 10, 11, 12, 13, 14, 15, 16] [
      rq 18 (.move (tp 9)) 3,
      rq 19 (.move (tp 1)) 3,
      rq 20 (.binOp .gtr 3 (tp 18) (tp 19) 3) 4,
      rq 21 (.move (tp 20)) 4,
      rg 22 (.move (tp 3)) 79 21 true,
      rg 23 (.move (tp 0)) 30 21 true,
      rg 24 (.move (tp 9)) 3 21 true,
      rg 25 (.indexAddr 30 (tp 23) (tp 24)) 0 21 true,
      rg 26 (.load 25 (tp 25)) 25 21 true,
      rg 27 (.move (tp 0)) 30 21 true,
      rg 28 (.move (tp 9)) 3 21 true,
      rg 29 (.binOp .sub 3 (tp 28) (ki 1) 3) 3 21 true,
      rg 30 (.indexAddr 30 (tp 27) (tp 29)) 0 21 true,
      rg 31 (.load 25 (tp 30)) 25 21 true,
      rg 32 (.call ⟨.value (tp 22),#[(tp 26),(tp 31)],#[25,25]⟩) 3 21 true,
      rg 33 (.binOp .lss 3 (tp 32) (ki 0) 3) 4 21 true,
      rq 34 (.pick (tp 21) (tp 33) (kb false)) 4])
      (.cond (tp 34) (.skip)
      (.exit 2)))
      (.seq (.block 3 (.reg [0, 1, 2, 3, 4, 5, 6, 7, 8, 9, 10, 11, 12, 13, 14, 15, 16, 17] [
        rq 37 (.move (tp 0)) 30,
        rq 38 (.move (tp 9)) 3,
        rq 39 (.move (tp 0)) 30,
        rq 40 (.move (tp 9)) 3,
        rq 41 (.binOp .sub 3 (tp 40) (ki 1) 3) 3,
        rq 42 (.move (tp 0)) 30,
        rq 43 (.move (tp 9)) 3,
        rq 44 (.binOp .sub 3 (tp 43) (ki 1) 3) 3,
        rq 45 (.indexAddr 30 (tp 42) (tp 44)) 0,
        rq 46 (.load 25 (tp 45)) 25,
        rq 47 (.move (tp 0)) 30,
        rq 48 (.move (tp 9)) 3,
        rq 49 (.indexAddr 30 (tp 47) (tp 48)) 0,
        rq 50 (.load 25 (tp 49)) 25,
        rq 51 (.indexAddr 30 (tp 37) (tp 38)) 0,
        rn (.store 25 (tp 51) (tp 46)) 0,
        rq 52 (.indexAddr 30 (tp 39) (tp 41)) 0,
        rn (.store 25 (tp 52) (tp 50)) 0]))
      (.reg [] [
        rq 35 (.move (tp 9)) 3,
        rq 36 (.binOp .sub 3 (tp 35) (ki 1) 3) 3,
        rq 9 (.assign (tp 36)) 3])))))))
   (.reg [] [
     rq 15 (.move (tp 8)) 3,
     rq 16 (.binOp .add 3 (tp 15) (ki 1) 3) 3,
     rq 8 (.assign (tp 16)) 3])))))
def c79:RC:=
 .seq (.reg [] [
  rq 13 (.move (tp 1)) 3,rq 8 (.assign (tp 13)) 3])
 (.seq (.reg [] [
   rq 9 (.assign (ki 0)) 3])
 (.seq (.reg [] [
   rq 14 (.move (tp 2)) 3,rq 15 (.move (tp 1)) 3,rq 16 (.binOp .sub 3 (tp 14) (tp 15) 3) 3,rq 10 (.assign (tp 16)) 3])
 (.seq (.seq (.reg [] [
   rq 17 (.move (tp 10)) 3,rq 18 (.binOp .sub 3 (tp 17) (ki 1) 3) 3,rq 19 (.binOp .quo 3 (tp 18) (ki 2) 3) 3,rq 11 (.assign (tp 19)) 3])
 (.block 0 (.loop (.seq (.seq (.reg [] [
   rq 20 (.move (tp 11)) 3,
   rq 21 (.binOp .geq 3 (tp 20) (ki 0) 3) 4])
   (.cond (tp 21) (.skip)
   (.exit 0)))
   (.seq (.block 1 (.reg [] [
     rq 24 (.move (tp 0)) 30,
     rq 25 (.move (tp 11)) 3,
     rq 26 (.move (tp 10)) 3,
     rq 27 (.move (tp 8)) 3,
     rq 28 (.move (tp 3)) 79,
     rq 29 (cf 98 #[(tp 24),(tp 25),(tp 26),(tp 27),(tp 28)] #[30,3,3,3,79]) 0]))
   (.reg [] [
     rq 22 (.move (tp 11)) 3,
     rq 23 (.binOp .sub 3 (tp 22) (ki 1) 3) 3,
     rq 11 (.assign (tp 23)) 3]))))))
 (.seq (.reg [] [
   rq 30 (.move (tp 10)) 3,rq 31 (.binOp .sub 3 (tp 30) (ki 1) 3) 3,rq 12 (.assign (tp 31)) 3])
 (.block 2 (.loop (.seq (.seq (.reg [] [
   rq 32 (.move (tp 12)) 3,
   rq 33 (.binOp .geq 3 (tp 32) (ki 0) 3) 4])
   (.cond (tp 33) (.skip)
   (.exit 2)))
   (.seq (.block 3 (.seq (.reg [0, 1, 2, 3, 4, 5, 6, 7, 8, 9, 10, 11, 12, 13, 14, 15, 16, 17, 18, 19] [
     rq 36 (.move (tp 0)) 30,
     rq 37 (.move (tp 8)) 3,
     rq 38 (.move (tp 0)) 30,
     rq 39 (.move (tp 8)) 3,
     rq 40 (.move (tp 12)) 3,
     rq 41 (.binOp .add 3 (tp 39) (tp 40) 3) 3,
     rq 42 (.move (tp 0)) 30,
     rq 43 (.move (tp 8)) 3,
     rq 44 (.move (tp 12)) 3,
     rq 45 (.binOp .add 3 (tp 43) (tp 44) 3) 3,
     rq 46 (.indexAddr 30 (tp 42) (tp 45)) 0,
     rq 47 (.load 25 (tp 46)) 25,
     rq 48 (.move (tp 0)) 30,
     rq 49 (.move (tp 8)) 3,
     rq 50 (.indexAddr 30 (tp 48) (tp 49)) 0,
     rq 51 (.load 25 (tp 50)) 25,
     rq 52 (.indexAddr 30 (tp 36) (tp 37)) 0,
     rn (.store 25 (tp 52) (tp 47)) 0,
     rq 53 (.indexAddr 30 (tp 38) (tp 41)) 0,
     rn (.store 25 (tp 53) (tp 51)) 0])
    (.reg [] [
      rq 54 (.move (tp 0)) 30,
      rq 55 (.move (tp 9)) 3,
      rq 56 (.move (tp 12)) 3,
      rq 57 (.move (tp 8)) 3,
      rq 58 (.move (tp 3)) 79,
      rq 59 (cf 98 #[(tp 54),(tp 55),(tp 56),(tp 57),(tp 58)] #[30,3,3,3,79]) 0])))
   (.reg [] [
     rq 34 (.move (tp 12)) 3,
     rq 35 (.binOp .sub 3 (tp 34) (ki 1) 3) 3,
     rq 12 (.assign (tp 35)) 3])))))))))
def c80:RC:=
 .seq (.reg [] [
  rq 13 (.move (tp 2)) 3,rq 14 (.move (tp 1)) 3,rq 15 (.binOp .sub 3 (tp 13) (tp 14) 3) 3,rq 8 (.assign (tp 15)) 3])
 (.seq (.reg [] [
   rq 16 (.move (tp 8)) 3,rq 17 (.binOp .geq 3 (tp 16) (ki 8) 3) 4])
 (.cond (tp 17) (.seq (.reg [] [
   rq 18 (.move (tp 8)) 3,
   rq 19 (.convert 3 128 (tp 18)) 128,
   rq 9 (.alloc 128) 0,
   rn (.store 128 (tp 9) (tp 19)) 0])
  (.seq (.reg [] [
    rq 20 (.move (tp 8)) 3,
    rq 21 (cf 99 #[(tp 20)] #[3]) 100,
    rq 10 (.assign (tp 21)) 100])
  (.seq (.reg [] [
    rq 22 (.move (tp 1)) 3,
    rq 23 (.move (tp 8)) 3,
    rq 24 (.binOp .quo 3 (tp 23) (ki 4) 3) 3,
    rq 25 (.binOp .mul 3 (tp 24) (ki 2) 3) 3,
    rq 26 (.binOp .add 3 (tp 22) (tp 25) 3) 3,
    rq 27 (.binOp .sub 3 (tp 26) (ki 1) 3) 3,
    rq 11 (.assign (tp 27)) 3])
  (.block 0 (.loop (.seq (.seq (.reg [] [
    rq 28 (.move (tp 11)) 3,
    rq 29 (.move (tp 1)) 3,
    rq 30 (.move (tp 8)) 3,
    rq 31 (.binOp .quo 3 (tp 30) (ki 4) 3) 3,
    rq 32 (.binOp .mul 3 (tp 31) (ki 2) 3) 3,
    rq 33 (.binOp .add 3 (tp 29) (tp 32) 3) 3,
    rq 34 (.binOp .add 3 (tp 33) (ki 1) 3) 3,
    rq 35 (.binOp .leq 3 (tp 28) (tp 34) 3) 4])
    (.cond (tp 35) (.skip)
    (.exit 0)))
    (.seq (.block 1 (.seq (.reg [] [
      rq 38 (cf 100 #[(tp 9)] #[128]) 118,
      rq 39 (.move (tp 10)) 100,
      rq 40 (.binOp .sub 100 (tp 39) (.const (.int .u64 1)) 100) 100,
      rq 41 (.binOp .and 100 (tp 38) (tp 40) 100) 100,
      rq 42 (.convert 100 3 (tp 41)) 3,
      rq 12 (.assign (tp 42)) 3])
     (.seq (.seq (.reg [] [
       rq 43 (.move (tp 12)) 3,
       rq 44 (.move (tp 8)) 3,
       rq 45 (.binOp .geq 3 (tp 43) (tp 44) 3) 4])
     (.cond (tp 45) (.reg [] [
       rq 46 (.move (tp 12)) 3,
       rq 47 (.move (tp 8)) 3,
       rq 48 (.binOp .sub 3 (tp 46) (tp 47) 3) 3,
       rq 12 (.assign (tp 48)) 3])
     (.skip)))
     (.reg [0, 1, 2, 3, 4, 5, 6, 7, 8, 9, 10, 11, 12, 13, 14, 15, 16, 17, 18, 19] [
       rq 49 (.move (tp 0)) 30,
       rq 50 (.move (tp 11)) 3,
       rq 51 (.move (tp 0)) 30,
       rq 52 (.move (tp 1)) 3,
       rq 53 (.move (tp 12)) 3,
       rq 54 (.binOp .add 3 (tp 52) (tp 53) 3) 3,
       rq 55 (.move (tp 0)) 30,
       rq 56 (.move (tp 1)) 3,
       rq 57 (.move (tp 12)) 3,
       rq 58 (.binOp .add 3 (tp 56) (tp 57) 3) 3,
       rq 59 (.indexAddr 30 (tp 55) (tp 58)) 0,
       rq 60 (.load 25 (tp 59)) 25,
       rq 61 (.move (tp 0)) 30,
       rq 62 (.move (tp 11)) 3,
       rq 63 (.indexAddr 30 (tp 61) (tp 62)) 0,
       rq 64 (.load 25 (tp 63)) 25,
       rq 65 (.indexAddr 30 (tp 49) (tp 50)) 0,
       rn (.store 25 (tp 65) (tp 60)) 0,
       rq 66 (.indexAddr 30 (tp 51) (tp 54)) 0,
       rn (.store 25 (tp 66) (tp 64)) 0]))))
    (.reg [] [
      rq 36 (.move (tp 11)) 3,
      rq 37 (.binOp .add 3 (tp 36) (ki 1) 3) 3,
      rq 11 (.assign (tp 37)) 3]))))))))
 (.skip)))
def c81:RC:=
 .seq (.reg [] [
  rq 8 (.assign (ki 0)) 3,rq 9 (.assign (ki 0)) 109])
 (.seq (.reg [] [
   rq 15 (.move (tp 2)) 3,rq 16 (.move (tp 1)) 3,rq 17 (.binOp .sub 3 (tp 15) (tp 16) 3) 3,rq 10 (.assign (tp 17)) 3])
 (.seq (.reg [] [
   rq 11 (.alloc 3) 0])
 (.seq (.reg [] [
   rq 18 (.move (tp 1)) 3,rq 19 (.move (tp 10)) 3,rq 20 (.binOp .quo 3 (tp 19) (ki 4) 3) 3,rq 21 (.binOp .mul 3 (tp 20) (ki 1) 3) 3,rq 22 (.binOp .add 3 (tp 18) (tp 21) 3) 3,rq 12 (.assign (tp 22)) 3])
 (.seq (.reg [] [
   rq 23 (.move (tp 1)) 3,rq 24 (.move (tp 10)) 3,rq 25 (.binOp .quo 3 (tp 24) (ki 4) 3) 3,rq 26 (.binOp .mul 3 (tp 25) (ki 2) 3) 3,rq 27 (.binOp .add 3 (tp 23) (tp 26) 3) 3,rq 13 (.assign (tp 27)) 3])
 (.seq (.reg [] [
   rq 28 (.move (tp 1)) 3,rq 29 (.move (tp 10)) 3,rq 30 (.binOp .quo 3 (tp 29) (ki 4) 3) 3,rq 31 (.binOp .mul 3 (tp 30) (ki 3) 3) 3,rq 32 (.binOp .add 3 (tp 28) (tp 31) 3) 3,rq 14 (.assign (tp 32)) 3])
 (.seq (.seq (.reg [] [
   rq 33 (.move (tp 10)) 3,rq 34 (.binOp .geq 3 (tp 33) (ki 8) 3) 4])
 (.cond (tp 34) (.seq (.seq (.reg [] [
   rq 35 (.move (tp 10)) 3,
   rq 36 (.binOp .geq 3 (tp 35) (ki 50) 3) 4])
  (.cond (tp 36) (.seq (.reg [] [
    rq 37 (.move (tp 0)) 30,
    rq 38 (.move (tp 12)) 3,
    rq 39 (.move (tp 3)) 79,
    rq 40 (cf 101 #[(tp 37),(tp 38),(tp 11),(tp 39)] #[30,3,132,79]) 3,
    rq 12 (.assign (tp 40)) 3])
   (.seq (.reg [] [
     rq 41 (.move (tp 0)) 30,
     rq 42 (.move (tp 13)) 3,
     rq 43 (.move (tp 3)) 79,
     rq 44 (cf 101 #[(tp 41),(tp 42),(tp 11),(tp 43)] #[30,3,132,79]) 3,
     rq 13 (.assign (tp 44)) 3])
   (.reg [] [
     rq 45 (.move (tp 0)) 30,
     rq 46 (.move (tp 14)) 3,
     rq 47 (.move (tp 3)) 79,
     rq 48 (cf 101 #[(tp 45),(tp 46),(tp 11),(tp 47)] #[30,3,132,79]) 3,
     rq 14 (.assign (tp 48)) 3])))
  (.skip)))
  (.reg [] [
    rq 49 (.move (tp 0)) 30,
    rq 50 (.move (tp 12)) 3,
    rq 51 (.move (tp 13)) 3,
    rq 52 (.move (tp 14)) 3,
    rq 53 (.move (tp 3)) 79,
    rq 54 (cf 102 #[(tp 49),(tp 50),(tp 51),(tp 52),(tp 11),(tp 53)] #[30,3,3,3,132,79]) 3,
    rq 13 (.assign (tp 54)) 3]))
 (.skip)))
 (.seq (.reg [] [
   rq 55 (.load 3 (tp 11)) 3])
 (.block 0 (.seq (.reg [] [
   rq 58 (.binOp .eql 3 (tp 55) (ki 0) 3) 4,
   rq 57 (.assign (tp 58)) 4])
  (.cond (tp 57) (.seq (.reg [] [
    rq 59 (.move (tp 13)) 3,
    rq 8 (.assign (tp 59)) 3,
    rq 9 (.assign (ki 1)) 109])
   (.ret))
  (.seq (.reg [] [
    rq 61 (.binOp .eql 3 (tp 55) (ki 12) 3) 4,
    rq 60 (.assign (tp 61)) 4])
   (.cond (tp 60) (.seq (.reg [] [
     rq 62 (.move (tp 13)) 3,
     rq 8 (.assign (tp 62)) 3,
     rq 9 (.assign (ki 2)) 109])
    (.ret))
   (.seq (.reg [] [
     rq 56 (.move (tp 13)) 3,
     rq 8 (.assign (tp 56)) 3,
     rq 9 (.assign (ki 0)) 109])
    (.ret))))))))))))))
def c82:RC:=
 .seq (.reg [] [
  rq 10 (.move (tp 1)) 3,rq 8 (.assign (tp 10)) 3])
 (.seq (.reg [] [
   rq 11 (.move (tp 2)) 3,rq 12 (.binOp .sub 3 (tp 11) (ki 1) 3) 3,rq 9 (.assign (tp 12)) 3])
 (.block 0 (.loop (.seq (.seq (.reg [] [
   rq 13 (.move (tp 8)) 3,
   rq 14 (.move (tp 9)) 3,
   rq 15 (.binOp .lss 3 (tp 13) (tp 14) 3) 4])
   (.cond (tp 15) (.skip)
   (.exit 0)))
   (.block 1 (.seq (.reg [0, 1, 2, 3, 4, 5, 6, 7, 8, 9, 10, 11, 12, 13, 14, 15] [
     rq 16 (.move (tp 0)) 30,
     rq 17 (.move (tp 8)) 3,
     rq 18 (.move (tp 0)) 30,
     rq 19 (.move (tp 9)) 3,
     rq 20 (.move (tp 0)) 30,
     rq 21 (.move (tp 9)) 3,
     rq 22 (.indexAddr 30 (tp 20) (tp 21)) 0,
     rq 23 (.load 25 (tp 22)) 25,
     rq 24 (.move (tp 0)) 30,
     rq 25 (.move (tp 8)) 3,
     rq 26 (.indexAddr 30 (tp 24) (tp 25)) 0,
     rq 27 (.load 25 (tp 26)) 25,
     rq 28 (.indexAddr 30 (tp 16) (tp 17)) 0,
     rn (.store 25 (tp 28) (tp 23)) 0,
     rq 29 (.indexAddr 30 (tp 18) (tp 19)) 0,
     rn (.store 25 (tp 29) (tp 27)) 0])
    (.seq (.reg [] [
      rq 30 (.move (tp 8)) 3,
      rq 31 (.binOp .add 3 (tp 30) (ki 1) 3) 3,
      rq 8 (.assign (tp 31)) 3])
    (.reg [] [
      rq 32 (.move (tp 9)) 3,
      rq 33 (.binOp .sub 3 (tp 32) (ki 1) 3) 3,
      rq 9 (.assign (tp 33)) 3]))))))))
def c83:RC:=
 .seq (.reg [] [
  rq 8 (.assign (kb false)) 4])
 (.seq (.reg [] [
   rq 13 (.move (tp 1)) 3,rq 14 (.binOp .add 3 (tp 13) (ki 1) 3) 3,rq 9 (.assign (tp 14)) 3])
 (.seq (.seq (.reg [] [
   rq 10 (.assign (ki 0)) 3])
 (.block 0 (.loop (.seq (.seq (.reg [] [
   rq 15 (.move (tp 10)) 3,
   rq 16 (.binOp .lss 3 (tp 15) (ki 5) 3) 4])
   (.cond (tp 16) (.skip)
   (.exit 0)))
   (.seq (.block 1 (.seq (.block 2 (.loop (.seq (.seq (.reg [0, 1, 2, 3, 4, 5, 6, 7, 8, 9, 10, 11, 12, 13, 14, 15, 16, 17] [
     rq 19 (.move (tp 9)) 3,
     rq 20 (.move (tp 2)) 3,
     rq 21 (.binOp .lss 3 (tp 19) (tp 20) 3) 4,
     rq 22 (.move (tp 21)) 4,
     rg 23 (.move (tp 3)) 79 22 true,
     rg 24 (.move (tp 0)) 30 22 true,
     rg 25 (.move (tp 9)) 3 22 true,
     rg 26 (.indexAddr 30 (tp 24) (tp 25)) 0 22 true,
     rg 27 (.load 25 (tp 26)) 25 22 true,
     rg 28 (.move (tp 0)) 30 22 true,
     rg 29 (.move (tp 9)) 3 22 true,
     rg 30 (.binOp .sub 3 (tp 29) (ki 1) 3) 3 22 true,
     rg 31 (.indexAddr 30 (tp 28) (tp 30)) 0 22 true,
     rg 32 (.load 25 (tp 31)) 25 22 true,
     rg 33 (.call ⟨.value (tp 23),#[(tp 27),(tp 32)],#[25,25]⟩) 3 22 true,
     rg 34 (.binOp .lss 3 (tp 33) (ki 0) 3) 4 22 true,
     rg 35 (.unOp .not 4 (tp 34)) 4 22 true,
     rq 36 (.pick (tp 22) (tp 35) (kb false)) 4])
     (.cond (tp 36) (.skip)
     (.exit 2)))
     (.block 3 (.reg [] [
       rq 37 (.move (tp 9)) 3,
       rq 38 (.binOp .add 3 (tp 37) (ki 1) 3) 3,
       rq 9 (.assign (tp 38)) 3])))))
    (.seq (.seq (.reg [] [
      rq 39 (.move (tp 9)) 3,
      rq 40 (.move (tp 2)) 3,
      rq 41 (.binOp .eql 3 (tp 39) (tp 40) 3) 4])
    (.cond (tp 41) (.seq (.reg [] [
      rq 8 (.assign (kb true)) 4])
     (.ret))
    (.skip)))
    (.seq (.seq (.reg [] [
      rq 42 (.move (tp 2)) 3,
      rq 43 (.move (tp 1)) 3,
      rq 44 (.binOp .sub 3 (tp 42) (tp 43) 3) 3,
      rq 45 (.binOp .lss 3 (tp 44) (ki 50) 3) 4])
    (.cond (tp 45) (.seq (.reg [] [
      rq 8 (.assign (kb false)) 4])
     (.ret))
    (.skip)))
    (.seq (.reg [0, 1, 2, 3, 4, 5, 6, 7, 8, 9, 10, 11, 12, 13, 14, 15, 16, 17] [
      rq 46 (.move (tp 0)) 30,
      rq 47 (.move (tp 9)) 3,
      rq 48 (.move (tp 0)) 30,
      rq 49 (.move (tp 9)) 3,
      rq 50 (.binOp .sub 3 (tp 49) (ki 1) 3) 3,
      rq 51 (.move (tp 0)) 30,
      rq 52 (.move (tp 9)) 3,
      rq 53 (.binOp .sub 3 (tp 52) (ki 1) 3) 3,
      rq 54 (.indexAddr 30 (tp 51) (tp 53)) 0,
      rq 55 (.load 25 (tp 54)) 25,
      rq 56 (.move (tp 0)) 30,
      rq 57 (.move (tp 9)) 3,
      rq 58 (.indexAddr 30 (tp 56) (tp 57)) 0,
      rq 59 (.load 25 (tp 58)) 25,
      rq 60 (.indexAddr 30 (tp 46) (tp 47)) 0,
      rn (.store 25 (tp 60) (tp 55)) 0,
      rq 61 (.indexAddr 30 (tp 48) (tp 50)) 0,
      rn (.store 25 (tp 61) (tp 59)) 0])
    (.seq (.seq (.reg [] [
      rq 62 (.move (tp 9)) 3,
      rq 63 (.move (tp 1)) 3,
      rq 64 (.binOp .sub 3 (tp 62) (tp 63) 3) 3,
      rq 65 (.binOp .geq 3 (tp 64) (ki 2) 3) 4])
    (.cond (tp 65) (.seq (.reg [] [
      rq 66 (.move (tp 9)) 3,
      rq 67 (.binOp .sub 3 (tp 66) (ki 1) 3) 3,
      rq 11 (.assign (tp 67)) 3])
     (.block 4 (.loop (.seq (.seq (.reg [] [
       rq 68 (.move (tp 11)) 3,
       rq 69 (.binOp .geq 3 (tp 68) (ki 1) 3) 4])
       (.cond (tp 69) (.skip)
       (.exit 4)))
       (.seq (.block 5 (.seq (.seq (.reg [0, 1, 2, 3, 4, 5, 6, 7, 8, 9, 10, 11, 12] [
         rq 72 (.move (tp 3)) 79,
         rq 73 (.move (tp 0)) 30,
         rq 74 (.move (tp 11)) 3,
         rq 75 (.indexAddr 30 (tp 73) (tp 74)) 0,
         rq 76 (.load 25 (tp 75)) 25,
         rq 77 (.move (tp 0)) 30,
         rq 78 (.move (tp 11)) 3,
         rq 79 (.binOp .sub 3 (tp 78) (ki 1) 3) 3,
         rq 80 (.indexAddr 30 (tp 77) (tp 79)) 0,
         rq 81 (.load 25 (tp 80)) 25,
         rq 82 (.call ⟨.value (tp 72),#[(tp 76),(tp 81)],#[25,25]⟩) 3,
         rq 83 (.binOp .lss 3 (tp 82) (ki 0) 3) 4,
         rq 84 (.unOp .not 4 (tp 83)) 4])
        (.cond (tp 84) (.exit 4)
        (.skip)))
        (.reg [0, 1, 2, 3, 4, 5, 6, 7, 8, 9, 10, 11, 12, 13, 14, 15, 16, 17] [
          rq 85 (.move (tp 0)) 30,
          rq 86 (.move (tp 11)) 3,
          rq 87 (.move (tp 0)) 30,
          rq 88 (.move (tp 11)) 3,
          rq 89 (.binOp .sub 3 (tp 88) (ki 1) 3) 3,
          rq 90 (.move (tp 0)) 30,
          rq 91 (.move (tp 11)) 3,
          rq 92 (.binOp .sub 3 (tp 91) (ki 1) 3) 3,
          rq 93 (.indexAddr 30 (tp 90) (tp 92)) 0,
          rq 94 (.load 25 (tp 93)) 25,
          rq 95 (.move (tp 0)) 30,
          rq 96 (.move (tp 11)) 3,
          rq 97 (.indexAddr 30 (tp 95) (tp 96)) 0,
          rq 98 (.load 25 (tp 97)) 25,
          rq 99 (.indexAddr 30 (tp 85) (tp 86)) 0,
          rn (.store 25 (tp 99) (tp 94)) 0,
          rq 100 (.indexAddr 30 (tp 87) (tp 89)) 0,
          rn (.store 25 (tp 100) (tp 98)) 0])))
       (.reg [] [
         rq 70 (.move (tp 11)) 3,
         rq 71 (.binOp .sub 3 (tp 70) (ki 1) 3) 3,
         rq 11 (.assign (tp 71)) 3]))))))
    (.skip)))
    (.seq (.reg [] [
      rq 101 (.move (tp 2)) 3,
      rq 102 (.move (tp 9)) 3,
      rq 103 (.binOp .sub 3 (tp 101) (tp 102) 3) 3,
      rq 104 (.binOp .geq 3 (tp 103) (ki 2) 3) 4])
    (.cond (tp 104) (.seq (.reg [] [
      rq 105 (.move (tp 9)) 3,
      rq 106 (.binOp .add 3 (tp 105) (ki 1) 3) 3,
      rq 12 (.assign (tp 106)) 3])
     (.block 6 (.loop (.seq (.seq (.reg [] [
       rq 107 (.move (tp 12)) 3,
       rq 108 (.move (tp 2)) 3,
       rq 109 (.binOp .lss 3 (tp 107) (tp 108) 3) 4])
       (.cond (tp 109) (.skip)
       (.exit 6)))
       (.seq (.block 7 (.seq (.seq (.reg [0, 1, 2, 3, 4, 5, 6, 7, 8, 9, 10, 11, 12] [
         rq 112 (.move (tp 3)) 79,
         rq 113 (.move (tp 0)) 30,
         rq 114 (.move (tp 12)) 3,
         rq 115 (.indexAddr 30 (tp 113) (tp 114)) 0,
         rq 116 (.load 25 (tp 115)) 25,
         rq 117 (.move (tp 0)) 30,
         rq 118 (.move (tp 12)) 3,
         rq 119 (.binOp .sub 3 (tp 118) (ki 1) 3) 3,
         rq 120 (.indexAddr 30 (tp 117) (tp 119)) 0,
         rq 121 (.load 25 (tp 120)) 25,
         rq 122 (.call ⟨.value (tp 112),#[(tp 116),(tp 121)],#[25,25]⟩) 3,
         rq 123 (.binOp .lss 3 (tp 122) (ki 0) 3) 4,
         rq 124 (.unOp .not 4 (tp 123)) 4])
        (.cond (tp 124) (.exit 6)
        (.skip)))
        (.reg [0, 1, 2, 3, 4, 5, 6, 7, 8, 9, 10, 11, 12, 13, 14, 15, 16, 17] [
          rq 125 (.move (tp 0)) 30,
          rq 126 (.move (tp 12)) 3,
          rq 127 (.move (tp 0)) 30,
          rq 128 (.move (tp 12)) 3,
          rq 129 (.binOp .sub 3 (tp 128) (ki 1) 3) 3,
          rq 130 (.move (tp 0)) 30,
          rq 131 (.move (tp 12)) 3,
          rq 132 (.binOp .sub 3 (tp 131) (ki 1) 3) 3,
          rq 133 (.indexAddr 30 (tp 130) (tp 132)) 0,
          rq 134 (.load 25 (tp 133)) 25,
          rq 135 (.move (tp 0)) 30,
          rq 136 (.move (tp 12)) 3,
          rq 137 (.indexAddr 30 (tp 135) (tp 136)) 0,
          rq 138 (.load 25 (tp 137)) 25,
          rq 139 (.indexAddr 30 (tp 125) (tp 126)) 0,
          rn (.store 25 (tp 139) (tp 134)) 0,
          rq 140 (.indexAddr 30 (tp 127) (tp 129)) 0,
          rn (.store 25 (tp 140) (tp 138)) 0])))
       (.reg [] [
         rq 110 (.move (tp 12)) 3,
         rq 111 (.binOp .add 3 (tp 110) (ki 1) 3) 3,
         rq 12 (.assign (tp 111)) 3]))))))
    (.skip)))))))))
   (.reg [] [
     rq 17 (.move (tp 10)) 3,
     rq 18 (.binOp .add 3 (tp 17) (ki 1) 3) 3,
     rq 10 (.assign (tp 18)) 3]))))))
 (.seq (.reg [] [
   rq 8 (.assign (kb false)) 4])
 (.ret))))
def c84:RC:=
 .seq (.reg [] [
  rq 10 (.assign (ki 0)) 3])
 (.seq (.reg [0, 1, 2, 3, 4, 5, 6, 7, 8, 9, 10, 11, 12, 13, 14, 15] [
   rq 13 (.move (tp 0)) 30,rq 14 (.move (tp 1)) 3,rq 15 (.move (tp 0)) 30,rq 16 (.move (tp 3)) 3,rq 17 (.move (tp 0)) 30,rq 18 (.move (tp 3)) 3,rq 19 (.indexAddr 30 (tp 17) (tp 18)) 0,rq 20 (.load 25 (tp 19)) 25,rq 21 (.move (tp 0)) 30,rq 22 (.move (tp 1)) 3,rq 23 (.indexAddr 30 (tp 21) (tp 22)) 0,rq 24 (.load 25 (tp 23)) 25,rq 25 (.indexAddr 30 (tp 13) (tp 14)) 0,rn (.store 25 (tp 25) (tp 20)) 0,rq 26 (.indexAddr 30 (tp 15) (tp 16)) 0,rn (.store 25 (tp 26) (tp 24)) 0])
 (.seq (.reg [] [
   rq 27 (.move (tp 1)) 3,rq 28 (.binOp .add 3 (tp 27) (ki 1) 3) 3,rq 29 (.move (tp 2)) 3,rq 30 (.binOp .sub 3 (tp 29) (ki 1) 3) 3,rq 11 (.assign (tp 28)) 3,rq 12 (.assign (tp 30)) 3])
 (.seq (.block 0 (.loop (.block 1 (.seq (.block 2 (.loop (.seq (.seq (.reg [0, 1, 2, 3, 4, 5, 6, 7, 8, 9, 10, 11, 12, 13, 14, 15, 16] [
        rq 31 (.move (tp 11)) 3,
        rq 32 (.move (tp 12)) 3,
        rq 33 (.binOp .leq 3 (tp 31) (tp 32) 3) 4,
        rq 34 (.move (tp 33)) 4,
        rg 35 (.move (tp 4)) 79 34 true,
        rg 36 (.move (tp 0)) 30 34 true,
        rg 37 (.move (tp 1)) 3 34 true,
        rg 38 (.indexAddr 30 (tp 36) (tp 37)) 0 34 true,
        rg 39 (.load 25 (tp 38)) 25 34 true,
        rg 40 (.move (tp 0)) 30 34 true,
        rg 41 (.move (tp 11)) 3 34 true,
        rg 42 (.indexAddr 30 (tp 40) (tp 41)) 0 34 true,
        rg 43 (.load 25 (tp 42)) 25 34 true,
        rg 44 (.call ⟨.value (tp 35),#[(tp 39),(tp 43)],#[25,25]⟩) 3 34 true,
        rg 45 (.binOp .lss 3 (tp 44) (ki 0) 3) 4 34 true,
        rg 46 (.unOp .not 4 (tp 45)) 4 34 true,
        rq 47 (.pick (tp 34) (tp 46) (kb false)) 4])
   (.cond (tp 47) (.skip)
   (.exit 2)))
   (.block 3 (.reg [] [
     rq 48 (.move (tp 11)) 3,
     rq 49 (.binOp .add 3 (tp 48) (ki 1) 3) 3,
     rq 11 (.assign (tp 49)) 3])))))
   (.seq (.block 4 (.loop (.seq (.seq (.reg [0, 1, 2, 3, 4, 5, 6, 7, 8, 9, 10, 11, 12, 13, 14, 15] [
     rq 50 (.move (tp 11)) 3,
     rq 51 (.move (tp 12)) 3,
     rq 52 (.binOp .leq 3 (tp 50) (tp 51) 3) 4,
     rq 53 (.move (tp 52)) 4,
     rg 54 (.move (tp 4)) 79 53 true,
     rg 55 (.move (tp 0)) 30 53 true,
     rg 56 (.move (tp 1)) 3 53 true,
     rg 57 (.indexAddr 30 (tp 55) (tp 56)) 0 53 true,
     rg 58 (.load 25 (tp 57)) 25 53 true,
     rg 59 (.move (tp 0)) 30 53 true,
     rg 60 (.move (tp 12)) 3 53 true,
     rg 61 (.indexAddr 30 (tp 59) (tp 60)) 0 53 true,
     rg 62 (.load 25 (tp 61)) 25 53 true,
     rg 63 (.call ⟨.value (tp 54),#[(tp 58),(tp 62)],#[25,25]⟩) 3 53 true,
     rg 64 (.binOp .lss 3 (tp 63) (ki 0) 3) 4 53 true,
     rq 65 (.pick (tp 53) (tp 64) (kb false)) 4])
     (.cond (tp 65) (.skip)
     (.exit 4)))
     (.block 5 (.reg [] [
       rq 66 (.move (tp 12)) 3,
       rq 67 (.binOp .sub 3 (tp 66) (ki 1) 3) 3,
       rq 12 (.assign (tp 67)) 3])))))
   (.seq (.seq (.reg [] [
     rq 68 (.move (tp 11)) 3,
     rq 69 (.move (tp 12)) 3,
     rq 70 (.binOp .gtr 3 (tp 68) (tp 69) 3) 4])
   (.cond (tp 70) (.exit 0)
   (.skip)))
   (.seq (.reg [0, 1, 2, 3, 4, 5, 6, 7, 8, 9, 10, 11, 12, 13, 14, 15] [
     rq 71 (.move (tp 0)) 30,
     rq 72 (.move (tp 11)) 3,
     rq 73 (.move (tp 0)) 30,
     rq 74 (.move (tp 12)) 3,
     rq 75 (.move (tp 0)) 30,
     rq 76 (.move (tp 12)) 3,
     rq 77 (.indexAddr 30 (tp 75) (tp 76)) 0,
     rq 78 (.load 25 (tp 77)) 25,
     rq 79 (.move (tp 0)) 30,
     rq 80 (.move (tp 11)) 3,
     rq 81 (.indexAddr 30 (tp 79) (tp 80)) 0,
     rq 82 (.load 25 (tp 81)) 25,
     rq 83 (.indexAddr 30 (tp 71) (tp 72)) 0,
     rn (.store 25 (tp 83) (tp 78)) 0,
     rq 84 (.indexAddr 30 (tp 73) (tp 74)) 0,
     rn (.store 25 (tp 84) (tp 82)) 0])
   (.seq (.reg [] [
     rq 85 (.move (tp 11)) 3,
     rq 86 (.binOp .add 3 (tp 85) (ki 1) 3) 3,
     rq 11 (.assign (tp 86)) 3])
   (.reg [] [
     rq 87 (.move (tp 12)) 3,
     rq 88 (.binOp .sub 3 (tp 87) (ki 1) 3) 3,
     rq 12 (.assign (tp 88)) 3])))))))))
 (.seq (.reg [] [
   rq 89 (.move (tp 11)) 3,rq 10 (.assign (tp 89)) 3])
 (.ret)))))
def c85:RC:=
 .seq (.reg [] [
  rq 10 (.assign (ki 0)) 3,rq 11 (.assign (kb false)) 4])
 (.seq (.reg [0, 1, 2, 3, 4, 5, 6, 7, 8, 9, 10, 11, 12, 13, 14, 15] [
   rq 14 (.move (tp 0)) 30,rq 15 (.move (tp 1)) 3,rq 16 (.move (tp 0)) 30,rq 17 (.move (tp 3)) 3,rq 18 (.move (tp 0)) 30,rq 19 (.move (tp 3)) 3,rq 20 (.indexAddr 30 (tp 18) (tp 19)) 0,rq 21 (.load 25 (tp 20)) 25,rq 22 (.move (tp 0)) 30,rq 23 (.move (tp 1)) 3,rq 24 (.indexAddr 30 (tp 22) (tp 23)) 0,rq 25 (.load 25 (tp 24)) 25,rq 26 (.indexAddr 30 (tp 14) (tp 15)) 0,rn (.store 25 (tp 26) (tp 21)) 0,rq 27 (.indexAddr 30 (tp 16) (tp 17)) 0,rn (.store 25 (tp 27) (tp 25)) 0])
 (.seq (.reg [] [
   rq 28 (.move (tp 1)) 3,rq 29 (.binOp .add 3 (tp 28) (ki 1) 3) 3,rq 30 (.move (tp 2)) 3,rq 31 (.binOp .sub 3 (tp 30) (ki 1) 3) 3,rq 12 (.assign (tp 29)) 3,rq 13 (.assign (tp 31)) 3])
 (.seq (.block 0 (.loop (.seq (.seq (.reg [0, 1, 2, 3, 4, 5, 6, 7, 8, 9, 10, 11, 12, 13, 14, 15] [
   rq 32 (.move (tp 12)) 3,
   rq 33 (.move (tp 13)) 3,
   rq 34 (.binOp .leq 3 (tp 32) (tp 33) 3) 4,
   rq 35 (.move (tp 34)) 4,
   rg 36 (.move (tp 4)) 79 35 true,
   rg 37 (.move (tp 0)) 30 35 true,
   rg 38 (.move (tp 12)) 3 35 true,
   rg 39 (.indexAddr 30 (tp 37) (tp 38)) 0 35 true,
   rg 40 (.load 25 (tp 39)) 25 35 true,
   rg 41 (.move (tp 0)) 30 35 true,
   rg 42 (.move (tp 1)) 3 35 true,
   rg 43 (.indexAddr 30 (tp 41) (tp 42)) 0 35 true,
   rg 44 (.load 25 (tp 43)) 25 35 true,
   rg 45 (.call ⟨.value (tp 36),#[(tp 40),(tp 44)],#[25,25]⟩) 3 35 true,
   rg 46 (.binOp .lss 3 (tp 45) (ki 0) 3) 4 35 true,
   rq 47 (.pick (tp 35) (tp 46) (kb false)) 4])
   (.cond (tp 47) (.skip)
   (.exit 0)))
   (.block 1 (.reg [] [
     rq 48 (.move (tp 12)) 3,
     rq 49 (.binOp .add 3 (tp 48) (ki 1) 3) 3,
     rq 12 (.assign (tp 49)) 3])))))
 (.seq (.block 2 (.loop (.seq (.seq (.reg [0, 1, 2, 3, 4, 5, 6, 7, 8, 9, 10, 11, 12, 13, 14, 15, 16] [
   rq 50 (.move (tp 12)) 3,
   rq 51 (.move (tp 13)) 3,
   rq 52 (.binOp .leq 3 (tp 50) (tp 51) 3) 4,
   rq 53 (.move (tp 52)) 4,
   rg 54 (.move (tp 4)) 79 53 true,
   rg 55 (.move (tp 0)) 30 53 true,
   rg 56 (.move (tp 13)) 3 53 true,
   rg 57 (.indexAddr 30 (tp 55) (tp 56)) 0 53 true,
   rg 58 (.load 25 (tp 57)) 25 53 true,
   rg 59 (.move (tp 0)) 30 53 true,
   rg 60 (.move (tp 1)) 3 53 true,
   rg 61 (.indexAddr 30 (tp 59) (tp 60)) 0 53 true,
   rg 62 (.load 25 (tp 61)) 25 53 true,
   rg 63 (.call ⟨.value (tp 54),#[(tp 58),(tp 62)],#[25,25]⟩) 3 53 true,
   rg 64 (.binOp .lss 3 (tp 63) (ki 0) 3) 4 53 true,
   rg 65 (.unOp .not 4 (tp 64)) 4 53 true,
   rq 66 (.pick (tp 53) (tp 65) (kb false)) 4])
   (.cond (tp 66) (.skip)
   (.exit 2)))
   (.block 3 (.reg [] [
     rq 67 (.move (tp 13)) 3,
     rq 68 (.binOp .sub 3 (tp 67) (ki 1) 3) 3,
     rq 13 (.assign (tp 68)) 3])))))
 (.seq (.seq (.reg [] [
   rq 69 (.move (tp 12)) 3,rq 70 (.move (tp 13)) 3,rq 71 (.binOp .gtr 3 (tp 69) (tp 70) 3) 4])
 (.cond (tp 71) (.seq (.reg [0, 1, 2, 3, 4, 5, 6, 7, 8, 9, 10, 11, 12, 13, 14, 15] [
   rq 72 (.move (tp 0)) 30,
   rq 73 (.move (tp 13)) 3,
   rq 74 (.move (tp 0)) 30,
   rq 75 (.move (tp 1)) 3,
   rq 76 (.move (tp 0)) 30,
   rq 77 (.move (tp 1)) 3,
   rq 78 (.indexAddr 30 (tp 76) (tp 77)) 0,
   rq 79 (.load 25 (tp 78)) 25,
   rq 80 (.move (tp 0)) 30,
   rq 81 (.move (tp 13)) 3,
   rq 82 (.indexAddr 30 (tp 80) (tp 81)) 0,
   rq 83 (.load 25 (tp 82)) 25,
   rq 84 (.indexAddr 30 (tp 72) (tp 73)) 0,
   rn (.store 25 (tp 84) (tp 79)) 0,
   rq 85 (.indexAddr 30 (tp 74) (tp 75)) 0,
   rn (.store 25 (tp 85) (tp 83)) 0])
  (.seq (.reg [] [
    rq 86 (.move (tp 13)) 3,
    rq 10 (.assign (tp 86)) 3,
    rq 11 (.assign (kb true)) 4])
  (.ret)))
 (.skip)))
 (.seq (.reg [0, 1, 2, 3, 4, 5, 6, 7, 8, 9, 10, 11, 12, 13, 14, 15] [
   rq 87 (.move (tp 0)) 30,rq 88 (.move (tp 12)) 3,rq 89 (.move (tp 0)) 30,rq 90 (.move (tp 13)) 3,rq 91 (.move (tp 0)) 30,rq 92 (.move (tp 13)) 3,rq 93 (.indexAddr 30 (tp 91) (tp 92)) 0,rq 94 (.load 25 (tp 93)) 25,rq 95 (.move (tp 0)) 30,rq 96 (.move (tp 12)) 3,rq 97 (.indexAddr 30 (tp 95) (tp 96)) 0,rq 98 (.load 25 (tp 97)) 25,rq 99 (.indexAddr 30 (tp 87) (tp 88)) 0,rn (.store 25 (tp 99) (tp 94)) 0,rq 100 (.indexAddr 30 (tp 89) (tp 90)) 0,rn (.store 25 (tp 100) (tp 98)) 0])
 (.seq (.reg [] [
   rq 101 (.move (tp 12)) 3,rq 102 (.binOp .add 3 (tp 101) (ki 1) 3) 3,rq 12 (.assign (tp 102)) 3])
 (.seq (.reg [] [
   rq 103 (.move (tp 13)) 3,rq 104 (.binOp .sub 3 (tp 103) (ki 1) 3) 3,rq 13 (.assign (tp 104)) 3])
 (.seq (.block 4 (.loop (.block 5 (.seq (.block 6 (.loop (.seq (.seq (.reg [0, 1, 2, 3, 4, 5, 6, 7, 8, 9, 10, 11, 12, 13, 14, 15] [
        rq 105 (.move (tp 12)) 3,
        rq 106 (.move (tp 13)) 3,
        rq 107 (.binOp .leq 3 (tp 105) (tp 106) 3) 4,
        rq 108 (.move (tp 107)) 4,
        rg 109 (.move (tp 4)) 79 108 true,
        rg 110 (.move (tp 0)) 30 108 true,
        rg 111 (.move (tp 12)) 3 108 true,
        rg 112 (.indexAddr 30 (tp 110) (tp 111)) 0 108 true,
        rg 113 (.load 25 (tp 112)) 25 108 true,
        rg 114 (.move (tp 0)) 30 108 true,
        rg 115 (.move (tp 1)) 3 108 true,
        rg 116 (.indexAddr 30 (tp 114) (tp 115)) 0 108 true,
        rg 117 (.load 25 (tp 116)) 25 108 true,
        rg 118 (.call ⟨.value (tp 109),#[(tp 113),(tp 117)],#[25,25]⟩) 3 108 true,
        rg 119 (.binOp .lss 3 (tp 118) (ki 0) 3) 4 108 true,
        rq 120 (.pick (tp 108) (tp 119) (kb false)) 4])
   (.cond (tp 120) (.skip)
   (.exit 6)))
   (.block 7 (.reg [] [
     rq 121 (.move (tp 12)) 3,
     rq 122 (.binOp .add 3 (tp 121) (ki 1) 3) 3,
     rq 12 (.assign (tp 122)) 3])))))
   (.seq (.block 8 (.loop (.seq (.seq (.reg [0, 1, 2, 3, 4, 5, 6, 7, 8, 9, 10, 11, 12, 13, 14, 15, 16] [
     rq 123 (.move (tp 12)) 3,
     rq 124 (.move (tp 13)) 3,
     rq 125 (.binOp .leq 3 (tp 123) (tp 124) 3) 4,
     rq 126 (.move (tp 125)) 4,
     rg 127 (.move (tp 4)) 79 126 true,
     rg 128 (.move (tp 0)) 30 126 true,
     rg 129 (.move (tp 13)) 3 126 true,
     rg 130 (.indexAddr 30 (tp 128) (tp 129)) 0 126 true,
     rg 131 (.load 25 (tp 130)) 25 126 true,
     rg 132 (.move (tp 0)) 30 126 true,
     rg 133 (.move (tp 1)) 3 126 true,
     rg 134 (.indexAddr 30 (tp 132) (tp 133)) 0 126 true,
     rg 135 (.load 25 (tp 134)) 25 126 true,
     rg 136 (.call ⟨.value (tp 127),#[(tp 131),(tp 135)],#[25,25]⟩) 3 126 true,
     rg 137 (.binOp .lss 3 (tp 136) (ki 0) 3) 4 126 true,
     rg 138 (.unOp .not 4 (tp 137)) 4 126 true,
     rq 139 (.pick (tp 126) (tp 138) (kb false)) 4])
     (.cond (tp 139) (.skip)
     (.exit 8)))
     (.block 9 (.reg [] [
       rq 140 (.move (tp 13)) 3,
       rq 141 (.binOp .sub 3 (tp 140) (ki 1) 3) 3,
       rq 13 (.assign (tp 141)) 3])))))
   (.seq (.seq (.reg [] [
     rq 142 (.move (tp 12)) 3,
     rq 143 (.move (tp 13)) 3,
     rq 144 (.binOp .gtr 3 (tp 142) (tp 143) 3) 4])
   (.cond (tp 144) (.exit 4)
   (.skip)))
   (.seq (.reg [0, 1, 2, 3, 4, 5, 6, 7, 8, 9, 10, 11, 12, 13, 14, 15] [
     rq 145 (.move (tp 0)) 30,
     rq 146 (.move (tp 12)) 3,
     rq 147 (.move (tp 0)) 30,
     rq 148 (.move (tp 13)) 3,
     rq 149 (.move (tp 0)) 30,
     rq 150 (.move (tp 13)) 3,
     rq 151 (.indexAddr 30 (tp 149) (tp 150)) 0,
     rq 152 (.load 25 (tp 151)) 25,
     rq 153 (.move (tp 0)) 30,
     rq 154 (.move (tp 12)) 3,
     rq 155 (.indexAddr 30 (tp 153) (tp 154)) 0,
     rq 156 (.load 25 (tp 155)) 25,
     rq 157 (.indexAddr 30 (tp 145) (tp 146)) 0,
     rn (.store 25 (tp 157) (tp 152)) 0,
     rq 158 (.indexAddr 30 (tp 147) (tp 148)) 0,
     rn (.store 25 (tp 158) (tp 156)) 0])
   (.seq (.reg [] [
     rq 159 (.move (tp 12)) 3,
     rq 160 (.binOp .add 3 (tp 159) (ki 1) 3) 3,
     rq 12 (.assign (tp 160)) 3])
   (.reg [] [
     rq 161 (.move (tp 13)) 3,
     rq 162 (.binOp .sub 3 (tp 161) (ki 1) 3) 3,
     rq 13 (.assign (tp 162)) 3])))))))))
 (.seq (.reg [0, 1, 2, 3, 4, 5, 6, 7, 8, 9, 10, 11, 12, 13, 14, 15] [
   rq 163 (.move (tp 0)) 30,rq 164 (.move (tp 13)) 3,rq 165 (.move (tp 0)) 30,rq 166 (.move (tp 1)) 3,rq 167 (.move (tp 0)) 30,rq 168 (.move (tp 1)) 3,rq 169 (.indexAddr 30 (tp 167) (tp 168)) 0,rq 170 (.load 25 (tp 169)) 25,rq 171 (.move (tp 0)) 30,rq 172 (.move (tp 13)) 3,rq 173 (.indexAddr 30 (tp 171) (tp 172)) 0,rq 174 (.load 25 (tp 173)) 25,rq 175 (.indexAddr 30 (tp 163) (tp 164)) 0,rn (.store 25 (tp 175) (tp 170)) 0,rq 176 (.indexAddr 30 (tp 165) (tp 166)) 0,rn (.store 25 (tp 176) (tp 174)) 0])
 (.seq (.reg [] [
   rq 177 (.move (tp 13)) 3,rq 10 (.assign (tp 177)) 3,rq 11 (.assign (kb false)) 4])
 (.ret))))))))))))
def c86:RC:=
 .seq (.reg [] [
  rq 2 (.assign (ki 0)) 3])
 (.seq (.seq (.reg [] [
   rq 3 (.move (tp 0)) 99,rq 4 (.binOp .geq 99 (tp 3) (.const (.int .u32 65536)) 99) 4])
 (.cond (tp 4) (.seq (.reg [] [
   rq 5 (.move (tp 0)) 99,
   rq 6 (.binOp .shr 99 (tp 5) (.const (.int .u64 16)) 100) 99,
   rq 0 (.assign (tp 6)) 99])
  (.reg [] [
    rq 2 (.assign (ki 16)) 3]))
 (.skip)))
 (.seq (.seq (.reg [] [
   rq 7 (.move (tp 0)) 99,rq 8 (.binOp .geq 99 (tp 7) (.const (.int .u32 256)) 99) 4])
 (.cond (tp 8) (.seq (.reg [] [
   rq 9 (.move (tp 0)) 99,
   rq 10 (.binOp .shr 99 (tp 9) (.const (.int .u64 8)) 100) 99,
   rq 0 (.assign (tp 10)) 99])
  (.reg [] [
    rq 11 (.move (tp 2)) 3,
    rq 12 (.binOp .add 3 (tp 11) (ki 8) 3) 3,
    rq 2 (.assign (tp 12)) 3]))
 (.skip)))
 (.seq (.reg [] [
   rq 13 (.move (tp 2)) 3,rq 14 (.move (tp 0)) 99,rq 15 (.convert 99 5 (tp 14)) 5,rq 16 (.index 9 (.const (.string ⟨#[0,1,2,2,3,3,3,3,4,4,4,4,4,4,4,4,5,5,5,5,5,5,5,5,5,5,5,5,5,5,5,5,6,6,6,6,6,6,6,6,6,6,6,6,6,6,6,6,6,6,6,6,6,6,6,6,6,6,6,6,6,6,6,6,7,7,7,7,7,7,7,7,7,7,7,7,7,7,7,7,7,7,7,7,7,7,7,7,7,7,7,7,7,7,7,7,7,7,7,7,7,7,7,7,7,7,7,7,7,7,7,7,7,7,7,7,7,7,7,7,7,7,7,7,7,7,7,7,8,8,8,8,8,8,8,8,8,8,8,8,8,8,8,8,8,8,8,8,8,8,8,8,8,8,8,8,8,8,8,8,8,8,8,8,8,8,8,8,8,8,8,8,8,8,8,8,8,8,8,8,8,8,8,8,8,8,8,8,8,8,8,8,8,8,8,8,8,8,8,8,8,8,8,8,8,8,8,8,8,8,8,8,8,8,8,8,8,8,8,8,8,8,8,8,8,8,8,8,8,8,8,8,8,8,8,8,8,8,8,8,8,8,8,8,8,8,8,8,8,8,8,8,8,8,8,8]⟩)) (tp 15)) 5,rq 17 (.convert 5 3 (tp 16)) 3,rq 18 (.binOp .add 3 (tp 13) (tp 17) 3) 3,rq 2 (.assign (tp 18)) 3])
 (.ret))))
def c87:RC:=
 .seq (.reg [] [
  rq 2 (.assign (ki 0)) 3])
 (.seq (.seq (.reg [] [
   rq 3 (.move (tp 0)) 118,rq 4 (.binOp .geq 118 (tp 3) (.const (.int .u64 4294967296)) 118) 4])
 (.cond (tp 4) (.seq (.reg [] [
   rq 5 (.move (tp 0)) 118,
   rq 6 (.binOp .shr 118 (tp 5) (.const (.int .u64 32)) 100) 118,
   rq 0 (.assign (tp 6)) 118])
  (.reg [] [
    rq 2 (.assign (ki 32)) 3]))
 (.skip)))
 (.seq (.seq (.reg [] [
   rq 7 (.move (tp 0)) 118,rq 8 (.binOp .geq 118 (tp 7) (.const (.int .u64 65536)) 118) 4])
 (.cond (tp 8) (.seq (.reg [] [
   rq 9 (.move (tp 0)) 118,
   rq 10 (.binOp .shr 118 (tp 9) (.const (.int .u64 16)) 100) 118,
   rq 0 (.assign (tp 10)) 118])
  (.reg [] [
    rq 11 (.move (tp 2)) 3,
    rq 12 (.binOp .add 3 (tp 11) (ki 16) 3) 3,
    rq 2 (.assign (tp 12)) 3]))
 (.skip)))
 (.seq (.seq (.reg [] [
   rq 13 (.move (tp 0)) 118,rq 14 (.binOp .geq 118 (tp 13) (.const (.int .u64 256)) 118) 4])
 (.cond (tp 14) (.seq (.reg [] [
   rq 15 (.move (tp 0)) 118,
   rq 16 (.binOp .shr 118 (tp 15) (.const (.int .u64 8)) 100) 118,
   rq 0 (.assign (tp 16)) 118])
  (.reg [] [
    rq 17 (.move (tp 2)) 3,
    rq 18 (.binOp .add 3 (tp 17) (ki 8) 3) 3,
    rq 2 (.assign (tp 18)) 3]))
 (.skip)))
 (.seq (.reg [] [
   rq 19 (.move (tp 2)) 3,rq 20 (.move (tp 0)) 118,rq 21 (.convert 118 5 (tp 20)) 5,rq 22 (.index 9 (.const (.string ⟨#[0,1,2,2,3,3,3,3,4,4,4,4,4,4,4,4,5,5,5,5,5,5,5,5,5,5,5,5,5,5,5,5,6,6,6,6,6,6,6,6,6,6,6,6,6,6,6,6,6,6,6,6,6,6,6,6,6,6,6,6,6,6,6,6,7,7,7,7,7,7,7,7,7,7,7,7,7,7,7,7,7,7,7,7,7,7,7,7,7,7,7,7,7,7,7,7,7,7,7,7,7,7,7,7,7,7,7,7,7,7,7,7,7,7,7,7,7,7,7,7,7,7,7,7,7,7,7,7,8,8,8,8,8,8,8,8,8,8,8,8,8,8,8,8,8,8,8,8,8,8,8,8,8,8,8,8,8,8,8,8,8,8,8,8,8,8,8,8,8,8,8,8,8,8,8,8,8,8,8,8,8,8,8,8,8,8,8,8,8,8,8,8,8,8,8,8,8,8,8,8,8,8,8,8,8,8,8,8,8,8,8,8,8,8,8,8,8,8,8,8,8,8,8,8,8,8,8,8,8,8,8,8,8,8,8,8,8,8,8,8,8,8,8,8,8,8,8,8,8,8,8,8,8,8,8,8]⟩)) (tp 21)) 5,rq 23 (.convert 5 3 (tp 22)) 3,rq 24 (.binOp .add 3 (tp 19) (tp 23) 3) 3,rq 2 (.assign (tp 24)) 3])
 (.ret)))))
def c88:RC:=
 .seq (.reg [] [
  rq 8 (.move (tp 1)) 3,rq 9 (.binOp .add 3 (tp 8) (ki 1) 3) 3,rq 6 (.assign (tp 9)) 3])
 (.block 0 (.loop (.seq (.seq (.reg [] [
   rq 10 (.move (tp 6)) 3,
   rq 11 (.move (tp 2)) 3,
   rq 12 (.binOp .lss 3 (tp 10) (tp 11) 3) 4])
   (.cond (tp 12) (.skip)
   (.exit 0)))
   (.seq (.block 1 (.seq (.reg [] [
     rq 15 (.move (tp 6)) 3,
     rq 7 (.assign (tp 15)) 3])
    (.block 2 (.loop (.seq (.seq (.reg [0, 1, 2, 3, 4, 5, 6, 7, 8, 9, 10, 11, 12, 13, 14] [
      rq 16 (.move (tp 7)) 3,
      rq 17 (.move (tp 1)) 3,
      rq 18 (.binOp .gtr 3 (tp 16) (tp 17) 3) 4,
      rq 19 (.move (tp 18)) 4,
      rg 20 (.move (tp 0)) 25 19 true,
      rg 21 (.move (tp 7)) 3 19 true,
      rg 22 (.indexAddr 25 (tp 20) (tp 21)) 0 19 true,
      rg 23 (.load 3 (tp 22)) 3 19 true,
      rg 24 (.move (tp 0)) 25 19 true,
      rg 25 (.move (tp 7)) 3 19 true,
      rg 26 (.binOp .sub 3 (tp 25) (ki 1) 3) 3 19 true,
      rg 27 (.indexAddr 25 (tp 24) (tp 26)) 0 19 true,
      rg 28 (.load 3 (tp 27)) 3 19 true,
      rg 29 (cf 94 #[(tp 23),(tp 28)] #[3,3]) 4 19 true,
      rq 30 (.pick (tp 19) (tp 29) (kb false)) 4])
      (.cond (tp 30) (.skip)
      (.exit 2)))
      (.seq (.block 3 (.reg [0, 1, 2, 3, 4, 5, 6, 7, 8, 9, 10, 11, 12, 13, 14, 15, 16, 17] [
        rq 33 (.move (tp 0)) 25,
        rq 34 (.move (tp 7)) 3,
        rq 35 (.move (tp 0)) 25,
        rq 36 (.move (tp 7)) 3,
        rq 37 (.binOp .sub 3 (tp 36) (ki 1) 3) 3,
        rq 38 (.move (tp 0)) 25,
        rq 39 (.move (tp 7)) 3,
        rq 40 (.binOp .sub 3 (tp 39) (ki 1) 3) 3,
        rq 41 (.indexAddr 25 (tp 38) (tp 40)) 0,
        rq 42 (.load 3 (tp 41)) 3,
        rq 43 (.move (tp 0)) 25,
        rq 44 (.move (tp 7)) 3,
        rq 45 (.indexAddr 25 (tp 43) (tp 44)) 0,
        rq 46 (.load 3 (tp 45)) 3,
        rq 47 (.indexAddr 25 (tp 33) (tp 34)) 0,
        rn (.store 3 (tp 47) (tp 42)) 0,
        rq 48 (.indexAddr 25 (tp 35) (tp 37)) 0,
        rn (.store 3 (tp 48) (tp 46)) 0]))
      (.reg [] [
        rq 31 (.move (tp 7)) 3,
        rq 32 (.binOp .sub 3 (tp 31) (ki 1) 3) 3,
        rq 7 (.assign (tp 32)) 3])))))))
   (.reg [] [
     rq 13 (.move (tp 6)) 3,
     rq 14 (.binOp .add 3 (tp 13) (ki 1) 3) 3,
     rq 6 (.assign (tp 14)) 3])))))
def c89:RC:=
 .seq (.reg [] [
  rq 11 (.move (tp 1)) 3,rq 6 (.assign (tp 11)) 3])
 (.seq (.reg [] [
   rq 7 (.assign (ki 0)) 3])
 (.seq (.reg [] [
   rq 12 (.move (tp 2)) 3,rq 13 (.move (tp 1)) 3,rq 14 (.binOp .sub 3 (tp 12) (tp 13) 3) 3,rq 8 (.assign (tp 14)) 3])
 (.seq (.seq (.reg [] [
   rq 15 (.move (tp 8)) 3,rq 16 (.binOp .sub 3 (tp 15) (ki 1) 3) 3,rq 17 (.binOp .quo 3 (tp 16) (ki 2) 3) 3,rq 9 (.assign (tp 17)) 3])
 (.block 0 (.loop (.seq (.seq (.reg [] [
   rq 18 (.move (tp 9)) 3,
   rq 19 (.binOp .geq 3 (tp 18) (ki 0) 3) 4])
   (.cond (tp 19) (.skip)
   (.exit 0)))
   (.seq (.block 1 (.reg [] [
     rq 22 (.move (tp 0)) 25,
     rq 23 (.move (tp 9)) 3,
     rq 24 (.move (tp 8)) 3,
     rq 25 (.move (tp 6)) 3,
     rq 26 (cf 103 #[(tp 22),(tp 23),(tp 24),(tp 25)] #[25,3,3,3]) 0]))
   (.reg [] [
     rq 20 (.move (tp 9)) 3,
     rq 21 (.binOp .sub 3 (tp 20) (ki 1) 3) 3,
     rq 9 (.assign (tp 21)) 3]))))))
 (.seq (.reg [] [
   rq 27 (.move (tp 8)) 3,rq 28 (.binOp .sub 3 (tp 27) (ki 1) 3) 3,rq 10 (.assign (tp 28)) 3])
 (.block 2 (.loop (.seq (.seq (.reg [] [
   rq 29 (.move (tp 10)) 3,
   rq 30 (.binOp .geq 3 (tp 29) (ki 0) 3) 4])
   (.cond (tp 30) (.skip)
   (.exit 2)))
   (.seq (.block 3 (.seq (.reg [0, 1, 2, 3, 4, 5, 6, 7, 8, 9, 10, 11, 12, 13, 14, 15, 16, 17, 18, 19] [
     rq 33 (.move (tp 0)) 25,
     rq 34 (.move (tp 6)) 3,
     rq 35 (.move (tp 0)) 25,
     rq 36 (.move (tp 6)) 3,
     rq 37 (.move (tp 10)) 3,
     rq 38 (.binOp .add 3 (tp 36) (tp 37) 3) 3,
     rq 39 (.move (tp 0)) 25,
     rq 40 (.move (tp 6)) 3,
     rq 41 (.move (tp 10)) 3,
     rq 42 (.binOp .add 3 (tp 40) (tp 41) 3) 3,
     rq 43 (.indexAddr 25 (tp 39) (tp 42)) 0,
     rq 44 (.load 3 (tp 43)) 3,
     rq 45 (.move (tp 0)) 25,
     rq 46 (.move (tp 6)) 3,
     rq 47 (.indexAddr 25 (tp 45) (tp 46)) 0,
     rq 48 (.load 3 (tp 47)) 3,
     rq 49 (.indexAddr 25 (tp 33) (tp 34)) 0,
     rn (.store 3 (tp 49) (tp 44)) 0,
     rq 50 (.indexAddr 25 (tp 35) (tp 38)) 0,
     rn (.store 3 (tp 50) (tp 48)) 0])
    (.reg [] [
      rq 51 (.move (tp 0)) 25,
      rq 52 (.move (tp 7)) 3,
      rq 53 (.move (tp 10)) 3,
      rq 54 (.move (tp 6)) 3,
      rq 55 (cf 103 #[(tp 51),(tp 52),(tp 53),(tp 54)] #[25,3,3,3]) 0])))
   (.reg [] [
     rq 31 (.move (tp 10)) 3,
     rq 32 (.binOp .sub 3 (tp 31) (ki 1) 3) 3,
     rq 10 (.assign (tp 32)) 3])))))))))
def c90:RC:=
 .seq (.reg [] [
  rq 11 (.move (tp 2)) 3,rq 12 (.move (tp 1)) 3,rq 13 (.binOp .sub 3 (tp 11) (tp 12) 3) 3,rq 6 (.assign (tp 13)) 3])
 (.seq (.reg [] [
   rq 14 (.move (tp 6)) 3,rq 15 (.binOp .geq 3 (tp 14) (ki 8) 3) 4])
 (.cond (tp 15) (.seq (.reg [] [
   rq 16 (.move (tp 6)) 3,
   rq 17 (.convert 3 128 (tp 16)) 128,
   rq 7 (.alloc 128) 0,
   rn (.store 128 (tp 7) (tp 17)) 0])
  (.seq (.reg [] [
    rq 18 (.move (tp 6)) 3,
    rq 19 (cf 99 #[(tp 18)] #[3]) 100,
    rq 8 (.assign (tp 19)) 100])
  (.seq (.reg [] [
    rq 20 (.move (tp 1)) 3,
    rq 21 (.move (tp 6)) 3,
    rq 22 (.binOp .quo 3 (tp 21) (ki 4) 3) 3,
    rq 23 (.binOp .mul 3 (tp 22) (ki 2) 3) 3,
    rq 24 (.binOp .add 3 (tp 20) (tp 23) 3) 3,
    rq 25 (.binOp .sub 3 (tp 24) (ki 1) 3) 3,
    rq 9 (.assign (tp 25)) 3])
  (.block 0 (.loop (.seq (.seq (.reg [] [
    rq 26 (.move (tp 9)) 3,
    rq 27 (.move (tp 1)) 3,
    rq 28 (.move (tp 6)) 3,
    rq 29 (.binOp .quo 3 (tp 28) (ki 4) 3) 3,
    rq 30 (.binOp .mul 3 (tp 29) (ki 2) 3) 3,
    rq 31 (.binOp .add 3 (tp 27) (tp 30) 3) 3,
    rq 32 (.binOp .add 3 (tp 31) (ki 1) 3) 3,
    rq 33 (.binOp .leq 3 (tp 26) (tp 32) 3) 4])
    (.cond (tp 33) (.skip)
    (.exit 0)))
    (.seq (.block 1 (.seq (.reg [] [
      rq 36 (cf 100 #[(tp 7)] #[128]) 118,
      rq 37 (.move (tp 8)) 100,
      rq 38 (.binOp .sub 100 (tp 37) (.const (.int .u64 1)) 100) 100,
      rq 39 (.binOp .and 100 (tp 36) (tp 38) 100) 100,
      rq 40 (.convert 100 3 (tp 39)) 3,
      rq 10 (.assign (tp 40)) 3])
     (.seq (.seq (.reg [] [
       rq 41 (.move (tp 10)) 3,
       rq 42 (.move (tp 6)) 3,
       rq 43 (.binOp .geq 3 (tp 41) (tp 42) 3) 4])
     (.cond (tp 43) (.reg [] [
       rq 44 (.move (tp 10)) 3,
       rq 45 (.move (tp 6)) 3,
       rq 46 (.binOp .sub 3 (tp 44) (tp 45) 3) 3,
       rq 10 (.assign (tp 46)) 3])
     (.skip)))
     (.reg [0, 1, 2, 3, 4, 5, 6, 7, 8, 9, 10, 11, 12, 13, 14, 15, 16, 17, 18, 19] [
       rq 47 (.move (tp 0)) 25,
       rq 48 (.move (tp 9)) 3,
       rq 49 (.move (tp 0)) 25,
       rq 50 (.move (tp 1)) 3,
       rq 51 (.move (tp 10)) 3,
       rq 52 (.binOp .add 3 (tp 50) (tp 51) 3) 3,
       rq 53 (.move (tp 0)) 25,
       rq 54 (.move (tp 1)) 3,
       rq 55 (.move (tp 10)) 3,
       rq 56 (.binOp .add 3 (tp 54) (tp 55) 3) 3,
       rq 57 (.indexAddr 25 (tp 53) (tp 56)) 0,
       rq 58 (.load 3 (tp 57)) 3,
       rq 59 (.move (tp 0)) 25,
       rq 60 (.move (tp 9)) 3,
       rq 61 (.indexAddr 25 (tp 59) (tp 60)) 0,
       rq 62 (.load 3 (tp 61)) 3,
       rq 63 (.indexAddr 25 (tp 47) (tp 48)) 0,
       rn (.store 3 (tp 63) (tp 58)) 0,
       rq 64 (.indexAddr 25 (tp 49) (tp 52)) 0,
       rn (.store 3 (tp 64) (tp 62)) 0]))))
    (.reg [] [
      rq 34 (.move (tp 9)) 3,
      rq 35 (.binOp .add 3 (tp 34) (ki 1) 3) 3,
      rq 9 (.assign (tp 35)) 3]))))))))
 (.skip)))
def c91:RC:=
 .seq (.reg [] [
  rq 6 (.assign (ki 0)) 3,rq 7 (.assign (ki 0)) 109])
 (.seq (.reg [] [
   rq 13 (.move (tp 2)) 3,rq 14 (.move (tp 1)) 3,rq 15 (.binOp .sub 3 (tp 13) (tp 14) 3) 3,rq 8 (.assign (tp 15)) 3])
 (.seq (.reg [] [
   rq 9 (.alloc 3) 0])
 (.seq (.reg [] [
   rq 16 (.move (tp 1)) 3,rq 17 (.move (tp 8)) 3,rq 18 (.binOp .quo 3 (tp 17) (ki 4) 3) 3,rq 19 (.binOp .mul 3 (tp 18) (ki 1) 3) 3,rq 20 (.binOp .add 3 (tp 16) (tp 19) 3) 3,rq 10 (.assign (tp 20)) 3])
 (.seq (.reg [] [
   rq 21 (.move (tp 1)) 3,rq 22 (.move (tp 8)) 3,rq 23 (.binOp .quo 3 (tp 22) (ki 4) 3) 3,rq 24 (.binOp .mul 3 (tp 23) (ki 2) 3) 3,rq 25 (.binOp .add 3 (tp 21) (tp 24) 3) 3,rq 11 (.assign (tp 25)) 3])
 (.seq (.reg [] [
   rq 26 (.move (tp 1)) 3,rq 27 (.move (tp 8)) 3,rq 28 (.binOp .quo 3 (tp 27) (ki 4) 3) 3,rq 29 (.binOp .mul 3 (tp 28) (ki 3) 3) 3,rq 30 (.binOp .add 3 (tp 26) (tp 29) 3) 3,rq 12 (.assign (tp 30)) 3])
 (.seq (.seq (.reg [] [
   rq 31 (.move (tp 8)) 3,rq 32 (.binOp .geq 3 (tp 31) (ki 8) 3) 4])
 (.cond (tp 32) (.seq (.seq (.reg [] [
   rq 33 (.move (tp 8)) 3,
   rq 34 (.binOp .geq 3 (tp 33) (ki 50) 3) 4])
  (.cond (tp 34) (.seq (.reg [] [
    rq 35 (.move (tp 0)) 25,
    rq 36 (.move (tp 10)) 3,
    rq 37 (cf 104 #[(tp 35),(tp 36),(tp 9)] #[25,3,132]) 3,
    rq 10 (.assign (tp 37)) 3])
   (.seq (.reg [] [
     rq 38 (.move (tp 0)) 25,
     rq 39 (.move (tp 11)) 3,
     rq 40 (cf 104 #[(tp 38),(tp 39),(tp 9)] #[25,3,132]) 3,
     rq 11 (.assign (tp 40)) 3])
   (.reg [] [
     rq 41 (.move (tp 0)) 25,
     rq 42 (.move (tp 12)) 3,
     rq 43 (cf 104 #[(tp 41),(tp 42),(tp 9)] #[25,3,132]) 3,
     rq 12 (.assign (tp 43)) 3])))
  (.skip)))
  (.reg [] [
    rq 44 (.move (tp 0)) 25,
    rq 45 (.move (tp 10)) 3,
    rq 46 (.move (tp 11)) 3,
    rq 47 (.move (tp 12)) 3,
    rq 48 (cf 105 #[(tp 44),(tp 45),(tp 46),(tp 47),(tp 9)] #[25,3,3,3,132]) 3,
    rq 11 (.assign (tp 48)) 3]))
 (.skip)))
 (.seq (.reg [] [
   rq 49 (.load 3 (tp 9)) 3])
 (.block 0 (.seq (.reg [] [
   rq 52 (.binOp .eql 3 (tp 49) (ki 0) 3) 4,
   rq 51 (.assign (tp 52)) 4])
  (.cond (tp 51) (.seq (.reg [] [
    rq 53 (.move (tp 11)) 3,
    rq 6 (.assign (tp 53)) 3,
    rq 7 (.assign (ki 1)) 109])
   (.ret))
  (.seq (.reg [] [
    rq 55 (.binOp .eql 3 (tp 49) (ki 12) 3) 4,
    rq 54 (.assign (tp 55)) 4])
   (.cond (tp 54) (.seq (.reg [] [
     rq 56 (.move (tp 11)) 3,
     rq 6 (.assign (tp 56)) 3,
     rq 7 (.assign (ki 2)) 109])
    (.ret))
   (.seq (.reg [] [
     rq 50 (.move (tp 11)) 3,
     rq 6 (.assign (tp 50)) 3,
     rq 7 (.assign (ki 0)) 109])
    (.ret))))))))))))))
def c92:RC:=
 .seq (.reg [] [
  rq 8 (.move (tp 1)) 3,rq 6 (.assign (tp 8)) 3])
 (.seq (.reg [] [
   rq 9 (.move (tp 2)) 3,rq 10 (.binOp .sub 3 (tp 9) (ki 1) 3) 3,rq 7 (.assign (tp 10)) 3])
 (.block 0 (.loop (.seq (.seq (.reg [] [
   rq 11 (.move (tp 6)) 3,
   rq 12 (.move (tp 7)) 3,
   rq 13 (.binOp .lss 3 (tp 11) (tp 12) 3) 4])
   (.cond (tp 13) (.skip)
   (.exit 0)))
   (.block 1 (.seq (.reg [0, 1, 2, 3, 4, 5, 6, 7, 8, 9, 10, 11, 12, 13, 14, 15] [
     rq 14 (.move (tp 0)) 25,
     rq 15 (.move (tp 6)) 3,
     rq 16 (.move (tp 0)) 25,
     rq 17 (.move (tp 7)) 3,
     rq 18 (.move (tp 0)) 25,
     rq 19 (.move (tp 7)) 3,
     rq 20 (.indexAddr 25 (tp 18) (tp 19)) 0,
     rq 21 (.load 3 (tp 20)) 3,
     rq 22 (.move (tp 0)) 25,
     rq 23 (.move (tp 6)) 3,
     rq 24 (.indexAddr 25 (tp 22) (tp 23)) 0,
     rq 25 (.load 3 (tp 24)) 3,
     rq 26 (.indexAddr 25 (tp 14) (tp 15)) 0,
     rn (.store 3 (tp 26) (tp 21)) 0,
     rq 27 (.indexAddr 25 (tp 16) (tp 17)) 0,
     rn (.store 3 (tp 27) (tp 25)) 0])
    (.seq (.reg [] [
      rq 28 (.move (tp 6)) 3,
      rq 29 (.binOp .add 3 (tp 28) (ki 1) 3) 3,
      rq 6 (.assign (tp 29)) 3])
    (.reg [] [
      rq 30 (.move (tp 7)) 3,
      rq 31 (.binOp .sub 3 (tp 30) (ki 1) 3) 3,
      rq 7 (.assign (tp 31)) 3]))))))))
def c93:RC:=
 .seq (.reg [] [
  rq 6 (.assign (kb false)) 4])
 (.seq (.reg [] [
   rq 11 (.move (tp 1)) 3,rq 12 (.binOp .add 3 (tp 11) (ki 1) 3) 3,rq 7 (.assign (tp 12)) 3])
 (.seq (.seq (.reg [] [
   rq 8 (.assign (ki 0)) 3])
 (.block 0 (.loop (.seq (.seq (.reg [] [
   rq 13 (.move (tp 8)) 3,
   rq 14 (.binOp .lss 3 (tp 13) (ki 5) 3) 4])
   (.cond (tp 14) (.skip)
   (.exit 0)))
   (.seq (.block 1 (.seq (.block 2 (.loop (.seq (.seq (.reg [0, 1, 2, 3, 4, 5, 6, 7, 8, 9, 10, 11, 12, 13, 14, 15] [
     rq 17 (.move (tp 7)) 3,
     rq 18 (.move (tp 2)) 3,
     rq 19 (.binOp .lss 3 (tp 17) (tp 18) 3) 4,
     rq 20 (.move (tp 19)) 4,
     rg 21 (.move (tp 0)) 25 20 true,
     rg 22 (.move (tp 7)) 3 20 true,
     rg 23 (.indexAddr 25 (tp 21) (tp 22)) 0 20 true,
     rg 24 (.load 3 (tp 23)) 3 20 true,
     rg 25 (.move (tp 0)) 25 20 true,
     rg 26 (.move (tp 7)) 3 20 true,
     rg 27 (.binOp .sub 3 (tp 26) (ki 1) 3) 3 20 true,
     rg 28 (.indexAddr 25 (tp 25) (tp 27)) 0 20 true,
     rg 29 (.load 3 (tp 28)) 3 20 true,
     rg 30 (cf 94 #[(tp 24),(tp 29)] #[3,3]) 4 20 true,
     rg 31 (.unOp .not 4 (tp 30)) 4 20 true,
     rq 32 (.pick (tp 20) (tp 31) (kb false)) 4])
     (.cond (tp 32) (.skip)
     (.exit 2)))
     (.block 3 (.reg [] [
       rq 33 (.move (tp 7)) 3,
       rq 34 (.binOp .add 3 (tp 33) (ki 1) 3) 3,
       rq 7 (.assign (tp 34)) 3])))))
    (.seq (.seq (.reg [] [
      rq 35 (.move (tp 7)) 3,
      rq 36 (.move (tp 2)) 3,
      rq 37 (.binOp .eql 3 (tp 35) (tp 36) 3) 4])
    (.cond (tp 37) (.seq (.reg [] [
      rq 6 (.assign (kb true)) 4])
     (.ret))
    (.skip)))
    (.seq (.seq (.reg [] [
      rq 38 (.move (tp 2)) 3,
      rq 39 (.move (tp 1)) 3,
      rq 40 (.binOp .sub 3 (tp 38) (tp 39) 3) 3,
      rq 41 (.binOp .lss 3 (tp 40) (ki 50) 3) 4])
    (.cond (tp 41) (.seq (.reg [] [
      rq 6 (.assign (kb false)) 4])
     (.ret))
    (.skip)))
    (.seq (.reg [0, 1, 2, 3, 4, 5, 6, 7, 8, 9, 10, 11, 12, 13, 14, 15, 16, 17] [
      rq 42 (.move (tp 0)) 25,
      rq 43 (.move (tp 7)) 3,
      rq 44 (.move (tp 0)) 25,
      rq 45 (.move (tp 7)) 3,
      rq 46 (.binOp .sub 3 (tp 45) (ki 1) 3) 3,
      rq 47 (.move (tp 0)) 25,
      rq 48 (.move (tp 7)) 3,
      rq 49 (.binOp .sub 3 (tp 48) (ki 1) 3) 3,
      rq 50 (.indexAddr 25 (tp 47) (tp 49)) 0,
      rq 51 (.load 3 (tp 50)) 3,
      rq 52 (.move (tp 0)) 25,
      rq 53 (.move (tp 7)) 3,
      rq 54 (.indexAddr 25 (tp 52) (tp 53)) 0,
      rq 55 (.load 3 (tp 54)) 3,
      rq 56 (.indexAddr 25 (tp 42) (tp 43)) 0,
      rn (.store 3 (tp 56) (tp 51)) 0,
      rq 57 (.indexAddr 25 (tp 44) (tp 46)) 0,
      rn (.store 3 (tp 57) (tp 55)) 0])
    (.seq (.seq (.reg [] [
      rq 58 (.move (tp 7)) 3,
      rq 59 (.move (tp 1)) 3,
      rq 60 (.binOp .sub 3 (tp 58) (tp 59) 3) 3,
      rq 61 (.binOp .geq 3 (tp 60) (ki 2) 3) 4])
    (.cond (tp 61) (.seq (.reg [] [
      rq 62 (.move (tp 7)) 3,
      rq 63 (.binOp .sub 3 (tp 62) (ki 1) 3) 3,
      rq 9 (.assign (tp 63)) 3])
     (.block 4 (.loop (.seq (.seq (.reg [] [
       rq 64 (.move (tp 9)) 3,
       rq 65 (.binOp .geq 3 (tp 64) (ki 1) 3) 4])
       (.cond (tp 65) (.skip)
       (.exit 4)))
       (.seq (.block 5 (.seq (.seq (.reg [0, 1, 2, 3, 4, 5, 6, 7, 8, 9, 10] [
         rq 68 (.move (tp 0)) 25,
         rq 69 (.move (tp 9)) 3,
         rq 70 (.indexAddr 25 (tp 68) (tp 69)) 0,
         rq 71 (.load 3 (tp 70)) 3,
         rq 72 (.move (tp 0)) 25,
         rq 73 (.move (tp 9)) 3,
         rq 74 (.binOp .sub 3 (tp 73) (ki 1) 3) 3,
         rq 75 (.indexAddr 25 (tp 72) (tp 74)) 0,
         rq 76 (.load 3 (tp 75)) 3,
         rq 77 (cf 94 #[(tp 71),(tp 76)] #[3,3]) 4,
         rq 78 (.unOp .not 4 (tp 77)) 4])
        (.cond (tp 78) (.exit 4)
        (.skip)))
        (.reg [0, 1, 2, 3, 4, 5, 6, 7, 8, 9, 10, 11, 12, 13, 14, 15, 16, 17] [
          rq 79 (.move (tp 0)) 25,
          rq 80 (.move (tp 9)) 3,
          rq 81 (.move (tp 0)) 25,
          rq 82 (.move (tp 9)) 3,
          rq 83 (.binOp .sub 3 (tp 82) (ki 1) 3) 3,
          rq 84 (.move (tp 0)) 25,
          rq 85 (.move (tp 9)) 3,
          rq 86 (.binOp .sub 3 (tp 85) (ki 1) 3) 3,
          rq 87 (.indexAddr 25 (tp 84) (tp 86)) 0,
          rq 88 (.load 3 (tp 87)) 3,
          rq 89 (.move (tp 0)) 25,
          rq 90 (.move (tp 9)) 3,
          rq 91 (.indexAddr 25 (tp 89) (tp 90)) 0,
          rq 92 (.load 3 (tp 91)) 3,
          rq 93 (.indexAddr 25 (tp 79) (tp 80)) 0,
          rn (.store 3 (tp 93) (tp 88)) 0,
          rq 94 (.indexAddr 25 (tp 81) (tp 83)) 0,
          rn (.store 3 (tp 94) (tp 92)) 0])))
       (.reg [] [
         rq 66 (.move (tp 9)) 3,
         rq 67 (.binOp .sub 3 (tp 66) (ki 1) 3) 3,
         rq 9 (.assign (tp 67)) 3]))))))
    (.skip)))
    (.seq (.reg [] [
      rq 95 (.move (tp 2)) 3,
      rq 96 (.move (tp 7)) 3,
      rq 97 (.binOp .sub 3 (tp 95) (tp 96) 3) 3,
      rq 98 (.binOp .geq 3 (tp 97) (ki 2) 3) 4])
    (.cond (tp 98) (.seq (.reg [] [
      rq 99 (.move (tp 7)) 3,
      rq 100 (.binOp .add 3 (tp 99) (ki 1) 3) 3,
      rq 10 (.assign (tp 100)) 3])
     (.block 6 (.loop (.seq (.seq (.reg [] [
       rq 101 (.move (tp 10)) 3,
       rq 102 (.move (tp 2)) 3,
       rq 103 (.binOp .lss 3 (tp 101) (tp 102) 3) 4])
       (.cond (tp 103) (.skip)
       (.exit 6)))
       (.seq (.block 7 (.seq (.seq (.reg [0, 1, 2, 3, 4, 5, 6, 7, 8, 9, 10] [
         rq 106 (.move (tp 0)) 25,
         rq 107 (.move (tp 10)) 3,
         rq 108 (.indexAddr 25 (tp 106) (tp 107)) 0,
         rq 109 (.load 3 (tp 108)) 3,
         rq 110 (.move (tp 0)) 25,
         rq 111 (.move (tp 10)) 3,
         rq 112 (.binOp .sub 3 (tp 111) (ki 1) 3) 3,
         rq 113 (.indexAddr 25 (tp 110) (tp 112)) 0,
         rq 114 (.load 3 (tp 113)) 3,
         rq 115 (cf 94 #[(tp 109),(tp 114)] #[3,3]) 4,
         rq 116 (.unOp .not 4 (tp 115)) 4])
        (.cond (tp 116) (.exit 6)
        (.skip)))
        (.reg [0, 1, 2, 3, 4, 5, 6, 7, 8, 9, 10, 11, 12, 13, 14, 15, 16, 17] [
          rq 117 (.move (tp 0)) 25,
          rq 118 (.move (tp 10)) 3,
          rq 119 (.move (tp 0)) 25,
          rq 120 (.move (tp 10)) 3,
          rq 121 (.binOp .sub 3 (tp 120) (ki 1) 3) 3,
          rq 122 (.move (tp 0)) 25,
          rq 123 (.move (tp 10)) 3,
          rq 124 (.binOp .sub 3 (tp 123) (ki 1) 3) 3,
          rq 125 (.indexAddr 25 (tp 122) (tp 124)) 0,
          rq 126 (.load 3 (tp 125)) 3,
          rq 127 (.move (tp 0)) 25,
          rq 128 (.move (tp 10)) 3,
          rq 129 (.indexAddr 25 (tp 127) (tp 128)) 0,
          rq 130 (.load 3 (tp 129)) 3,
          rq 131 (.indexAddr 25 (tp 117) (tp 118)) 0,
          rn (.store 3 (tp 131) (tp 126)) 0,
          rq 132 (.indexAddr 25 (tp 119) (tp 121)) 0,
          rn (.store 3 (tp 132) (tp 130)) 0])))
       (.reg [] [
         rq 104 (.move (tp 10)) 3,
         rq 105 (.binOp .add 3 (tp 104) (ki 1) 3) 3,
         rq 10 (.assign (tp 105)) 3]))))))
    (.skip)))))))))
   (.reg [] [
     rq 15 (.move (tp 8)) 3,
     rq 16 (.binOp .add 3 (tp 15) (ki 1) 3) 3,
     rq 8 (.assign (tp 16)) 3]))))))
 (.seq (.reg [] [
   rq 6 (.assign (kb false)) 4])
 (.ret))))
def c94:RC:=
 .seq (.reg [] [
  rq 4 (.assign (kb false)) 4])
 (.seq (.reg [] [
   rq 5 (.move (tp 0)) 3,rq 6 (cf 74 #[(tp 5)] #[3]) 4,rq 7 (.move (tp 6)) 4,rg 8 (.move (tp 1)) 3 7 true,rg 9 (cf 74 #[(tp 8)] #[3]) 4 7 true,rg 10 (.unOp .not 4 (tp 9)) 4 7 true,rq 11 (.pick (tp 7) (tp 10) (kb false)) 4,rq 12 (.move (tp 11)) 4,rg 13 (.move (tp 0)) 3 12 false,rg 14 (.move (tp 1)) 3 12 false,rg 15 (.binOp .lss 3 (tp 13) (tp 14) 3) 4 12 false,rq 16 (.pick (tp 12) (kb true) (tp 15)) 4,rq 4 (.assign (tp 16)) 4])
 (.ret))
def c95:RC:=
 .seq (.reg [] [
  rq 8 (.assign (ki 0)) 3])
 (.seq (.reg [0, 1, 2, 3, 4, 5, 6, 7, 8, 9, 10, 11, 12, 13, 14, 15] [
   rq 11 (.move (tp 0)) 25,rq 12 (.move (tp 1)) 3,rq 13 (.move (tp 0)) 25,rq 14 (.move (tp 3)) 3,rq 15 (.move (tp 0)) 25,rq 16 (.move (tp 3)) 3,rq 17 (.indexAddr 25 (tp 15) (tp 16)) 0,rq 18 (.load 3 (tp 17)) 3,rq 19 (.move (tp 0)) 25,rq 20 (.move (tp 1)) 3,rq 21 (.indexAddr 25 (tp 19) (tp 20)) 0,rq 22 (.load 3 (tp 21)) 3,rq 23 (.indexAddr 25 (tp 11) (tp 12)) 0,rn (.store 3 (tp 23) (tp 18)) 0,rq 24 (.indexAddr 25 (tp 13) (tp 14)) 0,rn (.store 3 (tp 24) (tp 22)) 0])
 (.seq (.reg [] [
   rq 25 (.move (tp 1)) 3,rq 26 (.binOp .add 3 (tp 25) (ki 1) 3) 3,rq 27 (.move (tp 2)) 3,rq 28 (.binOp .sub 3 (tp 27) (ki 1) 3) 3,rq 9 (.assign (tp 26)) 3,rq 10 (.assign (tp 28)) 3])
 (.seq (.block 0 (.loop (.block 1 (.seq (.block 2 (.loop (.seq (.seq (.reg [0, 1, 2, 3, 4, 5, 6, 7, 8, 9, 10, 11, 12, 13, 14] [
        rq 29 (.move (tp 9)) 3,
        rq 30 (.move (tp 10)) 3,
        rq 31 (.binOp .leq 3 (tp 29) (tp 30) 3) 4,
        rq 32 (.move (tp 31)) 4,
        rg 33 (.move (tp 0)) 25 32 true,
        rg 34 (.move (tp 1)) 3 32 true,
        rg 35 (.indexAddr 25 (tp 33) (tp 34)) 0 32 true,
        rg 36 (.load 3 (tp 35)) 3 32 true,
        rg 37 (.move (tp 0)) 25 32 true,
        rg 38 (.move (tp 9)) 3 32 true,
        rg 39 (.indexAddr 25 (tp 37) (tp 38)) 0 32 true,
        rg 40 (.load 3 (tp 39)) 3 32 true,
        rg 41 (cf 94 #[(tp 36),(tp 40)] #[3,3]) 4 32 true,
        rg 42 (.unOp .not 4 (tp 41)) 4 32 true,
        rq 43 (.pick (tp 32) (tp 42) (kb false)) 4])
   (.cond (tp 43) (.skip)
   (.exit 2)))
   (.block 3 (.reg [] [
     rq 44 (.move (tp 9)) 3,
     rq 45 (.binOp .add 3 (tp 44) (ki 1) 3) 3,
     rq 9 (.assign (tp 45)) 3])))))
   (.seq (.block 4 (.loop (.seq (.seq (.reg [0, 1, 2, 3, 4, 5, 6, 7, 8, 9, 10, 11, 12, 13] [
     rq 46 (.move (tp 9)) 3,
     rq 47 (.move (tp 10)) 3,
     rq 48 (.binOp .leq 3 (tp 46) (tp 47) 3) 4,
     rq 49 (.move (tp 48)) 4,
     rg 50 (.move (tp 0)) 25 49 true,
     rg 51 (.move (tp 1)) 3 49 true,
     rg 52 (.indexAddr 25 (tp 50) (tp 51)) 0 49 true,
     rg 53 (.load 3 (tp 52)) 3 49 true,
     rg 54 (.move (tp 0)) 25 49 true,
     rg 55 (.move (tp 10)) 3 49 true,
     rg 56 (.indexAddr 25 (tp 54) (tp 55)) 0 49 true,
     rg 57 (.load 3 (tp 56)) 3 49 true,
     rg 58 (cf 94 #[(tp 53),(tp 57)] #[3,3]) 4 49 true,
     rq 59 (.pick (tp 49) (tp 58) (kb false)) 4])
     (.cond (tp 59) (.skip)
     (.exit 4)))
     (.block 5 (.reg [] [
       rq 60 (.move (tp 10)) 3,
       rq 61 (.binOp .sub 3 (tp 60) (ki 1) 3) 3,
       rq 10 (.assign (tp 61)) 3])))))
   (.seq (.seq (.reg [] [
     rq 62 (.move (tp 9)) 3,
     rq 63 (.move (tp 10)) 3,
     rq 64 (.binOp .gtr 3 (tp 62) (tp 63) 3) 4])
   (.cond (tp 64) (.exit 0)
   (.skip)))
   (.seq (.reg [0, 1, 2, 3, 4, 5, 6, 7, 8, 9, 10, 11, 12, 13, 14, 15] [
     rq 65 (.move (tp 0)) 25,
     rq 66 (.move (tp 9)) 3,
     rq 67 (.move (tp 0)) 25,
     rq 68 (.move (tp 10)) 3,
     rq 69 (.move (tp 0)) 25,
     rq 70 (.move (tp 10)) 3,
     rq 71 (.indexAddr 25 (tp 69) (tp 70)) 0,
     rq 72 (.load 3 (tp 71)) 3,
     rq 73 (.move (tp 0)) 25,
     rq 74 (.move (tp 9)) 3,
     rq 75 (.indexAddr 25 (tp 73) (tp 74)) 0,
     rq 76 (.load 3 (tp 75)) 3,
     rq 77 (.indexAddr 25 (tp 65) (tp 66)) 0,
     rn (.store 3 (tp 77) (tp 72)) 0,
     rq 78 (.indexAddr 25 (tp 67) (tp 68)) 0,
     rn (.store 3 (tp 78) (tp 76)) 0])
   (.seq (.reg [] [
     rq 79 (.move (tp 9)) 3,
     rq 80 (.binOp .add 3 (tp 79) (ki 1) 3) 3,
     rq 9 (.assign (tp 80)) 3])
   (.reg [] [
     rq 81 (.move (tp 10)) 3,
     rq 82 (.binOp .sub 3 (tp 81) (ki 1) 3) 3,
     rq 10 (.assign (tp 82)) 3])))))))))
 (.seq (.reg [] [
   rq 83 (.move (tp 9)) 3,rq 8 (.assign (tp 83)) 3])
 (.ret)))))
def c96:RC:=
 .seq (.reg [] [
  rq 8 (.assign (ki 0)) 3,rq 9 (.assign (kb false)) 4])
 (.seq (.reg [0, 1, 2, 3, 4, 5, 6, 7, 8, 9, 10, 11, 12, 13, 14, 15] [
   rq 12 (.move (tp 0)) 25,rq 13 (.move (tp 1)) 3,rq 14 (.move (tp 0)) 25,rq 15 (.move (tp 3)) 3,rq 16 (.move (tp 0)) 25,rq 17 (.move (tp 3)) 3,rq 18 (.indexAddr 25 (tp 16) (tp 17)) 0,rq 19 (.load 3 (tp 18)) 3,rq 20 (.move (tp 0)) 25,rq 21 (.move (tp 1)) 3,rq 22 (.indexAddr 25 (tp 20) (tp 21)) 0,rq 23 (.load 3 (tp 22)) 3,rq 24 (.indexAddr 25 (tp 12) (tp 13)) 0,rn (.store 3 (tp 24) (tp 19)) 0,rq 25 (.indexAddr 25 (tp 14) (tp 15)) 0,rn (.store 3 (tp 25) (tp 23)) 0])
 (.seq (.reg [] [
   rq 26 (.move (tp 1)) 3,rq 27 (.binOp .add 3 (tp 26) (ki 1) 3) 3,rq 28 (.move (tp 2)) 3,rq 29 (.binOp .sub 3 (tp 28) (ki 1) 3) 3,rq 10 (.assign (tp 27)) 3,rq 11 (.assign (tp 29)) 3])
 (.seq (.block 0 (.loop (.seq (.seq (.reg [0, 1, 2, 3, 4, 5, 6, 7, 8, 9, 10, 11, 12, 13] [
   rq 30 (.move (tp 10)) 3,
   rq 31 (.move (tp 11)) 3,
   rq 32 (.binOp .leq 3 (tp 30) (tp 31) 3) 4,
   rq 33 (.move (tp 32)) 4,
   rg 34 (.move (tp 0)) 25 33 true,
   rg 35 (.move (tp 10)) 3 33 true,
   rg 36 (.indexAddr 25 (tp 34) (tp 35)) 0 33 true,
   rg 37 (.load 3 (tp 36)) 3 33 true,
   rg 38 (.move (tp 0)) 25 33 true,
   rg 39 (.move (tp 1)) 3 33 true,
   rg 40 (.indexAddr 25 (tp 38) (tp 39)) 0 33 true,
   rg 41 (.load 3 (tp 40)) 3 33 true,
   rg 42 (cf 94 #[(tp 37),(tp 41)] #[3,3]) 4 33 true,
   rq 43 (.pick (tp 33) (tp 42) (kb false)) 4])
   (.cond (tp 43) (.skip)
   (.exit 0)))
   (.block 1 (.reg [] [
     rq 44 (.move (tp 10)) 3,
     rq 45 (.binOp .add 3 (tp 44) (ki 1) 3) 3,
     rq 10 (.assign (tp 45)) 3])))))
 (.seq (.block 2 (.loop (.seq (.seq (.reg [0, 1, 2, 3, 4, 5, 6, 7, 8, 9, 10, 11, 12, 13, 14] [
   rq 46 (.move (tp 10)) 3,
   rq 47 (.move (tp 11)) 3,
   rq 48 (.binOp .leq 3 (tp 46) (tp 47) 3) 4,
   rq 49 (.move (tp 48)) 4,
   rg 50 (.move (tp 0)) 25 49 true,
   rg 51 (.move (tp 11)) 3 49 true,
   rg 52 (.indexAddr 25 (tp 50) (tp 51)) 0 49 true,
   rg 53 (.load 3 (tp 52)) 3 49 true,
   rg 54 (.move (tp 0)) 25 49 true,
   rg 55 (.move (tp 1)) 3 49 true,
   rg 56 (.indexAddr 25 (tp 54) (tp 55)) 0 49 true,
   rg 57 (.load 3 (tp 56)) 3 49 true,
   rg 58 (cf 94 #[(tp 53),(tp 57)] #[3,3]) 4 49 true,
   rg 59 (.unOp .not 4 (tp 58)) 4 49 true,
   rq 60 (.pick (tp 49) (tp 59) (kb false)) 4])
   (.cond (tp 60) (.skip)
   (.exit 2)))
   (.block 3 (.reg [] [
     rq 61 (.move (tp 11)) 3,
     rq 62 (.binOp .sub 3 (tp 61) (ki 1) 3) 3,
     rq 11 (.assign (tp 62)) 3])))))
 (.seq (.seq (.reg [] [
   rq 63 (.move (tp 10)) 3,rq 64 (.move (tp 11)) 3,rq 65 (.binOp .gtr 3 (tp 63) (tp 64) 3) 4])
 (.cond (tp 65) (.seq (.reg [0, 1, 2, 3, 4, 5, 6, 7, 8, 9, 10, 11, 12, 13, 14, 15] [
   rq 66 (.move (tp 0)) 25,
   rq 67 (.move (tp 11)) 3,
   rq 68 (.move (tp 0)) 25,
   rq 69 (.move (tp 1)) 3,
   rq 70 (.move (tp 0)) 25,
   rq 71 (.move (tp 1)) 3,
   rq 72 (.indexAddr 25 (tp 70) (tp 71)) 0,
   rq 73 (.load 3 (tp 72)) 3,
   rq 74 (.move (tp 0)) 25,
   rq 75 (.move (tp 11)) 3,
   rq 76 (.indexAddr 25 (tp 74) (tp 75)) 0,
   rq 77 (.load 3 (tp 76)) 3,
   rq 78 (.indexAddr 25 (tp 66) (tp 67)) 0,
   rn (.store 3 (tp 78) (tp 73)) 0,
   rq 79 (.indexAddr 25 (tp 68) (tp 69)) 0,
   rn (.store 3 (tp 79) (tp 77)) 0])
  (.seq (.reg [] [
    rq 80 (.move (tp 11)) 3,
    rq 8 (.assign (tp 80)) 3,
    rq 9 (.assign (kb true)) 4])
  (.ret)))
 (.skip)))
 (.seq (.reg [0, 1, 2, 3, 4, 5, 6, 7, 8, 9, 10, 11, 12, 13, 14, 15] [
   rq 81 (.move (tp 0)) 25,rq 82 (.move (tp 10)) 3,rq 83 (.move (tp 0)) 25,rq 84 (.move (tp 11)) 3,rq 85 (.move (tp 0)) 25,rq 86 (.move (tp 11)) 3,rq 87 (.indexAddr 25 (tp 85) (tp 86)) 0,rq 88 (.load 3 (tp 87)) 3,rq 89 (.move (tp 0)) 25,rq 90 (.move (tp 10)) 3,rq 91 (.indexAddr 25 (tp 89) (tp 90)) 0,rq 92 (.load 3 (tp 91)) 3,rq 93 (.indexAddr 25 (tp 81) (tp 82)) 0,rn (.store 3 (tp 93) (tp 88)) 0,rq 94 (.indexAddr 25 (tp 83) (tp 84)) 0,rn (.store 3 (tp 94) (tp 92)) 0])
 (.seq (.reg [] [
   rq 95 (.move (tp 10)) 3,rq 96 (.binOp .add 3 (tp 95) (ki 1) 3) 3,rq 10 (.assign (tp 96)) 3])
 (.seq (.reg [] [
   rq 97 (.move (tp 11)) 3,rq 98 (.binOp .sub 3 (tp 97) (ki 1) 3) 3,rq 11 (.assign (tp 98)) 3])
 (.seq (.block 4 (.loop (.block 5 (.seq (.block 6 (.loop (.seq (.seq (.reg [0, 1, 2, 3, 4, 5, 6, 7, 8, 9, 10, 11, 12, 13] [
        rq 99 (.move (tp 10)) 3,
        rq 100 (.move (tp 11)) 3,
        rq 101 (.binOp .leq 3 (tp 99) (tp 100) 3) 4,
        rq 102 (.move (tp 101)) 4,
        rg 103 (.move (tp 0)) 25 102 true,
        rg 104 (.move (tp 10)) 3 102 true,
        rg 105 (.indexAddr 25 (tp 103) (tp 104)) 0 102 true,
        rg 106 (.load 3 (tp 105)) 3 102 true,
        rg 107 (.move (tp 0)) 25 102 true,
        rg 108 (.move (tp 1)) 3 102 true,
        rg 109 (.indexAddr 25 (tp 107) (tp 108)) 0 102 true,
        rg 110 (.load 3 (tp 109)) 3 102 true,
        rg 111 (cf 94 #[(tp 106),(tp 110)] #[3,3]) 4 102 true,
        rq 112 (.pick (tp 102) (tp 111) (kb false)) 4])
   (.cond (tp 112) (.skip)
   (.exit 6)))
   (.block 7 (.reg [] [
     rq 113 (.move (tp 10)) 3,
     rq 114 (.binOp .add 3 (tp 113) (ki 1) 3) 3,
     rq 10 (.assign (tp 114)) 3])))))
   (.seq (.block 8 (.loop (.seq (.seq (.reg [0, 1, 2, 3, 4, 5, 6, 7, 8, 9, 10, 11, 12, 13, 14] [
     rq 115 (.move (tp 10)) 3,
     rq 116 (.move (tp 11)) 3,
     rq 117 (.binOp .leq 3 (tp 115) (tp 116) 3) 4,
     rq 118 (.move (tp 117)) 4,
     rg 119 (.move (tp 0)) 25 118 true,
     rg 120 (.move (tp 11)) 3 118 true,
     rg 121 (.indexAddr 25 (tp 119) (tp 120)) 0 118 true,
     rg 122 (.load 3 (tp 121)) 3 118 true,
     rg 123 (.move (tp 0)) 25 118 true,
     rg 124 (.move (tp 1)) 3 118 true,
     rg 125 (.indexAddr 25 (tp 123) (tp 124)) 0 118 true,
     rg 126 (.load 3 (tp 125)) 3 118 true,
     rg 127 (cf 94 #[(tp 122),(tp 126)] #[3,3]) 4 118 true,
     rg 128 (.unOp .not 4 (tp 127)) 4 118 true,
     rq 129 (.pick (tp 118) (tp 128) (kb false)) 4])
     (.cond (tp 129) (.skip)
     (.exit 8)))
     (.block 9 (.reg [] [
       rq 130 (.move (tp 11)) 3,
       rq 131 (.binOp .sub 3 (tp 130) (ki 1) 3) 3,
       rq 11 (.assign (tp 131)) 3])))))
   (.seq (.seq (.reg [] [
     rq 132 (.move (tp 10)) 3,
     rq 133 (.move (tp 11)) 3,
     rq 134 (.binOp .gtr 3 (tp 132) (tp 133) 3) 4])
   (.cond (tp 134) (.exit 4)
   (.skip)))
   (.seq (.reg [0, 1, 2, 3, 4, 5, 6, 7, 8, 9, 10, 11, 12, 13, 14, 15] [
     rq 135 (.move (tp 0)) 25,
     rq 136 (.move (tp 10)) 3,
     rq 137 (.move (tp 0)) 25,
     rq 138 (.move (tp 11)) 3,
     rq 139 (.move (tp 0)) 25,
     rq 140 (.move (tp 11)) 3,
     rq 141 (.indexAddr 25 (tp 139) (tp 140)) 0,
     rq 142 (.load 3 (tp 141)) 3,
     rq 143 (.move (tp 0)) 25,
     rq 144 (.move (tp 10)) 3,
     rq 145 (.indexAddr 25 (tp 143) (tp 144)) 0,
     rq 146 (.load 3 (tp 145)) 3,
     rq 147 (.indexAddr 25 (tp 135) (tp 136)) 0,
     rn (.store 3 (tp 147) (tp 142)) 0,
     rq 148 (.indexAddr 25 (tp 137) (tp 138)) 0,
     rn (.store 3 (tp 148) (tp 146)) 0])
   (.seq (.reg [] [
     rq 149 (.move (tp 10)) 3,
     rq 150 (.binOp .add 3 (tp 149) (ki 1) 3) 3,
     rq 10 (.assign (tp 150)) 3])
   (.reg [] [
     rq 151 (.move (tp 11)) 3,
     rq 152 (.binOp .sub 3 (tp 151) (ki 1) 3) 3,
     rq 11 (.assign (tp 152)) 3])))))))))
 (.seq (.reg [0, 1, 2, 3, 4, 5, 6, 7, 8, 9, 10, 11, 12, 13, 14, 15] [
   rq 153 (.move (tp 0)) 25,rq 154 (.move (tp 11)) 3,rq 155 (.move (tp 0)) 25,rq 156 (.move (tp 1)) 3,rq 157 (.move (tp 0)) 25,rq 158 (.move (tp 1)) 3,rq 159 (.indexAddr 25 (tp 157) (tp 158)) 0,rq 160 (.load 3 (tp 159)) 3,rq 161 (.move (tp 0)) 25,rq 162 (.move (tp 11)) 3,rq 163 (.indexAddr 25 (tp 161) (tp 162)) 0,rq 164 (.load 3 (tp 163)) 3,rq 165 (.indexAddr 25 (tp 153) (tp 154)) 0,rn (.store 3 (tp 165) (tp 160)) 0,rq 166 (.indexAddr 25 (tp 155) (tp 156)) 0,rn (.store 3 (tp 166) (tp 164)) 0])
 (.seq (.reg [] [
   rq 167 (.move (tp 11)) 3,rq 8 (.assign (tp 167)) 3,rq 9 (.assign (kb false)) 4])
 (.ret))))))))))))
def c98:RC:=
 .seq (.reg [] [
  rq 12 (.move (tp 1)) 3,rq 10 (.assign (tp 12)) 3])
 (.block 0 (.loop (.block 1 (.seq (.reg [] [
   rq 13 (.move (tp 10)) 3,
   rq 14 (.binOp .mul 3 (ki 2) (tp 13) 3) 3,
   rq 15 (.binOp .add 3 (tp 14) (ki 1) 3) 3,
   rq 11 (.assign (tp 15)) 3])
   (.seq (.seq (.reg [] [
     rq 16 (.move (tp 11)) 3,
     rq 17 (.move (tp 2)) 3,
     rq 18 (.binOp .geq 3 (tp 16) (tp 17) 3) 4])
   (.cond (tp 18) (.exit 0)
   (.skip)))
   (.seq (.seq (.reg [0, 1, 2, 3, 4, 5, 6, 7, 8, 9, 10, 11, 12, 13, 14, 15, 16, 17, 18, 19, 20, 21] [
     rq 19 (.move (tp 11)) 3,
     rq 20 (.binOp .add 3 (tp 19) (ki 1) 3) 3,
     rq 21 (.move (tp 2)) 3,
     rq 22 (.binOp .lss 3 (tp 20) (tp 21) 3) 4,
     rq 23 (.move (tp 22)) 4,
     rg 24 (.move (tp 4)) 79 23 true,
     rg 25 (.move (tp 0)) 30 23 true,
     rg 26 (.move (tp 3)) 3 23 true,
     rg 27 (.move (tp 11)) 3 23 true,
     rg 28 (.binOp .add 3 (tp 26) (tp 27) 3) 3 23 true,
     rg 29 (.indexAddr 30 (tp 25) (tp 28)) 0 23 true,
     rg 30 (.load 25 (tp 29)) 25 23 true,
     rg 31 (.move (tp 0)) 30 23 true,
     rg 32 (.move (tp 3)) 3 23 true,
     rg 33 (.move (tp 11)) 3 23 true,
     rg 34 (.binOp .add 3 (tp 32) (tp 33) 3) 3 23 true,
     rg 35 (.binOp .add 3 (tp 34) (ki 1) 3) 3 23 true,
     rg 36 (.indexAddr 30 (tp 31) (tp 35)) 0 23 true,
     rg 37 (.load 25 (tp 36)) 25 23 true,
     rg 38 (.call ⟨.value (tp 24),#[(tp 30),(tp 37)],#[25,25]⟩) 3 23 true,
     rg 39 (.binOp .lss 3 (tp 38) (ki 0) 3) 4 23 true,
     rq 40 (.pick (tp 23) (tp 39) (kb false)) 4])
   (.cond (tp 40) (.reg [] [
     rq 41 (.move (tp 11)) 3,
     rq 42 (.binOp .add 3 (tp 41) (ki 1) 3) 3,
     rq 11 (.assign (tp 42)) 3])
   (.skip)))
   (.seq (.seq (.reg [0, 1, 2, 3, 4, 5, 6, 7, 8, 9, 10, 11, 12, 13, 14, 15] [
     rq 43 (.move (tp 4)) 79,
     rq 44 (.move (tp 0)) 30,
     rq 45 (.move (tp 3)) 3,
     rq 46 (.move (tp 10)) 3,
     rq 47 (.binOp .add 3 (tp 45) (tp 46) 3) 3,
     rq 48 (.indexAddr 30 (tp 44) (tp 47)) 0,
     rq 49 (.load 25 (tp 48)) 25,
     rq 50 (.move (tp 0)) 30,
     rq 51 (.move (tp 3)) 3,
     rq 52 (.move (tp 11)) 3,
     rq 53 (.binOp .add 3 (tp 51) (tp 52) 3) 3,
     rq 54 (.indexAddr 30 (tp 50) (tp 53)) 0,
     rq 55 (.load 25 (tp 54)) 25,
     rq 56 (.call ⟨.value (tp 43),#[(tp 49),(tp 55)],#[25,25]⟩) 3,
     rq 57 (.binOp .lss 3 (tp 56) (ki 0) 3) 4,
     rq 58 (.unOp .not 4 (tp 57)) 4])
   (.cond (tp 58) (.ret)
   (.skip)))
   (.seq (.reg [0, 1, 2, 3, 4, 5, 6, 7, 8, 9, 10, 11, 12, 13, 14, 15, 16, 17, 18, 19, 20, 21, 22, 23] [
     rq 59 (.move (tp 0)) 30,
     rq 60 (.move (tp 3)) 3,
     rq 61 (.move (tp 10)) 3,
     rq 62 (.binOp .add 3 (tp 60) (tp 61) 3) 3,
     rq 63 (.move (tp 0)) 30,
     rq 64 (.move (tp 3)) 3,
     rq 65 (.move (tp 11)) 3,
     rq 66 (.binOp .add 3 (tp 64) (tp 65) 3) 3,
     rq 67 (.move (tp 0)) 30,
     rq 68 (.move (tp 3)) 3,
     rq 69 (.move (tp 11)) 3,
     rq 70 (.binOp .add 3 (tp 68) (tp 69) 3) 3,
     rq 71 (.indexAddr 30 (tp 67) (tp 70)) 0,
     rq 72 (.load 25 (tp 71)) 25,
     rq 73 (.move (tp 0)) 30,
     rq 74 (.move (tp 3)) 3,
     rq 75 (.move (tp 10)) 3,
     rq 76 (.binOp .add 3 (tp 74) (tp 75) 3) 3,
     rq 77 (.indexAddr 30 (tp 73) (tp 76)) 0,
     rq 78 (.load 25 (tp 77)) 25,
     rq 79 (.indexAddr 30 (tp 59) (tp 62)) 0,
     rn (.store 25 (tp 79) (tp 72)) 0,
     rq 80 (.indexAddr 30 (tp 63) (tp 66)) 0,
     rn (.store 25 (tp 80) (tp 78)) 0])
   (.reg [] [
     rq 81 (.move (tp 11)) 3,
     rq 10 (.assign (tp 81)) 3])))))))))
def c99:RC:=
 .seq (.reg [] [
  rq 2 (.assign (.const (.int .u64 0))) 100])
 (.seq (.reg [] [
   rq 3 (.move (tp 0)) 3,rq 4 (.convert 3 100 (tp 3)) 100,rq 5 (cf 71 #[(tp 4)] #[100]) 3,rq 6 (.binOp .shl 100 (.const (.int .u64 1)) (tp 5) 3) 100,rq 2 (.assign (tp 6)) 100])
 (.ret))
def c100:RC:=
 .seq (.reg [] [
  rq 2 (.assign (.const (.int .u64 0))) 118])
 (.seq (.reg [0, 1, 2, 3, 4, 5, 6, 7, 8, 9] [
   rq 3 (.move (tp 0)) 137,rq 4 (.nilCheck (tp 3)) 0,rq 5 (.load 128 (tp 4)) 128,rq 6 (.move (tp 0)) 137,rq 7 (.nilCheck (tp 6)) 0,rq 8 (.load 128 (tp 7)) 128,rq 9 (.binOp .shl 128 (tp 8) (.const (.int .u64 13)) 100) 128,rq 10 (.binOp .xor 128 (tp 5) (tp 9) 128) 128,rq 11 (.nilCheck (tp 3)) 0,rn (.store 128 (tp 11) (tp 10)) 0])
 (.seq (.reg [0, 1, 2, 3, 4, 5, 6, 7, 8, 9] [
   rq 12 (.move (tp 0)) 137,rq 13 (.nilCheck (tp 12)) 0,rq 14 (.load 128 (tp 13)) 128,rq 15 (.move (tp 0)) 137,rq 16 (.nilCheck (tp 15)) 0,rq 17 (.load 128 (tp 16)) 128,rq 18 (.binOp .shr 128 (tp 17) (.const (.int .u64 7)) 100) 128,rq 19 (.binOp .xor 128 (tp 14) (tp 18) 128) 128,rq 20 (.nilCheck (tp 12)) 0,rn (.store 128 (tp 20) (tp 19)) 0])
 (.seq (.reg [0, 1, 2, 3, 4, 5, 6, 7, 8, 9] [
   rq 21 (.move (tp 0)) 137,rq 22 (.nilCheck (tp 21)) 0,rq 23 (.load 128 (tp 22)) 128,rq 24 (.move (tp 0)) 137,rq 25 (.nilCheck (tp 24)) 0,rq 26 (.load 128 (tp 25)) 128,rq 27 (.binOp .shl 128 (tp 26) (.const (.int .u64 17)) 100) 128,rq 28 (.binOp .xor 128 (tp 23) (tp 27) 128) 128,rq 29 (.nilCheck (tp 21)) 0,rn (.store 128 (tp 29) (tp 28)) 0])
 (.seq (.reg [] [
   rq 30 (.move (tp 0)) 137,rq 31 (.nilCheck (tp 30)) 0,rq 32 (.load 128 (tp 31)) 128,rq 2 (.assign (tp 32)) 118])
 (.ret)))))
def c101:RC:=
 .seq (.reg [] [
  rq 8 (.assign (ki 0)) 3])
 (.seq (.reg [] [
   rq 9 (.move (tp 0)) 30,rq 10 (.move (tp 1)) 3,rq 11 (.binOp .sub 3 (tp 10) (ki 1) 3) 3,rq 12 (.move (tp 1)) 3,rq 13 (.move (tp 1)) 3,rq 14 (.binOp .add 3 (tp 13) (ki 1) 3) 3,rq 15 (.move (tp 2)) 132,rq 16 (.move (tp 3)) 79,rq 17 (cf 102 #[(tp 9),(tp 11),(tp 12),(tp 14),(tp 15),(tp 16)] #[30,3,3,3,132,79]) 3,rq 8 (.assign (tp 17)) 3])
 (.ret))
def c102:RC:=
 .seq (.reg [] [
  rq 12 (.assign (ki 0)) 3])
 (.seq (.reg [] [
   rq 14 (.move (tp 0)) 30,rq 15 (.move (tp 1)) 3,rq 16 (.move (tp 2)) 3,rq 17 (.move (tp 4)) 132,rq 18 (.move (tp 5)) 79,rq 19 (cf 107 #[(tp 14),(tp 15),(tp 16),(tp 17),(tp 18)] #[30,3,3,132,79]) 138,rq 13 (.move (tp 19)) 138,rq 20 (.extract (tp 13) 0) 3,rq 21 (.extract (tp 13) 1) 3,rq 1 (.assign (tp 20)) 3,rq 2 (.assign (tp 21)) 3])
 (.seq (.reg [] [
   rq 23 (.move (tp 0)) 30,rq 24 (.move (tp 2)) 3,rq 25 (.move (tp 3)) 3,rq 26 (.move (tp 4)) 132,rq 27 (.move (tp 5)) 79,rq 28 (cf 107 #[(tp 23),(tp 24),(tp 25),(tp 26),(tp 27)] #[30,3,3,132,79]) 138,rq 22 (.move (tp 28)) 138,rq 29 (.extract (tp 22) 0) 3,rq 30 (.extract (tp 22) 1) 3,rq 2 (.assign (tp 29)) 3,rq 3 (.assign (tp 30)) 3])
 (.seq (.reg [] [
   rq 32 (.move (tp 0)) 30,rq 33 (.move (tp 1)) 3,rq 34 (.move (tp 2)) 3,rq 35 (.move (tp 4)) 132,rq 36 (.move (tp 5)) 79,rq 37 (cf 107 #[(tp 32),(tp 33),(tp 34),(tp 35),(tp 36)] #[30,3,3,132,79]) 138,rq 31 (.move (tp 37)) 138,rq 38 (.extract (tp 31) 0) 3,rq 39 (.extract (tp 31) 1) 3,rq 1 (.assign (tp 38)) 3,rq 2 (.assign (tp 39)) 3])
 (.seq (.reg [] [
   rq 40 (.move (tp 2)) 3,rq 12 (.assign (tp 40)) 3])
 (.ret)))))
def c103:RC:=
 .seq (.reg [] [
  rq 10 (.move (tp 1)) 3,rq 8 (.assign (tp 10)) 3])
 (.block 0 (.loop (.block 1 (.seq (.reg [] [
   rq 11 (.move (tp 8)) 3,
   rq 12 (.binOp .mul 3 (ki 2) (tp 11) 3) 3,
   rq 13 (.binOp .add 3 (tp 12) (ki 1) 3) 3,
   rq 9 (.assign (tp 13)) 3])
   (.seq (.seq (.reg [] [
     rq 14 (.move (tp 9)) 3,
     rq 15 (.move (tp 2)) 3,
     rq 16 (.binOp .geq 3 (tp 14) (tp 15) 3) 4])
   (.cond (tp 16) (.exit 0)
   (.skip)))
   (.seq (.seq (.reg [0, 1, 2, 3, 4, 5, 6, 7, 8, 9, 10, 11, 12, 13, 14, 15, 16, 17, 18, 19] [
     rq 17 (.move (tp 9)) 3,
     rq 18 (.binOp .add 3 (tp 17) (ki 1) 3) 3,
     rq 19 (.move (tp 2)) 3,
     rq 20 (.binOp .lss 3 (tp 18) (tp 19) 3) 4,
     rq 21 (.move (tp 20)) 4,
     rg 22 (.move (tp 0)) 25 21 true,
     rg 23 (.move (tp 3)) 3 21 true,
     rg 24 (.move (tp 9)) 3 21 true,
     rg 25 (.binOp .add 3 (tp 23) (tp 24) 3) 3 21 true,
     rg 26 (.indexAddr 25 (tp 22) (tp 25)) 0 21 true,
     rg 27 (.load 3 (tp 26)) 3 21 true,
     rg 28 (.move (tp 0)) 25 21 true,
     rg 29 (.move (tp 3)) 3 21 true,
     rg 30 (.move (tp 9)) 3 21 true,
     rg 31 (.binOp .add 3 (tp 29) (tp 30) 3) 3 21 true,
     rg 32 (.binOp .add 3 (tp 31) (ki 1) 3) 3 21 true,
     rg 33 (.indexAddr 25 (tp 28) (tp 32)) 0 21 true,
     rg 34 (.load 3 (tp 33)) 3 21 true,
     rg 35 (cf 94 #[(tp 27),(tp 34)] #[3,3]) 4 21 true,
     rq 36 (.pick (tp 21) (tp 35) (kb false)) 4])
   (.cond (tp 36) (.reg [] [
     rq 37 (.move (tp 9)) 3,
     rq 38 (.binOp .add 3 (tp 37) (ki 1) 3) 3,
     rq 9 (.assign (tp 38)) 3])
   (.skip)))
   (.seq (.seq (.reg [0, 1, 2, 3, 4, 5, 6, 7, 8, 9, 10, 11, 12, 13] [
     rq 39 (.move (tp 0)) 25,
     rq 40 (.move (tp 3)) 3,
     rq 41 (.move (tp 8)) 3,
     rq 42 (.binOp .add 3 (tp 40) (tp 41) 3) 3,
     rq 43 (.indexAddr 25 (tp 39) (tp 42)) 0,
     rq 44 (.load 3 (tp 43)) 3,
     rq 45 (.move (tp 0)) 25,
     rq 46 (.move (tp 3)) 3,
     rq 47 (.move (tp 9)) 3,
     rq 48 (.binOp .add 3 (tp 46) (tp 47) 3) 3,
     rq 49 (.indexAddr 25 (tp 45) (tp 48)) 0,
     rq 50 (.load 3 (tp 49)) 3,
     rq 51 (cf 94 #[(tp 44),(tp 50)] #[3,3]) 4,
     rq 52 (.unOp .not 4 (tp 51)) 4])
   (.cond (tp 52) (.ret)
   (.skip)))
   (.seq (.reg [0, 1, 2, 3, 4, 5, 6, 7, 8, 9, 10, 11, 12, 13, 14, 15, 16, 17, 18, 19, 20, 21, 22, 23] [
     rq 53 (.move (tp 0)) 25,
     rq 54 (.move (tp 3)) 3,
     rq 55 (.move (tp 8)) 3,
     rq 56 (.binOp .add 3 (tp 54) (tp 55) 3) 3,
     rq 57 (.move (tp 0)) 25,
     rq 58 (.move (tp 3)) 3,
     rq 59 (.move (tp 9)) 3,
     rq 60 (.binOp .add 3 (tp 58) (tp 59) 3) 3,
     rq 61 (.move (tp 0)) 25,
     rq 62 (.move (tp 3)) 3,
     rq 63 (.move (tp 9)) 3,
     rq 64 (.binOp .add 3 (tp 62) (tp 63) 3) 3,
     rq 65 (.indexAddr 25 (tp 61) (tp 64)) 0,
     rq 66 (.load 3 (tp 65)) 3,
     rq 67 (.move (tp 0)) 25,
     rq 68 (.move (tp 3)) 3,
     rq 69 (.move (tp 8)) 3,
     rq 70 (.binOp .add 3 (tp 68) (tp 69) 3) 3,
     rq 71 (.indexAddr 25 (tp 67) (tp 70)) 0,
     rq 72 (.load 3 (tp 71)) 3,
     rq 73 (.indexAddr 25 (tp 53) (tp 56)) 0,
     rn (.store 3 (tp 73) (tp 66)) 0,
     rq 74 (.indexAddr 25 (tp 57) (tp 60)) 0,
     rn (.store 3 (tp 74) (tp 72)) 0])
   (.reg [] [
     rq 75 (.move (tp 9)) 3,
     rq 8 (.assign (tp 75)) 3])))))))))
def c104:RC:=
 .seq (.reg [] [
  rq 6 (.assign (ki 0)) 3])
 (.seq (.reg [] [
   rq 7 (.move (tp 0)) 25,rq 8 (.move (tp 1)) 3,rq 9 (.binOp .sub 3 (tp 8) (ki 1) 3) 3,rq 10 (.move (tp 1)) 3,rq 11 (.move (tp 1)) 3,rq 12 (.binOp .add 3 (tp 11) (ki 1) 3) 3,rq 13 (.move (tp 2)) 132,rq 14 (cf 105 #[(tp 7),(tp 9),(tp 10),(tp 12),(tp 13)] #[25,3,3,3,132]) 3,rq 6 (.assign (tp 14)) 3])
 (.ret))
def c105:RC:=
 .seq (.reg [] [
  rq 10 (.assign (ki 0)) 3])
 (.seq (.reg [] [
   rq 12 (.move (tp 0)) 25,rq 13 (.move (tp 1)) 3,rq 14 (.move (tp 2)) 3,rq 15 (.move (tp 4)) 132,rq 16 (cf 108 #[(tp 12),(tp 13),(tp 14),(tp 15)] #[25,3,3,132]) 138,rq 11 (.move (tp 16)) 138,rq 17 (.extract (tp 11) 0) 3,rq 18 (.extract (tp 11) 1) 3,rq 1 (.assign (tp 17)) 3,rq 2 (.assign (tp 18)) 3])
 (.seq (.reg [] [
   rq 20 (.move (tp 0)) 25,rq 21 (.move (tp 2)) 3,rq 22 (.move (tp 3)) 3,rq 23 (.move (tp 4)) 132,rq 24 (cf 108 #[(tp 20),(tp 21),(tp 22),(tp 23)] #[25,3,3,132]) 138,rq 19 (.move (tp 24)) 138,rq 25 (.extract (tp 19) 0) 3,rq 26 (.extract (tp 19) 1) 3,rq 2 (.assign (tp 25)) 3,rq 3 (.assign (tp 26)) 3])
 (.seq (.reg [] [
   rq 28 (.move (tp 0)) 25,rq 29 (.move (tp 1)) 3,rq 30 (.move (tp 2)) 3,rq 31 (.move (tp 4)) 132,rq 32 (cf 108 #[(tp 28),(tp 29),(tp 30),(tp 31)] #[25,3,3,132]) 138,rq 27 (.move (tp 32)) 138,rq 33 (.extract (tp 27) 0) 3,rq 34 (.extract (tp 27) 1) 3,rq 1 (.assign (tp 33)) 3,rq 2 (.assign (tp 34)) 3])
 (.seq (.reg [] [
   rq 35 (.move (tp 2)) 3,rq 10 (.assign (tp 35)) 3])
 (.ret)))))
def c107:RC:=
 .seq (.reg [] [
  rq 10 (.assign (ki 0)) 3,rq 11 (.assign (ki 0)) 3])
 (.seq (.seq (.reg [0, 1, 2, 3, 4, 5, 6, 7, 8, 9, 10] [
   rq 12 (.move (tp 4)) 79,rq 13 (.move (tp 0)) 30,rq 14 (.move (tp 2)) 3,rq 15 (.indexAddr 30 (tp 13) (tp 14)) 0,rq 16 (.load 25 (tp 15)) 25,rq 17 (.move (tp 0)) 30,rq 18 (.move (tp 1)) 3,rq 19 (.indexAddr 30 (tp 17) (tp 18)) 0,rq 20 (.load 25 (tp 19)) 25,rq 21 (.call ⟨.value (tp 12),#[(tp 16),(tp 20)],#[25,25]⟩) 3,rq 22 (.binOp .lss 3 (tp 21) (ki 0) 3) 4])
 (.cond (tp 22) (.seq (.reg [] [
   rq 23 (.move (tp 3)) 132,
   rq 24 (.nilCheck (tp 23)) 0,
   rq 25 (.load 3 (tp 24)) 3,
   rq 26 (.binOp .add 3 (tp 25) (ki 1) 3) 3,
   rq 27 (.nilCheck (tp 23)) 0,
   rn (.store 3 (tp 27) (tp 26)) 0])
  (.seq (.reg [] [
    rq 28 (.move (tp 2)) 3,
    rq 29 (.move (tp 1)) 3,
    rq 10 (.assign (tp 28)) 3,
    rq 11 (.assign (tp 29)) 3])
  (.ret)))
 (.skip)))
 (.seq (.reg [] [
   rq 30 (.move (tp 1)) 3,rq 31 (.move (tp 2)) 3,rq 10 (.assign (tp 30)) 3,rq 11 (.assign (tp 31)) 3])
 (.ret)))
def c108:RC:=
 .seq (.reg [] [
  rq 8 (.assign (ki 0)) 3,rq 9 (.assign (ki 0)) 3])
 (.seq (.seq (.reg [0, 1, 2, 3, 4, 5, 6, 7, 8] [
   rq 10 (.move (tp 0)) 25,rq 11 (.move (tp 2)) 3,rq 12 (.indexAddr 25 (tp 10) (tp 11)) 0,rq 13 (.load 3 (tp 12)) 3,rq 14 (.move (tp 0)) 25,rq 15 (.move (tp 1)) 3,rq 16 (.indexAddr 25 (tp 14) (tp 15)) 0,rq 17 (.load 3 (tp 16)) 3,rq 18 (cf 94 #[(tp 13),(tp 17)] #[3,3]) 4])
 (.cond (tp 18) (.seq (.reg [] [
   rq 19 (.move (tp 3)) 132,
   rq 20 (.nilCheck (tp 19)) 0,
   rq 21 (.load 3 (tp 20)) 3,
   rq 22 (.binOp .add 3 (tp 21) (ki 1) 3) 3,
   rq 23 (.nilCheck (tp 19)) 0,
   rn (.store 3 (tp 23) (tp 22)) 0])
  (.seq (.reg [] [
    rq 24 (.move (tp 2)) 3,
    rq 25 (.move (tp 1)) 3,
    rq 8 (.assign (tp 24)) 3,
    rq 9 (.assign (tp 25)) 3])
  (.ret)))
 (.skip)))
 (.seq (.reg [] [
   rq 26 (.move (tp 1)) 3,rq 27 (.move (tp 2)) 3,rq 8 (.assign (tp 26)) 3,rq 9 (.assign (tp 27)) 3])
 (.ret)))
def ti3:TI:=⟨.int .i64,1,8,(some (.int .i64 0)),false⟩
def ti4:TI:=⟨.bool,1,1,(some (.bool false)),false⟩
def ti5:TI:=⟨.int .u8,1,1,(some (.int .u8 0)),false⟩
def ti9:TI:=⟨.string,1,16,(some (.string ⟨#[]⟩)),false⟩
def ti25:TI:=⟨.slice 3,1,24,(some (.slice none 0 0)),false⟩
def ti27 : TI := ⟨.struct #[⟨ "Rows", 3, 0, false, "", "", 0⟩, ⟨ "Columns", 3, 1, false, "", "", 8⟩, ⟨ "Colours", 3, 2, false, "", "", 16⟩, ⟨ "Turns", 25, 3, false, "", "", 24⟩], 4, 48, (some (.agg #[(.int .i64 0), (.int .i64 0), (.int .i64 0), (.slice none 0 0)])), false⟩
def ti30:TI:=⟨.slice 25,1,24,(some (.slice none 0 0)),false⟩
def ti32:TI:=⟨.int .i64,1,8,(some (.int .i64 0)),false⟩
def ti35:TI:=⟨.func #[25,25] #[4] false,1,8,(some .nilFunc),false⟩
def ti48:TI:=⟨.array 9 5,9,9,(some (.agg #[(.int .u8 0),(.int .u8 0),(.int .u8 0),(.int .u8 0),(.int .u8 0),(.int .u8 0),(.int .u8 0),(.int .u8 0),(.int .u8 0)])),true⟩
def ti61:TI:=⟨.pointer 66,1,8,(some (.pointer none)),false⟩
def ti66 : TI := ⟨.struct #[⟨ "Press", 27, 0, true, "", "", 0⟩, ⟨ "from", 30, 4, false, "", "spadille/back", 48⟩], 5, 72, (some (.agg #[(.int .i64 0), (.int .i64 0), (.int .i64 0), (.slice none 0 0), (.slice none 0 0)])), false⟩
def ti69:TI:=⟨.int .u16,1,2,(some (.int .u16 0)),false⟩
def ti72:TI:=⟨.func #[25,3] #[] false,1,8,(some .nilFunc),false⟩
def ti74:TI:=⟨.func #[3] #[4] false,1,8,(some .nilFunc),false⟩
def ti77:TI:=⟨.func #[74] #[] false,1,8,(some .nilFunc),false⟩
def ti79:TI:=⟨.func #[25,25] #[3] false,1,8,(some .nilFunc),false⟩
def ti86 : TI := ⟨.struct #[⟨ "quarters", 3, 0, false, "", "spadille/back", 0⟩, ⟨ "flipped", 4, 1, false, "", "spadille/back", 8⟩], 2, 16, (some (.agg #[(.int .i64 0), (.bool false)])), true⟩
def ti91:TI:=⟨.array 17 3,17,136,(some (.agg #[(.int .i64 0),(.int .i64 0),(.int .i64 0),(.int .i64 0),(.int .i64 0),(.int .i64 0),(.int .i64 0),(.int .i64 0),(.int .i64 0),(.int .i64 0),(.int .i64 0),(.int .i64 0),(.int .i64 0),(.int .i64 0),(.int .i64 0),(.int .i64 0),(.int .i64 0)])),true⟩
def ti98:TI:=⟨.array 32 5,32,32,(some (.agg #[(.int .u8 0),(.int .u8 0),(.int .u8 0),(.int .u8 0),(.int .u8 0),(.int .u8 0),(.int .u8 0),(.int .u8 0),(.int .u8 0),(.int .u8 0),(.int .u8 0),(.int .u8 0),(.int .u8 0),(.int .u8 0),(.int .u8 0),(.int .u8 0),(.int .u8 0),(.int .u8 0),(.int .u8 0),(.int .u8 0),(.int .u8 0),(.int .u8 0),(.int .u8 0),(.int .u8 0),(.int .u8 0),(.int .u8 0),(.int .u8 0),(.int .u8 0),(.int .u8 0),(.int .u8 0),(.int .u8 0),(.int .u8 0)])),true⟩
def ti99:TI:=⟨.int .u32,1,4,(some (.int .u32 0)),false⟩
def ti100:TI:=⟨.int .u64,1,8,(some (.int .u64 0)),false⟩
def ti102:TI:=⟨.func #[3,3,3] #[3] false,1,8,(some .nilFunc),false⟩
def ti109:TI:=⟨.int .i64,1,8,(some (.int .i64 0)),false⟩
def ti118:TI:=⟨.int .u64,1,8,(some (.int .u64 0)),false⟩
def ti128:TI:=⟨.int .u64,1,8,(some (.int .u64 0)),false⟩
def ti132:TI:=⟨.pointer 3,1,8,(some (.pointer none)),false⟩
def ttTr:Tr TI:=(.node none (.node none (.node (some ti3) (.node none (.node none .nil (.node none (.node (some ti79) .nil .nil) .nil)) .nil) (.node none (.node none (.node (some ti35) .nil (.node (some ti99) .nil .nil)) .nil) (.node (some ti27) .nil (.node none (.node (some ti91) .nil .nil) .nil)))) (.node (some ti5) (.node (some ti9) .nil (.node (some ti25) .nil .nil)) (.node none (.node none (.node none (.node (some ti69) .nil .nil) .nil) .nil) (.node none (.node none (.node (some ti77) .nil .nil) (.node (some ti109) .nil .nil)) (.node (some ti61) .nil .nil))))) (.node none (.node (some ti4) (.node none (.node none (.node (some ti32) (.node none (.node (some ti128) .nil .nil) .nil) .nil) (.node (some ti48) .nil .nil)) (.node none (.node none (.node (some ti72) .nil .nil) .nil) .nil)) (.node none (.node none (.node none (.node none (.node (some ti132) .nil .nil) .nil) (.node (some ti100) .nil .nil)) .nil) .nil)) (.node none (.node none (.node none (.node none (.node (some ti66) .nil .nil) (.node (some ti98) .nil .nil)) .nil) (.node none (.node none (.node (some ti74) .nil .nil) .nil) .nil)) (.node none (.node none (.node none .nil (.node (some ti102) .nil .nil)) (.node none (.node (some ti86) .nil .nil) (.node (some ti118) .nil .nil))) (.node (some ti30) .nil .nil)))))
noncomputable def tt:TT:=ttTr.get
def fnTr:Tr RFn:=(.node none (.node none (.node none (.node none (.node (some ⟨43,c15,[.tmp 4,.tmp 5]⟩) (.node (some ⟨4,c31,[.cell 0 27]⟩) (.node (some ⟨11,c63,[]⟩) .nil .nil) (.node (some ⟨84,c95,[.tmp 8]⟩) .nil .nil)) (.node (some ⟨15,c47,[.tmp 2]⟩) (.node (some ⟨60,c79,[]⟩) .nil .nil) .nil)) (.node (some ⟨39,c23,[.tmp 2,.tmp 3]⟩) (.node (some ⟨4,c39,[.tmp 2]⟩) (.node (some ⟨8,c71,[.tmp 2]⟩) .nil .nil) (.node (some ⟨76,c103,[]⟩) .nil .nil)) (.node (some ⟨8,c55,[.tmp 2]⟩) (.node (some ⟨25,c87,[.tmp 2]⟩) .nil .nil) .nil))) (.node (some ⟨34,c11,[.tmp 6,.tmp 7]⟩) (.node (some ⟨209,c19,[.tmp 0]⟩) (.node (some ⟨28,c35,[.tmp 4]⟩) (.node (some ⟨70,c67,[.tmp 9]⟩) .nil .nil) (.node (some ⟨7,c99,[.tmp 2]⟩) .nil .nil)) (.node (some ⟨18,c51,[.cell 2 86]⟩) (.node (some ⟨141,c83,[.tmp 8]⟩) .nil .nil) .nil)) (.node none (.node (some ⟨9,c43,[.tmp 2]⟩) (.node (some ⟨28,c75,[]⟩) .nil .nil) (.node (some ⟨32,c107,[.tmp 10,.tmp 11]⟩) .nil .nil)) (.node (some ⟨14,c59,[]⟩) (.node (some ⟨57,c91,[.tmp 6,.tmp 7]⟩) .nil .nil) .nil)))) (.node none (.node none (.node (some ⟨23,c17,[.tmp 4,.tmp 5]⟩) (.node (some ⟨19,c33,[.tmp 4]⟩) (.node (some ⟨20,c65,[.tmp 4]⟩) .nil .nil) .nil) (.node (some ⟨110,c49,[.tmp 2,.tmp 3]⟩) (.node (some ⟨63,c81,[.tmp 8,.tmp 9]⟩) .nil .nil) .nil)) (.node (some ⟨11,c25,[.tmp 2]⟩) (.node (some ⟨9,c41,[.tmp 4]⟩) (.node (some ⟨134,c73,[]⟩) .nil .nil) (.node (some ⟨36,c105,[.tmp 10]⟩) .nil .nil)) (.node (some ⟨50,c57,[.cell 4 91]⟩) (.node (some ⟨56,c89,[]⟩) .nil .nil) .nil))) (.node none (.node (some ⟨70,c21,[.tmp 6]⟩) (.node (some ⟨26,c37,[.tmp 4]⟩) (.node (some ⟨25,c69,[.tmp 2]⟩) .nil .nil) (.node (some ⟨18,c101,[.tmp 8]⟩) .nil .nil)) (.node (some ⟨22,c53,[.tmp 2]⟩) (.node (some ⟨178,c85,[.tmp 10,.tmp 11]⟩) .nil .nil) .nil)) (.node (some ⟨29,c29,[.tmp 4,.tmp 5]⟩) (.node (some ⟨36,c45,[.tmp 4]⟩) .nil .nil) (.node (some ⟨19,c61,[.tmp 4]⟩) (.node (some ⟨133,c93,[.tmp 6]⟩) .nil .nil) .nil))))) (.node none (.node none (.node none (.node (some ⟨27,c16,[.tmp 4]⟩) (.node (some ⟨33,c32,[.tmp 4,.tmp 5]⟩) (.node (some ⟨16,c64,[]⟩) .nil .nil) (.node (some ⟨168,c96,[.tmp 8,.tmp 9]⟩) .nil .nil)) (.node (some ⟨15,c48,[.tmp 6]⟩) (.node (some ⟨67,c80,[]⟩) .nil .nil) .nil)) (.node (some ⟨20,c24,[.tmp 4,.tmp 5]⟩) (.node (some ⟨88,c40,[]⟩) .nil (.node (some ⟨15,c104,[.tmp 6]⟩) .nil .nil)) (.node (some ⟨15,c56,[.tmp 4]⟩) (.node (some ⟨49,c88,[]⟩) .nil .nil) .nil))) (.node (some ⟨26,c12,[.tmp 4]⟩) (.node (some ⟨25,c20,[.tmp 4,.tmp 5]⟩) (.node (some ⟨38,c36,[.tmp 6]⟩) (.node (some ⟨25,c68,[.tmp 2]⟩) .nil .nil) (.node (some ⟨33,c100,[.tmp 2]⟩) .nil .nil)) (.node (some ⟨22,c52,[.cell 4 86]⟩) (.node (some ⟨90,c84,[.tmp 10]⟩) .nil .nil) .nil)) (.node none (.node (some ⟨4,c44,[.tmp 2]⟩) (.node (some ⟨34,c76,[.tmp 4]⟩) .nil .nil) (.node (some ⟨28,c108,[.tmp 8,.tmp 9]⟩) .nil .nil)) (.node (some ⟨66,c60,[.tmp 4]⟩) (.node (some ⟨32,c92,[]⟩) .nil .nil) .nil)))) (.node (some ⟨158,c6,[.tmp 4]⟩) (.node (some ⟨103,c10,[.tmp 8]⟩) (.node (some ⟨42,c18,[.tmp 6,.tmp 7]⟩) (.node (some ⟨35,c34,[.tmp 6]⟩) (.node (some ⟨47,c66,[.tmp 4]⟩) .nil .nil) (.node (some ⟨82,c98,[]⟩) .nil .nil)) (.node (some ⟨27,c50,[.tmp 4]⟩) (.node (some ⟨34,c82,[]⟩) .nil .nil) .nil)) (.node none (.node (some ⟨9,c42,[.tmp 3]⟩) (.node (some ⟨6,c74,[.tmp 2]⟩) .nil .nil) .nil) (.node (some ⟨34,c58,[.tmp 4]⟩) (.node (some ⟨65,c90,[]⟩) .nil .nil) .nil))) (.node (some ⟨21,c14,[.tmp 4,.tmp 5]⟩) (.node (some ⟨4,c22,[.tmp 2]⟩) (.node (some ⟨4,c38,[.cell 0 27]⟩) (.node (some ⟨148,c70,[]⟩) .nil .nil) (.node (some ⟨41,c102,[.tmp 12]⟩) .nil .nil)) (.node none (.node (some ⟨19,c86,[.tmp 2]⟩) .nil .nil) .nil)) (.node (some ⟨93,c30,[.tmp 4,.tmp 5]⟩) (.node (some ⟨9,c46,[.tmp 2]⟩) (.node (some ⟨53,c78,[]⟩) .nil .nil) .nil) (.node (some ⟨5,c62,[.tmp 2]⟩) (.node (some ⟨17,c94,[.tmp 4]⟩) .nil .nil) .nil))))))
noncomputable def fns:FuncId→Option RFn:=fnTr.get
end Go.BkP
