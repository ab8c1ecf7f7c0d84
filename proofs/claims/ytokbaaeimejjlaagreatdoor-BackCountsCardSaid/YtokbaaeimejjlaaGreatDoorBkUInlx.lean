/- Made from wip. -/
import Derived.Test.YtokbaaeimejjlaaGreatDoorSpFramex
import Derived.Test.YtokbaaeimejjlaaGreatDoorBkUNodes
import Derived.Test.YtokbaaeimejjlaaGreatDoorBkCellsx
import Derived.KernelRfl

set_option maxRecDepth 100000
namespace Go.BkU
open Go.Sp
def c5:RC:=Xa
def c9:RC:=dS
def c10:RC:=
 .seq (.reg [] [
  rq 0 (.assign (kb false)) 4])
 (.seq (.reg [] [
   rq 21 (cf 33 #[(ki 1),(ki 4)] #[3,3]) 32,rq 20 (.move (tp 21)) 32,rq 22 (.extract (tp 20) 0) 3,rq 23 (.extract (tp 20) 1) 28,rq 1 (.assign (tp 22)) 3,rq 2 (.assign (tp 23)) 28])
 (.seq (.reg [] [
   rq 25 (cf 33 #[(ki 4),(ki 1)] #[3,3]) 32,rq 24 (.move (tp 25)) 32,rq 26 (.extract (tp 24) 0) 3,rq 27 (.extract (tp 24) 1) 28,rq 3 (.assign (tp 26)) 3,rq 4 (.assign (tp 27)) 28])
 (.seq (.reg [] [
   rq 29 (cf 39 #[] #[]) 24,rq 30 (cf 25 #[(tp 29)] #[24]) 32,rq 28 (.move (tp 30)) 32,rq 31 (.extract (tp 28) 0) 3,rq 32 (.extract (tp 28) 1) 28,rq 5 (.assign (tp 31)) 3,rq 6 (.assign (tp 32)) 28])
 (.seq (.reg [] [
   rq 34 (cf 39 #[] #[]) 24,rq 35 (.buildSlice 22 2 #[(0,(ki 2)),(1,(ki 2))]) 22,rq 36 (cf 40 #[(tp 35)] #[22]) 22,rq 37 (cf 27 #[(tp 34),(tp 36)] #[24,22]) 32,rq 33 (.move (tp 37)) 32,rq 38 (.extract (tp 33) 0) 3,rq 39 (.extract (tp 33) 1) 28,rq 7 (.assign (tp 38)) 3,rq 8 (.assign (tp 39)) 28])
 (.seq (.reg [] [
   rq 41 (cf 41 #[] #[]) 24,rq 42 (cf 23 #[(tp 41),(ki 2)] #[24,3]) 32,rq 40 (.move (tp 42)) 32,rq 43 (.extract (tp 40) 0) 3,rq 44 (.extract (tp 40) 1) 28,rq 9 (.assign (tp 43)) 3,rq 10 (.assign (tp 44)) 28])
 (.seq (.reg [] [
   rq 46 (cf 39 #[] #[]) 24,rq 47 (.buildSlice 22 4 #[(0,(ki 0)),(1,(ki 1)),(2,(ki 0)),(3,(ki 0))]) 22,rq 48 (cf 40 #[(tp 47)] #[22]) 22,rq 49 (cf 11 #[(tp 46),(tp 48),(ki 1)] #[24,22,3]) 29,rq 45 (.move (tp 49)) 29,rq 50 (.extract (tp 45) 0) 22,rq 51 (.extract (tp 45) 1) 28,rq 11 (.assign (tp 50)) 22,rq 12 (.assign (tp 51)) 28])
 (.seq (.reg [] [
   rq 53 (cf 39 #[] #[]) 24,rq 54 (.buildSlice 22 4 #[(0,(ki 0)),(1,(ki 1)),(2,(ki 1)),(3,(ki 0))]) 22,rq 55 (cf 40 #[(tp 54)] #[22]) 22,rq 56 (cf 20 #[(tp 53),(tp 55)] #[24,22]) 40,rq 52 (.move (tp 56)) 40,rq 57 (.extract (tp 52) 0) 39,rq 58 (.extract (tp 52) 1) 28,rq 13 (.assign (tp 57)) 39,rq 14 (.assign (tp 58)) 28])
 (.seq (.seq (.reg [] [
   rq 59 (.move (tp 2)) 28,rq 60 (.binOp .neq 28 (tp 59) (ki 0) 28) 4,rq 61 (.move (tp 60)) 4,rg 62 (.move (tp 4)) 28 61 false,rg 63 (.binOp .neq 28 (tp 62) (ki 0) 28) 4 61 false,rq 64 (.pick (tp 61) (kb true) (tp 63)) 4,rq 65 (.move (tp 64)) 4,rg 66 (.move (tp 6)) 28 65 false,rg 67 (.binOp .neq 28 (tp 66) (ki 0) 28) 4 65 false,rq 68 (.pick (tp 65) (kb true) (tp 67)) 4,rq 69 (.move (tp 68)) 4,rg 70 (.move (tp 8)) 28 69 false,rg 71 (.binOp .neq 28 (tp 70) (ki 0) 28) 4 69 false,rq 72 (.pick (tp 69) (kb true) (tp 71)) 4,rq 73 (.move (tp 72)) 4,rg 74 (.move (tp 10)) 28 73 false,rg 75 (.binOp .neq 28 (tp 74) (ki 0) 28) 4 73 false,rq 76 (.pick (tp 73) (kb true) (tp 75)) 4,rq 77 (.move (tp 76)) 4,rg 78 (.move (tp 12)) 28 77 false,rg 79 (.binOp .neq 28 (tp 78) (ki 0) 28) 4 77 false,rq 80 (.pick (tp 77) (kb true) (tp 79)) 4,rq 81 (.move (tp 80)) 4,rg 82 (.move (tp 14)) 28 81 false,rg 83 (.binOp .neq 28 (tp 82) (ki 0) 28) 4 81 false,rq 84 (.pick (tp 81) (kb true) (tp 83)) 4])
 (.cond (tp 84) (.seq (.reg [] [
   rq 0 (.assign (kb false)) 4])
  (.ret))
 (.skip)))
 (.seq (.reg [] [
   rq 86 (cf 39 #[] #[]) 24,rq 87 (.buildSlice 22 4 #[(0,(ki 1)),(1,(ki 0)),(2,(ki 1)),(3,(ki 0))]) 22,rq 88 (cf 40 #[(tp 87)] #[22]) 22,rq 89 (cf 18 #[(tp 86),(tp 88)] #[24,22]) 29,rq 85 (.move (tp 89)) 29,rq 90 (.extract (tp 85) 0) 22,rq 91 (.extract (tp 85) 1) 28,rq 15 (.assign (tp 90)) 22,rq 2 (.assign (tp 91)) 28])
 (.seq (.reg [] [
   rq 93 (cf 39 #[] #[]) 24,rq 94 (.buildSlice 22 4 #[(0,(ki 0)),(1,(ki 1)),(2,(ki 1)),(3,(ki 0))]) 22,rq 95 (cf 40 #[(tp 94)] #[22]) 22,rq 96 (cf 15 #[(tp 93),(tp 95)] #[24,22]) 29,rq 92 (.move (tp 96)) 29,rq 97 (.extract (tp 92) 0) 22,rq 98 (.extract (tp 92) 1) 28,rq 16 (.assign (tp 97)) 22,rq 4 (.assign (tp 98)) 28])
 (.seq (.reg [] [
   rq 100 (cf 39 #[] #[]) 24,rq 101 (.buildSlice 22 4 #[(0,(ki 0)),(1,(ki 1)),(2,(ki 0)),(3,(ki 0))]) 22,rq 102 (cf 40 #[(tp 101)] #[22]) 22,rq 103 (.buildSlice 22 4 #[(0,(ki 0)),(1,(ki 0)),(2,(ki 1)),(3,(ki 0))]) 22,rq 104 (cf 40 #[(tp 103)] #[22]) 22,rq 105 (cf 13 #[(tp 100),(tp 102),(tp 104)] #[24,22,22]) 32,rq 99 (.move (tp 105)) 32,rq 106 (.extract (tp 99) 0) 3,rq 107 (.extract (tp 99) 1) 28,rq 17 (.assign (tp 106)) 3,rq 6 (.assign (tp 107)) 28])
 (.seq (.reg [] [
   rq 109 (cf 39 #[] #[]) 24,rq 110 (.buildSlice 22 4 #[(0,(ki 0)),(1,(ki 1)),(2,(ki 0)),(3,(ki 0))]) 22,rq 111 (cf 40 #[(tp 110)] #[22]) 22,rq 112 (cf 29 #[(tp 109),(tp 111)] #[24,22]) 29,rq 108 (.move (tp 112)) 29,rq 113 (.extract (tp 108) 0) 22,rq 114 (.extract (tp 108) 1) 28,rq 18 (.assign (tp 113)) 22,rq 8 (.assign (tp 114)) 28])
 (.seq (.reg [] [
   rq 116 (cf 41 #[] #[]) 24,rq 117 (cf 25 #[(tp 116)] #[24]) 32,rq 115 (.move (tp 117)) 32,rq 118 (.extract (tp 115) 0) 3,rq 119 (.extract (tp 115) 1) 28,rq 19 (.assign (tp 118)) 3,rq 10 (.assign (tp 119)) 28])
 (.seq (.reg [] [
   rq 120 (.move (tp 2)) 28,rq 121 (.binOp .eql 28 (tp 120) (ki 0) 28) 4,rq 122 (.move (tp 121)) 4,rg 123 (.move (tp 4)) 28 122 true,rg 124 (.binOp .eql 28 (tp 123) (ki 0) 28) 4 122 true,rq 125 (.pick (tp 122) (tp 124) (kb false)) 4,rq 126 (.move (tp 125)) 4,rg 127 (.move (tp 6)) 28 126 true,rg 128 (.binOp .eql 28 (tp 127) (ki 0) 28) 4 126 true,rq 129 (.pick (tp 126) (tp 128) (kb false)) 4,rq 130 (.move (tp 129)) 4,rg 131 (.move (tp 8)) 28 130 true,rg 132 (.binOp .eql 28 (tp 131) (ki 0) 28) 4 130 true,rq 133 (.pick (tp 130) (tp 132) (kb false)) 4,rq 134 (.move (tp 133)) 4,rg 135 (.move (tp 10)) 28 134 true,rg 136 (.binOp .eql 28 (tp 135) (ki 0) 28) 4 134 true,rq 137 (.pick (tp 134) (tp 136) (kb false)) 4,rq 138 (.move (tp 137)) 4,rg 139 (.move (tp 1)) 3 138 true,rg 140 (.binOp .eql 3 (tp 139) (ki 6) 3) 4 138 true,rq 141 (.pick (tp 138) (tp 140) (kb false)) 4,rq 142 (.move (tp 141)) 4,rg 143 (.move (tp 3)) 3 142 true,rg 144 (.binOp .eql 3 (tp 143) (ki 7) 3) 4 142 true,rq 145 (.pick (tp 142) (tp 144) (kb false)) 4,rq 146 (.move (tp 145)) 4,rg 147 (.move (tp 5)) 3 146 true,rg 148 (.binOp .eql 3 (tp 147) (ki 6) 3) 4 146 true,rq 149 (.pick (tp 146) (tp 148) (kb false)) 4,rq 150 (.move (tp 149)) 4,rg 151 (.move (tp 7)) 3 150 true,rg 152 (.binOp .eql 3 (tp 151) (ki 2) 3) 4 150 true,rq 153 (.pick (tp 150) (tp 152) (kb false)) 4,rq 154 (.move (tp 153)) 4,rg 155 (.move (tp 9)) 3 154 true,rg 156 (.binOp .eql 3 (tp 155) (ki 8) 3) 4 154 true,rq 157 (.pick (tp 154) (tp 156) (kb false)) 4,rq 158 (.move (tp 157)) 4,rg 159 (.move (tp 17)) 3 158 true,rg 160 (.binOp .eql 3 (tp 159) (ki 2) 3) 4 158 true,rq 161 (.pick (tp 158) (tp 160) (kb false)) 4,rq 162 (.move (tp 161)) 4,rg 163 (.move (tp 19)) 3 162 true,rg 164 (.binOp .eql 3 (tp 163) (ki 36) 3) 4 162 true,rq 165 (.pick (tp 162) (tp 164) (kb false)) 4,rq 166 (.move (tp 165)) 4,rg 167 (.move (tp 11)) 22 166 true,rg 168 (.buildSlice 22 4 #[(0,(ki 0)),(1,(ki 0)),(2,(ki 0)),(3,(ki 1))]) 22 166 true,rg 169 (cf 40 #[(tp 168)] #[22]) 22 166 true,rg 170 (cf 17 #[(tp 167),(tp 169)] #[22,22]) 4 166 true,rq 171 (.pick (tp 166) (tp 170) (kb false)) 4,rq 172 (.move (tp 171)) 4,rg 173 (.move (tp 13)) 39 172 true,rg 174 (.buildSlice 22 4 #[(0,(ki 0)),(1,(ki 1)),(2,(ki 1)),(3,(ki 0))]) 22 172 true,rg 175 (cf 40 #[(tp 174)] #[22]) 22 172 true,rg 176 (.buildSlice 22 4 #[(0,(ki 1)),(1,(ki 0)),(2,(ki 0)),(3,(ki 1))]) 22 172 true,rg 177 (cf 40 #[(tp 176)] #[22]) 22 172 true,rg 178 (.buildSlice 39 2 #[(0,(tp 175)),(1,(tp 177))]) 39 172 true,rg 179 (cf 42 #[(tp 178)] #[39]) 39 172 true,rg 180 (cf 22 #[(tp 173),(tp 179)] #[39,39]) 4 172 true,rq 181 (.pick (tp 172) (tp 180) (kb false)) 4,rq 182 (.move (tp 181)) 4,rg 183 (.move (tp 15)) 22 182 true,rg 184 (.buildSlice 22 4 #[(0,(ki 0)),(1,(ki 0)),(2,(ki 1)),(3,(ki 1))]) 22 182 true,rg 185 (cf 40 #[(tp 184)] #[22]) 22 182 true,rg 186 (cf 17 #[(tp 183),(tp 185)] #[22,22]) 4 182 true,rq 187 (.pick (tp 182) (tp 186) (kb false)) 4,rq 188 (.move (tp 187)) 4,rg 189 (.move (tp 16)) 22 188 true,rg 190 (.buildSlice 22 2 #[(0,(ki 0)),(1,(ki 2))]) 22 188 true,rg 191 (cf 40 #[(tp 190)] #[22]) 22 188 true,rg 192 (cf 17 #[(tp 189),(tp 191)] #[22,22]) 4 188 true,rq 193 (.pick (tp 188) (tp 192) (kb false)) 4,rq 194 (.move (tp 193)) 4,rg 195 (.move (tp 18)) 22 194 true,rg 196 (.buildSlice 22 1 #[(0,(ki 1))]) 22 194 true,rg 197 (cf 40 #[(tp 196)] #[22]) 22 194 true,rg 198 (cf 17 #[(tp 195),(tp 197)] #[22,22]) 4 194 true,rq 199 (.pick (tp 194) (tp 198) (kb false)) 4,rq 200 (.move (tp 199)) 4,rg 201 (cf 39 #[] #[]) 24 200 true,rg 202 (.buildSlice 22 4 #[(0,(ki 0)),(1,(ki 1)),(2,(ki 0)),(3,(ki 0))]) 22 200 true,rg 203 (cf 40 #[(tp 202)] #[22]) 22 200 true,rg 204 (.buildSlice 22 2 #[(0,(ki 0)),(1,(ki 2))]) 22 200 true,rg 205 (cf 40 #[(tp 204)] #[22]) 22 200 true,rg 206 (cf 31 #[(tp 201),(tp 203),(tp 205)] #[24,22,22]) 28 200 true,rg 207 (.binOp .eql 28 (tp 206) (ki 14) 28) 4 200 true,rq 208 (.pick (tp 200) (tp 207) (kb false)) 4,rq 0 (.assign (tp 208)) 4])
 (.ret)))))))))))))))
def c11:RC:=
 .seq (.reg [] [
  rq 3 (.box 24 (tp 0)) 0,rq 6 (.assign (.const (.slice none 0 0))) 22,rq 7 (.assign (ki 0)) 28])
 (.seq (.reg [] [
   rq 12 (.load 24 (tp 3)) 24,rq 13 (.move (tp 1)) 22,rq 14 (.buildSlice 39 1 #[(0,(tp 13))]) 39,rq 15 (cf 43 #[(tp 12),(tp 14)] #[24,39]) 65,rq 11 (.move (tp 15)) 65,rq 16 (.extract (tp 11) 0) 64,rq 17 (.extract (tp 11) 1) 28,rq 8 (.assign (tp 16)) 64,rq 9 (.assign (tp 17)) 28])
 (.seq (.seq (.reg [] [
   rq 18 (.move (tp 9)) 28,rq 19 (.binOp .neq 28 (tp 18) (ki 0) 28) 4])
 (.cond (tp 19) (.seq (.reg [] [
   rq 20 (.move (tp 9)) 28,
   rq 6 (.assign (.const (.slice none 0 0))) 22,
   rq 7 (.assign (tp 20)) 28])
  (.ret))
 (.skip)))
 (.seq (.reg [] [
   rq 21 (.move (tp 8)) 64,rq 22 (.nilCheck (tp 21)) 0,rq 23 (.fieldAddr 69 (tp 22) 0) 0,rq 24 (.fieldAddr 24 (tp 23) 3) 0,rq 25 (.load 22 (tp 24)) 22,rq 26 (.move (tp 2)) 3,rq 27 (cf 44 #[(tp 25),(tp 26)] #[22,3]) 3,rq 10 (.assign (tp 27)) 3])
 (.seq (.seq (.reg [] [
   rq 28 (.move (tp 10)) 3,rq 29 (.binOp .lss 3 (tp 28) (ki 0) 3) 4])
 (.cond (tp 29) (.seq (.reg [] [
   rq 6 (.assign (.const (.slice none 0 0))) 22,
   rq 7 (.assign (ki 2)) 28])
  (.ret))
 (.skip)))
 (.seq (.reg [] [
   rq 30 (.move (tp 8)) 64,rq 31 (.move (tp 1)) 22,rq 32 (.move (tp 10)) 3,rq 33 (cf 45 #[(tp 30),(tp 31),(tp 32)] #[64,22,3]) 22,rq 6 (.assign (tp 33)) 22,rq 7 (.assign (ki 0)) 28])
 (.ret))))))
def c13:RC:=
 .seq (.reg [] [
  rq 3 (.box 24 (tp 0)) 0,rq 6 (.assign (ki 0)) 3,rq 7 (.assign (ki 0)) 28])
 (.seq (.reg [] [
   rq 13 (.load 24 (tp 3)) 24,rq 14 (.move (tp 1)) 22,rq 15 (.move (tp 2)) 22,rq 16 (.buildSlice 39 2 #[(0,(tp 14)),(1,(tp 15))]) 39,rq 17 (cf 43 #[(tp 13),(tp 16)] #[24,39]) 65,rq 12 (.move (tp 17)) 65,rq 18 (.extract (tp 12) 0) 64,rq 19 (.extract (tp 12) 1) 28,rq 8 (.assign (tp 18)) 64,rq 9 (.assign (tp 19)) 28])
 (.seq (.seq (.reg [] [
   rq 20 (.move (tp 9)) 28,rq 21 (.binOp .neq 28 (tp 20) (ki 0) 28) 4])
 (.cond (tp 21) (.seq (.reg [] [
   rq 22 (.move (tp 9)) 28,
   rq 6 (.assign (ki 0)) 3,
   rq 7 (.assign (tp 22)) 28])
  (.ret))
 (.skip)))
 (.seq (.seq (.reg [] [
   rq 23 (.move (tp 8)) 64,rq 24 (.nilCheck (tp 23)) 0,rq 25 (.fieldAddr 69 (tp 24) 0) 0,rq 26 (.fieldAddr 24 (tp 25) 3) 0,rq 27 (.load 22 (tp 26)) 22,rq 28 (cb .len #[(tp 27)] #[22]) 3,rq 29 (.move (ki 0)) 3])
 (.block 0 (.loop (.seq (.reg [] [
   rq 30 (.binOp .lss 3 (tp 29) (tp 28) 3) 0])
   (.seq (.cond (tp 30) (.skip)
   (.exit 0))
   (.seq (.block 1 (.seq (.reg [] [
     rq 31 (.move (tp 29)) 3,
     rq 32 (.indexAddr 22 (tp 27) (tp 29)) 0,
     rq 33 (.load 3 (tp 32)) 3,
     rq 10 (.assign (tp 31)) 3,
     rq 11 (.assign (tp 33)) 3])
    (.seq (.reg [] [
      rq 34 (.move (tp 8)) 64,
      rq 35 (.move (tp 1)) 22,
      rq 36 (.move (tp 10)) 3,
      rq 37 (cf 45 #[(tp 34),(tp 35),(tp 36)] #[64,22,3]) 22,
      rq 38 (.move (tp 2)) 22,
      rq 39 (cf 49 #[(tp 37),(tp 38)] #[22,22]) 4])
    (.cond (tp 39) (.seq (.reg [] [
      rq 40 (.move (tp 11)) 3,
      rq 6 (.assign (tp 40)) 3,
      rq 7 (.assign (ki 0)) 28])
     (.ret))
    (.skip)))))
   (.reg [] [
     rq 41 (.binOp .add 3 (tp 29) (ki 1) 3) 3,
     rq 29 (.move (tp 41)) 3])))))))
 (.seq (.reg [] [
   rq 6 (.assign (ki 0)) 3,rq 7 (.assign (ki 12)) 28])
 (.ret)))))
def c15:RC:=
 .seq (.reg [] [
  rq 2 (.box 24 (tp 0)) 0,rq 4 (.assign (.const (.slice none 0 0))) 22,rq 5 (.assign (ki 0)) 28])
 (.seq (.reg [] [
   rq 12 (.load 24 (tp 2)) 24,rq 13 (.move (tp 1)) 22,rq 14 (.buildSlice 39 1 #[(0,(tp 13))]) 39,rq 15 (cf 43 #[(tp 12),(tp 14)] #[24,39]) 65,rq 11 (.move (tp 15)) 65,rq 16 (.extract (tp 11) 0) 64,rq 17 (.extract (tp 11) 1) 28,rq 6 (.assign (tp 16)) 64,rq 7 (.assign (tp 17)) 28])
 (.seq (.seq (.reg [] [
   rq 18 (.move (tp 7)) 28,rq 19 (.binOp .neq 28 (tp 18) (ki 0) 28) 4])
 (.cond (tp 19) (.seq (.reg [] [
   rq 20 (.move (tp 7)) 28,
   rq 4 (.assign (.const (.slice none 0 0))) 22,
   rq 5 (.assign (tp 20)) 28])
  (.ret))
 (.skip)))
 (.seq (.reg [] [
   rq 8 (.assign (.const (.slice none 0 0))) 22])
 (.seq (.seq (.reg [] [
   rq 21 (.move (tp 6)) 64,rq 22 (.nilCheck (tp 21)) 0,rq 23 (.fieldAddr 69 (tp 22) 0) 0,rq 24 (.fieldAddr 24 (tp 23) 3) 0,rq 25 (.load 22 (tp 24)) 22,rq 26 (cb .len #[(tp 25)] #[22]) 3,rq 27 (.move (ki 0)) 3])
 (.block 0 (.loop (.seq (.reg [] [
   rq 28 (.binOp .lss 3 (tp 27) (tp 26) 3) 0])
   (.seq (.cond (tp 28) (.skip)
   (.exit 0))
   (.seq (.block 1 (.seq (.reg [] [
     rq 29 (.move (tp 27)) 3,
     rq 30 (.indexAddr 22 (tp 25) (tp 27)) 0,
     rq 31 (.load 3 (tp 30)) 3,
     rq 9 (.assign (tp 29)) 3,
     rq 10 (.assign (tp 31)) 3])
    (.seq (.reg [] [
      rq 32 (.move (tp 6)) 64,
      rq 33 (.move (tp 1)) 22,
      rq 34 (.move (tp 9)) 3,
      rq 35 (cf 51 #[(tp 32),(tp 33),(tp 34)] #[64,22,3]) 74,
      rq 36 (.binOp .eql 74 (tp 35) (.const (.int .u16 0)) 74) 4])
    (.cond (tp 36) (.reg [] [
      rq 37 (.move (tp 8)) 22,
      rq 38 (.move (tp 10)) 3,
      rq 39 (.buildSlice 22 1 #[(0,(tp 38))]) 22,
      rq 40 (cb .append #[(tp 37),(tp 39)] #[22,22]) 22,
      rq 8 (.assign (tp 40)) 22])
    (.skip)))))
   (.reg [] [
     rq 41 (.binOp .add 3 (tp 27) (ki 1) 3) 3,
     rq 27 (.move (tp 41)) 3])))))))
 (.seq (.reg [] [
   rq 42 (.move (tp 8)) 22,rq 4 (.assign (tp 42)) 22,rq 5 (.assign (ki 0)) 28])
 (.ret))))))
def c17:RC:=
 .seq (.reg [] [
  rq 4 (.assign (kb false)) 4])
 (.seq (.seq (.reg [] [
   rq 6 (.move (tp 0)) 22,rq 7 (cb .len #[(tp 6)] #[22]) 3,rq 8 (.move (tp 1)) 22,rq 9 (cb .len #[(tp 8)] #[22]) 3,rq 10 (.binOp .neq 3 (tp 7) (tp 9) 3) 4])
 (.cond (tp 10) (.seq (.reg [] [
   rq 4 (.assign (kb false)) 4])
  (.ret))
 (.skip)))
 (.seq (.seq (.reg [] [
   rq 5 (.assign (ki 0)) 3])
 (.block 0 (.loop (.seq (.seq (.reg [] [
   rq 11 (.move (tp 5)) 3,
   rq 12 (.move (tp 0)) 22,
   rq 13 (cb .len #[(tp 12)] #[22]) 3,
   rq 14 (.binOp .lss 3 (tp 11) (tp 13) 3) 4])
   (.cond (tp 14) (.skip)
   (.exit 0)))
   (.seq (.block 1 (.seq (.reg [0, 1, 2, 3, 4, 5, 6, 7, 8] [
     rq 17 (.move (tp 0)) 22,
     rq 18 (.move (tp 5)) 3,
     rq 19 (.indexAddr 22 (tp 17) (tp 18)) 0,
     rq 20 (.load 3 (tp 19)) 3,
     rq 21 (.move (tp 1)) 22,
     rq 22 (.move (tp 5)) 3,
     rq 23 (.indexAddr 22 (tp 21) (tp 22)) 0,
     rq 24 (.load 3 (tp 23)) 3,
     rq 25 (.binOp .neq 3 (tp 20) (tp 24) 3) 4])
    (.cond (tp 25) (.seq (.reg [] [
      rq 4 (.assign (kb false)) 4])
     (.ret))
    (.skip))))
   (.reg [] [
     rq 15 (.move (tp 5)) 3,
     rq 16 (.binOp .add 3 (tp 15) (ki 1) 3) 3,
     rq 5 (.assign (tp 16)) 3]))))))
 (.seq (.reg [] [
   rq 4 (.assign (kb true)) 4])
 (.ret))))
def c18:RC:=
 .seq (.reg [] [
  rq 2 (.box 24 (tp 0)) 0,rq 4 (.assign (.const (.slice none 0 0))) 22,rq 5 (.assign (ki 0)) 28])
 (.seq (.reg [] [
   rq 9 (.load 24 (tp 2)) 24,rq 10 (.move (tp 1)) 22,rq 11 (.buildSlice 39 1 #[(0,(tp 10))]) 39,rq 12 (cf 43 #[(tp 9),(tp 11)] #[24,39]) 65,rq 8 (.move (tp 12)) 65,rq 13 (.extract (tp 8) 0) 64,rq 14 (.extract (tp 8) 1) 28,rq 6 (.assign (tp 13)) 64,rq 7 (.assign (tp 14)) 28])
 (.seq (.seq (.reg [] [
   rq 15 (.move (tp 7)) 28,rq 16 (.binOp .neq 28 (tp 15) (ki 0) 28) 4])
 (.cond (tp 16) (.seq (.reg [] [
   rq 17 (.move (tp 7)) 28,
   rq 4 (.assign (.const (.slice none 0 0))) 22,
   rq 5 (.assign (tp 17)) 28])
  (.ret))
 (.skip)))
 (.seq (.reg [] [
   rq 18 (.move (tp 6)) 64,rq 19 (.move (tp 1)) 22,rq 20 (cf 52 #[(tp 18),(tp 19)] #[64,22]) 39,rq 21 (.indexAddr 39 (tp 20) (ki 0)) 0,rq 22 (.load 22 (tp 21)) 22,rq 4 (.assign (tp 22)) 22,rq 5 (.assign (ki 0)) 28])
 (.ret))))
def c20:RC:=
 .seq (.reg [] [
  rq 2 (.box 24 (tp 0)) 0,rq 4 (.assign (.const (.slice none 0 0))) 39,rq 5 (.assign (ki 0)) 28])
 (.seq (.reg [] [
   rq 9 (.load 24 (tp 2)) 24,rq 10 (.move (tp 1)) 22,rq 11 (.buildSlice 39 1 #[(0,(tp 10))]) 39,rq 12 (cf 43 #[(tp 9),(tp 11)] #[24,39]) 65,rq 8 (.move (tp 12)) 65,rq 13 (.extract (tp 8) 0) 64,rq 14 (.extract (tp 8) 1) 28,rq 6 (.assign (tp 13)) 64,rq 7 (.assign (tp 14)) 28])
 (.seq (.seq (.reg [] [
   rq 15 (.move (tp 7)) 28,rq 16 (.binOp .neq 28 (tp 15) (ki 0) 28) 4])
 (.cond (tp 16) (.seq (.reg [] [
   rq 17 (.move (tp 7)) 28,
   rq 4 (.assign (.const (.slice none 0 0))) 39,
   rq 5 (.assign (tp 17)) 28])
  (.ret))
 (.skip)))
 (.seq (.reg [] [
   rq 18 (.move (tp 6)) 64,rq 19 (.move (tp 1)) 22,rq 20 (cf 52 #[(tp 18),(tp 19)] #[64,22]) 39,rq 4 (.assign (tp 20)) 39,rq 5 (.assign (ki 0)) 28])
 (.ret))))
def c22:RC:=
 .seq (.reg [] [
  rq 4 (.assign (kb false)) 4])
 (.seq (.seq (.reg [] [
   rq 6 (.move (tp 0)) 39,rq 7 (cb .len #[(tp 6)] #[39]) 3,rq 8 (.move (tp 1)) 39,rq 9 (cb .len #[(tp 8)] #[39]) 3,rq 10 (.binOp .neq 3 (tp 7) (tp 9) 3) 4])
 (.cond (tp 10) (.seq (.reg [] [
   rq 4 (.assign (kb false)) 4])
  (.ret))
 (.skip)))
 (.seq (.seq (.reg [] [
   rq 5 (.assign (ki 0)) 3])
 (.block 0 (.loop (.seq (.seq (.reg [] [
   rq 11 (.move (tp 5)) 3,
   rq 12 (.move (tp 0)) 39,
   rq 13 (cb .len #[(tp 12)] #[39]) 3,
   rq 14 (.binOp .lss 3 (tp 11) (tp 13) 3) 4])
   (.cond (tp 14) (.skip)
   (.exit 0)))
   (.seq (.block 1 (.seq (.reg [0, 1, 2, 3, 4, 5, 6, 7, 8, 9] [
     rq 17 (.move (tp 0)) 39,
     rq 18 (.move (tp 5)) 3,
     rq 19 (.indexAddr 39 (tp 17) (tp 18)) 0,
     rq 20 (.load 22 (tp 19)) 22,
     rq 21 (.move (tp 1)) 39,
     rq 22 (.move (tp 5)) 3,
     rq 23 (.indexAddr 39 (tp 21) (tp 22)) 0,
     rq 24 (.load 22 (tp 23)) 22,
     rq 25 (cf 17 #[(tp 20),(tp 24)] #[22,22]) 4,
     rq 26 (.unOp .not 4 (tp 25)) 4])
    (.cond (tp 26) (.seq (.reg [] [
      rq 4 (.assign (kb false)) 4])
     (.ret))
    (.skip))))
   (.reg [] [
     rq 15 (.move (tp 5)) 3,
     rq 16 (.binOp .add 3 (tp 15) (ki 1) 3) 3,
     rq 5 (.assign (tp 16)) 3]))))))
 (.seq (.reg [] [
   rq 4 (.assign (kb true)) 4])
 (.ret))))
def c23:RC:=QK
def c24:RC:=QL
def c25:RC:=QM
def c26:RC:=QN
def c27:RC:=QO
def c28:RC:=QP
def c29:RC:=
 .seq (.reg [] [
  rq 2 (.box 24 (tp 0)) 0,rq 3 (.box 22 (tp 1)) 0,rq 4 (.assign (.const (.slice none 0 0))) 22,rq 5 (.assign (ki 0)) 28])
 (.seq (.reg [] [
   rq 12 (.load 24 (tp 2)) 24,rq 13 (.load 22 (tp 3)) 22,rq 14 (.buildSlice 39 1 #[(0,(tp 13))]) 39,rq 15 (cf 43 #[(tp 12),(tp 14)] #[24,39]) 65,rq 11 (.move (tp 15)) 65,rq 16 (.extract (tp 11) 0) 64,rq 17 (.extract (tp 11) 1) 28,rq 6 (.alloc 64) 0,rn (.store 64 (tp 6) (tp 16)) 0,rq 7 (.assign (tp 17)) 28])
 (.seq (.seq (.reg [] [
   rq 18 (.move (tp 7)) 28,rq 19 (.binOp .neq 28 (tp 18) (ki 0) 28) 4])
 (.cond (tp 19) (.seq (.reg [] [
   rq 20 (.move (tp 7)) 28,
   rq 4 (.assign (.const (.slice none 0 0))) 22,
   rq 5 (.assign (tp 20)) 28])
  (.ret))
 (.skip)))
 (.seq (.reg [] [
   rq 8 (.alloc 22) 0])
 (.seq (.reg [] [
   rq 9 (.alloc 3) 0,rn (.store 3 (tp 9) (ki 64)) 0])
 (.seq (.reg [] [
   rq 10 (.alloc 87) 0])
 (.seq (.reg [] [
   rq 21 (.makeFunc (.func 65) #[] #[(tp 6),(tp 3),(tp 9),(tp 8),(tp 10)]) 87,rn (.store 87 (tp 10) (tp 21)) 0])
 (.seq (.reg [] [
   rq 22 (.load 87 (tp 10)) 87,rq 23 (.call ⟨.value (tp 22),#[(.const (.slice none 0 0)),(ki 0)],#[22,3]⟩) 0])
 (.seq (.reg [] [
   rq 24 (.load 22 (tp 8)) 22,rq 4 (.assign (tp 24)) 22,rq 5 (.assign (ki 0)) 28])
 (.ret)))))))))
def c31:RC:=
 .seq (.reg [] [
  rq 3 (.box 24 (tp 0)) 0,rq 6 (.assign (ki 0)) 28])
 (.seq (.reg [] [
   rq 16 (.load 24 (tp 3)) 24,rq 17 (.move (tp 1)) 22,rq 18 (.buildSlice 39 1 #[(0,(tp 17))]) 39,rq 19 (cf 43 #[(tp 16),(tp 18)] #[24,39]) 65,rq 15 (.move (tp 19)) 65,rq 20 (.extract (tp 15) 0) 64,rq 21 (.extract (tp 15) 1) 28,rq 7 (.assign (tp 20)) 64,rq 8 (.assign (tp 21)) 28])
 (.seq (.seq (.reg [] [
   rq 22 (.move (tp 8)) 28,rq 23 (.binOp .neq 28 (tp 22) (ki 0) 28) 4])
 (.cond (tp 23) (.seq (.reg [] [
   rq 24 (.move (tp 8)) 28,
   rq 6 (.assign (tp 24)) 28])
  (.ret))
 (.skip)))
 (.seq (.reg [] [
   rq 9 (.assign (ki (-1))) 3])
 (.seq (.reg [] [
   rq 10 (.assign (.const (.int .u16 0))) 74])
 (.seq (.seq (.reg [] [
   rq 25 (.move (tp 2)) 22,rq 26 (cb .len #[(tp 25)] #[22]) 3,rq 27 (.move (ki 0)) 3])
 (.block 0 (.loop (.seq (.reg [] [
   rq 28 (.binOp .lss 3 (tp 27) (tp 26) 3) 0])
   (.seq (.cond (tp 28) (.skip)
   (.exit 0))
   (.seq (.block 1 (.seq (.reg [] [
     rq 29 (.indexAddr 22 (tp 25) (tp 27)) 0,
     rq 30 (.load 3 (tp 29)) 3,
     rq 12 (.assign (tp 30)) 3])
    (.seq (.block 2 (.seq (.reg [] [
      rq 32 (.move (tp 12)) 3,
      rq 33 (.move (tp 1)) 22,
      rq 34 (cb .len #[(tp 33)] #[22]) 3,
      rq 35 (.binOp .sub 3 (tp 34) (ki 1) 3) 3,
      rq 36 (cf 59 #[(ki 0),(tp 32),(tp 35)] #[3,3,3]) 4,
      rq 37 (.unOp .not 4 (tp 36)) 4,
      rq 31 (.assign (tp 37)) 4])
     (.cond (tp 31) (.seq (.reg [] [
       rq 6 (.assign (ki 2)) 28])
      (.ret))
     (.seq (.reg [] [
       rq 39 (.move (tp 12)) 3,
       rq 40 (.move (tp 9)) 3,
       rq 41 (.binOp .leq 3 (tp 39) (tp 40) 3) 4,
       rq 38 (.assign (tp 41)) 4])
      (.cond (tp 38) (.seq (.reg [] [
        rq 6 (.assign (ki 7)) 28])
       (.ret))
      (.skip))))))
    (.seq (.reg [] [
      rq 42 (.move (tp 12)) 3,
      rq 9 (.assign (tp 42)) 3])
    (.reg [] [
      rq 43 (.move (tp 10)) 74,
      rq 44 (.move (tp 12)) 3,
      rq 45 (.binOp .shl 74 (.const (.int .u16 1)) (tp 44) 3) 74,
      rq 46 (.binOp .or 74 (tp 43) (tp 45) 74) 74,
      rq 10 (.assign (tp 46)) 74])))))
   (.reg [] [
     rq 47 (.binOp .add 3 (tp 27) (ki 1) 3) 3,
     rq 27 (.move (tp 47)) 3])))))))
 (.seq (.seq (.reg [] [
   rq 48 (.move (tp 7)) 64,rq 49 (.nilCheck (tp 48)) 0,rq 50 (.fieldAddr 69 (tp 49) 0) 0,rq 51 (.fieldAddr 24 (tp 50) 3) 0,rq 52 (.load 22 (tp 51)) 22,rq 53 (cb .len #[(tp 52)] #[22]) 3,rq 54 (.move (ki 0)) 3])
 (.block 3 (.loop (.seq (.reg [] [
   rq 55 (.binOp .lss 3 (tp 54) (tp 53) 3) 0])
   (.seq (.cond (tp 55) (.skip)
   (.exit 3))
   (.seq (.block 4 (.seq (.reg [] [
     rq 56 (.move (tp 54)) 3,
     rq 13 (.assign (tp 56)) 3])
    (.seq (.reg [] [
      rq 57 (.move (tp 7)) 64,
      rq 58 (.move (tp 1)) 22,
      rq 59 (.move (tp 13)) 3,
      rq 60 (cf 51 #[(tp 57),(tp 58),(tp 59)] #[64,22,3]) 74,
      rq 14 (.assign (tp 60)) 74])
    (.seq (.reg [] [
      rq 61 (.move (tp 14)) 74,
      rq 62 (.binOp .neq 74 (tp 61) (.const (.int .u16 0)) 74) 4,
      rq 63 (.move (tp 62)) 4,
      rg 64 (.move (tp 14)) 74 63 true,
      rg 65 (.move (tp 10)) 74 63 true,
      rg 66 (.binOp .and 74 (tp 64) (tp 65) 74) 74 63 true,
      rg 67 (.binOp .eql 74 (tp 66) (.const (.int .u16 0)) 74) 4 63 true,
      rq 68 (.pick (tp 63) (tp 67) (kb false)) 4])
    (.cond (tp 68) (.seq (.reg [] [
      rq 6 (.assign (ki 14)) 28])
     (.ret))
    (.skip))))))
   (.reg [] [
     rq 69 (.binOp .add 3 (tp 54) (ki 1) 3) 3,
     rq 54 (.move (tp 69)) 3])))))))
 (.seq (.reg [] [
   rq 6 (.assign (ki 0)) 28])
 (.ret))))))))
def c33:RC:=
 .seq (.reg [] [
  rq 4 (.assign (ki 0)) 3,rq 5 (.assign (ki 0)) 28])
 (.seq (.seq (.reg [] [
   rq 6 (.move (tp 0)) 3,rq 7 (cf 59 #[(ki 0),(tp 6),(ki 7)] #[3,3,3]) 4,rq 8 (.unOp .not 4 (tp 7)) 4,rq 9 (.move (tp 8)) 4,rg 10 (.move (tp 1)) 3 9 false,rg 11 (cf 59 #[(ki 0),(tp 10),(ki 7)] #[3,3,3]) 4 9 false,rg 12 (.unOp .not 4 (tp 11)) 4 9 false,rq 13 (.pick (tp 9) (kb true) (tp 12)) 4])
 (.cond (tp 13) (.seq (.reg [] [
   rq 4 (.assign (ki 0)) 3,
   rq 5 (.assign (ki 2)) 28])
  (.ret))
 (.skip)))
 (.seq (.reg [] [
   rq 14 (.move (tp 0)) 3,rq 15 (cf 75 #[(tp 14)] #[3]) 99,rq 16 (.move (tp 1)) 3,rq 17 (cf 75 #[(tp 16)] #[3]) 99,rq 18 (cf 76 #[(tp 15),(tp 17)] #[99,99]) 99,rq 19 (cf 77 #[(tp 18)] #[99]) 3,rq 4 (.assign (tp 19)) 3,rq 5 (.assign (ki 0)) 28])
 (.ret)))
def c34:RC:=QQ
def c36:RC:=QR
def c39:RC:=
 .seq (.reg [] [
  rq 0 (.alloc 24) 0])
 (.seq (.reg [] [
   rq 1 (.buildSlice 22 4 #[(0,(ki 0)),(1,(ki 1)),(2,(ki 2)),(3,(ki 3))]) 22,rq 2 (cf 40 #[(tp 1)] #[22]) 22,rq 3 (.build 24 #[(0,(ki 2)),(1,(ki 2)),(2,(ki 2)),(3,(tp 2))]) 24,rn (.store 24 (tp 0) (tp 3)) 0])
 (.ret))
def c40:RC:=
 .seq (.reg [] [
  rq 2 (.assign (.const (.slice none 0 0))) 22])
 (.seq (.reg [] [
   rq 3 (.move (tp 0)) 22,rq 2 (.assign (tp 3)) 22])
 (.ret))
def c41:RC:=
 .seq (.reg [] [
  rq 0 (.alloc 24) 0])
 (.seq (.reg [] [
   rq 1 (.buildSlice 22 2 #[(0,(ki 0)),(1,(ki 2))]) 22,rq 2 (cf 40 #[(tp 1)] #[22]) 22,rq 3 (.build 24 #[(0,(ki 2)),(1,(ki 3)),(2,(ki 2)),(3,(tp 2))]) 24,rn (.store 24 (tp 0) (tp 3)) 0])
 (.ret))
def c42:RC:=
 .seq (.reg [] [
  rq 2 (.assign (.const (.slice none 0 0))) 39])
 (.seq (.reg [] [
   rq 3 (.move (tp 0)) 39,rq 2 (.assign (tp 3)) 39])
 (.ret))
def c43:RC:=QS
def c44:RC:=RO
def c45:RC:=RP
def c47:RC:=RQ
def c48:RC:=Kh
def c49:RC:=RS
def c50:RC:=RU
def c51:RC:=
 .seq (.reg [] [
  rq 6 (.assign (.const (.int .u16 0))) 74])
 (.seq (.reg [] [
   rq 7 (.assign (.const (.int .u16 0))) 74])
 (.seq (.seq (.reg [] [
   rq 10 (.move (tp 0)) 64,rq 11 (.nilCheck (tp 10)) 0,rq 12 (.fieldAddr 69 (tp 11) 1) 0,rq 13 (.load 39 (tp 12)) 39,rq 14 (.move (tp 2)) 3,rq 15 (.indexAddr 39 (tp 13) (tp 14)) 0,rq 16 (.load 22 (tp 15)) 22,rq 17 (cb .len #[(tp 16)] #[22]) 3,rq 18 (.move (ki 0)) 3])
 (.block 0 (.loop (.seq (.reg [] [
   rq 19 (.binOp .lss 3 (tp 18) (tp 17) 3) 0])
   (.seq (.cond (tp 19) (.skip)
   (.exit 0))
   (.seq (.block 1 (.seq (.reg [] [
     rq 20 (.move (tp 18)) 3,
     rq 21 (.indexAddr 22 (tp 16) (tp 18)) 0,
     rq 22 (.load 3 (tp 21)) 3,
     rq 8 (.assign (tp 20)) 3,
     rq 9 (.assign (tp 22)) 3])
    (.seq (.reg [0, 1, 2, 3, 4, 5, 6, 7, 8] [
      rq 23 (.move (tp 1)) 22,
      rq 24 (.move (tp 9)) 3,
      rq 25 (.indexAddr 22 (tp 23) (tp 24)) 0,
      rq 26 (.load 3 (tp 25)) 3,
      rq 27 (.move (tp 1)) 22,
      rq 28 (.move (tp 8)) 3,
      rq 29 (.indexAddr 22 (tp 27) (tp 28)) 0,
      rq 30 (.load 3 (tp 29)) 3,
      rq 31 (.binOp .neq 3 (tp 26) (tp 30) 3) 4])
    (.cond (tp 31) (.reg [] [
      rq 32 (.move (tp 7)) 74,
      rq 33 (.move (tp 8)) 3,
      rq 34 (.binOp .shl 74 (.const (.int .u16 1)) (tp 33) 3) 74,
      rq 35 (.binOp .or 74 (tp 32) (tp 34) 74) 74,
      rq 7 (.assign (tp 35)) 74])
    (.skip)))))
   (.reg [] [
     rq 36 (.binOp .add 3 (tp 18) (ki 1) 3) 3,
     rq 18 (.move (tp 36)) 3])))))))
 (.seq (.reg [] [
   rq 37 (.move (tp 7)) 74,rq 6 (.assign (tp 37)) 74])
 (.ret))))
def c52:RC:=
 .seq (.reg [] [
  rq 4 (.assign (.const (.slice none 0 0))) 39])
 (.seq (.reg [] [
   rq 5 (.assign (.const (.slice none 0 0))) 39])
 (.seq (.seq (.reg [] [
   rq 7 (.move (tp 0)) 64,rq 8 (.nilCheck (tp 7)) 0,rq 9 (.fieldAddr 69 (tp 8) 0) 0,rq 10 (.fieldAddr 24 (tp 9) 3) 0,rq 11 (.load 22 (tp 10)) 22,rq 12 (cb .len #[(tp 11)] #[22]) 3,rq 13 (.move (ki 0)) 3])
 (.block 0 (.loop (.seq (.reg [] [
   rq 14 (.binOp .lss 3 (tp 13) (tp 12) 3) 0])
   (.seq (.cond (tp 14) (.skip)
   (.exit 0))
   (.seq (.block 1 (.seq (.reg [] [
     rq 15 (.move (tp 13)) 3,
     rq 6 (.assign (tp 15)) 3])
    (.reg [] [
      rq 16 (.move (tp 5)) 39,
      rq 17 (.move (tp 0)) 64,
      rq 18 (.move (tp 1)) 22,
      rq 19 (.move (tp 6)) 3,
      rq 20 (cf 45 #[(tp 17),(tp 18),(tp 19)] #[64,22,3]) 22,
      rq 21 (.buildSlice 39 1 #[(0,(tp 20))]) 39,
      rq 22 (cb .append #[(tp 16),(tp 21)] #[39,39]) 39,
      rq 5 (.assign (tp 22)) 39])))
   (.reg [] [
     rq 23 (.binOp .add 3 (tp 13) (ki 1) 3) 3,
     rq 13 (.move (tp 23)) 3])))))))
 (.seq (.reg [] [
   rq 24 (.move (tp 5)) 39,rq 25 (cf 82 #[(tp 24),(.func 70)] #[39,86]) 0])
 (.seq (.reg [] [
   rq 26 (.move (tp 5)) 39,rq 27 (cf 83 #[(tp 26),(.func 49)] #[39,37]) 39,rq 4 (.assign (tp 27)) 39])
 (.ret)))))
def c55:RC:=RV
def c56:RC:=RX
def c57:RC:=RY
def c58:RC:=RZ
def c59:RC:=Xb
def c60:RC:=R4
def c61:RC:=R5
def c62:RC:=Xc
def c63:RC:=R6
def c64:RC:=Nh
def c65:RC:=
 .seq (.block 0 (.loop (.seq (.seq (.reg [] [
  rq 12 (.move (tp 1)) 3,
  rq 13 (.load 64 (tp 2)) 64,
  rq 14 (.nilCheck (tp 13)) 0,
  rq 15 (.fieldAddr 69 (tp 14) 0) 0,
  rq 16 (.fieldAddr 24 (tp 15) 3) 0,
  rq 17 (.load 22 (tp 16)) 22,
  rq 18 (cb .len #[(tp 17)] #[22]) 3,
  rq 19 (.binOp .lss 3 (tp 12) (tp 18) 3) 4])
  (.cond (tp 19) (.skip)
  (.exit 0)))
  (.block 1 (.seq (.reg [] [
    rq 20 (.load 64 (tp 2)) 64,
    rq 21 (.load 22 (tp 3)) 22,
    rq 22 (.move (tp 1)) 3,
    rq 23 (cf 51 #[(tp 20),(tp 21),(tp 22)] #[64,22,3]) 74,
    rq 9 (.alloc 74) 0,
    rn (.store 74 (tp 9) (tp 23)) 0])
   (.seq (.seq (.reg [] [
     rq 24 (.load 74 (tp 9)) 74,
     rq 25 (.binOp .neq 74 (tp 24) (.const (.int .u16 0)) 74) 4,
     rq 26 (.move (tp 25)) 4,
     rg 27 (.move (tp 0)) 22 26 true,
     rg 28 (.makeFunc (.func 67) #[] #[(tp 9)]) 89 26 true,
     rg 29 (cf 66 #[(tp 27),(tp 28)] #[22,89]) 4 26 true,
     rg 30 (.unOp .not 4 (tp 29)) 4 26 true,
     rq 31 (.pick (tp 26) (tp 30) (kb false)) 4])
   (.cond (tp 31) (.exit 0)
   (.skip)))
   (.reg [] [
     rq 32 (.move (tp 1)) 3,
     rq 33 (.binOp .add 3 (tp 32) (ki 1) 3) 3,
     rq 1 (.assign (tp 33)) 3])))))))
 (.seq (.seq (.reg [] [
   rq 34 (.move (tp 1)) 3,rq 35 (.load 64 (tp 2)) 64,rq 36 (.nilCheck (tp 35)) 0,rq 37 (.fieldAddr 69 (tp 36) 0) 0,rq 38 (.fieldAddr 24 (tp 37) 3) 0,rq 39 (.load 22 (tp 38)) 22,rq 40 (cb .len #[(tp 39)] #[22]) 3,rq 41 (.binOp .eql 3 (tp 34) (tp 40) 3) 4])
 (.cond (tp 41) (.seq (.reg [] [
   rq 42 (.move (tp 0)) 22,
   rq 43 (cf 69 #[(tp 42)] #[22]) 92,
   rq 44 (cf 68 #[(tp 43)] #[92]) 22,
   rq 10 (.assign (tp 44)) 22])
  (.seq (.seq (.reg [] [
    rq 45 (.move (tp 10)) 22,
    rq 46 (cb .len #[(tp 45)] #[22]) 3,
    rq 47 (.load 3 (tp 4)) 3,
    rq 48 (.binOp .lss 3 (tp 46) (tp 47) 3) 4,
    rq 49 (.move (tp 48)) 4,
    rg 50 (.move (tp 10)) 22 49 false,
    rg 51 (cb .len #[(tp 50)] #[22]) 3 49 false,
    rg 52 (.load 3 (tp 4)) 3 49 false,
    rg 53 (.binOp .eql 3 (tp 51) (tp 52) 3) 4 49 false,
    rg 54 (.move (tp 53)) 4 49 false,
    rg 55 (.move (tp 10)) 22 54 true,
    rg 56 (.load 22 (tp 5)) 22 54 true,
    rg 57 (cf 70 #[(tp 55),(tp 56)] #[22,22]) 3 54 true,
    rg 58 (.binOp .lss 3 (tp 57) (ki 0) 3) 4 54 true,
    rg 59 (.pick (tp 54) (tp 58) (kb false)) 4 49 false,
    rq 60 (.pick (tp 49) (kb true) (tp 59)) 4])
  (.cond (tp 60) (.reg [] [
    rq 61 (.move (tp 10)) 22,
    rq 62 (.move (tp 10)) 22,
    rq 63 (cb .len #[(tp 62)] #[22]) 3,
    rn (.store 22 (tp 5) (tp 61)) 0,
    rn (.store 3 (tp 4) (tp 63)) 0])
  (.skip)))
  (.ret)))
 (.skip)))
 (.seq (.seq (.reg [] [
   rq 64 (.move (tp 0)) 22,rq 65 (cb .len #[(tp 64)] #[22]) 3,rq 66 (.load 3 (tp 4)) 3,rq 67 (.binOp .eql 3 (tp 65) (tp 66) 3) 4])
 (.cond (tp 67) (.ret)
 (.skip)))
 (.seq (.reg [] [
   rq 68 (.load 64 (tp 2)) 64,rq 69 (.load 22 (tp 3)) 22,rq 70 (.move (tp 1)) 3,rq 71 (cf 51 #[(tp 68),(tp 69),(tp 70)] #[64,22,3]) 74,rq 11 (.assign (tp 71)) 74])
 (.block 2 (.loop (.seq (.seq (.reg [] [
   rq 72 (.move (tp 11)) 74,
   rq 73 (.binOp .neq 74 (tp 72) (.const (.int .u16 0)) 74) 4])
   (.cond (tp 73) (.skip)
   (.exit 2)))
   (.seq (.block 3 (.reg [0, 1, 3, 7, 8, 2, 4, 5, 6, 9] [
     rq 78 (.load 87 (tp 6)) 87,
     rq 79 (.move (tp 0)) 22,
     rq 81 (.move (tp 11)) 74,
     rq 85 (.move (tp 1)) 3,
     rq 86 (.binOp .add 3 (tp 85) (ki 1) 3) 3,
     ⟨(some 80),cf 71 #[(tp 79)] #[22],22,none,[(tp 6)]⟩,
     ⟨(some 82),cf 72 #[(tp 81)] #[74],3,none,[(tp 6)]⟩,
     rq 83 (.buildSlice 22 1 #[(0,(tp 82))]) 22,
     ⟨(some 84),cb .append #[(tp 80),(tp 83)] #[22,22],22,none,[(tp 6)]⟩,
     rq 87 (.call ⟨.value (tp 78),#[(tp 84),(tp 86)],#[22,3]⟩) 0]))
   (.reg [] [
     rq 74 (.move (tp 11)) 74,
     rq 75 (.move (tp 11)) 74,
     rq 76 (.binOp .sub 74 (tp 75) (.const (.int .u16 1)) 74) 74,
     rq 77 (.binOp .and 74 (tp 74) (tp 76) 74) 74,
     rq 11 (.assign (tp 77)) 74]))))))))
def c66:RC:=
 .seq (.reg [] [
  rq 4 (.assign (kb false)) 4])
 (.seq (.reg [] [
   rq 5 (.move (tp 0)) 22,rq 6 (.move (tp 1)) 89,rq 7 (cf 86 #[(tp 5),(tp 6)] #[22,89]) 3,rq 8 (.binOp .geq 3 (tp 7) (ki 0) 3) 4,rq 4 (.assign (tp 8)) 4])
 (.ret))
def c67:RC:=
 .seq (.reg [] [
  rq 3 (.assign (kb false)) 4])
 (.seq (.reg [] [
   rq 4 (.load 74 (tp 1)) 74,rq 5 (.move (tp 0)) 3,rq 6 (.binOp .shr 74 (tp 4) (tp 5) 3) 74,rq 7 (.binOp .and 74 (tp 6) (.const (.int .u16 1)) 74) 74,rq 8 (.binOp .eql 74 (tp 7) (.const (.int .u16 1)) 74) 4,rq 3 (.assign (tp 8)) 4])
 (.ret))
def c68:RC:=
 .seq (.reg [] [
  rq 2 (.assign (.const (.slice none 0 0))) 22])
 (.seq (.reg [] [
   rq 4 (.move (tp 0)) 92,rq 5 (cf 87 #[(tp 4)] #[92]) 22,rq 3 (.assign (tp 5)) 22])
 (.seq (.reg [] [
   rq 6 (.move (tp 3)) 22,rq 7 (cf 88 #[(tp 6)] #[22]) 0])
 (.seq (.reg [] [
   rq 8 (.move (tp 3)) 22,rq 2 (.assign (tp 8)) 22])
 (.ret))))
def c69:RC:=
 .seq (.reg [] [
  rq 1 (.box 22 (tp 0)) 0,rq 2 (.assign (.const .nilFunc)) 92])
 (.seq (.reg [] [
   rq 3 (.makeFunc (.func 89) #[] #[(tp 1)]) 91,rq 2 (.assign (tp 3)) 92])
 (.ret))
def c70:RC:=
 .seq (.reg [] [
  rq 4 (.assign (ki 0)) 3])
 (.seq (.seq (.reg [] [
   rq 9 (.move (tp 0)) 22,rq 10 (cb .len #[(tp 9)] #[22]) 3,rq 11 (.move (ki 0)) 3])
 (.block 0 (.loop (.seq (.reg [] [
   rq 12 (.binOp .lss 3 (tp 11) (tp 10) 3) 0])
   (.seq (.cond (tp 12) (.skip)
   (.exit 0))
   (.seq (.block 1 (.seq (.reg [] [
     rq 13 (.move (tp 11)) 3,
     rq 14 (.indexAddr 22 (tp 9) (tp 11)) 0,
     rq 15 (.load 3 (tp 14)) 3,
     rq 5 (.assign (tp 13)) 3,
     rq 6 (.assign (tp 15)) 3])
    (.seq (.seq (.reg [] [
      rq 16 (.move (tp 5)) 3,
      rq 17 (.move (tp 1)) 22,
      rq 18 (cb .len #[(tp 17)] #[22]) 3,
      rq 19 (.binOp .geq 3 (tp 16) (tp 18) 3) 4])
    (.cond (tp 19) (.seq (.reg [] [
      rq 4 (.assign (ki 1)) 3])
     (.ret))
    (.skip)))
    (.seq (.reg [] [
      rq 20 (.move (tp 1)) 22,
      rq 21 (.move (tp 5)) 3,
      rq 22 (.indexAddr 22 (tp 20) (tp 21)) 0,
      rq 23 (.load 3 (tp 22)) 3,
      rq 7 (.assign (tp 23)) 3])
    (.seq (.reg [] [
      rq 24 (.move (tp 6)) 3,
      rq 25 (.move (tp 7)) 3,
      rq 26 (cf 90 #[(tp 24),(tp 25)] #[3,3]) 3,
      rq 8 (.assign (tp 26)) 3])
    (.seq (.reg [] [
      rq 27 (.move (tp 8)) 3,
      rq 28 (.binOp .neq 3 (tp 27) (ki 0) 3) 4])
    (.cond (tp 28) (.seq (.reg [] [
      rq 29 (.move (tp 8)) 3,
      rq 4 (.assign (tp 29)) 3])
     (.ret))
    (.skip))))))))
   (.reg [] [
     rq 30 (.binOp .add 3 (tp 11) (ki 1) 3) 3,
     rq 11 (.move (tp 30)) 3])))))))
 (.seq (.seq (.reg [] [
   rq 31 (.move (tp 0)) 22,rq 32 (cb .len #[(tp 31)] #[22]) 3,rq 33 (.move (tp 1)) 22,rq 34 (cb .len #[(tp 33)] #[22]) 3,rq 35 (.binOp .lss 3 (tp 32) (tp 34) 3) 4])
 (.cond (tp 35) (.seq (.reg [] [
   rq 4 (.assign (ki (-1))) 3])
  (.ret))
 (.skip)))
 (.seq (.reg [] [
   rq 4 (.assign (ki 0)) 3])
 (.ret))))
def c71:RC:=
 .seq (.reg [] [
  rq 2 (.assign (.const (.slice none 0 0))) 22])
 (.seq (.reg [] [
   rq 3 (.move (tp 0)) 22,rq 4 (.move (tp 0)) 22,rq 5 (cb .len #[(tp 4)] #[22]) 3,rq 6 (.move (tp 0)) 22,rq 7 (cb .len #[(tp 6)] #[22]) 3,rq 8 (.slice 22 (tp 3) none (some (tp 5)) (some (tp 7))) 22,rq 2 (.assign (tp 8)) 22])
 (.ret))
def c72:RC:=
 .seq (.reg [] [
  rq 2 (.assign (ki 0)) 3])
 (.seq (.seq (.reg [] [
   rq 3 (.move (tp 0)) 74,rq 4 (.binOp .eql 74 (tp 3) (.const (.int .u16 0)) 74) 4])
 (.cond (tp 4) (.seq (.reg [] [
   rq 2 (.assign (ki 16)) 3])
  (.ret))
 (.skip)))
 (.seq (.reg [] [
   rq 5 (.move (tp 0)) 74,rq 6 (.move (tp 0)) 74,rq 7 (.unOp .neg 74 (tp 6)) 74,rq 8 (.binOp .and 74 (tp 5) (tp 7) 74) 74,rq 9 (.convert 74 113 (tp 8)) 113,rq 10 (.binOp .mul 113 (tp 9) (.const (.int .u32 125613361)) 113) 113,rq 11 (.binOp .shr 113 (tp 10) (.const (.int .u64 27)) 114) 113,rq 12 (.indexAddr 112 (.global 0) (tp 11)) 0,rq 13 (.load 5 (tp 12)) 5,rq 14 (.convert 5 3 (tp 13)) 3,rq 2 (.assign (tp 14)) 3])
 (.ret)))
def c75:RC:=R7
def c76:RC:=Xd
def c77:RC:=R8
def c79:RC:=
 .seq (.reg [] [
  rq 2 (.assign (.const (.slice none 0 0))) 22])
 (.seq (.seq (.reg [] [
   rq 3 (.move (tp 0)) 22,rq 4 (.binOp .eql 22 (tp 3) (.const (.slice none 0 0)) 22) 4])
 (.cond (tp 4) (.seq (.reg [] [
   rq 2 (.assign (.const (.slice none 0 0))) 22])
  (.ret))
 (.skip)))
 (.seq (.reg [] [
   rq 5 (.buildSlice 22 0 #[]) 22,rq 6 (.move (tp 0)) 22,rq 7 (cb .append #[(tp 5),(tp 6)] #[22,22]) 22,rq 2 (.assign (tp 7)) 22])
 (.ret)))
def c80:RC:=R9
def c81:RC:=Xe
def c82:RC:=
 .seq (.reg [] [
  rq 5 (.move (tp 0)) 39,rq 6 (cb .len #[(tp 5)] #[39]) 3,rq 4 (.assign (tp 6)) 3])
 (.reg [] [
   rq 7 (.move (tp 0)) 39,rq 8 (.move (tp 4)) 3,rq 9 (.move (tp 4)) 3,rq 10 (.convert 3 114 (tp 9)) 114,rq 11 (cf 95 #[(tp 10)] #[114]) 3,rq 12 (.move (tp 1)) 86,rq 13 (cf 94 #[(tp 7),(ki 0),(tp 8),(tp 11),(tp 12)] #[39,3,3,3,86]) 0])
def c83:RC:=
 .seq (.reg [] [
  rq 4 (.assign (.const (.slice none 0 0))) 39])
 (.seq (.seq (.reg [] [
   rq 8 (.move (tp 0)) 39,rq 9 (cb .len #[(tp 8)] #[39]) 3,rq 10 (.binOp .lss 3 (tp 9) (ki 2) 3) 4])
 (.cond (tp 10) (.seq (.reg [] [
   rq 11 (.move (tp 0)) 39,
   rq 4 (.assign (tp 11)) 39])
  (.ret))
 (.skip)))
 (.seq (.seq (.reg [] [
   rq 5 (.assign (ki 1)) 3])
 (.block 0 (.loop (.seq (.seq (.reg [] [
   rq 12 (.move (tp 5)) 3,
   rq 13 (.move (tp 0)) 39,
   rq 14 (cb .len #[(tp 13)] #[39]) 3,
   rq 15 (.binOp .lss 3 (tp 12) (tp 14) 3) 4])
   (.cond (tp 15) (.skip)
   (.exit 0)))
   (.seq (.block 1 (.seq (.reg [0, 1, 2, 3, 4, 5, 6, 7, 8, 9, 10] [
     rq 18 (.move (tp 1)) 37,
     rq 19 (.move (tp 0)) 39,
     rq 20 (.move (tp 5)) 3,
     rq 21 (.indexAddr 39 (tp 19) (tp 20)) 0,
     rq 22 (.load 22 (tp 21)) 22,
     rq 23 (.move (tp 0)) 39,
     rq 24 (.move (tp 5)) 3,
     rq 25 (.binOp .sub 3 (tp 24) (ki 1) 3) 3,
     rq 26 (.indexAddr 39 (tp 23) (tp 25)) 0,
     rq 27 (.load 22 (tp 26)) 22,
     rq 28 (.call ⟨.value (tp 18),#[(tp 22),(tp 27)],#[22,22]⟩) 4])
    (.cond (tp 28) (.seq (.reg [] [
      rq 29 (.move (tp 0)) 39,
      rq 30 (.move (tp 5)) 3,
      rq 31 (.slice 39 (tp 29) (some (tp 30)) none none) 39,
      rq 6 (.assign (tp 31)) 39])
     (.seq (.seq (.reg [] [
       rq 7 (.assign (ki 1)) 3])
     (.block 2 (.loop (.seq (.seq (.reg [] [
       rq 32 (.move (tp 7)) 3,
       rq 33 (.move (tp 6)) 39,
       rq 34 (cb .len #[(tp 33)] #[39]) 3,
       rq 35 (.binOp .lss 3 (tp 32) (tp 34) 3) 4])
       (.cond (tp 35) (.skip)
       (.exit 2)))
       (.seq (.block 3 (.seq (.reg [0, 1, 2, 3, 4, 5, 6, 7, 8, 9, 10, 11] [
         rq 38 (.move (tp 1)) 37,
         rq 39 (.move (tp 6)) 39,
         rq 40 (.move (tp 7)) 3,
         rq 41 (.indexAddr 39 (tp 39) (tp 40)) 0,
         rq 42 (.load 22 (tp 41)) 22,
         rq 43 (.move (tp 6)) 39,
         rq 44 (.move (tp 7)) 3,
         rq 45 (.binOp .sub 3 (tp 44) (ki 1) 3) 3,
         rq 46 (.indexAddr 39 (tp 43) (tp 45)) 0,
         rq 47 (.load 22 (tp 46)) 22,
         rq 48 (.call ⟨.value (tp 38),#[(tp 42),(tp 47)],#[22,22]⟩) 4,
         rq 49 (.unOp .not 4 (tp 48)) 4])
        (.cond (tp 49) (.seq (.reg [] [
          rq 50 (.move (tp 0)) 39,
          rq 51 (.move (tp 5)) 3,
          rq 52 (.move (tp 6)) 39,
          rq 53 (.move (tp 7)) 3,
          rq 54 (.indexAddr 39 (tp 52) (tp 53)) 0,
          rq 55 (.load 22 (tp 54)) 22,
          rq 56 (.indexAddr 39 (tp 50) (tp 51)) 0,
          rn (.store 22 (tp 56) (tp 55)) 0])
         (.reg [] [
           rq 57 (.move (tp 5)) 3,
           rq 58 (.binOp .add 3 (tp 57) (ki 1) 3) 3,
           rq 5 (.assign (tp 58)) 3]))
        (.skip))))
       (.reg [] [
         rq 36 (.move (tp 7)) 3,
         rq 37 (.binOp .add 3 (tp 36) (ki 1) 3) 3,
         rq 7 (.assign (tp 37)) 3]))))))
     (.seq (.reg [] [
       rq 59 (.move (tp 0)) 39,
       rq 60 (.move (tp 5)) 3,
       rq 61 (.slice 39 (tp 59) (some (tp 60)) none none) 39,
       rn (cb .clear #[(tp 61)] #[39]) 0])
     (.seq (.reg [] [
       rq 62 (.move (tp 0)) 39,
       rq 63 (.move (tp 5)) 3,
       rq 64 (.slice 39 (tp 62) none (some (tp 63)) none) 39,
       rq 4 (.assign (tp 64)) 39])
     (.ret)))))
    (.skip))))
   (.reg [] [
     rq 16 (.move (tp 5)) 3,
     rq 17 (.binOp .add 3 (tp 16) (ki 1) 3) 3,
     rq 5 (.assign (tp 17)) 3]))))))
 (.seq (.reg [] [
   rq 65 (.move (tp 0)) 39,rq 4 (.assign (tp 65)) 39])
 (.ret))))
def c84:RC:=
 .seq (.reg [] [
  rq 2 (.box 24 (tp 0)) 0,rq 4 (.assign (.const (.slice none 0 0))) 22])
 (.seq (.reg [] [
   rq 8 (.fieldAddr 24 (tp 2) 0) 0,rq 9 (.load 3 (tp 8)) 3,rq 10 (.fieldAddr 24 (tp 2) 1) 0,rq 11 (.load 3 (tp 10)) 3,rq 12 (.binOp .mul 3 (tp 9) (tp 11) 3) 3,rq 13 (.makeSlice 22 (tp 12) (tp 12)) 22,rq 5 (.assign (tp 13)) 22])
 (.seq (.seq (.reg [] [
   rq 14 (.move (tp 5)) 22,rq 15 (cb .len #[(tp 14)] #[22]) 3,rq 16 (.move (ki 0)) 3])
 (.block 0 (.loop (.seq (.reg [] [
   rq 17 (.binOp .lss 3 (tp 16) (tp 15) 3) 0])
   (.seq (.cond (tp 17) (.skip)
   (.exit 0))
   (.seq (.block 1 (.seq (.reg [] [
     rq 18 (.move (tp 16)) 3,
     rq 6 (.assign (tp 18)) 3])
    (.reg [] [
      rq 19 (.move (tp 5)) 22,
      rq 20 (.move (tp 6)) 3,
      rq 21 (.move (tp 6)) 3,
      rq 22 (.indexAddr 22 (tp 19) (tp 20)) 0,
      rn (.store 3 (tp 22) (tp 21)) 0])))
   (.reg [] [
     rq 23 (.binOp .add 3 (tp 16) (ki 1) 3) 3,
     rq 16 (.move (tp 23)) 3])))))))
 (.seq (.reg [] [
   rq 24 (.move (tp 1)) 3,rq 25 (cf 75 #[(tp 24)] #[3]) 99,rq 7 (.alloc 99) 0,rn (.store 99 (tp 7) (tp 25)) 0])
 (.seq (.seq (.reg [] [
   rq 26 (.fieldAddr 99 (tp 7) 0) 0,rq 27 (.load 3 (tp 26)) 3,rq 28 (.binOp .eql 3 (tp 27) (ki 2) 3) 4])
 (.cond (tp 28) (.reg [] [
   rq 29 (.move (tp 5)) 22,
   rq 30 (cf 96 #[(tp 29)] #[22]) 0])
 (.seq (.reg [] [
   rq 31 (.fieldAddr 99 (tp 7) 0) 0,
   rq 32 (.load 3 (tp 31)) 3,
   rq 33 (.move (ki 0)) 3])
  (.block 2 (.loop (.seq (.reg [] [
    rq 34 (.binOp .lss 3 (tp 33) (tp 32) 3) 4])
    (.seq (.cond (tp 34) (.skip)
    (.exit 2))
    (.seq (.block 3 (.reg [] [
      rq 35 (.move (tp 5)) 22,
      rq 36 (.fieldAddr 24 (tp 2) 0) 0,
      rq 37 (.load 3 (tp 36)) 3,
      rq 38 (cf 97 #[(tp 35),(tp 37)] #[22,3]) 22,
      rq 5 (.assign (tp 38)) 22]))
    (.reg [] [
      rq 39 (.binOp .add 3 (tp 33) (ki 1) 3) 3,
      rq 33 (.move (tp 39)) 3])))))))))
 (.seq (.seq (.reg [] [
   rq 40 (.fieldAddr 99 (tp 7) 1) 0,rq 41 (.load 4 (tp 40)) 4])
 (.cond (tp 41) (.reg [] [
   rq 42 (.move (tp 5)) 22,
   rq 43 (.fieldAddr 24 (tp 2) 1) 0,
   rq 44 (.load 3 (tp 43)) 3,
   rq 45 (cf 98 #[(tp 42),(tp 44)] #[22,3]) 22,
   rq 5 (.assign (tp 45)) 22])
 (.skip)))
 (.seq (.reg [] [
   rq 46 (.move (tp 5)) 22,rq 4 (.assign (tp 46)) 22])
 (.ret)))))))
def c85:RC:=Ni
def c86:RC:=
 .seq (.reg [] [
  rq 4 (.assign (ki 0)) 3])
 (.seq (.seq (.reg [] [
   rq 6 (.move (tp 0)) 22,rq 7 (cb .len #[(tp 6)] #[22]) 3,rq 8 (.move (ki 0)) 3])
 (.block 0 (.loop (.seq (.reg [] [
   rq 9 (.binOp .lss 3 (tp 8) (tp 7) 3) 0])
   (.seq (.cond (tp 9) (.skip)
   (.exit 0))
   (.seq (.block 1 (.seq (.reg [] [
     rq 10 (.move (tp 8)) 3,
     rq 5 (.assign (tp 10)) 3])
    (.seq (.reg [] [
      rq 11 (.move (tp 1)) 89,
      rq 12 (.move (tp 0)) 22,
      rq 13 (.move (tp 5)) 3,
      rq 14 (.indexAddr 22 (tp 12) (tp 13)) 0,
      rq 15 (.load 3 (tp 14)) 3,
      rq 16 (.call ⟨.value (tp 11),#[(tp 15)],#[3]⟩) 4])
    (.cond (tp 16) (.seq (.reg [] [
      rq 17 (.move (tp 5)) 3,
      rq 4 (.assign (tp 17)) 3])
     (.ret))
    (.skip)))))
   (.reg [] [
     rq 18 (.binOp .add 3 (tp 8) (ki 1) 3) 3,
     rq 8 (.move (tp 18)) 3])))))))
 (.seq (.reg [] [
   rq 4 (.assign (ki (-1))) 3])
 (.ret)))
def c87:RC:=
 .seq (.reg [] [
  rq 2 (.assign (.const (.slice none 0 0))) 22])
 (.seq (.reg [] [
   rq 3 (.move (tp 0)) 92,rq 4 (cf 99 #[(.const (.slice none 0 0)),(tp 3)] #[22,92]) 22,rq 2 (.assign (tp 4)) 22])
 (.ret))
def c88:RC:=
 .seq (.reg [] [
  rq 3 (.move (tp 0)) 22,rq 4 (cb .len #[(tp 3)] #[22]) 3,rq 2 (.assign (tp 4)) 3])
 (.reg [] [
   rq 5 (.move (tp 0)) 22,rq 6 (.move (tp 2)) 3,rq 7 (.move (tp 2)) 3,rq 8 (.convert 3 114 (tp 7)) 114,rq 9 (cf 95 #[(tp 8)] #[114]) 3,rq 10 (cf 100 #[(tp 5),(ki 0),(tp 6),(tp 9)] #[22,3,3,3]) 0])
def c89:RC:=
 .seq (.reg [] [
  rq 5 (.load 22 (tp 1)) 22,rq 6 (cb .len #[(tp 5)] #[22]) 3,rq 7 (.move (ki 0)) 3])
 (.block 0 (.loop (.seq (.reg [] [
   rq 8 (.binOp .lss 3 (tp 7) (tp 6) 3) 0])
   (.seq (.cond (tp 8) (.skip)
   (.exit 0))
   (.seq (.block 1 (.seq (.reg [] [
     rq 9 (.indexAddr 22 (tp 5) (tp 7)) 0,
     rq 10 (.load 3 (tp 9)) 3,
     rq 4 (.assign (tp 10)) 3])
    (.seq (.reg [] [
      rq 11 (.move (tp 0)) 89,
      rq 12 (.move (tp 4)) 3,
      rq 13 (.call ⟨.value (tp 11),#[(tp 12)],#[3]⟩) 4,
      rq 14 (.unOp .not 4 (tp 13)) 4])
    (.cond (tp 14) (.ret)
    (.skip)))))
   (.reg [] [
     rq 15 (.binOp .add 3 (tp 7) (ki 1) 3) 3,
     rq 7 (.move (tp 15)) 3]))))))
def c90:RC:=
 .seq (.reg [] [
  rq 4 (.assign (ki 0)) 3])
 (.seq (.reg [] [
   rq 7 (.move (tp 0)) 3,rq 8 (cf 101 #[(tp 7)] #[3]) 4,rq 5 (.assign (tp 8)) 4])
 (.seq (.reg [] [
   rq 9 (.move (tp 1)) 3,rq 10 (cf 101 #[(tp 9)] #[3]) 4,rq 6 (.assign (tp 10)) 4])
 (.seq (.seq (.reg [] [
   rq 11 (.move (tp 5)) 4])
 (.cond (tp 11) (.seq (.seq (.reg [] [
   rq 12 (.move (tp 6)) 4])
  (.cond (tp 12) (.seq (.reg [] [
    rq 4 (.assign (ki 0)) 3])
   (.ret))
  (.skip)))
  (.seq (.reg [] [
    rq 4 (.assign (ki (-1))) 3])
  (.ret)))
 (.skip)))
 (.seq (.seq (.reg [] [
   rq 13 (.move (tp 6)) 4])
 (.cond (tp 13) (.seq (.reg [] [
   rq 4 (.assign (ki 1)) 3])
  (.ret))
 (.skip)))
 (.seq (.seq (.reg [] [
   rq 14 (.move (tp 0)) 3,rq 15 (.move (tp 1)) 3,rq 16 (.binOp .lss 3 (tp 14) (tp 15) 3) 4])
 (.cond (tp 16) (.seq (.reg [] [
   rq 4 (.assign (ki (-1))) 3])
  (.ret))
 (.skip)))
 (.seq (.seq (.reg [] [
   rq 17 (.move (tp 0)) 3,rq 18 (.move (tp 1)) 3,rq 19 (.binOp .gtr 3 (tp 17) (tp 18) 3) 4])
 (.cond (tp 19) (.seq (.reg [] [
   rq 4 (.assign (ki 1)) 3])
  (.ret))
 (.skip)))
 (.seq (.reg [] [
   rq 4 (.assign (ki 0)) 3])
 (.ret))))))))
def c91:RC:=Sa
def c92:RC:=Sb
def c93:RC:=Sc
def c94:RC:=
 .seq (.reg [] [
  rq 10 (.assign (kb true)) 4])
 (.seq (.reg [] [
   rq 11 (.assign (kb true)) 4])
 (.block 0 (.loop (.block 1 (.seq (.reg [] [
   rq 21 (.move (tp 2)) 3,
   rq 22 (.move (tp 1)) 3,
   rq 23 (.binOp .sub 3 (tp 21) (tp 22) 3) 3,
   rq 12 (.assign (tp 23)) 3])
   (.seq (.seq (.reg [] [
     rq 24 (.move (tp 12)) 3,
     rq 25 (.binOp .leq 3 (tp 24) (ki 12) 3) 4])
   (.cond (tp 25) (.seq (.reg [] [
     rq 26 (.move (tp 0)) 39,
     rq 27 (.move (tp 1)) 3,
     rq 28 (.move (tp 2)) 3,
     rq 29 (.move (tp 4)) 86,
     rq 30 (cf 102 #[(tp 26),(tp 27),(tp 28),(tp 29)] #[39,3,3,86]) 0])
    (.ret))
   (.skip)))
   (.seq (.seq (.reg [] [
     rq 31 (.move (tp 3)) 3,
     rq 32 (.binOp .eql 3 (tp 31) (ki 0) 3) 4])
   (.cond (tp 32) (.seq (.reg [] [
     rq 33 (.move (tp 0)) 39,
     rq 34 (.move (tp 1)) 3,
     rq 35 (.move (tp 2)) 3,
     rq 36 (.move (tp 4)) 86,
     rq 37 (cf 103 #[(tp 33),(tp 34),(tp 35),(tp 36)] #[39,3,3,86]) 0])
    (.ret))
   (.skip)))
   (.seq (.seq (.reg [] [
     rq 38 (.move (tp 10)) 4,
     rq 39 (.unOp .not 4 (tp 38)) 4])
   (.cond (tp 39) (.seq (.reg [] [
     rq 40 (.move (tp 0)) 39,
     rq 41 (.move (tp 1)) 3,
     rq 42 (.move (tp 2)) 3,
     rq 43 (.move (tp 4)) 86,
     rq 44 (cf 104 #[(tp 40),(tp 41),(tp 42),(tp 43)] #[39,3,3,86]) 0])
    (.reg [] [
      rq 45 (.move (tp 3)) 3,
      rq 46 (.binOp .sub 3 (tp 45) (ki 1) 3) 3,
      rq 3 (.assign (tp 46)) 3]))
   (.skip)))
   (.seq (.reg [] [
     rq 48 (.move (tp 0)) 39,
     rq 49 (.move (tp 1)) 3,
     rq 50 (.move (tp 2)) 3,
     rq 51 (.move (tp 4)) 86,
     rq 52 (cf 105 #[(tp 48),(tp 49),(tp 50),(tp 51)] #[39,3,3,86]) 124,
     rq 47 (.move (tp 52)) 124,
     rq 53 (.extract (tp 47) 0) 3,
     rq 54 (.extract (tp 47) 1) 123,
     rq 13 (.assign (tp 53)) 3,
     rq 14 (.assign (tp 54)) 123])
   (.seq (.seq (.reg [] [
     rq 55 (.move (tp 14)) 123,
     rq 56 (.binOp .eql 123 (tp 55) (ki 2) 123) 4])
   (.cond (tp 56) (.seq (.reg [] [
     rq 57 (.move (tp 0)) 39,
     rq 58 (.move (tp 1)) 3,
     rq 59 (.move (tp 2)) 3,
     rq 60 (.move (tp 4)) 86,
     rq 61 (cf 106 #[(tp 57),(tp 58),(tp 59),(tp 60)] #[39,3,3,86]) 0])
    (.seq (.reg [] [
      rq 62 (.move (tp 2)) 3,
      rq 63 (.binOp .sub 3 (tp 62) (ki 1) 3) 3,
      rq 64 (.move (tp 13)) 3,
      rq 65 (.move (tp 1)) 3,
      rq 66 (.binOp .sub 3 (tp 64) (tp 65) 3) 3,
      rq 67 (.binOp .sub 3 (tp 63) (tp 66) 3) 3,
      rq 13 (.assign (tp 67)) 3])
    (.reg [] [
      rq 14 (.assign (ki 1)) 123])))
   (.skip)))
   (.seq (.seq (.reg [] [
     rq 68 (.move (tp 10)) 4,
     rq 69 (.move (tp 68)) 4,
     rg 70 (.move (tp 11)) 4 69 true,
     rq 71 (.pick (tp 69) (tp 70) (kb false)) 4,
     rq 72 (.move (tp 71)) 4,
     rg 73 (.move (tp 14)) 123 72 true,
     rg 74 (.binOp .eql 123 (tp 73) (ki 1) 123) 4 72 true,
     rq 75 (.pick (tp 72) (tp 74) (kb false)) 4])
   (.cond (tp 75) (.seq (.reg [] [
     rq 76 (.move (tp 0)) 39,
     rq 77 (.move (tp 1)) 3,
     rq 78 (.move (tp 2)) 3,
     rq 79 (.move (tp 4)) 86,
     rq 80 (cf 107 #[(tp 76),(tp 77),(tp 78),(tp 79)] #[39,3,3,86]) 4])
    (.cond (tp 80) (.ret)
    (.skip)))
   (.skip)))
   (.seq (.seq (.reg [0, 1, 2, 3, 4, 5, 6, 7, 8, 9, 10, 11, 12, 13, 14, 15, 16] [
     rq 81 (.move (tp 1)) 3,
     rq 82 (.binOp .gtr 3 (tp 81) (ki 0) 3) 4,
     rq 83 (.move (tp 82)) 4,
     rg 84 (.move (tp 4)) 86 83 true,
     rg 85 (.move (tp 0)) 39 83 true,
     rg 86 (.move (tp 1)) 3 83 true,
     rg 87 (.binOp .sub 3 (tp 86) (ki 1) 3) 3 83 true,
     rg 88 (.indexAddr 39 (tp 85) (tp 87)) 0 83 true,
     rg 89 (.load 22 (tp 88)) 22 83 true,
     rg 90 (.move (tp 0)) 39 83 true,
     rg 91 (.move (tp 13)) 3 83 true,
     rg 92 (.indexAddr 39 (tp 90) (tp 91)) 0 83 true,
     rg 93 (.load 22 (tp 92)) 22 83 true,
     rg 94 (.call ⟨.value (tp 84),#[(tp 89),(tp 93)],#[22,22]⟩) 3 83 true,
     rg 95 (.binOp .lss 3 (tp 94) (ki 0) 3) 4 83 true,
     rg 96 (.unOp .not 4 (tp 95)) 4 83 true,
     rq 97 (.pick (tp 83) (tp 96) (kb false)) 4])
   (.cond (tp 97) (.seq (.reg [] [
     rq 98 (.move (tp 0)) 39,
     rq 99 (.move (tp 1)) 3,
     rq 100 (.move (tp 2)) 3,
     rq 101 (.move (tp 13)) 3,
     rq 102 (.move (tp 4)) 86,
     rq 103 (cf 108 #[(tp 98),(tp 99),(tp 100),(tp 101),(tp 102)] #[39,3,3,3,86]) 3,
     rq 15 (.assign (tp 103)) 3])
    (.seq (.reg [] [
      rq 104 (.move (tp 15)) 3,
      rq 1 (.assign (tp 104)) 3])
    (.exit 1)))
   (.skip)))
   (.seq (.reg [] [
     rq 106 (.move (tp 0)) 39,
     rq 107 (.move (tp 1)) 3,
     rq 108 (.move (tp 2)) 3,
     rq 109 (.move (tp 13)) 3,
     rq 110 (.move (tp 4)) 86,
     rq 111 (cf 109 #[(tp 106),(tp 107),(tp 108),(tp 109),(tp 110)] #[39,3,3,3,86]) 128,
     rq 105 (.move (tp 111)) 128,
     rq 112 (.extract (tp 105) 0) 3,
     rq 113 (.extract (tp 105) 1) 4,
     rq 16 (.assign (tp 112)) 3,
     rq 17 (.assign (tp 113)) 4])
   (.seq (.reg [] [
     rq 114 (.move (tp 17)) 4,
     rq 11 (.assign (tp 114)) 4])
   (.seq (.reg [] [
     rq 115 (.move (tp 16)) 3,
     rq 116 (.move (tp 1)) 3,
     rq 117 (.binOp .sub 3 (tp 115) (tp 116) 3) 3,
     rq 118 (.move (tp 2)) 3,
     rq 119 (.move (tp 16)) 3,
     rq 120 (.binOp .sub 3 (tp 118) (tp 119) 3) 3,
     rq 18 (.assign (tp 117)) 3,
     rq 19 (.assign (tp 120)) 3])
   (.seq (.reg [] [
     rq 121 (.move (tp 12)) 3,
     rq 122 (.binOp .quo 3 (tp 121) (ki 8) 3) 3,
     rq 20 (.assign (tp 122)) 3])
   (.seq (.reg [] [
     rq 123 (.move (tp 18)) 3,
     rq 124 (.move (tp 19)) 3,
     rq 125 (.binOp .lss 3 (tp 123) (tp 124) 3) 4])
   (.cond (tp 125) (.seq (.reg [] [
     rq 126 (.move (tp 18)) 3,
     rq 127 (.move (tp 20)) 3,
     rq 128 (.binOp .geq 3 (tp 126) (tp 127) 3) 4,
     rq 10 (.assign (tp 128)) 4])
    (.seq (.reg [] [
      rq 129 (.move (tp 0)) 39,
      rq 130 (.move (tp 1)) 3,
      rq 131 (.move (tp 16)) 3,
      rq 132 (.move (tp 3)) 3,
      rq 133 (.move (tp 4)) 86,
      rq 134 (cf 94 #[(tp 129),(tp 130),(tp 131),(tp 132),(tp 133)] #[39,3,3,3,86]) 0])
    (.reg [] [
      rq 135 (.move (tp 16)) 3,
      rq 136 (.binOp .add 3 (tp 135) (ki 1) 3) 3,
      rq 1 (.assign (tp 136)) 3])))
   (.seq (.reg [] [
     rq 137 (.move (tp 19)) 3,
     rq 138 (.move (tp 20)) 3,
     rq 139 (.binOp .geq 3 (tp 137) (tp 138) 3) 4,
     rq 10 (.assign (tp 139)) 4])
    (.seq (.reg [] [
      rq 140 (.move (tp 0)) 39,
      rq 141 (.move (tp 16)) 3,
      rq 142 (.binOp .add 3 (tp 141) (ki 1) 3) 3,
      rq 143 (.move (tp 2)) 3,
      rq 144 (.move (tp 3)) 3,
      rq 145 (.move (tp 4)) 86,
      rq 146 (cf 94 #[(tp 140),(tp 142),(tp 143),(tp 144),(tp 145)] #[39,3,3,3,86]) 0])
    (.reg [] [
      rq 147 (.move (tp 16)) 3,
      rq 2 (.assign (tp 147)) 3])))))))))))))))))))))
def c95:RC:=
 .seq (.reg [] [
  rq 2 (.assign (ki 0)) 3])
 (.seq (.cond (kb false) (.seq (.reg [] [
   rq 3 (.move (tp 0)) 114,
   rq 4 (.convert 114 113 (tp 3)) 113,
   rq 5 (cf 110 #[(tp 4)] #[113]) 3,
   rq 2 (.assign (tp 5)) 3])
  (.ret))
 (.skip))
 (.seq (.reg [] [
   rq 6 (.move (tp 0)) 114,rq 7 (cf 111 #[(tp 6)] #[132]) 3,rq 2 (.assign (tp 7)) 3])
 (.ret)))
def c96:RC:=
 .seq (.reg [] [
  rq 4 (.move (tp 0)) 22,rq 5 (cb .len #[(tp 4)] #[22]) 3,rq 6 (.binOp .sub 3 (tp 5) (ki 1) 3) 3,rq 2 (.assign (ki 0)) 3,rq 3 (.assign (tp 6)) 3])
 (.block 0 (.loop (.seq (.seq (.reg [] [
   rq 7 (.move (tp 2)) 3,
   rq 8 (.move (tp 3)) 3,
   rq 9 (.binOp .lss 3 (tp 7) (tp 8) 3) 4])
   (.cond (tp 9) (.skip)
   (.exit 0)))
   (.seq (.block 1 (.reg [0, 1, 2, 3, 4, 5, 6, 7, 8, 9, 10, 11, 12, 13, 14, 15] [
     rq 14 (.move (tp 0)) 22,
     rq 15 (.move (tp 2)) 3,
     rq 16 (.move (tp 0)) 22,
     rq 17 (.move (tp 3)) 3,
     rq 18 (.move (tp 0)) 22,
     rq 19 (.move (tp 3)) 3,
     rq 20 (.indexAddr 22 (tp 18) (tp 19)) 0,
     rq 21 (.load 3 (tp 20)) 3,
     rq 22 (.move (tp 0)) 22,
     rq 23 (.move (tp 2)) 3,
     rq 24 (.indexAddr 22 (tp 22) (tp 23)) 0,
     rq 25 (.load 3 (tp 24)) 3,
     rq 26 (.indexAddr 22 (tp 14) (tp 15)) 0,
     rn (.store 3 (tp 26) (tp 21)) 0,
     rq 27 (.indexAddr 22 (tp 16) (tp 17)) 0,
     rn (.store 3 (tp 27) (tp 25)) 0]))
   (.reg [] [
     rq 10 (.move (tp 2)) 3,
     rq 11 (.binOp .add 3 (tp 10) (ki 1) 3) 3,
     rq 12 (.move (tp 3)) 3,
     rq 13 (.binOp .sub 3 (tp 12) (ki 1) 3) 3,
     rq 2 (.assign (tp 11)) 3,
     rq 3 (.assign (tp 13)) 3])))))
def c97:RC:=
 .seq (.reg [] [
  rq 4 (.assign (.const (.slice none 0 0))) 22])
 (.seq (.reg [] [
   rq 8 (.move (tp 0)) 22,rq 9 (cb .len #[(tp 8)] #[22]) 3,rq 10 (.makeSlice 22 (ki 0) (tp 9)) 22,rq 5 (.assign (tp 10)) 22])
 (.seq (.seq (.reg [] [
   rq 11 (.move (tp 1)) 3,rq 12 (.move (ki 0)) 3])
 (.block 0 (.loop (.seq (.reg [] [
   rq 13 (.binOp .lss 3 (tp 12) (tp 11) 3) 4])
   (.seq (.cond (tp 13) (.skip)
   (.exit 0))
   (.seq (.block 1 (.seq (.reg [] [
     rq 14 (.move (tp 12)) 3,
     rq 6 (.assign (tp 14)) 3])
    (.seq (.reg [] [
      rq 15 (.move (tp 1)) 3,
      rq 16 (.binOp .sub 3 (tp 15) (ki 1) 3) 3,
      rq 7 (.assign (tp 16)) 3])
    (.block 2 (.loop (.seq (.seq (.reg [] [
      rq 17 (.move (tp 7)) 3,
      rq 18 (.binOp .geq 3 (tp 17) (ki 0) 3) 4])
      (.cond (tp 18) (.skip)
      (.exit 2)))
      (.seq (.block 3 (.reg [] [
        rq 21 (.move (tp 5)) 22,
        rq 22 (.move (tp 0)) 22,
        rq 23 (.move (tp 7)) 3,
        rq 24 (.move (tp 1)) 3,
        rq 25 (.binOp .mul 3 (tp 23) (tp 24) 3) 3,
        rq 26 (.move (tp 6)) 3,
        rq 27 (.binOp .add 3 (tp 25) (tp 26) 3) 3,
        rq 28 (.indexAddr 22 (tp 22) (tp 27)) 0,
        rq 29 (.load 3 (tp 28)) 3,
        rq 30 (.buildSlice 22 1 #[(0,(tp 29))]) 22,
        rq 31 (cb .append #[(tp 21),(tp 30)] #[22,22]) 22,
        rq 5 (.assign (tp 31)) 22]))
      (.reg [] [
        rq 19 (.move (tp 7)) 3,
        rq 20 (.binOp .sub 3 (tp 19) (ki 1) 3) 3,
        rq 7 (.assign (tp 20)) 3]))))))))
   (.reg [] [
     rq 32 (.binOp .add 3 (tp 12) (ki 1) 3) 3,
     rq 12 (.move (tp 32)) 3])))))))
 (.seq (.reg [] [
   rq 33 (.move (tp 5)) 22,rq 4 (.assign (tp 33)) 22])
 (.ret))))
def lW:RC:=
 .seq (.reg [] [
  rq 8 (.assign (kb true)) 4])
 (.seq (.reg [] [
   rq 9 (.assign (kb true)) 4])
 (.block 0 (.loop (.block 1 (.seq (.reg [] [
   rq 19 (.move (tp 2)) 3,
   rq 20 (.move (tp 1)) 3,
   rq 21 (.binOp .sub 3 (tp 19) (tp 20) 3) 3,
   rq 10 (.assign (tp 21)) 3])
   (.seq (.seq (.reg [] [
     rq 22 (.move (tp 10)) 3,
     rq 23 (.binOp .leq 3 (tp 22) (ki 12) 3) 4])
   (.cond (tp 23) (.seq (.reg [] [
     rq 24 (.move (tp 0)) 22,
     rq 25 (.move (tp 1)) 3,
     rq 26 (.move (tp 2)) 3,
     rq 27 (cf 113 #[(tp 24),(tp 25),(tp 26)] #[22,3,3]) 0])
    (.ret))
   (.skip)))
   (.seq (.seq (.reg [] [
     rq 28 (.move (tp 3)) 3,
     rq 29 (.binOp .eql 3 (tp 28) (ki 0) 3) 4])
   (.cond (tp 29) (.seq (.reg [] [
     rq 30 (.move (tp 0)) 22,
     rq 31 (.move (tp 1)) 3,
     rq 32 (.move (tp 2)) 3,
     rq 33 (cf 114 #[(tp 30),(tp 31),(tp 32)] #[22,3,3]) 0])
    (.ret))
   (.skip)))
   (.seq (.seq (.reg [] [
     rq 34 (.move (tp 8)) 4,
     rq 35 (.unOp .not 4 (tp 34)) 4])
   (.cond (tp 35) (.seq (.reg [] [
     rq 36 (.move (tp 0)) 22,
     rq 37 (.move (tp 1)) 3,
     rq 38 (.move (tp 2)) 3,
     rq 39 (cf 115 #[(tp 36),(tp 37),(tp 38)] #[22,3,3]) 0])
    (.reg [] [
      rq 40 (.move (tp 3)) 3,
      rq 41 (.binOp .sub 3 (tp 40) (ki 1) 3) 3,
      rq 3 (.assign (tp 41)) 3]))
   (.skip)))
   (.seq (.reg [] [
     rq 43 (.move (tp 0)) 22,
     rq 44 (.move (tp 1)) 3,
     rq 45 (.move (tp 2)) 3,
     rq 46 (cf 116 #[(tp 43),(tp 44),(tp 45)] #[22,3,3]) 124,
     rq 42 (.move (tp 46)) 124,
     rq 47 (.extract (tp 42) 0) 3,
     rq 48 (.extract (tp 42) 1) 123,
     rq 11 (.assign (tp 47)) 3,
     rq 12 (.assign (tp 48)) 123])
   (.seq (.seq (.reg [] [
     rq 49 (.move (tp 12)) 123,
     rq 50 (.binOp .eql 123 (tp 49) (ki 2) 123) 4])
   (.cond (tp 50) (.seq (.reg [] [
     rq 51 (.move (tp 0)) 22,
     rq 52 (.move (tp 1)) 3,
     rq 53 (.move (tp 2)) 3,
     rq 54 (cf 117 #[(tp 51),(tp 52),(tp 53)] #[22,3,3]) 0])
    (.seq (.reg [] [
      rq 55 (.move (tp 2)) 3,
      rq 56 (.binOp .sub 3 (tp 55) (ki 1) 3) 3,
      rq 57 (.move (tp 11)) 3,
      rq 58 (.move (tp 1)) 3,
      rq 59 (.binOp .sub 3 (tp 57) (tp 58) 3) 3,
      rq 60 (.binOp .sub 3 (tp 56) (tp 59) 3) 3,
      rq 11 (.assign (tp 60)) 3])
    (.reg [] [
      rq 12 (.assign (ki 1)) 123])))
   (.skip)))
   (.seq (.seq (.reg [] [
     rq 61 (.move (tp 8)) 4,
     rq 62 (.move (tp 61)) 4,
     rg 63 (.move (tp 9)) 4 62 true,
     rq 64 (.pick (tp 62) (tp 63) (kb false)) 4,
     rq 65 (.move (tp 64)) 4,
     rg 66 (.move (tp 12)) 123 65 true,
     rg 67 (.binOp .eql 123 (tp 66) (ki 1) 123) 4 65 true,
     rq 68 (.pick (tp 65) (tp 67) (kb false)) 4])
   (.cond (tp 68) (.seq (.reg [] [
     rq 69 (.move (tp 0)) 22,
     rq 70 (.move (tp 1)) 3,
     rq 71 (.move (tp 2)) 3,
     rq 72 (cf 118 #[(tp 69),(tp 70),(tp 71)] #[22,3,3]) 4])
    (.cond (tp 72) (.ret)
    (.skip)))
   (.skip)))
   (.seq (.seq (.reg [0, 1, 2, 3, 4, 5, 6, 7, 8, 9, 10, 11, 12, 13, 14] [
     rq 73 (.move (tp 1)) 3,
     rq 74 (.binOp .gtr 3 (tp 73) (ki 0) 3) 4,
     rq 75 (.move (tp 74)) 4,
     rg 76 (.move (tp 0)) 22 75 true,
     rg 77 (.move (tp 1)) 3 75 true,
     rg 78 (.binOp .sub 3 (tp 77) (ki 1) 3) 3 75 true,
     rg 79 (.indexAddr 22 (tp 76) (tp 78)) 0 75 true,
     rg 80 (.load 3 (tp 79)) 3 75 true,
     rg 81 (.move (tp 0)) 22 75 true,
     rg 82 (.move (tp 11)) 3 75 true,
     rg 83 (.indexAddr 22 (tp 81) (tp 82)) 0 75 true,
     rg 84 (.load 3 (tp 83)) 3 75 true,
     rg 85 (cf 119 #[(tp 80),(tp 84)] #[3,3]) 4 75 true,
     rg 86 (.unOp .not 4 (tp 85)) 4 75 true,
     rq 87 (.pick (tp 75) (tp 86) (kb false)) 4])
   (.cond (tp 87) (.seq (.reg [] [
     rq 88 (.move (tp 0)) 22,
     rq 89 (.move (tp 1)) 3,
     rq 90 (.move (tp 2)) 3,
     rq 91 (.move (tp 11)) 3,
     rq 92 (cf 120 #[(tp 88),(tp 89),(tp 90),(tp 91)] #[22,3,3,3]) 3,
     rq 13 (.assign (tp 92)) 3])
    (.seq (.reg [] [
      rq 93 (.move (tp 13)) 3,
      rq 1 (.assign (tp 93)) 3])
    (.exit 1)))
   (.skip)))
   (.seq (.reg [] [
     rq 95 (.move (tp 0)) 22,
     rq 96 (.move (tp 1)) 3,
     rq 97 (.move (tp 2)) 3,
     rq 98 (.move (tp 11)) 3,
     rq 99 (cf 121 #[(tp 95),(tp 96),(tp 97),(tp 98)] #[22,3,3,3]) 128,
     rq 94 (.move (tp 99)) 128,
     rq 100 (.extract (tp 94) 0) 3,
     rq 101 (.extract (tp 94) 1) 4,
     rq 14 (.assign (tp 100)) 3,
     rq 15 (.assign (tp 101)) 4])
   (.seq (.reg [] [
     rq 102 (.move (tp 15)) 4,
     rq 9 (.assign (tp 102)) 4])
   (.seq (.reg [] [
     rq 103 (.move (tp 14)) 3,
     rq 104 (.move (tp 1)) 3,
     rq 105 (.binOp .sub 3 (tp 103) (tp 104) 3) 3,
     rq 106 (.move (tp 2)) 3,
     rq 107 (.move (tp 14)) 3,
     rq 108 (.binOp .sub 3 (tp 106) (tp 107) 3) 3,
     rq 16 (.assign (tp 105)) 3,
     rq 17 (.assign (tp 108)) 3])
   (.seq (.reg [] [
     rq 109 (.move (tp 10)) 3,
     rq 110 (.binOp .quo 3 (tp 109) (ki 8) 3) 3,
     rq 18 (.assign (tp 110)) 3])
   (.seq (.reg [] [
     rq 111 (.move (tp 16)) 3,
     rq 112 (.move (tp 17)) 3,
     rq 113 (.binOp .lss 3 (tp 111) (tp 112) 3) 4])
   (.cond (tp 113) (.seq (.reg [] [
     rq 114 (.move (tp 16)) 3,
     rq 115 (.move (tp 18)) 3,
     rq 116 (.binOp .geq 3 (tp 114) (tp 115) 3) 4,
     rq 8 (.assign (tp 116)) 4])
    (.seq (.reg [] [
      rq 117 (.move (tp 0)) 22,
      rq 118 (.move (tp 1)) 3,
      rq 119 (.move (tp 14)) 3,
      rq 120 (.move (tp 3)) 3,
      rq 121 (cf 100 #[(tp 117),(tp 118),(tp 119),(tp 120)] #[22,3,3,3]) 0])
    (.reg [] [
      rq 122 (.move (tp 14)) 3,
      rq 123 (.binOp .add 3 (tp 122) (ki 1) 3) 3,
      rq 1 (.assign (tp 123)) 3])))
   (.seq (.reg [] [
     rq 124 (.move (tp 17)) 3,
     rq 125 (.move (tp 18)) 3,
     rq 126 (.binOp .geq 3 (tp 124) (tp 125) 3) 4,
     rq 8 (.assign (tp 126)) 4])
    (.seq (.reg [] [
      rq 127 (.move (tp 0)) 22,
      rq 128 (.move (tp 14)) 3,
      rq 129 (.binOp .add 3 (tp 128) (ki 1) 3) 3,
      rq 130 (.move (tp 2)) 3,
      rq 131 (.move (tp 3)) 3,
      rq 132 (cf 100 #[(tp 127),(tp 129),(tp 130),(tp 131)] #[22,3,3,3]) 0])
    (.reg [] [
      rq 133 (.move (tp 14)) 3,
      rq 2 (.assign (tp 133)) 3])))))))))))))))))))))
def lX:RC:=
 .seq (.reg [] [
  rq 2 (.assign (kb false)) 4])
 (.seq (.reg [] [
   rq 3 (.move (tp 0)) 3,rq 4 (.move (tp 0)) 3,rq 5 (.binOp .neq 3 (tp 3) (tp 4) 3) 4,rq 2 (.assign (tp 5)) 4])
 (.ret))
def lY:RC:=
 .seq (.reg [] [
  rq 10 (.move (tp 1)) 3,rq 11 (.binOp .add 3 (tp 10) (ki 1) 3) 3,rq 8 (.assign (tp 11)) 3])
 (.block 0 (.loop (.seq (.seq (.reg [] [
   rq 12 (.move (tp 8)) 3,
   rq 13 (.move (tp 2)) 3,
   rq 14 (.binOp .lss 3 (tp 12) (tp 13) 3) 4])
   (.cond (tp 14) (.skip)
   (.exit 0)))
   (.seq (.block 1 (.seq (.reg [] [
     rq 17 (.move (tp 8)) 3,
     rq 9 (.assign (tp 17)) 3])
    (.block 2 (.loop (.seq (.seq (.reg [0, 1, 2, 3, 4, 5, 6, 7, 8, 9, 10, 11, 12, 13, 14, 15, 16] [
      rq 18 (.move (tp 9)) 3,
      rq 19 (.move (tp 1)) 3,
      rq 20 (.binOp .gtr 3 (tp 18) (tp 19) 3) 4,
      rq 21 (.move (tp 20)) 4,
      rg 22 (.move (tp 3)) 86 21 true,
      rg 23 (.move (tp 0)) 39 21 true,
      rg 24 (.move (tp 9)) 3 21 true,
      rg 25 (.indexAddr 39 (tp 23) (tp 24)) 0 21 true,
      rg 26 (.load 22 (tp 25)) 22 21 true,
      rg 27 (.move (tp 0)) 39 21 true,
      rg 28 (.move (tp 9)) 3 21 true,
      rg 29 (.binOp .sub 3 (tp 28) (ki 1) 3) 3 21 true,
      rg 30 (.indexAddr 39 (tp 27) (tp 29)) 0 21 true,
      rg 31 (.load 22 (tp 30)) 22 21 true,
      rg 32 (.call ⟨.value (tp 22),#[(tp 26),(tp 31)],#[22,22]⟩) 3 21 true,
      rg 33 (.binOp .lss 3 (tp 32) (ki 0) 3) 4 21 true,
      rq 34 (.pick (tp 21) (tp 33) (kb false)) 4])
      (.cond (tp 34) (.skip)
      (.exit 2)))
      (.seq (.block 3 (.reg [0, 1, 2, 3, 4, 5, 6, 7, 8, 9, 10, 11, 12, 13, 14, 15, 16, 17] [
        rq 37 (.move (tp 0)) 39,
        rq 38 (.move (tp 9)) 3,
        rq 39 (.move (tp 0)) 39,
        rq 40 (.move (tp 9)) 3,
        rq 41 (.binOp .sub 3 (tp 40) (ki 1) 3) 3,
        rq 42 (.move (tp 0)) 39,
        rq 43 (.move (tp 9)) 3,
        rq 44 (.binOp .sub 3 (tp 43) (ki 1) 3) 3,
        rq 45 (.indexAddr 39 (tp 42) (tp 44)) 0,
        rq 46 (.load 22 (tp 45)) 22,
        rq 47 (.move (tp 0)) 39,
        rq 48 (.move (tp 9)) 3,
        rq 49 (.indexAddr 39 (tp 47) (tp 48)) 0,
        rq 50 (.load 22 (tp 49)) 22,
        rq 51 (.indexAddr 39 (tp 37) (tp 38)) 0,
        rn (.store 22 (tp 51) (tp 46)) 0,
        rq 52 (.indexAddr 39 (tp 39) (tp 41)) 0,
        rn (.store 22 (tp 52) (tp 50)) 0]))
      (.reg [] [
        rq 35 (.move (tp 9)) 3,
        rq 36 (.binOp .sub 3 (tp 35) (ki 1) 3) 3,
        rq 9 (.assign (tp 36)) 3])))))))
   (.reg [] [
     rq 15 (.move (tp 8)) 3,
     rq 16 (.binOp .add 3 (tp 15) (ki 1) 3) 3,
     rq 8 (.assign (tp 16)) 3])))))
def lZ:RC:=
 .seq (.reg [] [
  rq 2 (.assign (ki 0)) 3])
 (.seq (.seq (.reg [] [
   rq 3 (.move (tp 0)) 113,rq 4 (.binOp .geq 113 (tp 3) (.const (.int .u32 65536)) 113) 4])
 (.cond (tp 4) (.seq (.reg [] [
   rq 5 (.move (tp 0)) 113,
   rq 6 (.binOp .shr 113 (tp 5) (.const (.int .u64 16)) 114) 113,
   rq 0 (.assign (tp 6)) 113])
  (.reg [] [
    rq 2 (.assign (ki 16)) 3]))
 (.skip)))
 (.seq (.seq (.reg [] [
   rq 7 (.move (tp 0)) 113,rq 8 (.binOp .geq 113 (tp 7) (.const (.int .u32 256)) 113) 4])
 (.cond (tp 8) (.seq (.reg [] [
   rq 9 (.move (tp 0)) 113,
   rq 10 (.binOp .shr 113 (tp 9) (.const (.int .u64 8)) 114) 113,
   rq 0 (.assign (tp 10)) 113])
  (.reg [] [
    rq 11 (.move (tp 2)) 3,
    rq 12 (.binOp .add 3 (tp 11) (ki 8) 3) 3,
    rq 2 (.assign (tp 12)) 3]))
 (.skip)))
 (.seq (.reg [] [
   rq 13 (.move (tp 2)) 3,rq 14 (.move (tp 0)) 113,rq 15 (.convert 113 5 (tp 14)) 5,rq 16 (.index 9 (.const (.string ⟨#[0,1,2,2,3,3,3,3,4,4,4,4,4,4,4,4,5,5,5,5,5,5,5,5,5,5,5,5,5,5,5,5,6,6,6,6,6,6,6,6,6,6,6,6,6,6,6,6,6,6,6,6,6,6,6,6,6,6,6,6,6,6,6,6,7,7,7,7,7,7,7,7,7,7,7,7,7,7,7,7,7,7,7,7,7,7,7,7,7,7,7,7,7,7,7,7,7,7,7,7,7,7,7,7,7,7,7,7,7,7,7,7,7,7,7,7,7,7,7,7,7,7,7,7,7,7,7,7,8,8,8,8,8,8,8,8,8,8,8,8,8,8,8,8,8,8,8,8,8,8,8,8,8,8,8,8,8,8,8,8,8,8,8,8,8,8,8,8,8,8,8,8,8,8,8,8,8,8,8,8,8,8,8,8,8,8,8,8,8,8,8,8,8,8,8,8,8,8,8,8,8,8,8,8,8,8,8,8,8,8,8,8,8,8,8,8,8,8,8,8,8,8,8,8,8,8,8,8,8,8,8,8,8,8,8,8,8,8,8,8,8,8,8,8,8,8,8,8,8,8,8,8,8,8,8,8]⟩)) (tp 15)) 5,rq 17 (.convert 5 3 (tp 16)) 3,rq 18 (.binOp .add 3 (tp 13) (tp 17) 3) 3,rq 2 (.assign (tp 18)) 3])
 (.ret))))
def mD:RC:=
 .seq (.reg [] [
  rq 2 (.assign (ki 0)) 3])
 (.seq (.seq (.reg [] [
   rq 3 (.move (tp 0)) 132,rq 4 (.binOp .geq 132 (tp 3) (.const (.int .u64 4294967296)) 132) 4])
 (.cond (tp 4) (.seq (.reg [] [
   rq 5 (.move (tp 0)) 132,
   rq 6 (.binOp .shr 132 (tp 5) (.const (.int .u64 32)) 114) 132,
   rq 0 (.assign (tp 6)) 132])
  (.reg [] [
    rq 2 (.assign (ki 32)) 3]))
 (.skip)))
 (.seq (.seq (.reg [] [
   rq 7 (.move (tp 0)) 132,rq 8 (.binOp .geq 132 (tp 7) (.const (.int .u64 65536)) 132) 4])
 (.cond (tp 8) (.seq (.reg [] [
   rq 9 (.move (tp 0)) 132,
   rq 10 (.binOp .shr 132 (tp 9) (.const (.int .u64 16)) 114) 132,
   rq 0 (.assign (tp 10)) 132])
  (.reg [] [
    rq 11 (.move (tp 2)) 3,
    rq 12 (.binOp .add 3 (tp 11) (ki 16) 3) 3,
    rq 2 (.assign (tp 12)) 3]))
 (.skip)))
 (.seq (.seq (.reg [] [
   rq 13 (.move (tp 0)) 132,rq 14 (.binOp .geq 132 (tp 13) (.const (.int .u64 256)) 132) 4])
 (.cond (tp 14) (.seq (.reg [] [
   rq 15 (.move (tp 0)) 132,
   rq 16 (.binOp .shr 132 (tp 15) (.const (.int .u64 8)) 114) 132,
   rq 0 (.assign (tp 16)) 132])
  (.reg [] [
    rq 17 (.move (tp 2)) 3,
    rq 18 (.binOp .add 3 (tp 17) (ki 8) 3) 3,
    rq 2 (.assign (tp 18)) 3]))
 (.skip)))
 (.seq (.reg [] [
   rq 19 (.move (tp 2)) 3,rq 20 (.move (tp 0)) 132,rq 21 (.convert 132 5 (tp 20)) 5,rq 22 (.index 9 (.const (.string ⟨#[0,1,2,2,3,3,3,3,4,4,4,4,4,4,4,4,5,5,5,5,5,5,5,5,5,5,5,5,5,5,5,5,6,6,6,6,6,6,6,6,6,6,6,6,6,6,6,6,6,6,6,6,6,6,6,6,6,6,6,6,6,6,6,6,7,7,7,7,7,7,7,7,7,7,7,7,7,7,7,7,7,7,7,7,7,7,7,7,7,7,7,7,7,7,7,7,7,7,7,7,7,7,7,7,7,7,7,7,7,7,7,7,7,7,7,7,7,7,7,7,7,7,7,7,7,7,7,7,8,8,8,8,8,8,8,8,8,8,8,8,8,8,8,8,8,8,8,8,8,8,8,8,8,8,8,8,8,8,8,8,8,8,8,8,8,8,8,8,8,8,8,8,8,8,8,8,8,8,8,8,8,8,8,8,8,8,8,8,8,8,8,8,8,8,8,8,8,8,8,8,8,8,8,8,8,8,8,8,8,8,8,8,8,8,8,8,8,8,8,8,8,8,8,8,8,8,8,8,8,8,8,8,8,8,8,8,8,8,8,8,8,8,8,8,8,8,8,8,8,8,8,8,8,8,8,8]⟩)) (tp 21)) 5,rq 23 (.convert 5 3 (tp 22)) 3,rq 24 (.binOp .add 3 (tp 19) (tp 23) 3) 3,rq 2 (.assign (tp 24)) 3])
 (.ret)))))
def mE:RC:=
 .seq (.reg [] [
  rq 8 (.move (tp 1)) 3,rq 9 (.binOp .add 3 (tp 8) (ki 1) 3) 3,rq 6 (.assign (tp 9)) 3])
 (.block 0 (.loop (.seq (.seq (.reg [] [
   rq 10 (.move (tp 6)) 3,
   rq 11 (.move (tp 2)) 3,
   rq 12 (.binOp .lss 3 (tp 10) (tp 11) 3) 4])
   (.cond (tp 12) (.skip)
   (.exit 0)))
   (.seq (.block 1 (.seq (.reg [] [
     rq 15 (.move (tp 6)) 3,
     rq 7 (.assign (tp 15)) 3])
    (.block 2 (.loop (.seq (.seq (.reg [0, 1, 2, 3, 4, 5, 6, 7, 8, 9, 10, 11, 12, 13, 14] [
      rq 16 (.move (tp 7)) 3,
      rq 17 (.move (tp 1)) 3,
      rq 18 (.binOp .gtr 3 (tp 16) (tp 17) 3) 4,
      rq 19 (.move (tp 18)) 4,
      rg 20 (.move (tp 0)) 22 19 true,
      rg 21 (.move (tp 7)) 3 19 true,
      rg 22 (.indexAddr 22 (tp 20) (tp 21)) 0 19 true,
      rg 23 (.load 3 (tp 22)) 3 19 true,
      rg 24 (.move (tp 0)) 22 19 true,
      rg 25 (.move (tp 7)) 3 19 true,
      rg 26 (.binOp .sub 3 (tp 25) (ki 1) 3) 3 19 true,
      rg 27 (.indexAddr 22 (tp 24) (tp 26)) 0 19 true,
      rg 28 (.load 3 (tp 27)) 3 19 true,
      rg 29 (cf 119 #[(tp 23),(tp 28)] #[3,3]) 4 19 true,
      rq 30 (.pick (tp 19) (tp 29) (kb false)) 4])
      (.cond (tp 30) (.skip)
      (.exit 2)))
      (.seq (.block 3 (.reg [0, 1, 2, 3, 4, 5, 6, 7, 8, 9, 10, 11, 12, 13, 14, 15, 16, 17] [
        rq 33 (.move (tp 0)) 22,
        rq 34 (.move (tp 7)) 3,
        rq 35 (.move (tp 0)) 22,
        rq 36 (.move (tp 7)) 3,
        rq 37 (.binOp .sub 3 (tp 36) (ki 1) 3) 3,
        rq 38 (.move (tp 0)) 22,
        rq 39 (.move (tp 7)) 3,
        rq 40 (.binOp .sub 3 (tp 39) (ki 1) 3) 3,
        rq 41 (.indexAddr 22 (tp 38) (tp 40)) 0,
        rq 42 (.load 3 (tp 41)) 3,
        rq 43 (.move (tp 0)) 22,
        rq 44 (.move (tp 7)) 3,
        rq 45 (.indexAddr 22 (tp 43) (tp 44)) 0,
        rq 46 (.load 3 (tp 45)) 3,
        rq 47 (.indexAddr 22 (tp 33) (tp 34)) 0,
        rn (.store 3 (tp 47) (tp 42)) 0,
        rq 48 (.indexAddr 22 (tp 35) (tp 37)) 0,
        rn (.store 3 (tp 48) (tp 46)) 0]))
      (.reg [] [
        rq 31 (.move (tp 7)) 3,
        rq 32 (.binOp .sub 3 (tp 31) (ki 1) 3) 3,
        rq 7 (.assign (tp 32)) 3])))))))
   (.reg [] [
     rq 13 (.move (tp 6)) 3,
     rq 14 (.binOp .add 3 (tp 13) (ki 1) 3) 3,
     rq 6 (.assign (tp 14)) 3])))))
def mF:RC:=
 .seq (.reg [] [
  rq 4 (.assign (kb false)) 4])
 (.seq (.reg [] [
   rq 5 (.move (tp 0)) 3,rq 6 (cf 101 #[(tp 5)] #[3]) 4,rq 7 (.move (tp 6)) 4,rg 8 (.move (tp 1)) 3 7 true,rg 9 (cf 101 #[(tp 8)] #[3]) 4 7 true,rg 10 (.unOp .not 4 (tp 9)) 4 7 true,rq 11 (.pick (tp 7) (tp 10) (kb false)) 4,rq 12 (.move (tp 11)) 4,rg 13 (.move (tp 0)) 3 12 false,rg 14 (.move (tp 1)) 3 12 false,rg 15 (.binOp .lss 3 (tp 13) (tp 14) 3) 4 12 false,rq 16 (.pick (tp 12) (kb true) (tp 15)) 4,rq 4 (.assign (tp 16)) 4])
 (.ret))
def ti3:TI:=⟨.int .i64,1,8,(some (.int .i64 0)),false⟩
def ti4:TI:=⟨.bool,1,1,(some (.bool false)),false⟩
def ti5:TI:=⟨.int .u8,1,1,(some (.int .u8 0)),false⟩
def ti9:TI:=⟨.string,1,16,(some (.string ⟨#[]⟩)),false⟩
def Ae8:TI:=⟨.slice 3,1,24,(some (.slice none 0 0)),false⟩
def Ae9 : TI := ⟨.struct #[⟨ "Rows", 3, 0, false, "", "", 0⟩, ⟨ "Columns", 3, 1, false, "", "", 8⟩, ⟨ "Colours", 3, 2, false, "", "", 16⟩, ⟨ "Turns", 22, 3, false, "", "", 24⟩], 4, 48, (some (.agg #[(.int .i64 0), (.int .i64 0), (.int .i64 0), (.slice none 0 0)])), false⟩
def Afa : TI := ⟨.struct #[⟨ "Rows", 3, 0, false, "", "", 0⟩, ⟨ "Columns", 3, 1, false, "", "", 8⟩, ⟨ "Colours", 3, 2, false, "", "", 16⟩, ⟨ "Turns", 22, 3, false, "", "", 24⟩], 4, 48, (some (.agg #[(.int .i64 0), (.int .i64 0), (.int .i64 0), (.slice none 0 0)])), false⟩
def Afb:TI:=⟨.int .i64,1,8,(some (.int .i64 0)),false⟩
def Afc:TI:=⟨.func #[22,22] #[4] false,1,8,(some .nilFunc),false⟩
def Afd:TI:=⟨.slice 22,1,24,(some (.slice none 0 0)),false⟩
def Afe:TI:=⟨.pointer 69,1,8,(some (.pointer none)),false⟩
def Aff : TI := ⟨.struct #[⟨ "Press", 24, 0, true, "", "", 0⟩, ⟨ "from", 39, 4, false, "", "spadille/back", 48⟩], 5, 72, (some (.agg #[(.int .i64 0), (.int .i64 0), (.int .i64 0), (.slice none 0 0), (.slice none 0 0)])), false⟩
def Afg:TI:=⟨.int .u16,1,2,(some (.int .u16 0)),false⟩
def Afh:TI:=⟨.array 17 3,17,136,(some (.agg #[(.int .i64 0),(.int .i64 0),(.int .i64 0),(.int .i64 0),(.int .i64 0),(.int .i64 0),(.int .i64 0),(.int .i64 0),(.int .i64 0),(.int .i64 0),(.int .i64 0),(.int .i64 0),(.int .i64 0),(.int .i64 0),(.int .i64 0),(.int .i64 0),(.int .i64 0)])),true⟩
def Afi:TI:=⟨.func #[22,22] #[3] false,1,8,(some .nilFunc),false⟩
def Afj:TI:=⟨.func #[22,3] #[] false,1,8,(some .nilFunc),false⟩
def Afk:TI:=⟨.func #[3] #[4] false,1,8,(some .nilFunc),false⟩
def Afl:TI:=⟨.func #[89] #[] false,1,8,(some .nilFunc),false⟩
def Afm : TI := ⟨.struct #[⟨ "quarters", 3, 0, false, "", "spadille/back", 0⟩, ⟨ "flipped", 4, 1, false, "", "spadille/back", 8⟩], 2, 16, (some (.agg #[(.int .i64 0), (.bool false)])), true⟩
def nS:TI:=⟨.slice 4,1,24,(some (.slice none 0 0)),false⟩
def nT:TI:=⟨.func #[3,3,3] #[3] false,1,8,(some .nilFunc),false⟩
def nU:TI:=⟨.array 32 5,32,32,(some (.agg #[(.int .u8 0),(.int .u8 0),(.int .u8 0),(.int .u8 0),(.int .u8 0),(.int .u8 0),(.int .u8 0),(.int .u8 0),(.int .u8 0),(.int .u8 0),(.int .u8 0),(.int .u8 0),(.int .u8 0),(.int .u8 0),(.int .u8 0),(.int .u8 0),(.int .u8 0),(.int .u8 0),(.int .u8 0),(.int .u8 0),(.int .u8 0),(.int .u8 0),(.int .u8 0),(.int .u8 0),(.int .u8 0),(.int .u8 0),(.int .u8 0),(.int .u8 0),(.int .u8 0),(.int .u8 0),(.int .u8 0),(.int .u8 0)])),true⟩
def nV:TI:=⟨.int .u32,1,4,(some (.int .u32 0)),false⟩
def nW:TI:=⟨.int .u64,1,8,(some (.int .u64 0)),false⟩
def nX:TI:=⟨.int .i64,1,8,(some (.int .i64 0)),false⟩
def nY:TI:=⟨.int .u64,1,8,(some (.int .u64 0)),false⟩
def Afn:Tr TI:=(.node none (.node none (.node (some ti3) (.node none .nil (.node none (.node (some Afd) .nil .nil) (.node none (.node (some Afj) .nil .nil) .nil))) (.node none (.node none (.node none .nil (.node (some Afm) .nil .nil)) .nil) (.node (some Afa) .nil (.node none .nil (.node (some nX) .nil .nil))))) (.node (some ti5) (.node (some ti9) (.node none .nil (.node none .nil (.node (some nV) .nil .nil))) (.node none .nil (.node none (.node (some Afk) .nil .nil) .nil))) (.node none (.node none (.node (some Afc) (.node (some Aff) .nil .nil) .nil) .nil) (.node none (.node none .nil (.node (some nS) .nil .nil)) .nil)))) (.node none (.node (some ti4) (.node none (.node none (.node none (.node (some Afe) .nil .nil) .nil) (.node none .nil (.node (some nU) .nil .nil))) (.node (some Ae9) .nil .nil)) (.node none (.node none (.node none (.node none (.node (some nY) .nil .nil) .nil) .nil) (.node none (.node (some Afh) .nil .nil) .nil)) (.node (some Afb) .nil (.node none (.node (some Afl) .nil .nil) .nil)))) (.node none (.node none (.node none .nil (.node none .nil (.node (some nW) .nil .nil))) (.node none (.node none (.node (some Afg) .nil .nil) .nil) .nil)) (.node none (.node (some Ae8) .nil (.node none (.node (some Afi) .nil .nil) .nil)) (.node none (.node none .nil (.node (some nT) .nil .nil)) .nil)))))
noncomputable def tt:TT:=Afn.get
def Afo:Tr Xq:=(.node none (.node none (.node none (.node none (.node (some ⟨43,c15,[.tmp 4,.tmp 5]⟩) (.node (some ⟨70,c31,[.tmp 6]⟩) (.node (some ⟨22,c63,[.tmp 4]⟩) .nil .nil) (.node (some ⟨8,c95,[.tmp 2]⟩) .nil .nil)) (.node (some ⟨18,c47,[.tmp 4]⟩) (.node (some ⟨8,c79,[.tmp 2]⟩) .nil .nil) (.node (some ⟨25,mD,[.tmp 2]⟩) .nil .nil))) (.node (some ⟨29,c23,[.tmp 4,.tmp 5]⟩) (.node (some ⟨4,c39,[.cell 0 24]⟩) (.node (some ⟨9,c71,[.tmp 2]⟩) .nil .nil) .nil) (.node (some ⟨110,c55,[.tmp 2,.tmp 3]⟩) (.node (some ⟨5,c87,[.tmp 2]⟩) .nil .nil) (.node (some ⟨17,mF,[.tmp 4]⟩) .nil .nil)))) (.node (some ⟨34,c11,[.tmp 6,.tmp 7]⟩) (.node none (.node none (.node (some ⟨9,c67,[.tmp 3]⟩) .nil .nil) .nil) (.node (some ⟨38,c51,[.tmp 6]⟩) (.node (some ⟨66,c83,[.tmp 4]⟩) .nil .nil) .nil)) (.node (some ⟨93,c27,[.tmp 4,.tmp 5]⟩) (.node (some ⟨33,c43,[.tmp 4,.tmp 5]⟩) (.node (some ⟨18,c75,[.cell 2 99]⟩) .nil .nil) .nil) (.node (some ⟨15,c59,[.tmp 6]⟩) (.node (some ⟨25,c91,[.tmp 2]⟩) .nil .nil) .nil)))) (.node (some ⟨90,c5,[.tmp 6]⟩) (.node (some ⟨21,c9,[.tmp 6]⟩) (.node (some ⟨26,c17,[.tmp 4]⟩) (.node (some ⟨20,c33,[.tmp 4,.tmp 5]⟩) (.node (some ⟨88,c65,[]⟩) .nil .nil) (.node (some ⟨34,c97,[.tmp 4]⟩) .nil .nil)) (.node (some ⟨26,c49,[.tmp 4]⟩) (.node (some ⟨32,c81,[.tmp 6]⟩) .nil .nil) (.node (some ⟨49,mE,[]⟩) .nil .nil))) (.node (some ⟨39,c25,[.tmp 2,.tmp 3]⟩) (.node (some ⟨4,c41,[.cell 0 24]⟩) .nil .nil) (.node (some ⟨16,c57,[.tmp 4]⟩) (.node (some ⟨16,c89,[]⟩) .nil .nil) .nil))) (.node (some ⟨42,c13,[.tmp 6,.tmp 7]⟩) (.node none (.node none (.node (some ⟨4,c69,[.tmp 2]⟩) .nil .nil) (.node (some ⟨6,lX,[.tmp 2]⟩) .nil .nil)) (.node none (.node (some ⟨70,c85,[.tmp 9]⟩) .nil .nil) .nil)) (.node (some ⟨25,c29,[.tmp 4,.tmp 5]⟩) (.node (some ⟨35,c45,[.tmp 6]⟩) (.node (some ⟨22,c77,[.tmp 2]⟩) .nil .nil) .nil) (.node (some ⟨50,c61,[.cell 4 84]⟩) (.node (some ⟨67,c93,[.tmp 10,.tmp 11]⟩) .nil .nil) .nil))))) (.node none (.node none (.node none (.node none (.node none (.node (some ⟨49,c64,[.tmp 4]⟩) .nil .nil) (.node (some ⟨28,c96,[]⟩) .nil .nil)) (.node (some ⟨26,c48,[.tmp 6]⟩) (.node (some ⟨34,c80,[.tmp 4]⟩) .nil .nil) .nil)) (.node (some ⟨28,c24,[.tmp 4,.tmp 5]⟩) (.node (some ⟨4,c40,[.tmp 2]⟩) (.node (some ⟨15,c72,[.tmp 2]⟩) .nil .nil) .nil) (.node (some ⟨27,c56,[.tmp 4]⟩) (.node (some ⟨11,c88,[]⟩) .nil .nil) .nil))) (.node none (.node (some ⟨21,c20,[.tmp 4,.tmp 5]⟩) (.node (some ⟨106,c36,[.tmp 2]⟩) (.node (some ⟨9,c68,[.tmp 2]⟩) .nil .nil) (.node (some ⟨134,lW,[]⟩) .nil .nil)) (.node (some ⟨28,c52,[.tmp 4]⟩) (.node (some ⟨47,c84,[.tmp 4]⟩) .nil .nil) .nil)) (.node (some ⟨115,c28,[.tmp 4,.tmp 5]⟩) (.node (some ⟨19,c44,[.tmp 4]⟩) (.node (some ⟨22,c76,[.cell 4 99]⟩) .nil .nil) .nil) (.node (some ⟨15,c60,[.tmp 4]⟩) (.node (some ⟨25,c92,[.tmp 2]⟩) .nil .nil) .nil)))) (.node none (.node (some ⟨209,c10,[.tmp 0]⟩) (.node (some ⟨23,c18,[.tmp 4,.tmp 5]⟩) (.node (some ⟨37,c34,[.tmp 4,.tmp 5]⟩) (.node (some ⟨9,c66,[.tmp 4]⟩) .nil .nil) .nil) (.node (some ⟨21,c50,[.tmp 4]⟩) (.node (some ⟨14,c82,[]⟩) .nil .nil) .nil)) (.node (some ⟨37,c26,[.tmp 2,.tmp 3]⟩) (.node (some ⟨4,c42,[.tmp 2]⟩) .nil .nil) (.node (some ⟨44,c58,[.tmp 4]⟩) (.node (some ⟨20,c90,[.tmp 4]⟩) .nil .nil) .nil))) (.node none (.node (some ⟨27,c22,[.tmp 4]⟩) (.node none (.node (some ⟨36,c70,[.tmp 4]⟩) .nil .nil) (.node (some ⟨53,lY,[]⟩) .nil .nil)) (.node none (.node (some ⟨19,c86,[.tmp 4]⟩) .nil .nil) .nil)) (.node none (.node none .nil (.node (some ⟨19,lZ,[.tmp 2]⟩) .nil .nil)) (.node (some ⟨15,c62,[.tmp 6]⟩) (.node (some ⟨148,c94,[]⟩) .nil .nil) .nil))))))
noncomputable def DT:FuncId→Option Xq:=Afo.get
end Go.BkU
set_option maxRecDepth 100000
namespace Go.BkUM
open Go.Sp Go.BkU
noncomputable section
def TN:List Value→Option Value:=Go.BkQ.trueF
def TV:List Value→Option Value:=Go.BkQ.cellsM
def TW:List Value→Option Value:=fun _=>none
end
end Go.BkUM
