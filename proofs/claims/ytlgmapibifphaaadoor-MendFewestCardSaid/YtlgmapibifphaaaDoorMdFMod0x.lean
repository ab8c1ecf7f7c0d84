/- Made from wip. -/
import Derived.Test.YtlgmapibifphaaaDoorSpFramex
import Derived.Test.YtlgmapibifphaaaDoorMdFNodes
import Derived.Test.YtlgmapibifphaaaDoorSpObjSx
import Derived.KernelRfl

set_option maxRecDepth 100000
namespace Go.MdF
open Go.Sp
def c9:RC:=c9_23
def c11:RC:=c11_3
def c12:RC:=
 .seq (.reg [] [
  rq 0 (.assign (kb false)) 4])
 (.seq (.reg [] [
   rq 20 (cf 39 #[] #[]) 24,rq 21 (cf 38 #[(tp 20)] #[24]) 60,rq 19 (.move (tp 21)) 60,rq 22 (.extract (tp 19) 0) 22,rq 23 (.extract (tp 19) 1) 28,rq 1 (.assign (tp 22)) 22,rq 2 (.assign (tp 23)) 28])
 (.seq (.reg [] [
   rq 25 (cf 39 #[] #[]) 24,rq 26 (cf 29 #[(tp 25)] #[24]) 38,rq 24 (.move (tp 26)) 38,rq 27 (.extract (tp 24) 0) 3,rq 28 (.extract (tp 24) 1) 28,rq 3 (.assign (tp 27)) 3,rq 4 (.assign (tp 28)) 28])
 (.seq (.reg [] [
   rq 30 (cf 40 #[] #[]) 24,rq 31 (cf 29 #[(tp 30)] #[24]) 38,rq 29 (.move (tp 31)) 38,rq 32 (.extract (tp 29) 0) 3,rq 33 (.extract (tp 29) 1) 28,rq 5 (.assign (tp 32)) 3,rq 6 (.assign (tp 33)) 28])
 (.seq (.reg [] [
   rq 35 (cf 39 #[] #[]) 24,rq 36 (cf 16 #[(tp 35)] #[24]) 35,rq 34 (.move (tp 36)) 35,rq 37 (.extract (tp 34) 0) 34,rq 38 (.extract (tp 34) 1) 28,rq 7 (.assign (tp 37)) 34,rq 8 (.assign (tp 38)) 28])
 (.seq (.reg [] [
   rq 40 (cf 39 #[] #[]) 24,rq 41 (.buildSlice 22 2 #[(0,(ki 0)),(1,(ki 4))]) 22,rq 42 (cf 42 #[(tp 41)] #[22]) 22,rq 43 (.buildSlice 22 3 #[(0,(ki 1)),(1,(ki 2)),(2,(ki 3))]) 22,rq 44 (cf 42 #[(tp 43)] #[22]) 22,rq 45 (.buildSlice 34 2 #[(0,(tp 42)),(1,(tp 44))]) 34,rq 46 (cf 41 #[(tp 45)] #[34]) 34,rq 47 (cf 18 #[(tp 40),(tp 46)] #[24,34]) 38,rq 39 (.move (tp 47)) 38,rq 48 (.extract (tp 39) 0) 3,rq 49 (.extract (tp 39) 1) 28,rq 9 (.assign (tp 48)) 3,rq 10 (.assign (tp 49)) 28])
 (.seq (.reg [] [
   rq 51 (cf 40 #[] #[]) 24,rq 52 (cf 25 #[(tp 51),(ki 0),(ki 2)] #[24,3,3]) 52,rq 50 (.move (tp 52)) 52,rq 53 (.extract (tp 50) 0) 24,rq 54 (.extract (tp 50) 1) 28,rq 11 (.alloc 24) 0,rn (.store 24 (tp 11) (tp 53)) 0,rq 12 (.assign (tp 54)) 28])
 (.seq (.reg [] [
   rq 56 (cf 40 #[] #[]) 24,rq 57 (cf 13 #[(tp 56)] #[24]) 29,rq 55 (.move (tp 57)) 29,rq 58 (.extract (tp 55) 0) 27,rq 59 (.extract (tp 55) 1) 28,rq 13 (.assign (tp 58)) 27,rq 14 (.assign (tp 59)) 28])
 (.seq (.seq (.reg [] [
   rq 60 (.move (tp 2)) 28,rq 61 (.binOp .neq 28 (tp 60) (ki 0) 28) 4,rq 62 (.move (tp 61)) 4,rg 63 (.move (tp 4)) 28 62 false,rg 64 (.binOp .neq 28 (tp 63) (ki 0) 28) 4 62 false,rq 65 (.pick (tp 62) (kb true) (tp 64)) 4,rq 66 (.move (tp 65)) 4,rg 67 (.move (tp 6)) 28 66 false,rg 68 (.binOp .neq 28 (tp 67) (ki 0) 28) 4 66 false,rq 69 (.pick (tp 66) (kb true) (tp 68)) 4,rq 70 (.move (tp 69)) 4,rg 71 (.move (tp 8)) 28 70 false,rg 72 (.binOp .neq 28 (tp 71) (ki 0) 28) 4 70 false,rq 73 (.pick (tp 70) (kb true) (tp 72)) 4,rq 74 (.move (tp 73)) 4,rg 75 (.move (tp 10)) 28 74 false,rg 76 (.binOp .neq 28 (tp 75) (ki 0) 28) 4 74 false,rq 77 (.pick (tp 74) (kb true) (tp 76)) 4,rq 78 (.move (tp 77)) 4,rg 79 (.move (tp 12)) 28 78 false,rg 80 (.binOp .neq 28 (tp 79) (ki 0) 28) 4 78 false,rq 81 (.pick (tp 78) (kb true) (tp 80)) 4,rq 82 (.move (tp 81)) 4,rg 83 (.move (tp 14)) 28 82 false,rg 84 (.binOp .neq 28 (tp 83) (ki 0) 28) 4 82 false,rq 85 (.pick (tp 82) (kb true) (tp 84)) 4])
 (.cond (tp 85) (.seq (.reg [] [
   rq 0 (.assign (kb false)) 4])
  (.ret))
 (.skip)))
 (.seq (.reg [] [
   rq 87 (cf 27 #[(ki 5),(ki 3)] #[3,3]) 38,rq 86 (.move (tp 87)) 38,rq 88 (.extract (tp 86) 0) 3,rq 89 (.extract (tp 86) 1) 28,rq 15 (.assign (tp 88)) 3,rq 2 (.assign (tp 89)) 28])
 (.seq (.reg [] [
   rq 91 (cf 39 #[] #[]) 24,rq 92 (cf 31 #[(tp 91)] #[24]) 60,rq 90 (.move (tp 92)) 60,rq 93 (.extract (tp 90) 0) 22,rq 94 (.extract (tp 90) 1) 28,rq 16 (.assign (tp 93)) 22,rq 4 (.assign (tp 94)) 28])
 (.seq (.reg [] [
   rq 96 (cf 40 #[] #[]) 24,rq 97 (cf 30 #[(tp 96)] #[24]) 38,rq 95 (.move (tp 97)) 38,rq 98 (.extract (tp 95) 0) 3,rq 99 (.extract (tp 95) 1) 28,rq 17 (.assign (tp 98)) 3,rq 6 (.assign (tp 99)) 28])
 (.seq (.reg [] [
   rq 101 (cf 40 #[] #[]) 24,rq 102 (cf 16 #[(tp 101)] #[24]) 35,rq 100 (.move (tp 102)) 35,rq 103 (.extract (tp 100) 0) 34,rq 104 (.extract (tp 100) 1) 28,rq 18 (.assign (tp 103)) 34,rq 8 (.assign (tp 104)) 28])
 (.seq (.reg [] [
   rq 106 (cf 39 #[] #[]) 24,rq 107 (.buildSlice 22 2 #[(0,(ki 0)),(1,(ki 1))]) 22,rq 108 (cf 42 #[(tp 107)] #[22]) 22,rq 109 (.buildSlice 22 3 #[(0,(ki 2)),(1,(ki 3)),(2,(ki 4))]) 22,rq 110 (cf 42 #[(tp 109)] #[22]) 22,rq 111 (.buildSlice 34 2 #[(0,(tp 108)),(1,(tp 110))]) 34,rq 112 (cf 41 #[(tp 111)] #[34]) 34,rq 113 (cf 18 #[(tp 106),(tp 112)] #[24,34]) 38,rq 105 (.move (tp 113)) 38,rq 114 (.extract (tp 105) 0) 3,rq 115 (.extract (tp 105) 1) 28,rq 10 (.assign (tp 115)) 28])
 (.seq (.reg [0, 1, 2, 3, 4, 5, 6, 7, 8, 9, 10, 11, 12, 13, 14, 15, 16, 17, 18, 19, 20, 21, 22, 23, 24, 25, 26, 27, 28, 29, 30, 31, 32, 33, 34, 35, 36, 37, 38, 39, 40, 41, 42, 43, 44, 45, 46, 48, 47, 49, 50, 51, 52, 53, 54, 55, 56, 58, 57, 59, 60, 61, 62, 63, 64, 65, 66, 67, 68, 69, 70, 71, 72, 73, 74, 75, 76, 77, 78, 79, 80, 81, 82, 83, 84, 85, 86, 88, 89, 90, 87, 91, 92, 93, 94, 96, 97, 98, 95, 99, 100, 101, 102] [
   rq 116 (.move (tp 2)) 28,rq 117 (.binOp .eql 28 (tp 116) (ki 0) 28) 4,rq 118 (.move (tp 117)) 4,rg 119 (.move (tp 4)) 28 118 true,rg 120 (.binOp .eql 28 (tp 119) (ki 0) 28) 4 118 true,rq 121 (.pick (tp 118) (tp 120) (kb false)) 4,rq 122 (.move (tp 121)) 4,rg 123 (.move (tp 6)) 28 122 true,rg 124 (.binOp .eql 28 (tp 123) (ki 0) 28) 4 122 true,rq 125 (.pick (tp 122) (tp 124) (kb false)) 4,rq 126 (.move (tp 125)) 4,rg 127 (.move (tp 8)) 28 126 true,rg 128 (.binOp .eql 28 (tp 127) (ki 0) 28) 4 126 true,rq 129 (.pick (tp 126) (tp 128) (kb false)) 4,rq 130 (.move (tp 129)) 4,rg 131 (.move (tp 10)) 28 130 true,rg 132 (.binOp .eql 28 (tp 131) (ki 14) 28) 4 130 true,rq 133 (.pick (tp 130) (tp 132) (kb false)) 4,rq 134 (.move (tp 133)) 4,rg 135 (.move (tp 3)) 3 134 true,rg 136 (.binOp .eql 3 (tp 135) (ki 3) 3) 4 134 true,rq 137 (.pick (tp 134) (tp 136) (kb false)) 4,rq 138 (.move (tp 137)) 4,rg 139 (.move (tp 5)) 3 138 true,rg 140 (.binOp .eql 3 (tp 139) (ki 2) 3) 4 138 true,rq 141 (.pick (tp 138) (tp 140) (kb false)) 4,rq 142 (.move (tp 141)) 4,rg 143 (.move (tp 9)) 3 142 true,rg 144 (.binOp .eql 3 (tp 143) (ki 2) 3) 4 142 true,rq 145 (.pick (tp 142) (tp 144) (kb false)) 4,rq 146 (.move (tp 145)) 4,rg 147 (.move (tp 15)) 3 146 true,rg 148 (.binOp .eql 3 (tp 147) (ki 3) 3) 4 146 true,rq 149 (.pick (tp 146) (tp 148) (kb false)) 4,rq 150 (.move (tp 149)) 4,rg 151 (.move (tp 17)) 3 150 true,rg 152 (.binOp .eql 3 (tp 151) (ki 4) 3) 4 150 true,rq 153 (.pick (tp 150) (tp 152) (kb false)) 4,rq 154 (.move (tp 153)) 4,rg 155 (.move (tp 1)) 22 154 true,rg 156 (.buildSlice 22 5 #[(0,(ki 0)),(1,(ki 1)),(2,(ki 2)),(3,(ki 3)),(4,(ki 4))]) 22 154 true,rg 157 (cf 42 #[(tp 156)] #[22]) 22 154 true,rg 158 (cf 26 #[(tp 155),(tp 157)] #[22,22]) 4 154 true,rq 159 (.pick (tp 154) (tp 158) (kb false)) 4,rq 160 (.move (tp 159)) 4,rg 161 (.move (tp 7)) 34 160 true,rg 162 (.buildSlice 22 3 #[(0,(ki 0)),(1,(ki 1)),(2,(ki 2))]) 22 160 true,rg 164 (.buildSlice 22 2 #[(0,(ki 3)),(1,(ki 4))]) 22 160 true,rg 163 (cf 42 #[(tp 162)] #[22]) 22 160 true,rg 165 (cf 42 #[(tp 164)] #[22]) 22 160 true,rg 166 (.buildSlice 34 2 #[(0,(tp 163)),(1,(tp 165))]) 34 160 true,rg 167 (cf 41 #[(tp 166)] #[34]) 34 160 true,rg 168 (cf 20 #[(tp 161),(tp 167)] #[34,34]) 4 160 true,rq 169 (.pick (tp 160) (tp 168) (kb false)) 4,rq 170 (.move (tp 169)) 4,rg 171 (.move (tp 18)) 34 170 true,rg 172 (.buildSlice 22 2 #[(0,(ki 0)),(1,(ki 2))]) 22 170 true,rg 174 (.buildSlice 22 2 #[(0,(ki 1)),(1,(ki 3))]) 22 170 true,rg 173 (cf 42 #[(tp 172)] #[22]) 22 170 true,rg 175 (cf 42 #[(tp 174)] #[22]) 22 170 true,rg 176 (.buildSlice 34 2 #[(0,(tp 173)),(1,(tp 175))]) 34 170 true,rg 177 (cf 41 #[(tp 176)] #[34]) 34 170 true,rg 178 (cf 20 #[(tp 171),(tp 177)] #[34,34]) 4 170 true,rq 179 (.pick (tp 170) (tp 178) (kb false)) 4,rq 180 (.move (tp 179)) 4,rg 181 (.fieldAddr 24 (tp 11) 1) 0 180 true,rg 182 (.load 22 (tp 181)) 22 180 true,rg 183 (.buildSlice 22 4 #[(0,(ki 1)),(1,(ki 0)),(2,(ki 0)),(3,(ki 1))]) 22 180 true,
   ⟨(some 184),cf 42 #[(tp 183)] #[22],22,(some ((some 180),true)),[(tp 181)]⟩,rg 185 (cf 26 #[(tp 182),(tp 184)] #[22,22]) 4 180 true,rq 186 (.pick (tp 180) (tp 185) (kb false)) 4,rq 187 (.move (tp 186)) 4,rg 188 (.move (tp 13)) 27 187 true,rg 189 (.build 51 #[(0,(ki 0)),(1,(ki 2))]) 51 187 true,rg 190 (.build 51 #[(0,(ki 0)),(1,(ki 3))]) 51 187 true,rg 191 (.build 51 #[(0,(ki 1)),(1,(ki 2))]) 51 187 true,rg 192 (.build 51 #[(0,(ki 1)),(1,(ki 3))]) 51 187 true,rg 193 (.buildSlice 27 4 #[(0,(tp 189)),(1,(tp 190)),(2,(tp 191)),(3,(tp 192))]) 27 187 true,rg 194 (cf 15 #[(tp 188),(tp 193)] #[27,27]) 4 187 true,rq 195 (.pick (tp 187) (tp 194) (kb false)) 4,rq 196 (.move (tp 195)) 4,rg 197 (.move (tp 16)) 22 196 true,rg 198 (.buildSlice 22 5 #[(0,(ki 1)),(1,(ki 2)),(2,(ki 0)),(3,(ki 4)),(4,(ki 3))]) 22 196 true,rg 199 (cf 42 #[(tp 198)] #[22]) 22 196 true,rg 200 (cf 26 #[(tp 197),(tp 199)] #[22,22]) 4 196 true,rq 201 (.pick (tp 196) (tp 200) (kb false)) 4,rq 202 (.move (tp 201)) 4,rg 204 (.build 51 #[(0,(ki 0)),(1,(ki 2))]) 51 202 true,rg 205 (.build 51 #[(0,(ki 1)),(1,(ki 3))]) 51 202 true,rg 206 (.buildSlice 27 2 #[(0,(tp 204)),(1,(tp 205))]) 27 202 true,rg 203 (cf 40 #[] #[]) 24 202 true,rg 207 (cf 34 #[(tp 203),(tp 206)] #[24,27]) 28 202 true,rg 208 (.binOp .eql 28 (tp 207) (ki 0) 28) 4 202 true,rq 209 (.pick (tp 202) (tp 208) (kb false)) 4,rq 210 (.move (tp 209)) 4,rg 212 (.build 51 #[(0,(ki 0)),(1,(ki 1))]) 51 210 true,rg 213 (.build 51 #[(0,(ki 2)),(1,(ki 3))]) 51 210 true,rg 214 (.buildSlice 27 2 #[(0,(tp 212)),(1,(tp 213))]) 27 210 true,rg 211 (cf 40 #[] #[]) 24 210 true,rg 215 (cf 34 #[(tp 211),(tp 214)] #[24,27]) 28 210 true,rg 216 (.binOp .eql 28 (tp 215) (ki 14) 28) 4 210 true,rq 217 (.pick (tp 210) (tp 216) (kb false)) 4,rq 0 (.assign (tp 217)) 4])
 (.ret)))))))))))))))
def c13:RC:=
 .seq (.reg [] [
  rq 1 (.box 24 (tp 0)) 0,rq 2 (.assign (.const (.slice none 0 0))) 27,rq 3 (.assign (ki 0)) 28])
 (.seq (.reg [] [
   rq 10 (.load 24 (tp 1)) 24,rq 11 (cf 29 #[(tp 10)] #[24]) 38,rq 9 (.move (tp 11)) 38,rq 12 (.extract (tp 9) 0) 3,rq 13 (.extract (tp 9) 1) 28,rq 4 (.assign (tp 12)) 3,rq 5 (.assign (tp 13)) 28])
 (.seq (.seq (.reg [] [
   rq 14 (.move (tp 5)) 28,rq 15 (.binOp .neq 28 (tp 14) (ki 0) 28) 4])
 (.cond (tp 15) (.seq (.reg [] [
   rq 16 (.move (tp 5)) 28,
   rq 2 (.assign (.const (.slice none 0 0))) 27,
   rq 3 (.assign (tp 16)) 28])
  (.ret))
 (.skip)))
 (.seq (.reg [] [
   rq 6 (.assign (.const (.slice none 0 0))) 27])
 (.seq (.seq (.reg [] [
   rq 17 (.fieldAddr 24 (tp 1) 1) 0,rq 18 (.load 22 (tp 17)) 22,rq 19 (cb .len #[(tp 18)] #[22]) 3,rq 20 (.move (ki 0)) 3])
 (.block 0 (.loop (.seq (.reg [] [
   rq 21 (.binOp .lss 3 (tp 20) (tp 19) 3) 0])
   (.seq (.cond (tp 21) (.skip)
   (.exit 0))
   (.seq (.block 1 (.seq (.reg [] [
     rq 22 (.move (tp 20)) 3,
     rq 7 (.assign (tp 22)) 3])
    (.seq (.reg [] [
      rq 23 (.move (tp 7)) 3,
      rq 24 (.binOp .add 3 (tp 23) (ki 1) 3) 3,
      rq 8 (.assign (tp 24)) 3])
    (.block 2 (.loop (.seq (.seq (.reg [] [
      rq 25 (.move (tp 8)) 3,
      rq 26 (.fieldAddr 24 (tp 1) 1) 0,
      rq 27 (.load 22 (tp 26)) 22,
      rq 28 (cb .len #[(tp 27)] #[22]) 3,
      rq 29 (.binOp .lss 3 (tp 25) (tp 28) 3) 4])
      (.cond (tp 29) (.skip)
      (.exit 2)))
      (.seq (.block 3 (.seq (.reg [] [
        rq 32 (.load 24 (tp 1)) 24,
        rq 33 (.move (tp 7)) 3,
        rq 34 (.move (tp 8)) 3,
        rq 35 (cf 43 #[(tp 32),(tp 33),(tp 34)] #[24,3,3]) 24,
        rq 36 (cf 44 #[(tp 35)] #[24]) 3,
        rq 37 (.move (tp 4)) 3,
        rq 38 (.binOp .lss 3 (tp 36) (tp 37) 3) 4])
       (.cond (tp 38) (.reg [] [
         rq 39 (.move (tp 6)) 27,
         rq 40 (.move (tp 7)) 3,
         rq 41 (.move (tp 8)) 3,
         rq 42 (.build 51 #[(0,(tp 40)),(1,(tp 41))]) 51,
         rq 43 (.buildSlice 27 1 #[(0,(tp 42))]) 27,
         rq 44 (cb .append #[(tp 39),(tp 43)] #[27,27]) 27,
         rq 6 (.assign (tp 44)) 27])
       (.skip))))
      (.reg [] [
        rq 30 (.move (tp 8)) 3,
        rq 31 (.binOp .add 3 (tp 30) (ki 1) 3) 3,
        rq 8 (.assign (tp 31)) 3]))))))))
   (.reg [] [
     rq 45 (.binOp .add 3 (tp 20) (ki 1) 3) 3,
     rq 20 (.move (tp 45)) 3])))))))
 (.seq (.reg [] [
   rq 46 (.move (tp 6)) 27,rq 2 (.assign (tp 46)) 27,rq 3 (.assign (ki 0)) 28])
 (.ret))))))
def c15:RC:=
 .seq (.reg [] [
  rq 4 (.assign (kb false)) 4])
 (.seq (.seq (.reg [] [
   rq 6 (.move (tp 0)) 27,rq 7 (cb .len #[(tp 6)] #[27]) 3,rq 8 (.move (tp 1)) 27,rq 9 (cb .len #[(tp 8)] #[27]) 3,rq 10 (.binOp .neq 3 (tp 7) (tp 9) 3) 4])
 (.cond (tp 10) (.seq (.reg [] [
   rq 4 (.assign (kb false)) 4])
  (.ret))
 (.skip)))
 (.seq (.seq (.reg [] [
   rq 5 (.assign (ki 0)) 3])
 (.block 0 (.loop (.seq (.seq (.reg [] [
   rq 11 (.move (tp 5)) 3,
   rq 12 (.move (tp 0)) 27,
   rq 13 (cb .len #[(tp 12)] #[27]) 3,
   rq 14 (.binOp .lss 3 (tp 11) (tp 13) 3) 4])
   (.cond (tp 14) (.skip)
   (.exit 0)))
   (.seq (.block 1 (.seq (.reg [0, 1, 2, 3, 4, 5, 6, 7, 8] [
     rq 17 (.move (tp 0)) 27,
     rq 18 (.move (tp 5)) 3,
     rq 19 (.indexAddr 27 (tp 17) (tp 18)) 0,
     rq 20 (.load 51 (tp 19)) 51,
     rq 21 (.move (tp 1)) 27,
     rq 22 (.move (tp 5)) 3,
     rq 23 (.indexAddr 27 (tp 21) (tp 22)) 0,
     rq 24 (.load 51 (tp 23)) 51,
     rq 25 (.binOp .neq 51 (tp 20) (tp 24) 51) 4])
    (.cond (tp 25) (.seq (.reg [] [
      rq 4 (.assign (kb false)) 4])
     (.ret))
    (.skip))))
   (.reg [] [
     rq 15 (.move (tp 5)) 3,
     rq 16 (.binOp .add 3 (tp 15) (ki 1) 3) 3,
     rq 5 (.assign (tp 16)) 3]))))))
 (.seq (.reg [] [
   rq 4 (.assign (kb true)) 4])
 (.ret))))
def c16:RC:=
 .seq (.reg [] [
  rq 1 (.box 24 (tp 0)) 0,rq 2 (.assign (.const (.slice none 0 0))) 34,rq 3 (.assign (ki 0)) 28])
 (.seq (.seq (.reg [] [
   rq 5 (.load 24 (tp 1)) 24,rq 6 (cf 47 #[(tp 5)] #[24]) 28,rq 4 (.assign (tp 6)) 28])
 (.seq (.reg [] [
   rq 7 (.move (tp 4)) 28,rq 8 (.binOp .neq 28 (tp 7) (ki 0) 28) 4])
 (.cond (tp 8) (.seq (.reg [] [
   rq 9 (.move (tp 4)) 28,
   rq 2 (.assign (.const (.slice none 0 0))) 34,
   rq 3 (.assign (tp 9)) 28])
  (.ret))
 (.skip))))
 (.seq (.reg [] [
   rq 10 (.load 24 (tp 1)) 24,rq 11 (cf 48 #[(tp 10)] #[24]) 34,rq 2 (.assign (tp 11)) 34,rq 3 (.assign (ki 0)) 28])
 (.ret)))
def c18:RC:=
 .seq (.reg [] [
  rq 2 (.box 24 (tp 0)) 0,rq 4 (.assign (ki 0)) 3,rq 5 (.assign (ki 0)) 28])
 (.seq (.seq (.reg [] [
   rq 16 (.load 24 (tp 2)) 24,rq 17 (cf 47 #[(tp 16)] #[24]) 28,rq 6 (.assign (tp 17)) 28])
 (.seq (.reg [] [
   rq 18 (.move (tp 6)) 28,rq 19 (.binOp .neq 28 (tp 18) (ki 0) 28) 4])
 (.cond (tp 19) (.seq (.reg [] [
   rq 20 (.move (tp 6)) 28,
   rq 4 (.assign (ki 0)) 3,
   rq 5 (.assign (tp 20)) 28])
  (.ret))
 (.skip))))
 (.seq (.reg [] [
   rq 21 (.load 24 (tp 2)) 24,rq 22 (cf 51 #[(tp 21)] #[24]) 80,rq 7 (.assign (tp 22)) 80])
 (.seq (.reg [] [
   rq 8 (.assign (.const (.int .u16 0))) 80])
 (.seq (.seq (.reg [] [
   rq 23 (.move (tp 1)) 34,rq 24 (cb .len #[(tp 23)] #[34]) 3,rq 25 (.move (ki 0)) 3])
 (.block 0 (.loop (.seq (.reg [] [
   rq 26 (.binOp .lss 3 (tp 25) (tp 24) 3) 0])
   (.seq (.cond (tp 26) (.skip)
   (.exit 0))
   (.seq (.block 1 (.seq (.reg [] [
     rq 27 (.indexAddr 34 (tp 23) (tp 25)) 0,
     rq 28 (.load 22 (tp 27)) 22,
     rq 10 (.assign (tp 28)) 22])
    (.seq (.seq (.reg [] [
      rq 29 (.move (tp 10)) 22,
      rq 30 (cb .len #[(tp 29)] #[22]) 3,
      rq 31 (.binOp .eql 3 (tp 30) (ki 0) 3) 4])
    (.cond (tp 31) (.seq (.reg [] [
      rq 4 (.assign (ki 0)) 3,
      rq 5 (.assign (ki 4)) 28])
     (.ret))
    (.skip)))
    (.seq (.seq (.reg [] [
      rq 32 (.move (tp 10)) 22,
      rq 33 (cb .len #[(tp 32)] #[22]) 3,
      rq 34 (.move (ki 0)) 3])
    (.block 2 (.loop (.seq (.reg [] [
      rq 35 (.binOp .lss 3 (tp 34) (tp 33) 3) 0])
      (.seq (.cond (tp 35) (.skip)
      (.exit 2))
      (.seq (.block 3 (.seq (.reg [] [
        rq 36 (.indexAddr 22 (tp 32) (tp 34)) 0,
        rq 37 (.load 3 (tp 36)) 3,
        rq 12 (.assign (tp 37)) 3])
       (.seq (.block 4 (.seq (.reg [] [
         rq 39 (.move (tp 12)) 3,
         rq 40 (.fieldAddr 24 (tp 2) 1) 0,
         rq 41 (.load 22 (tp 40)) 22,
         rq 42 (cb .len #[(tp 41)] #[22]) 3,
         rq 43 (.binOp .sub 3 (tp 42) (ki 1) 3) 3,
         rq 44 (cf 52 #[(ki 0),(tp 39),(tp 43)] #[3,3,3]) 4,
         rq 45 (.unOp .not 4 (tp 44)) 4,
         rq 38 (.assign (tp 45)) 4])
        (.cond (tp 38) (.seq (.reg [] [
          rq 4 (.assign (ki 0)) 3,
          rq 5 (.assign (ki 2)) 28])
         (.ret))
        (.seq (.reg [] [
          rq 47 (.move (tp 8)) 80,
          rq 48 (.move (tp 12)) 3,
          rq 49 (cf 53 #[(tp 47),(tp 48)] #[80,3]) 4,
          rq 46 (.assign (tp 49)) 4])
         (.cond (tp 46) (.seq (.reg [] [
           rq 4 (.assign (ki 0)) 3,
           rq 5 (.assign (ki 6)) 28])
          (.ret))
         (.seq (.reg [] [
           rq 51 (.move (tp 7)) 80,
           rq 52 (.move (tp 12)) 3,
           rq 53 (cf 53 #[(tp 51),(tp 52)] #[80,3]) 4,
           rq 54 (.unOp .not 4 (tp 53)) 4,
           rq 50 (.assign (tp 54)) 4])
          (.cond (tp 50) (.seq (.reg [] [
            rq 4 (.assign (ki 0)) 3,
            rq 5 (.assign (ki 13)) 28])
           (.ret))
          (.skip))))))))
       (.reg [] [
         rq 55 (.move (tp 8)) 80,
         rq 56 (.move (tp 12)) 3,
         rq 57 (.binOp .shl 80 (.const (.int .u16 1)) (tp 56) 3) 80,
         rq 58 (.binOp .or 80 (tp 55) (tp 57) 80) 80,
         rq 8 (.assign (tp 58)) 80]))))
      (.reg [] [
        rq 59 (.binOp .add 3 (tp 34) (ki 1) 3) 3,
        rq 34 (.move (tp 59)) 3])))))))
    (.seq (.reg [] [
      rq 60 (.move (tp 10)) 22,
      rq 61 (.move (tp 10)) 22,
      rq 62 (cb .len #[(tp 61)] #[22]) 3,
      rq 63 (.binOp .sub 3 (tp 62) (ki 1) 3) 3,
      rq 64 (.indexAddr 22 (tp 60) (tp 63)) 0,
      rq 65 (.load 3 (tp 64)) 3,
      rq 13 (.assign (tp 65)) 3])
    (.seq (.reg [] [
      rq 66 (.move (tp 10)) 22,
      rq 67 (cb .len #[(tp 66)] #[22]) 3,
      rq 68 (.move (ki 0)) 3])
    (.block 5 (.loop (.seq (.reg [] [
      rq 69 (.binOp .lss 3 (tp 68) (tp 67) 3) 0])
      (.seq (.cond (tp 69) (.skip)
      (.exit 5))
      (.seq (.block 6 (.seq (.reg [] [
        rq 70 (.indexAddr 22 (tp 66) (tp 68)) 0,
        rq 71 (.load 3 (tp 70)) 3,
        rq 15 (.assign (tp 71)) 3])
       (.seq (.seq (.reg [0, 1, 2, 3, 4, 5, 6, 7, 8, 9, 10] [
         rq 72 (.fieldAddr 24 (tp 2) 2) 0,
         rq 73 (.load 22 (tp 72)) 22,
         rq 74 (.move (tp 13)) 3,
         rq 75 (.indexAddr 22 (tp 73) (tp 74)) 0,
         rq 76 (.load 3 (tp 75)) 3,
         rq 77 (.fieldAddr 24 (tp 2) 1) 0,
         rq 78 (.load 22 (tp 77)) 22,
         rq 79 (.move (tp 15)) 3,
         rq 80 (.indexAddr 22 (tp 78) (tp 79)) 0,
         rq 81 (.load 3 (tp 80)) 3,
         rq 82 (.binOp .neq 3 (tp 76) (tp 81) 3) 4])
       (.cond (tp 82) (.seq (.reg [] [
         rq 4 (.assign (ki 0)) 3,
         rq 5 (.assign (ki 14)) 28])
        (.ret))
       (.skip)))
       (.reg [] [
         rq 83 (.move (tp 15)) 3,
         rq 13 (.assign (tp 83)) 3]))))
      (.reg [] [
        rq 84 (.binOp .add 3 (tp 68) (ki 1) 3) 3,
        rq 68 (.move (tp 84)) 3]))))))))))))
   (.reg [] [
     rq 85 (.binOp .add 3 (tp 25) (ki 1) 3) 3,
     rq 25 (.move (tp 85)) 3])))))))
 (.seq (.seq (.reg [] [
   rq 86 (.move (tp 8)) 80,rq 87 (.move (tp 7)) 80,rq 88 (.binOp .neq 80 (tp 86) (tp 87) 80) 4])
 (.cond (tp 88) (.seq (.reg [] [
   rq 4 (.assign (ki 0)) 3,
   rq 5 (.assign (ki 21)) 28])
  (.ret))
 (.skip)))
 (.seq (.reg [] [
   rq 89 (.move (tp 1)) 34,rq 90 (cb .len #[(tp 89)] #[34]) 3,rq 4 (.assign (tp 90)) 3,rq 5 (.assign (ki 0)) 28])
 (.ret)))))))
def c20:RC:=
 .seq (.reg [] [
  rq 4 (.assign (kb false)) 4])
 (.seq (.seq (.reg [] [
   rq 6 (.move (tp 0)) 34,rq 7 (cb .len #[(tp 6)] #[34]) 3,rq 8 (.move (tp 1)) 34,rq 9 (cb .len #[(tp 8)] #[34]) 3,rq 10 (.binOp .neq 3 (tp 7) (tp 9) 3) 4])
 (.cond (tp 10) (.seq (.reg [] [
   rq 4 (.assign (kb false)) 4])
  (.ret))
 (.skip)))
 (.seq (.seq (.reg [] [
   rq 5 (.assign (ki 0)) 3])
 (.block 0 (.loop (.seq (.seq (.reg [] [
   rq 11 (.move (tp 5)) 3,
   rq 12 (.move (tp 0)) 34,
   rq 13 (cb .len #[(tp 12)] #[34]) 3,
   rq 14 (.binOp .lss 3 (tp 11) (tp 13) 3) 4])
   (.cond (tp 14) (.skip)
   (.exit 0)))
   (.seq (.block 1 (.seq (.reg [0, 1, 2, 3, 4, 5, 6, 7, 8, 9] [
     rq 17 (.move (tp 0)) 34,
     rq 18 (.move (tp 5)) 3,
     rq 19 (.indexAddr 34 (tp 17) (tp 18)) 0,
     rq 20 (.load 22 (tp 19)) 22,
     rq 21 (.move (tp 1)) 34,
     rq 22 (.move (tp 5)) 3,
     rq 23 (.indexAddr 34 (tp 21) (tp 22)) 0,
     rq 24 (.load 22 (tp 23)) 22,
     rq 25 (cf 26 #[(tp 20),(tp 24)] #[22,22]) 4,
     rq 26 (.unOp .not 4 (tp 25)) 4])
    (.cond (tp 26) (.seq (.reg [] [
      rq 4 (.assign (kb false)) 4])
     (.ret))
    (.skip))))
   (.reg [] [
     rq 15 (.move (tp 5)) 3,
     rq 16 (.binOp .add 3 (tp 15) (ki 1) 3) 3,
     rq 5 (.assign (tp 16)) 3]))))))
 (.seq (.reg [] [
   rq 4 (.assign (kb true)) 4])
 (.ret))))
def c25:RC:=
 .seq (.reg [] [
  rq 3 (.box 24 (tp 0)) 0,rq 6 (.alloc 24) 0,rq 7 (.assign (ki 0)) 28])
 (.seq (.reg [] [
   rq 9 (.load 24 (tp 3)) 24,rq 10 (cf 47 #[(tp 9)] #[24]) 28,rq 8 (.assign (tp 10)) 28])
 (.seq (.seq (.reg [] [
   rq 11 (.move (tp 8)) 28,rq 12 (.binOp .eql 28 (tp 11) (ki 0) 28) 4])
 (.cond (tp 12) (.reg [] [
   rq 13 (.load 24 (tp 3)) 24,
   rq 14 (.move (tp 1)) 3,
   rq 15 (.move (tp 2)) 3,
   rq 16 (cf 57 #[(tp 13),(tp 14),(tp 15)] #[24,3,3]) 28,
   rq 8 (.assign (tp 16)) 28])
 (.skip)))
 (.seq (.seq (.reg [] [
   rq 17 (.move (tp 8)) 28,rq 18 (.binOp .neq 28 (tp 17) (ki 0) 28) 4])
 (.cond (tp 18) (.seq (.reg [] [
   rq 19 (.build 24 #[]) 24,
   rq 20 (.move (tp 8)) 28,
   rn (.store 24 (tp 6) (tp 19)) 0,
   rq 7 (.assign (tp 20)) 28])
  (.ret))
 (.skip)))
 (.seq (.reg [] [
   rq 21 (.load 24 (tp 3)) 24,rq 22 (.move (tp 1)) 3,rq 23 (.move (tp 2)) 3,rq 24 (cf 43 #[(tp 21),(tp 22),(tp 23)] #[24,3,3]) 24,rn (.store 24 (tp 6) (tp 24)) 0,rq 7 (.assign (ki 0)) 28])
 (.ret)))))
def c26:RC:=
 .seq (.reg [] [
  rq 4 (.assign (kb false)) 4])
 (.seq (.seq (.reg [] [
   rq 6 (.move (tp 0)) 22,rq 7 (cb .len #[(tp 6)] #[22]) 3,rq 8 (.move (tp 1)) 22,rq 9 (cb .len #[(tp 8)] #[22]) 3,rq 10 (.binOp .neq 3 (tp 7) (tp 9) 3) 4])
 (.cond (tp 10) (.seq (.reg [] [
   rq 4 (.assign (kb false)) 4])
  (.ret))
 (.skip)))
 (.seq (.seq (.reg [] [
   rq 5 (.assign (ki 0)) 3])
 (.block 0 (.loop (.seq (.seq (.reg [] [
   rq 11 (.move (tp 5)) 3,
   rq 12 (.move (tp 0)) 22,
   rq 13 (cb .len #[(tp 12)] #[22]) 3,
   rq 14 (.binOp .lss 3 (tp 11) (tp 13) 3) 4])
   (.cond (tp 14) (.skip)
   (.exit 0)))
   (.seq (.block 1 (.seq (.reg [0, 1, 2, 3, 4, 5, 6, 7, 8] [
     rq 17 (.move (tp 0)) 22,
     rq 18 (.move (tp 5)) 3,
     rq 19 (.indexAddr 22 (tp 17) (tp 18)) 0,
     rq 20 (.load 3 (tp 19)) 3,
     rq 21 (.move (tp 1)) 22,
     rq 22 (.move (tp 5)) 3,
     rq 23 (.indexAddr 22 (tp 21) (tp 22)) 0,
     rq 24 (.load 3 (tp 23)) 3,
     rq 25 (.binOp .neq 3 (tp 20) (tp 24) 3) 4])
    (.cond (tp 25) (.seq (.reg [] [
      rq 4 (.assign (kb false)) 4])
     (.ret))
    (.skip))))
   (.reg [] [
     rq 15 (.move (tp 5)) 3,
     rq 16 (.binOp .add 3 (tp 15) (ki 1) 3) 3,
     rq 5 (.assign (tp 16)) 3]))))))
 (.seq (.reg [] [
   rq 4 (.assign (kb true)) 4])
 (.ret))))
def c27:RC:=
 .seq (.reg [] [
  rq 4 (.assign (ki 0)) 3,rq 5 (.assign (ki 0)) 28])
 (.seq (.seq (.reg [] [
   rq 6 (.move (tp 0)) 3,rq 7 (cf 52 #[(ki 1),(tp 6),(ki 10)] #[3,3,3]) 4,rq 8 (.unOp .not 4 (tp 7)) 4,rq 9 (.move (tp 8)) 4,rg 10 (.move (tp 1)) 3 9 false,rg 11 (cf 52 #[(ki 1),(tp 10),(ki 5)] #[3,3,3]) 4 9 false,rg 12 (.unOp .not 4 (tp 11)) 4 9 false,rq 13 (.pick (tp 9) (kb true) (tp 12)) 4])
 (.cond (tp 13) (.seq (.reg [] [
   rq 4 (.assign (ki 0)) 3,
   rq 5 (.assign (ki 1)) 28])
  (.ret))
 (.skip)))
 (.seq (.reg [] [
   rq 14 (.move (tp 0)) 3,rq 15 (.move (tp 0)) 3,rq 16 (.move (tp 1)) 3,rq 17 (.binOp .add 3 (tp 15) (tp 16) 3) 3,rq 18 (.binOp .sub 3 (tp 17) (ki 1) 3) 3,rq 19 (.move (tp 1)) 3,rq 20 (.binOp .quo 3 (tp 18) (tp 19) 3) 3,rq 21 (.binOp .sub 3 (tp 14) (tp 20) 3) 3,rq 4 (.assign (tp 21)) 3,rq 5 (.assign (ki 0)) 28])
 (.ret)))
def c29:RC:=c29_11
def c30:RC:=
 .seq (.reg [] [
  rq 1 (.box 24 (tp 0)) 0,rq 2 (.assign (ki 0)) 3,rq 3 (.assign (ki 0)) 28])
 (.seq (.seq (.reg [] [
   rq 12 (.load 24 (tp 1)) 24,rq 13 (cf 47 #[(tp 12)] #[24]) 28,rq 4 (.assign (tp 13)) 28])
 (.seq (.reg [] [
   rq 14 (.move (tp 4)) 28,rq 15 (.binOp .neq 28 (tp 14) (ki 0) 28) 4])
 (.cond (tp 15) (.seq (.reg [] [
   rq 16 (.move (tp 4)) 28,
   rq 2 (.assign (ki 0)) 3,
   rq 3 (.assign (tp 16)) 28])
  (.ret))
 (.skip))))
 (.seq (.reg [] [
   rq 5 (.assign (.func 58)) 88])
 (.seq (.reg [] [
   rq 17 (.move (tp 5)) 88,rq 18 (.load 24 (tp 1)) 24,rq 19 (.call ⟨.value (tp 17),#[(tp 18)],#[24]⟩) 22,rq 6 (.assign (tp 19)) 22])
 (.seq (.reg [] [
   rq 7 (.assign (ki 0)) 3])
 (.seq (.seq (.reg [] [
   rq 20 (.move (tp 6)) 22,rq 21 (cb .len #[(tp 20)] #[22]) 3,rq 22 (.move (ki 0)) 3])
 (.block 0 (.loop (.seq (.reg [] [
   rq 23 (.binOp .lss 3 (tp 22) (tp 21) 3) 0])
   (.seq (.cond (tp 23) (.skip)
   (.exit 0))
   (.seq (.block 1 (.seq (.reg [] [
     rq 24 (.move (tp 22)) 3,
     rq 25 (.indexAddr 22 (tp 20) (tp 22)) 0,
     rq 26 (.load 3 (tp 25)) 3,
     rq 8 (.assign (tp 24)) 3,
     rq 9 (.assign (tp 26)) 3])
    (.seq (.reg [] [
      rq 27 (.move (tp 6)) 22,
      rq 28 (.move (tp 8)) 3,
      rq 29 (.binOp .add 3 (tp 28) (ki 1) 3) 3,
      rq 30 (.slice 22 (tp 27) (some (tp 29)) none none) 22,
      rq 31 (cb .len #[(tp 30)] #[22]) 3,
      rq 32 (.move (ki 0)) 3])
    (.block 2 (.loop (.seq (.reg [] [
      rq 33 (.binOp .lss 3 (tp 32) (tp 31) 3) 0])
      (.seq (.cond (tp 33) (.skip)
      (.exit 2))
      (.seq (.block 3 (.seq (.reg [] [
        rq 34 (.indexAddr 22 (tp 30) (tp 32)) 0,
        rq 35 (.load 3 (tp 34)) 3,
        rq 11 (.assign (tp 35)) 3])
       (.seq (.reg [] [
         rq 36 (.move (tp 9)) 3,
         rq 37 (.move (tp 11)) 3,
         rq 38 (.binOp .gtr 3 (tp 36) (tp 37) 3) 4])
       (.cond (tp 38) (.reg [] [
         rq 39 (.move (tp 7)) 3,
         rq 40 (.binOp .add 3 (tp 39) (ki 1) 3) 3,
         rq 7 (.assign (tp 40)) 3])
       (.skip)))))
      (.reg [] [
        rq 41 (.binOp .add 3 (tp 32) (ki 1) 3) 3,
        rq 32 (.move (tp 41)) 3])))))))))
   (.reg [] [
     rq 42 (.binOp .add 3 (tp 22) (ki 1) 3) 3,
     rq 22 (.move (tp 42)) 3])))))))
 (.seq (.reg [] [
   rq 43 (.move (tp 7)) 3,rq 2 (.assign (tp 43)) 3,rq 3 (.assign (ki 0)) 28])
 (.ret)))))))
def c31:RC:=
 .seq (.reg [] [
  rq 1 (.box 24 (tp 0)) 0,rq 2 (.assign (.const (.slice none 0 0))) 22,rq 3 (.assign (ki 0)) 28])
 (.seq (.seq (.reg [] [
   rq 5 (.load 24 (tp 1)) 24,rq 6 (cf 47 #[(tp 5)] #[24]) 28,rq 4 (.assign (tp 6)) 28])
 (.seq (.reg [] [
   rq 7 (.move (tp 4)) 28,rq 8 (.binOp .neq 28 (tp 7) (ki 0) 28) 4])
 (.cond (tp 8) (.seq (.reg [] [
   rq 9 (.move (tp 4)) 28,
   rq 2 (.assign (.const (.slice none 0 0))) 22,
   rq 3 (.assign (tp 9)) 28])
  (.ret))
 (.skip))))
 (.seq (.reg [] [
   rq 10 (.load 24 (tp 1)) 24,rq 11 (cf 58 #[(tp 10)] #[24]) 22,rq 2 (.assign (tp 11)) 22,rq 3 (.assign (ki 0)) 28])
 (.ret)))
def c32:RC:=c32_11
def c33:RC:=c33_39
def c34:RC:=c34_40
def c35:RC:=c35_28
def c38:RC:=
 .seq (.reg [] [
  rq 1 (.box 24 (tp 0)) 0,rq 2 (.assign (.const (.slice none 0 0))) 22,rq 3 (.assign (ki 0)) 28])
 (.seq (.seq (.reg [] [
   rq 5 (.load 24 (tp 1)) 24,rq 6 (cf 47 #[(tp 5)] #[24]) 28,rq 4 (.assign (tp 6)) 28])
 (.seq (.reg [] [
   rq 7 (.move (tp 4)) 28,rq 8 (.binOp .neq 28 (tp 7) (ki 0) 28) 4])
 (.cond (tp 8) (.seq (.reg [] [
   rq 9 (.move (tp 4)) 28,
   rq 2 (.assign (.const (.slice none 0 0))) 22,
   rq 3 (.assign (tp 9)) 28])
  (.ret))
 (.skip))))
 (.seq (.reg [] [
   rq 10 (.load 24 (tp 1)) 24,rq 11 (cf 51 #[(tp 10)] #[24]) 80,rq 12 (cf 62 #[(tp 11)] #[80]) 22,rq 2 (.assign (tp 12)) 22,rq 3 (.assign (ki 0)) 28])
 (.ret)))
def c39:RC:=
 .seq (.reg [] [
  rq 0 (.alloc 24) 0])
 (.seq (.reg [] [
   rq 1 (.buildSlice 22 5 #[(0,(ki 0)),(1,(ki 1)),(2,(ki 2)),(3,(ki 0)),(4,(ki 1))]) 22,rq 2 (cf 42 #[(tp 1)] #[22]) 22,rq 3 (.buildSlice 22 5 #[(0,(ki 1)),(1,(ki 2)),(2,(ki 0)),(3,(ki 1)),(4,(ki 0))]) 22,rq 4 (cf 42 #[(tp 3)] #[22]) 22,rq 5 (.build 24 #[(0,(ki 3)),(1,(tp 2)),(2,(tp 4))]) 24,rn (.store 24 (tp 0) (tp 5)) 0])
 (.ret))
def c40:RC:=
 .seq (.reg [] [
  rq 0 (.alloc 24) 0])
 (.seq (.reg [] [
   rq 1 (.buildSlice 22 4 #[(0,(ki 0)),(1,(ki 0)),(2,(ki 1)),(3,(ki 1))]) 22,rq 2 (cf 42 #[(tp 1)] #[22]) 22,rq 3 (.buildSlice 22 4 #[(0,(ki 1)),(1,(ki 1)),(2,(ki 0)),(3,(ki 0))]) 22,rq 4 (cf 42 #[(tp 3)] #[22]) 22,rq 5 (.build 24 #[(0,(ki 2)),(1,(tp 2)),(2,(tp 4))]) 24,rn (.store 24 (tp 0) (tp 5)) 0])
 (.ret))
def c41:RC:=
 .seq (.reg [] [
  rq 2 (.assign (.const (.slice none 0 0))) 34])
 (.seq (.reg [] [
   rq 3 (.move (tp 0)) 34,rq 2 (.assign (tp 3)) 34])
 (.ret))
def c42:RC:=
 .seq (.reg [] [
  rq 2 (.assign (.const (.slice none 0 0))) 22])
 (.seq (.reg [] [
   rq 3 (.move (tp 0)) 22,rq 2 (.assign (tp 3)) 22])
 (.ret))
def c43:RC:=c43_7
def c44:RC:=c44_5
def c45:RC:=c45_3
def c46:RC:=c46_7
def c47:RC:=c47_58
def c48:RC:=c48_37
def c49:RC:=c49_61
def c50:RC:=c50_3
def c51:RC:=c51_23
def c52:RC:=c52_3
def c53:RC:=c53_3
def c54:RC:=c54_3
def c55:RC:=c55_3
def c56:RC:=c56_21
def c57:RC:=c57_15
def c58:RC:=
 .seq (.reg [] [
  rq 1 (.box 24 (tp 0)) 0,rq 2 (.assign (.const (.slice none 0 0))) 22])
 (.seq (.reg [] [
   rq 3 (.alloc 101) 0])
 (.seq (.seq (.reg [] [
   rq 9 (.fieldAddr 24 (tp 1) 1) 0,rq 10 (.load 22 (tp 9)) 22,rq 11 (cb .len #[(tp 10)] #[22]) 3,rq 12 (.move (ki 0)) 3])
 (.block 0 (.loop (.seq (.reg [] [
   rq 13 (.binOp .lss 3 (tp 12) (tp 11) 3) 0])
   (.seq (.cond (tp 13) (.skip)
   (.exit 0))
   (.seq (.block 1 (.seq (.reg [] [
     rq 14 (.move (tp 12)) 3,
     rq 15 (.indexAddr 22 (tp 10) (tp 12)) 0,
     rq 16 (.load 3 (tp 15)) 3,
     rq 4 (.assign (tp 14)) 3,
     rq 5 (.assign (tp 16)) 3])
    (.reg [] [
      rq 17 (.move (tp 5)) 3,
      rq 18 (.move (tp 5)) 3,
      rq 19 (.indexAddr 101 (tp 3) (tp 18)) 0,
      rq 20 (.load 22 (tp 19)) 22,
      rq 21 (.move (tp 4)) 3,
      rq 22 (.buildSlice 22 1 #[(0,(tp 21))]) 22,
      rq 23 (cb .append #[(tp 20),(tp 22)] #[22,22]) 22,
      rq 24 (.indexAddr 101 (tp 3) (tp 17)) 0,
      rn (.store 22 (tp 24) (tp 23)) 0])))
   (.reg [] [
     rq 25 (.binOp .add 3 (tp 12) (ki 1) 3) 3,
     rq 12 (.move (tp 25)) 3])))))))
 (.seq (.reg [] [
   rq 6 (.assign (.const (.slice none 0 0))) 22])
 (.seq (.seq (.reg [] [
   rq 26 (.fieldAddr 24 (tp 1) 2) 0,rq 27 (.load 22 (tp 26)) 22,rq 28 (cb .len #[(tp 27)] #[22]) 3,rq 29 (.move (ki 0)) 3])
 (.block 2 (.loop (.seq (.reg [] [
   rq 30 (.binOp .lss 3 (tp 29) (tp 28) 3) 0])
   (.seq (.cond (tp 30) (.skip)
   (.exit 2))
   (.seq (.block 3 (.seq (.reg [] [
     rq 31 (.indexAddr 22 (tp 27) (tp 29)) 0,
     rq 32 (.load 3 (tp 31)) 3,
     rq 8 (.assign (tp 32)) 3])
    (.reg [0, 1, 2, 3, 4, 5, 6, 7, 9, 10, 11, 12, 8, 13, 14, 15] [
      rq 33 (.move (tp 8)) 3,
      rq 34 (.move (tp 6)) 22,
      rq 35 (.move (tp 8)) 3,
      rq 36 (.indexAddr 101 (tp 3) (tp 35)) 0,
      rq 37 (.load 22 (tp 36)) 22,
      rq 38 (.indexAddr 22 (tp 37) (ki 0)) 0,
      rq 39 (.load 3 (tp 38)) 3,
      rq 40 (.buildSlice 22 1 #[(0,(tp 39))]) 22,
      rq 42 (.move (tp 8)) 3,
      rq 43 (.indexAddr 101 (tp 3) (tp 42)) 0,
      rq 44 (.load 22 (tp 43)) 22,
      rq 45 (.slice 22 (tp 44) (some (ki 1)) none none) 22,
      ⟨(some 41),cb .append #[(tp 34),(tp 40)] #[22,22],22,none,[(tp 44),(tp 43)]⟩,
      rq 6 (.assign (tp 41)) 22,
      rq 46 (.indexAddr 101 (tp 3) (tp 33)) 0,
      rn (.store 22 (tp 46) (tp 45)) 0])))
   (.reg [] [
     rq 47 (.binOp .add 3 (tp 29) (ki 1) 3) 3,
     rq 29 (.move (tp 47)) 3])))))))
 (.seq (.reg [] [
   rq 48 (.move (tp 6)) 22,rq 2 (.assign (tp 48)) 22])
 (.ret))))))
def c59:RC:=c59_15
def c62:RC:=c62_16
def c63:RC:=
 .seq (.reg [] [
  rq 2 (.assign (.const (.slice none 0 0))) 22])
 (.seq (.seq (.reg [] [
   rq 3 (.move (tp 0)) 22,rq 4 (.binOp .eql 22 (tp 3) (.const (.slice none 0 0)) 22) 4])
 (.cond (tp 4) (.seq (.reg [] [
   rq 2 (.assign (.const (.slice none 0 0))) 22])
  (.ret))
 (.skip)))
 (.seq (.reg [] [
   rq 5 (.buildSlice 22 0 #[]) 22,rq 6 (.move (tp 0)) 22,rq 7 (cb .append #[(tp 5),(tp 6)] #[22,22]) 22,rq 2 (.assign (tp 7)) 22])
 (.ret)))
def c64:RC:=c64_3
def c65:RC:=c65_3
def c66:RC:=c66_35
def c67:RC:=c67_9
def c68:RC:=c68_35
def c69:RC:=c69_21
def c70:RC:=c70_35
def c71:RC:=c71_25
def c72:RC:=c72_3
def c73:RC:=c73_52
def c74:RC:=c74_37
def ti3:TI:=⟨.int .i64,1,8,(some (.int .i64 0)),false⟩
def ti5:TI:=⟨.int .u8,1,1,(some (.int .u8 0)),false⟩
def ti9:TI:=⟨.string,1,16,(some (.string ⟨#[]⟩)),false⟩
def ti22:TI:=⟨.slice 3,1,24,(some (.slice none 0 0)),false⟩
def ti24 : TI := ⟨.struct #[⟨ "Kinds", 3, 0, false, "", "", 0⟩, ⟨ "Has", 22, 1, false, "", "", 8⟩, ⟨ "Wants", 22, 2, false, "", "", 32⟩], 3, 56, (some (.agg #[(.int .i64 0), (.slice none 0 0), (.slice none 0 0)])), false⟩
def ti27:TI:=⟨.slice 51,1,24,(some (.slice none 0 0)),false⟩
def ti28:TI:=⟨.int .i64,1,8,(some (.int .i64 0)),false⟩
def ti32 : TI := ⟨.struct #[⟨ "Kinds", 3, 0, false, "", "", 0⟩, ⟨ "Has", 22, 1, false, "", "", 8⟩, ⟨ "Wants", 22, 2, false, "", "", 32⟩], 3, 56, (some (.agg #[(.int .i64 0), (.slice none 0 0), (.slice none 0 0)])), false⟩
def ti34:TI:=⟨.slice 22,1,24,(some (.slice none 0 0)),false⟩
def ti51:TI:=⟨.array 2 3,2,16,(some (.agg #[(.int .i64 0),(.int .i64 0)])),true⟩
def ti79:TI:=⟨.int .u16,1,2,(some (.int .u16 0)),false⟩
def ti80:TI:=⟨.int .u16,1,2,(some (.int .u16 0)),false⟩
def ti94:TI:=⟨.pointer 105,1,8,(some (.pointer none)),false⟩
def ti97:TI:=⟨.array 5 3,5,40,(some (.agg #[(.int .i64 0),(.int .i64 0),(.int .i64 0),(.int .i64 0),(.int .i64 0)])),true⟩
def ti101:TI:=⟨.array 5 22,5,120,(some (.agg #[(.slice none 0 0),(.slice none 0 0),(.slice none 0 0),(.slice none 0 0),(.slice none 0 0)])),false⟩
def ti102:TI:=⟨.int .u64,1,8,(some (.int .u64 0)),false⟩
def ti103:TI:=⟨.map 80 3,1,8,(some (.map none)),false⟩
def ti105 : TI := ⟨.struct #[⟨ "Tray", 24, 0, true, "", "", 0⟩, ⟨ "known", 103, 3, false, "", "spadille/mend", 56⟩], 4, 64, (some (.agg #[(.int .i64 0), (.slice none 0 0), (.slice none 0 0), (.map none)])), false⟩
def ti107:TI:=⟨.array 32 5,32,32,(some (.agg #[(.int .u8 0),(.int .u8 0),(.int .u8 0),(.int .u8 0),(.int .u8 0),(.int .u8 0),(.int .u8 0),(.int .u8 0),(.int .u8 0),(.int .u8 0),(.int .u8 0),(.int .u8 0),(.int .u8 0),(.int .u8 0),(.int .u8 0),(.int .u8 0),(.int .u8 0),(.int .u8 0),(.int .u8 0),(.int .u8 0),(.int .u8 0),(.int .u8 0),(.int .u8 0),(.int .u8 0),(.int .u8 0),(.int .u8 0),(.int .u8 0),(.int .u8 0),(.int .u8 0),(.int .u8 0),(.int .u8 0),(.int .u8 0)])),true⟩
def ti108:TI:=⟨.int .u32,1,4,(some (.int .u32 0)),false⟩
def ttTr:Tr TI:=(.node none (.node none (.node (some ti3) (.node none (.node none .nil (.node none (.node (some ti79) .nil .nil) .nil)) (.node none (.node none .nil (.node (some ti103) .nil .nil)) .nil)) (.node none (.node none .nil (.node (some ti51) .nil .nil)) (.node (some ti27) (.node none .nil (.node (some ti107) .nil .nil)) .nil))) (.node (some ti5) (.node (some ti9) (.node none (.node none .nil (.node (some ti97) .nil .nil)) .nil) (.node none (.node none .nil (.node (some ti105) .nil .nil)) .nil)) (.node none (.node none (.node none .nil (.node (some ti101) .nil .nil)) .nil) .nil))) (.node none (.node none (.node none (.node none (.node (some ti32) .nil .nil) (.node none (.node (some ti80) .nil .nil) .nil)) (.node (some ti24) .nil .nil)) (.node none .nil (.node (some ti28) (.node none .nil (.node (some ti108) .nil .nil)) .nil))) (.node none (.node none (.node none (.node (some ti34) .nil .nil) .nil) .nil) (.node none (.node (some ti22) (.node none .nil (.node (some ti102) .nil .nil)) .nil) (.node none .nil (.node none (.node (some ti94) .nil .nil) .nil))))))
noncomputable def tt:TT:=ttTr.get
def fnTr:Tr RFn:=(.node none (.node none (.node none (.node none (.node (some ⟨26,c15,[.tmp 4]⟩) (.node (some ⟨12,c31,[.tmp 2,.tmp 3]⟩) (.node (some ⟨8,c63,[.tmp 2]⟩) .nil .nil) .nil) (.node (some ⟨73,c47,[.tmp 2]⟩) .nil .nil)) (.node none (.node (some ⟨6,c39,[.cell 0 24]⟩) (.node (some ⟨38,c71,[.tmp 4]⟩) .nil .nil) .nil) (.node (some ⟨9,c55,[.tmp 4]⟩) .nil .nil))) (.node (some ⟨13,c11,[.tmp 2]⟩) (.node none (.node (some ⟨54,c35,[.tmp 4]⟩) (.node (some ⟨15,c67,[.tmp 2]⟩) .nil .nil) .nil) (.node (some ⟨27,c51,[.tmp 2]⟩) .nil .nil)) (.node (some ⟨22,c27,[.tmp 4,.tmp 5]⟩) (.node (some ⟨36,c43,[.cell 6 24]⟩) .nil .nil) (.node (some ⟨26,c59,[.tmp 6]⟩) .nil .nil)))) (.node none (.node (some ⟨75,c9,[.tmp 4]⟩) (.node none (.node (some ⟨53,c33,[.tmp 2,.tmp 3]⟩) (.node (some ⟨8,c65,[.tmp 2]⟩) .nil .nil) .nil) (.node (some ⟨68,c49,[.tmp 2]⟩) .nil .nil)) (.node (some ⟨25,c25,[.cell 6 24,.tmp 7]⟩) (.node (some ⟨4,c41,[.tmp 2]⟩) (.node (some ⟨55,c73,[.tmp 4]⟩) .nil .nil) .nil) (.node (some ⟨25,c57,[.tmp 6]⟩) .nil .nil))) (.node (some ⟨47,c13,[.tmp 2,.tmp 3]⟩) (.node none (.node none (.node (some ⟨22,c69,[.tmp 4]⟩) .nil .nil) .nil) (.node (some ⟨10,c53,[.tmp 4]⟩) .nil .nil)) (.node (some ⟨12,c29,[.tmp 2,.tmp 3]⟩) (.node (some ⟨10,c45,[.tmp 2]⟩) .nil .nil) .nil)))) (.node none (.node none (.node none (.node (some ⟨12,c16,[.tmp 2,.tmp 3]⟩) (.node (some ⟨12,c32,[.tmp 2,.tmp 3]⟩) (.node (some ⟨11,c64,[.tmp 2]⟩) .nil .nil) .nil) (.node (some ⟨46,c48,[.tmp 2]⟩) .nil .nil)) (.node none (.node (some ⟨6,c40,[.cell 0 24]⟩) (.node (some ⟨9,c72,[.tmp 2]⟩) .nil .nil) .nil) (.node (some ⟨28,c56,[.tmp 2]⟩) .nil .nil))) (.node (some ⟨218,c12,[.tmp 0]⟩) (.node (some ⟨27,c20,[.tmp 4]⟩) (.node none (.node (some ⟨94,c68,[.tmp 8]⟩) .nil .nil) .nil) (.node (some ⟨15,c52,[.tmp 6]⟩) .nil .nil)) (.node none (.node (some ⟨13,c44,[.tmp 2]⟩) .nil .nil) .nil))) (.node none (.node none (.node (some ⟨91,c18,[.tmp 4,.tmp 5]⟩) (.node (some ⟨39,c34,[.tmp 4]⟩) (.node (some ⟨52,c66,[.tmp 4]⟩) .nil .nil) .nil) (.node (some ⟨7,c50,[.tmp 2]⟩) .nil .nil)) (.node (some ⟨26,c26,[.tmp 4]⟩) (.node (some ⟨4,c42,[.tmp 2]⟩) (.node (some ⟨83,c74,[.tmp 4]⟩) .nil .nil) .nil) (.node (some ⟨49,c58,[.tmp 2]⟩) .nil .nil))) (.node none (.node none (.node (some ⟨13,c38,[.tmp 2,.tmp 3]⟩) (.node (some ⟨85,c70,[.tmp 8]⟩) .nil .nil) .nil) (.node (some ⟨15,c54,[.tmp 6]⟩) .nil .nil)) (.node (some ⟨44,c30,[.tmp 2,.tmp 3]⟩) (.node (some ⟨38,c46,[.cell 6 32]⟩) .nil .nil) (.node (some ⟨16,c62,[.tmp 2]⟩) .nil .nil))))))
noncomputable def fns:FuncId→Option RFn:=fnTr.get
end Go.MdF
set_option maxRecDepth 100000
namespace Go.MdFM
open Go.Sp Go.MdF
noncomputable section
def cloneF (sz by':Nat) (args:List Value) (H:AHeap):Option (Value×AHeap):=
 ll args none fun x r => ll r (oo (toSl sz x) none fun s => AHeap.rec (motive := fun _ => Option (Value × AHeap)) (fun k T z => bb z (bb (roomy (0 + s.n) by')
  (some (.slice (some ⟨Nat.succ k,0,some sz⟩) s.n (2 * s.n + bb false 1 0),((⟨k,T,true⟩:AHeap).push (.cells [] false false [])).push (.cells (takeL (s.n * sz) s.cs) false false []))) none) none) H) fun _ _=>none
def o63 : List ROp := [
 ⟨(some 5),.buildSlice 22 0 #[],22,none,[]⟩,
 ⟨(some 6),.move (.tmp 0),22,none,[]⟩,
 ⟨(some 7),.call ⟨.builtin .append,#[(.tmp 5),(.tmp 6)],#[22,22]⟩,22,none,[]⟩,
 ⟨(some 2),.assign (.tmp 7),22,none,[]⟩]
def H1 (k:Nat) (T:Tr AObj):AHeap:=(⟨k,T,true⟩:AHeap).push (.cells [] false false [])
def F1 (a:Value):Fr:=Fr.puts (Fr.made 8 [a]) [(2,.slice none 0 0),(3,a),(4,.bool false)]
def F2 (a:Value) (k:Nat):Fr:=Fr.puts (F1 a) [(5,.slice (some ⟨k,0,some 1⟩) 0 1)]
def F3 (a:Value) (k:Nat):Fr:=Fr.puts (F2 a k) [(6,a)]
def F4 (a:Value) (k:Nat) (v:Value):Fr:=Fr.puts (F3 a k) [(7,v)]
def F5 (a:Value) (k:Nat) (v:Value):Fr:=Fr.puts (F4 a k v) [(2,v)]
theorem H1_get (k:Nat) (T:Tr AObj):oCells ((H1 k T).get k) = some ⟨[],false,false,[]⟩:=by
 unfold H1
 rw [AHeap.get_push,if_pos rfl];rfl
theorem H1_next (k:Nat) (T:Tr AObj):(H1 k T).next = k + 1:=by
 unfold H1;rw [AHeap.next_push]
theorem cloneA (k:Nat) (T:Tr AObj):evFn tt fns 2 63 [fsV 1 0 2 []] ⟨k,T,true⟩ = some (.slice none 0 0,⟨k,T,true⟩):=by kernel_rfl
theorem ops (call : CallF) (k : Nat) (T : Tr AObj) (a v : Value) (H2 : AHeap) (s : Sl) (ha : a = s.v 1) (hD : appFs (H1 k T) 1 8 (.slice (some ⟨k, 0, some 1⟩) 0 1) s = some (v, H2)) :
 evOps tt call o63 (F1 a) ⟨k,T,true⟩ = some (F5 a k v,H2):=by
 subst ha
 refine evOps_data (some (.slice (some ⟨k,0,some 1⟩) 0 1,H1 k T)) (by kernel_rfl) rfl (by kernel_rfl) ?_
 refine evOps_data (some (s.v 1,H1 k T)) (by kernel_rfl) rfl (by kernel_rfl) ?_
 refine evOps_data (appFs (H1 k T) 1 8 (.slice (some ⟨k,0,some 1⟩) 0 1) s) (by kernel_rfl) hD (by kernel_rfl) ?_
 refine evOps_data (some (v,H2)) (by kernel_rfl) rfl (by kernel_rfl) ?_
 rfl
theorem ev (k : Nat) (T : Tr AObj) (a v : Value) (H2 : AHeap) (h1 : evC tt (evFn tt fns 1) 1 c63 (Fr.made 8 [a]) ⟨k, T, true⟩ = evC tt (evFn tt fns 1) 1 (.seq (.reg [] o63) .ret) (F1 a) ⟨k, T, true⟩)
 (h:evOps tt (evFn tt fns 1) o63 (F1 a) ⟨k,T,true⟩ = some (F5 a k v,H2)):evFn tt fns 2 63 [a] ⟨k,T,true⟩ = some (v,H2):=by
 show endFn tt [.tmp 2] (evC tt (evFn tt fns 1) 1 c63 (Fr.made 8 [a]) ⟨k,T,true⟩) = _
 rw [h1]
 show endFn tt [.tmp 2] (onNormal (regR (evOps tt (evFn tt fns 1) o63 (F1 a) ⟨k,T,true⟩)) _) = _
 rw [h]
 kernel_rfl
theorem cloneB (k:Nat) (T:Tr AObj):evFn tt fns 2 63 [fsV 1 0 3 []] ⟨k,T,true⟩ = some (.slice (some ⟨k,0,some 1⟩) 0 1,H1 k T):=
 ev k T _ _ _ (by kernel_rfl) (ops _ k T _ _ _ ⟨0,3,[]⟩ rfl (appFs_sl0 rfl))
theorem cloneC (k : Nat) (T : Tr AObj) (n : Nat) (cs : List Value) (hr : roomy (0 + (n + 1)) 8 = true) :
 evFn tt fns 2 63 [fsV 1 (n + 1) 0 cs] ⟨k,T,true⟩ = some (sliceAt (k + 1) 0 1 (0 + (n + 1)) (0 + (n + 1)) false,(H1 k T).push (.cells (takeL ((n + 1) * 1) cs) false false [])):=
 ev k T _ _ _ (by kernel_rfl) (ops _ k T _ _ _ ⟨n + 1,0,cs⟩ rfl (by rw [appFs_new rfl hr (H1_get k T),H1_next]))

theorem clone63_ok {P : Program} (hT : TOk P tt) (hf : ∀ f r, fns f = some r → FnOk P [0] f r) (hm : P.follows .mixedOrders = true) {args : List Value} {H H' : AHeap} {v : Value} (h : cloneF 1 8 args H = some (v, H')) :
 (∀ (as:Array Value) (w:World),(callFunc 63 as).run P w = .ok (.enter 63 as) w) ∧
 ∀ R w args',Sim H R w→GlR [0] R→VRL R args args'→Calls P 63 ⟨args'⟩ w fun e w'=>∃ u R',e = .returned u∧VR R' v u∧Post H R w H' R' w':=by
 refine ⟨((evFn_ok hT hf hm 2) 63 _ _ _ _ (cloneA 0 .nil)).1,fun R w args' hs hgl ha=>?_⟩
 obtain ⟨x,r,rfl,h⟩:=ll_uncons h
 obtain ⟨rfl,h⟩:=ll_end h
 obtain ⟨s,hsl,h⟩:=oo_inv h
 obtain rfl:=toSl_some hsl
 obtain ⟨k,T,z⟩:=H
 obtain ⟨hz,h⟩:=bb_inv (show bb z _ none = some _ from h)
 subst hz
 obtain ⟨hr,h⟩:=bb_inv h
 injection h with h;injection h with e1 e2;subst e1;subst e2
 obtain ⟨u,us,rfl,hu,hnil⟩:=ha.uncons
 obtain rfl:=hnil.unnil
 obtain ⟨n,fl,cs⟩:=s
 have run:∀ (a v1:Value) (H2:AHeap),evFn tt fns 2 63 [a] ⟨k,T,true⟩ = some (v1,H2)→VR R a u→Calls P 63 ⟨[u]⟩ w fun e w'=>∃ u' R',e = .returned u'∧VR R' v1 u'∧Post ⟨k,T,true⟩ R w H2 R' w':=fun a v1 H2 he hau=>
  ((evFn_ok hT hf hm 2) 63 _ _ _ _ he).2 R w [u] hs hgl (.one hau)
 have empty : ∀ (a : Value), VR R a u → (a = fsV 1 0 2 [] ∨ a = fsV 1 0 3 []) → ∀ o, o = AObj.cells (takeL (0 * 1) cs) false false [] → Calls P 63 ⟨[u]⟩ w fun e w' => ∃ u' R', e = .returned u' ∧ VR R' (.slice (some ⟨Nat.succ k, 0, some 1⟩) 0 (2 * 0 + bb false 1 0)) u' ∧
  Post ⟨k,T,true⟩ R w ((H1 k T).push o) R' w':=fun a hau hcase o ho=>by
  rcases hcase with rfl | rfl
  ·refine (run _ _ _ (cloneA k T) hau).mono fun e w' ⟨u', R', h1, h2, h3⟩ => ⟨u', R', h1, ?_, (h3.absPush (obj := .cells [] false false []) rfl).absPush (by rw [ho]; rfl)⟩
   rw [h2.slNil_l];exact .slN rfl
  ·refine (run _ _ _ (cloneB k T) hau).mono fun e w' ⟨u', R', h1, h2, h3⟩ => ⟨u', R', h1, ?_, h3.absPush (by rw [ho]; rfl)⟩
   cases h2 with
   | sl _ _ _ h3 _=>have:=h3 rfl;subst this;exact .slE rfl
   | slE=>exact .slE rfl
   | slN=>exact .slN rfl
 rcases hu.fs_l (f:=⟨1,n,fl,cs⟩) rfl with ⟨h1,h2,rfl⟩ | ⟨_,h1,h2,c,o,sp,rfl⟩ | ⟨c,o,cap,C,hro,rfl,hn,k1,k2,k3,hfit,hcr,hcl⟩
 ·have h1 : n = 0 := h1
  subst h1
  exact empty _ (.fsN 1 2 (by decide)) (.inl rfl) _ rfl
 ·have h1 : n = 0 := h1
  subst h1
  exact empty _ (.fsE (by decide)) (.inr rfl) _ rfl
 ·cases n with
  | zero =>
   have hc0:cs = []:=by simpa using hn
   subst hc0
   exact empty (fsV 1 0 3 []) (.mkFs hro rfl (Nat.zero_le _) (fun h=>by cases h) (by decide) hfit hcr hcl) (.inr rfl) _ rfl
  | succ n =>
   refine (run _ _ _ (cloneC k T n cs hr) (.mkFs hro hn k1 (fun h=>by cases h) (by decide) hfit hcr hcl)).mono fun e w' ⟨u',R',g1,g2,g3⟩=>⟨u',R',g1,?_,g3⟩
   rwa [Nat.zero_add] at g2
end
end Go.MdFM
set_option maxRecDepth 100000
set_option maxHeartbeats 20000000
set_option linter.unusedVariables false
namespace Go.MdFM
open Go.Sp Go.MdF
noncomputable section
def tab0:List Value:=[.int .u8 0,.int .u8 1,.int .u8 28,.int .u8 2,.int .u8 29,.int .u8 14,.int .u8 24,.int .u8 3,.int .u8 30,.int .u8 22,.int .u8 20,.int .u8 15,.int .u8 25,.int .u8 17,.int .u8 4,.int .u8 8,.int .u8 31,.int .u8 27,.int .u8 13,.int .u8 23,.int .u8 21,.int .u8 19,.int .u8 16,.int .u8 7,.int .u8 26,.int .u8 12,.int .u8 18,.int .u8 6,.int .u8 11,.int .u8 5,.int .u8 10,.int .u8 9]
def tabs:List (List Value):=[tab0]
abbrev hT (n:Nat) (l:List AObj):AHeap:=hp n (oT tab0 :: l)
theorem trF {a b:Bool} (h:b = true) (e:a = b:=by kernel_rfl):a = true:=e.trans h
abbrev OV:=Option Value
abbrev LV:=List Value
def plist:List Nat:=[9,11,12,29,32,33,34,35,43,44,45,46,47,48,49,50,51,52,53,54,56,57,59,62,64,67,71,72,73,74]
def isP:FuncId→Bool:=fun g=>memN g plist
def inl (pu:PureF):CallF:=fun g args H=>bb (Nat.beq g 63) (cloneF 1 8 args H) (bb (Nat.beq g 65) (objG tabs [[none,some 1,some 1]] 1 [] [true,false] (pu 10650) args H) (bb (Nat.beq g 66) (objG tabs [[none],[none]] 2 [.tmp 0 true,.cell 1 3 false] [true,false] (pu 10660) args H) (bb (Nat.beq g 68) (objG tabs [[none],[some 1],[none],[none]] 4 [.tmp 0 true,.cell 1 3 false] [true,false] (pu 10680) args H) (bb (Nat.beq g 69) (bb (an (oo (nthL args 0) false (fun v=>nt (isS (vSl v)))) true) (objG tabs [[some 1],[none]] 2 [] [] (pu 10690) args H) (objG tabs [[none],[none]] 2 [.tmp 0 false] [false] (pu 10691) args H)) (bb (Nat.beq g 70) (objG tabs [[none,some 1,some 1],[some 1],[some 1],[some 1]] 4 [] [] (pu 10700) args H) (bb (Nat.beq g 55) (bb (an (oo (nthL args 0) false (fun v=>nt (isS (vSl v)))) true) (objG tabs [[some 1],[none]] 2 [] [] (pu 10550) args H) (objG tabs [[none],[none]] 2 [.tmp 0 false] [false] (pu 10551) args H)) (none)))))))
def str0:List UInt8:=[0,1,1,2,1,2,2,3,1,2,2,3,2,3,3,4,1,2,2,3,2,3,3,4,2,3,3,4,3,4,4,5,1,2,2,3,2,3,3,4,2,3,3,4,3,4,4,5,2,3,3,4,3,4,4,5,3,4,4,5,4,5,5,6,1,2,2,3,2,3,3,4,2,3,3,4,3,4,4,5,2,3,3,4,3,4,4,5,3,4,4,5,4,5,5,6,2,3,3,4,3,4,4,5,3,4,4,5,4,5,5,6,3,4,4,5,4,5,5,6,4,5,5,6,5,6,6,7,1,2,2,3,2,3,3,4,2,3,3,4,3,4,4,5,2,3,3,4,3,4,4,5,3,4,4,5,4,5,5,6,2,3,3,4,3,4,4,5,3,4,4,5,4,5,5,6,3,4,4,5,4,5,5,6,4,5,5,6,5,6,6,7,2,3,3,4,3,4,4,5,3,4,4,5,4,5,5,6,3,4,4,5,4,5,5,6,4,5,5,6,5,6,6,7,3,4,4,5,4,5,5,6,4,5,5,6,5,6,6,7,4,5,5,6,5,6,6,7,5,6,6,7,6,7,7,8]
end
end Go.MdFM
