/- Made from wip. -/
import Derived.Test.YtkhedoaiejjcfaaSpFramex
import Derived.Test.YtkhedoaiejjcfaaHvRNodes

set_option maxRecDepth 100000
namespace Go.HvR
open Go.Sp
def c3:RC:=c3_61
def c4:RC:=c4_3
def c5:RC:=
 .seq (.reg [] [
  rq 0 (.assign (kb false)) 4])
 (.seq (.reg [] [
   rq 23 (.buildSlice 22 3 #[(0,(ki 4)),(1,(ki 1)),(2,(ki 1))]) 22,rq 24 (cf 12 #[(tp 23)] #[22]) 22,rq 25 (cf 11 #[(tp 24)] #[22]) 34,rq 22 (.move (tp 25)) 34,rq 26 (.extract (tp 22) 0) 22,rq 27 (.extract (tp 22) 1) 25,rq 1 (.assign (tp 26)) 22,rq 2 (.assign (tp 27)) 25])
 (.seq (.reg [] [
   rq 29 (.buildSlice 22 2 #[(0,(ki 3)),(1,(ki 2))]) 22,rq 30 (cf 12 #[(tp 29)] #[22]) 22,rq 31 (cf 13 #[(tp 30),(ki 1000000000)] #[22,3]) 34,rq 28 (.move (tp 31)) 34,rq 32 (.extract (tp 28) 0) 22,rq 33 (.extract (tp 28) 1) 25,rq 3 (.assign (tp 32)) 22,rq 4 (.assign (tp 33)) 25])
 (.seq (.reg [] [
   rq 35 (.buildSlice 22 3 #[(0,(ki 3)),(1,(ki 2)),(2,(ki 1))]) 22,rq 36 (cf 12 #[(tp 35)] #[22]) 22,rq 37 (cf 14 #[(tp 36)] #[22]) 38,rq 34 (.move (tp 37)) 38,rq 38 (.extract (tp 34) 0) 32,rq 39 (.extract (tp 34) 1) 25,rq 5 (.assign (tp 38)) 32,rq 6 (.assign (tp 39)) 25])
 (.seq (.reg [] [
   rq 41 (.buildSlice 22 4 #[(0,(ki 2)),(1,(ki 2)),(2,(ki 1)),(3,(ki 1))]) 22,rq 42 (cf 12 #[(tp 41)] #[22]) 22,rq 43 (cf 14 #[(tp 42)] #[22]) 38,rq 40 (.move (tp 43)) 38,rq 44 (.extract (tp 40) 0) 32,rq 45 (.extract (tp 40) 1) 25,rq 7 (.assign (tp 44)) 32,rq 8 (.assign (tp 45)) 25])
 (.seq (.reg [] [
   rq 47 (.buildSlice 22 2 #[(0,(ki 3)),(1,(ki 2))]) 22,rq 48 (cf 12 #[(tp 47)] #[22]) 22,rq 49 (cf 15 #[(tp 48)] #[22]) 40,rq 46 (.move (tp 49)) 40,rq 50 (.extract (tp 46) 0) 4,rq 51 (.extract (tp 46) 1) 25,rq 9 (.assign (tp 50)) 4,rq 10 (.assign (tp 51)) 25])
 (.seq (.reg [] [
   rq 53 (.buildSlice 22 2 #[(0,(ki 4)),(1,(ki 1))]) 22,rq 54 (cf 12 #[(tp 53)] #[22]) 22,rq 55 (cf 15 #[(tp 54)] #[22]) 40,rq 52 (.move (tp 55)) 40,rq 56 (.extract (tp 52) 0) 4,rq 57 (.extract (tp 52) 1) 25,rq 11 (.assign (tp 56)) 4,rq 12 (.assign (tp 57)) 25])
 (.seq (.reg [] [
   rq 59 (.buildSlice 22 4 #[(0,(ki 2)),(1,(ki 2)),(2,(ki 1)),(3,(ki 1))]) 22,rq 60 (cf 12 #[(tp 59)] #[22]) 22,rq 61 (cf 16 #[(tp 60)] #[22]) 26,rq 58 (.move (tp 61)) 26,rq 62 (.extract (tp 58) 0) 3,rq 63 (.extract (tp 58) 1) 25,rq 13 (.assign (tp 62)) 3,rq 14 (.assign (tp 63)) 25])
 (.seq (.seq (.reg [] [
   rq 64 (.move (tp 2)) 25,rq 65 (.binOp .neq 25 (tp 64) (ki 0) 25) 4,rq 66 (.move (tp 65)) 4,rg 67 (.move (tp 4)) 25 66 false,rg 68 (.binOp .neq 25 (tp 67) (ki 0) 25) 4 66 false,rq 69 (.pick (tp 66) (kb true) (tp 68)) 4,rq 70 (.move (tp 69)) 4,rg 71 (.move (tp 6)) 25 70 false,rg 72 (.binOp .neq 25 (tp 71) (ki 0) 25) 4 70 false,rq 73 (.pick (tp 70) (kb true) (tp 72)) 4,rq 74 (.move (tp 73)) 4,rg 75 (.move (tp 8)) 25 74 false,rg 76 (.binOp .neq 25 (tp 75) (ki 0) 25) 4 74 false,rq 77 (.pick (tp 74) (kb true) (tp 76)) 4,rq 78 (.move (tp 77)) 4,rg 79 (.move (tp 10)) 25 78 false,rg 80 (.binOp .neq 25 (tp 79) (ki 0) 25) 4 78 false,rq 81 (.pick (tp 78) (kb true) (tp 80)) 4,rq 82 (.move (tp 81)) 4,rg 83 (.move (tp 12)) 25 82 false,rg 84 (.binOp .neq 25 (tp 83) (ki 0) 25) 4 82 false,rq 85 (.pick (tp 82) (kb true) (tp 84)) 4,rq 86 (.move (tp 85)) 4,rg 87 (.move (tp 14)) 25 86 false,rg 88 (.binOp .neq 25 (tp 87) (ki 0) 25) 4 86 false,rq 89 (.pick (tp 86) (kb true) (tp 88)) 4])
 (.cond (tp 89) (.seq (.reg [] [
   rq 0 (.assign (kb false)) 4])
  (.ret))
 (.skip)))
 (.seq (.reg [] [
   rq 91 (.buildSlice 22 1 #[(0,(ki 5))]) 22,rq 92 (cf 12 #[(tp 91)] #[22]) 22,rq 93 (cf 17 #[(tp 92)] #[22]) 38,rq 90 (.move (tp 93)) 38,rq 94 (.extract (tp 90) 0) 32,rq 95 (.extract (tp 90) 1) 25,rq 15 (.assign (tp 94)) 32,rq 2 (.assign (tp 95)) 25])
 (.seq (.reg [] [
   rq 97 (cf 8 #[(ki 8)] #[3]) 29,rq 96 (.move (tp 97)) 29,rq 98 (.extract (tp 96) 0) 28,rq 99 (.extract (tp 96) 1) 25,rq 16 (.assign (tp 98)) 28,rq 4 (.assign (tp 99)) 25])
 (.seq (.reg [] [
   rq 101 (.buildSlice 22 3 #[(0,(ki 4)),(1,(ki 2)),(2,(ki 2))]) 22,rq 102 (cf 12 #[(tp 101)] #[22]) 22,rq 103 (cf 6 #[(tp 102)] #[22]) 26,rq 100 (.move (tp 103)) 26,rq 104 (.extract (tp 100) 0) 3,rq 105 (.extract (tp 100) 1) 25,rq 17 (.assign (tp 104)) 3,rq 6 (.assign (tp 105)) 25])
 (.seq (.reg [] [
   rq 107 (cf 18 #[(ki 6)] #[3]) 26,rq 106 (.move (tp 107)) 26,rq 108 (.extract (tp 106) 0) 3,rq 109 (.extract (tp 106) 1) 25,rq 18 (.assign (tp 108)) 3,rq 8 (.assign (tp 109)) 25])
 (.seq (.reg [] [
   rq 111 (cf 19 #[(ki 6)] #[3]) 43,rq 110 (.move (tp 111)) 43,rq 112 (.extract (tp 110) 0) 3,rq 113 (.extract (tp 110) 1) 22,rq 114 (.extract (tp 110) 2) 25,rq 19 (.assign (tp 112)) 3,rq 20 (.assign (tp 113)) 22,rq 10 (.assign (tp 114)) 25])
 (.seq (.reg [] [
   rq 116 (.buildSlice 22 3 #[(0,(ki 4)),(1,(ki 2)),(2,(ki 2))]) 22,rq 117 (cf 12 #[(tp 116)] #[22]) 22,rq 118 (cf 20 #[(tp 117)] #[22]) 34,rq 115 (.move (tp 118)) 34,rq 119 (.extract (tp 115) 0) 22,rq 120 (.extract (tp 115) 1) 25,rq 21 (.assign (tp 119)) 22,rq 12 (.assign (tp 120)) 25])
 (.seq (.reg [0, 1, 2, 3, 4, 5, 6, 7, 8, 9, 10, 11, 12, 13, 14, 15, 16, 17, 18, 19, 20, 21, 22, 23, 24, 25, 26, 27, 28, 29, 30, 31, 32, 33, 34, 35, 36, 37, 38, 39, 40, 41, 42, 43, 44, 45, 46, 47, 48, 49, 50, 51, 52, 53, 54, 55, 56, 57, 58, 59, 60, 61, 62, 63, 64, 66, 65, 67, 68, 69, 70, 71, 72, 73, 74, 75, 76, 77, 78, 79, 81, 83, 80, 82, 84, 85, 86, 87, 88, 89, 90, 91, 92, 93, 95, 94, 96, 97, 98, 99, 100, 101, 102, 103, 104, 105, 106, 107, 108, 109, 110, 111, 112, 113] [
   rq 121 (.move (tp 2)) 25,rq 122 (.binOp .eql 25 (tp 121) (ki 0) 25) 4,rq 123 (.move (tp 122)) 4,rg 124 (.move (tp 4)) 25 123 true,rg 125 (.binOp .eql 25 (tp 124) (ki 0) 25) 4 123 true,rq 126 (.pick (tp 123) (tp 125) (kb false)) 4,rq 127 (.move (tp 126)) 4,rg 128 (.move (tp 6)) 25 127 true,rg 129 (.binOp .eql 25 (tp 128) (ki 0) 25) 4 127 true,rq 130 (.pick (tp 127) (tp 129) (kb false)) 4,rq 131 (.move (tp 130)) 4,rg 132 (.move (tp 8)) 25 131 true,rg 133 (.binOp .eql 25 (tp 132) (ki 0) 25) 4 131 true,rq 134 (.pick (tp 131) (tp 133) (kb false)) 4,rq 135 (.move (tp 134)) 4,rg 136 (.move (tp 10)) 25 135 true,rg 137 (.binOp .eql 25 (tp 136) (ki 0) 25) 4 135 true,rq 138 (.pick (tp 135) (tp 137) (kb false)) 4,rq 139 (.move (tp 138)) 4,rg 140 (.move (tp 12)) 25 139 true,rg 141 (.binOp .eql 25 (tp 140) (ki 0) 25) 4 139 true,rq 142 (.pick (tp 139) (tp 141) (kb false)) 4,rq 143 (.move (tp 142)) 4,rg 144 (.move (tp 9)) 4 143 true,rq 145 (.pick (tp 143) (tp 144) (kb false)) 4,rq 146 (.move (tp 145)) 4,rg 147 (.move (tp 11)) 4 146 true,rg 148 (.unOp .not 4 (tp 147)) 4 146 true,rq 149 (.pick (tp 146) (tp 148) (kb false)) 4,rq 150 (.move (tp 149)) 4,rg 151 (.move (tp 13)) 3 150 true,rg 152 (.binOp .eql 3 (tp 151) (ki 6) 3) 4 150 true,rq 153 (.pick (tp 150) (tp 152) (kb false)) 4,rq 154 (.move (tp 153)) 4,rg 155 (.move (tp 17)) 3 154 true,rg 156 (.binOp .eql 3 (tp 155) (ki 7) 3) 4 154 true,rq 157 (.pick (tp 154) (tp 156) (kb false)) 4,rq 158 (.move (tp 157)) 4,rg 159 (.move (tp 18)) 3 158 true,rg 160 (.binOp .eql 3 (tp 159) (ki 3) 3) 4 158 true,rq 161 (.pick (tp 158) (tp 160) (kb false)) 4,rq 162 (.move (tp 161)) 4,rg 163 (.move (tp 19)) 3 162 true,rg 164 (.binOp .eql 3 (tp 163) (ki 6) 3) 4 162 true,rq 165 (.pick (tp 162) (tp 164) (kb false)) 4,rq 166 (.move (tp 165)) 4,rg 167 (.move (tp 16)) 28 166 true,rg 168 (cb .len #[(tp 167)] #[28]) 3 166 true,rg 169 (.binOp .eql 3 (tp 168) (ki 2) 3) 4 166 true,rq 170 (.pick (tp 166) (tp 169) (kb false)) 4,rq 171 (.move (tp 170)) 4,rg 172 (.move (tp 1)) 22 171 true,rg 173 (.buildSlice 22 2 #[(0,(ki 3)),(1,(ki 3))]) 22 171 true,rg 174 (cf 12 #[(tp 173)] #[22]) 22 171 true,rg 175 (cf 21 #[(tp 172),(tp 174)] #[22,22]) 4 171 true,rq 176 (.pick (tp 171) (tp 175) (kb false)) 4,rq 177 (.move (tp 176)) 4,rg 178 (.move (tp 3)) 22 177 true,rg 179 (.buildSlice 22 3 #[(0,(ki 2)),(1,(ki 2)),(2,(ki 1))]) 22 177 true,rg 180 (cf 12 #[(tp 179)] #[22]) 22 177 true,rg 181 (cf 21 #[(tp 178),(tp 180)] #[22,22]) 4 177 true,rq 182 (.pick (tp 177) (tp 181) (kb false)) 4,rq 183 (.move (tp 182)) 4,rg 184 (.move (tp 5)) 32 183 true,rg 185 (.buildSlice 22 3 #[(0,(ki 3)),(1,(ki 2)),(2,(ki 1))]) 22 183 true,rg 187 (.buildSlice 22 2 #[(0,(ki 4)),(1,(ki 2))]) 22 183 true,rg 186 (cf 12 #[(tp 185)] #[22]) 22 183 true,rg 188 (cf 12 #[(tp 187)] #[22]) 22 183 true,rg 189 (.buildSlice 32 2 #[(0,(tp 186)),(1,(tp 188))]) 32 183 true,rg 190 (cf 22 #[(tp 189)] #[32]) 32 183 true,rg 191 (cf 10 #[(tp 184),(tp 190)] #[32,32]) 4 183 true,rq 192 (.pick (tp 183) (tp 191) (kb false)) 4,rq 193 (.move (tp 192)) 4,rg 194 (.move (tp 7)) 32 193 true,rg 195 (cb .len #[(tp 194)] #[32]) 3 193 true,rg 196 (.binOp .eql 3 (tp 195) (ki 0) 3) 4 193 true,rq 197 (.pick (tp 193) (tp 196) (kb false)) 4,rq 198 (.move (tp 197)) 4,rg 199 (.move (tp 15)) 32 198 true,rg 200 (.buildSlice 22 3 #[(0,(ki 2)),(1,(ki 2)),(2,(ki 1))]) 22 198 true,rg 202 (.buildSlice 22 3 #[(0,(ki 3)),(1,(ki 1)),(2,(ki 1))]) 22 198 true,rg 204 (.buildSlice 22 2 #[(0,(ki 3)),(1,(ki 2))]) 22 198 true,rg 201 (cf 12 #[(tp 200)] #[22]) 22 198 true,rg 203 (cf 12 #[(tp 202)] #[22]) 22 198 true,rg 205 (cf 12 #[(tp 204)] #[22]) 22 198 true,rg 206 (.buildSlice 32 3 #[(0,(tp 201)),(1,(tp 203)),(2,(tp 205))]) 32 198 true,rg 207 (cf 22 #[(tp 206)] #[32]) 32 198 true,rg 208 (cf 10 #[(tp 199),(tp 207)] #[32,32]) 4 198 true,rq 209 (.pick (tp 198) (tp 208) (kb false)) 4,rq 210 (.move (tp 209)) 4,rg 211 (.move (tp 16)) 28 210 true,rg 212 (.indexAddr 28 (tp 211) (ki 1)) 0 210 true,rg 213 (.load 32 (tp 212)) 32 210 true,rg 214 (.buildSlice 22 4 #[(0,(ki 3)),(1,(ki 3)),(2,(ki 1)),(3,(ki 1))]) 22 210 true,rg 216 (.buildSlice 22 3 #[(0,(ki 4)),(1,(ki 2)),(2,(ki 2))]) 22 210 true,
   ⟨(some 215),cf 12 #[(tp 214)] #[22],22,(some ((some 210),true)),[(tp 212)]⟩,
   ⟨(some 217),cf 12 #[(tp 216)] #[22],22,(some ((some 210),true)),[(tp 212)]⟩,rg 218 (.buildSlice 32 2 #[(0,(tp 215)),(1,(tp 217))]) 32 210 true,
   ⟨(some 219),cf 22 #[(tp 218)] #[32],32,(some ((some 210),true)),[(tp 212)]⟩,rg 220 (cf 10 #[(tp 213),(tp 219)] #[32,32]) 4 210 true,rq 221 (.pick (tp 210) (tp 220) (kb false)) 4,rq 222 (.move (tp 221)) 4,rg 223 (.move (tp 20)) 22 222 true,rg 224 (.buildSlice 22 4 #[(0,(ki 2)),(1,(ki 2)),(2,(ki 1)),(3,(ki 1))]) 22 222 true,rg 225 (cf 12 #[(tp 224)] #[22]) 22 222 true,rg 226 (cf 21 #[(tp 223),(tp 225)] #[22,22]) 4 222 true,rq 227 (.pick (tp 222) (tp 226) (kb false)) 4,rq 228 (.move (tp 227)) 4,rg 229 (.move (tp 21)) 22 228 true,rg 230 (.buildSlice 22 4 #[(0,(ki 3)),(1,(ki 3)),(2,(ki 1)),(3,(ki 1))]) 22 228 true,rg 231 (cf 12 #[(tp 230)] #[22]) 22 228 true,rg 232 (cf 21 #[(tp 229),(tp 231)] #[22,22]) 4 228 true,rq 233 (.pick (tp 228) (tp 232) (kb false)) 4,rq 0 (.assign (tp 233)) 4])
 (.ret))))))))))))))))
def c6:RC:=c6_65
def c7:RC:=c7_33
def c8:RC:=
 .seq (.reg [] [
  rq 2 (.assign (.const (.slice none 0 0))) 28,rq 3 (.assign (ki 0)) 25])
 (.seq (.seq (.reg [] [
   rq 8 (.move (tp 0)) 3,rq 9 (cf 32 #[(ki 1),(tp 8),(ki 21)] #[3,3,3]) 4,rq 10 (.unOp .not 4 (tp 9)) 4])
 (.cond (tp 10) (.seq (.reg [] [
   rq 2 (.assign (.const (.slice none 0 0))) 28,
   rq 3 (.assign (ki 1)) 25])
  (.ret))
 (.skip)))
 (.seq (.reg [] [
   rq 12 (.move (tp 0)) 3,rq 13 (cf 33 #[(tp 12)] #[3]) 58,rq 11 (.move (tp 13)) 58,rq 14 (.extract (tp 11) 0) 3,rq 15 (.extract (tp 11) 1) 3,rq 4 (.alloc 3) 0,rn (.store 3 (tp 4) (tp 14)) 0,rq 5 (.assign (tp 15)) 3])
 (.seq (.reg [] [
   rq 6 (.alloc 28) 0])
 (.seq (.reg [] [
   rq 7 (.alloc 60) 0])
 (.seq (.reg [] [
   rq 16 (.makeFunc (.func 34) #[] #[(tp 4),(tp 6),(tp 7)]) 60,rn (.store 60 (tp 7) (tp 16)) 0])
 (.seq (.reg [] [
   rq 17 (.load 60 (tp 7)) 60,rq 18 (.move (tp 5)) 3,rq 19 (.call ⟨.value (tp 17),#[(.const (.slice none 0 0)),(ki 0),(tp 18)],#[22,3,3]⟩) 0])
 (.seq (.reg [] [
   rq 20 (.load 28 (tp 6)) 28,rq 21 (cf 40 #[(tp 20),(.func 41)] #[28,66]) 0])
 (.seq (.reg [] [
   rq 22 (.load 28 (tp 6)) 28,rq 2 (.assign (tp 22)) 28,rq 3 (.assign (ki 0)) 25])
 (.ret)))))))))
def c9:RC:=c9_29
def c10:RC:=c10_26
def c11:RC:=
 .seq (.reg [] [
  rq 2 (.assign (.const (.slice none 0 0))) 22,rq 3 (.assign (ki 0)) 25])
 (.seq (.seq (.reg [] [
   rq 5 (.move (tp 0)) 22,rq 6 (cf 23 #[(tp 5)] #[22]) 25,rq 4 (.assign (tp 6)) 25])
 (.seq (.reg [] [
   rq 7 (.move (tp 4)) 25,rq 8 (.binOp .neq 25 (tp 7) (ki 0) 25) 4])
 (.cond (tp 8) (.seq (.reg [] [
   rq 9 (.move (tp 4)) 25,
   rq 2 (.assign (.const (.slice none 0 0))) 22,
   rq 3 (.assign (tp 9)) 25])
  (.ret))
 (.skip))))
 (.seq (.reg [] [
   rq 10 (.move (tp 0)) 22,rq 11 (cf 24 #[(tp 10)] #[22]) 51,rq 12 (cf 45 #[(tp 11)] #[51]) 51,rq 13 (cf 46 #[(tp 12)] #[51]) 22,rq 2 (.assign (tp 13)) 22,rq 3 (.assign (ki 0)) 25])
 (.ret)))
def c12:RC:=
 .seq (.reg [] [
  rq 2 (.assign (.const (.slice none 0 0))) 22])
 (.seq (.reg [] [
   rq 3 (.move (tp 0)) 22,rq 2 (.assign (tp 3)) 22])
 (.ret))
def c13:RC:=
 .seq (.reg [] [
  rq 4 (.assign (.const (.slice none 0 0))) 22,rq 5 (.assign (ki 0)) 25])
 (.seq (.reg [] [
   rq 10 (.move (tp 0)) 22,rq 11 (cf 23 #[(tp 10)] #[22]) 25,rq 6 (.assign (tp 11)) 25])
 (.seq (.block 0 (.seq (.reg [] [
   rq 13 (.move (tp 6)) 25,
   rq 14 (.binOp .neq 25 (tp 13) (ki 0) 25) 4,
   rq 12 (.assign (tp 14)) 4])
  (.cond (tp 12) (.seq (.reg [] [
    rq 15 (.move (tp 6)) 25,
    rq 4 (.assign (.const (.slice none 0 0))) 22,
    rq 5 (.assign (tp 15)) 25])
   (.ret))
  (.seq (.reg [] [
    rq 17 (.move (tp 1)) 3,
    rq 18 (cf 32 #[(ki 0),(tp 17),(ki 1000000000)] #[3,3,3]) 4,
    rq 19 (.unOp .not 4 (tp 18)) 4,
    rq 16 (.assign (tp 19)) 4])
   (.cond (tp 16) (.seq (.reg [] [
     rq 4 (.assign (.const (.slice none 0 0))) 22,
     rq 5 (.assign (ki 1)) 25])
    (.ret))
   (.skip))))))
 (.seq (.reg [] [
   rq 20 (.move (tp 0)) 22,rq 21 (cf 24 #[(tp 20)] #[22]) 51,rq 7 (.alloc 51) 0,rn (.store 51 (tp 7) (tp 21)) 0])
 (.seq (.block 1 (.loop (.seq (.seq (.reg [] [
   rq 22 (.move (tp 1)) 3,
   rq 23 (.binOp .gtr 3 (tp 22) (ki 0) 3) 4])
   (.cond (tp 23) (.skip)
   (.exit 1)))
   (.seq (.block 2 (.seq (.seq (.reg [] [
     rq 26 (.load 51 (tp 7)) 51,
     rq 27 (cf 47 #[(tp 26)] #[51]) 4])
    (.cond (tp 27) (.seq (.reg [] [
      rq 29 (.load 51 (tp 7)) 51,
      rq 30 (cf 48 #[(tp 29)] #[51]) 3,
      rq 31 (cf 33 #[(tp 30)] #[3]) 58,
      rq 28 (.move (tp 31)) 58,
      rq 32 (.extract (tp 28) 0) 3,
      rq 33 (.extract (tp 28) 1) 3,
      rq 8 (.assign (tp 32)) 3,
      rq 9 (.assign (tp 33)) 3])
     (.reg [] [
       rq 34 (.move (tp 1)) 3,
       rq 35 (.binOp .sub 3 (tp 34) (ki 1) 3) 3,
       rq 36 (.move (tp 8)) 3,
       rq 37 (.binOp .add 3 (tp 36) (ki 1) 3) 3,
       rq 38 (.binOp .rem 3 (tp 35) (tp 37) 3) 3,
       rq 39 (.binOp .add 3 (tp 38) (ki 1) 3) 3,
       rq 1 (.assign (tp 39)) 3]))
    (.skip)))
    (.reg [] [
      rq 40 (.load 51 (tp 7)) 51,
      rq 41 (cf 45 #[(tp 40)] #[51]) 51,
      rn (.store 51 (tp 7) (tp 41)) 0])))
   (.reg [] [
     rq 24 (.move (tp 1)) 3,
     rq 25 (.binOp .sub 3 (tp 24) (ki 1) 3) 3,
     rq 1 (.assign (tp 25)) 3])))))
 (.seq (.reg [] [
   rq 42 (.load 51 (tp 7)) 51,rq 43 (cf 46 #[(tp 42)] #[51]) 22,rq 4 (.assign (tp 43)) 22,rq 5 (.assign (ki 0)) 25])
 (.ret))))))
def c14:RC:=
 .seq (.reg [] [
  rq 2 (.assign (.const (.slice none 0 0))) 32,rq 3 (.assign (ki 0)) 25])
 (.seq (.seq (.reg [] [
   rq 5 (.move (tp 0)) 22,rq 6 (cf 23 #[(tp 5)] #[22]) 25,rq 4 (.assign (tp 6)) 25])
 (.seq (.reg [] [
   rq 7 (.move (tp 4)) 25,rq 8 (.binOp .neq 25 (tp 7) (ki 0) 25) 4])
 (.cond (tp 8) (.seq (.reg [] [
   rq 9 (.move (tp 4)) 25,
   rq 2 (.assign (.const (.slice none 0 0))) 32,
   rq 3 (.assign (tp 9)) 25])
  (.ret))
 (.skip))))
 (.seq (.reg [] [
   rq 10 (.move (tp 0)) 22,rq 11 (cf 24 #[(tp 10)] #[22]) 51,rq 12 (cf 26 #[(tp 11)] #[51]) 32,rq 2 (.assign (tp 12)) 32,rq 3 (.assign (ki 0)) 25])
 (.ret)))
def c15:RC:=
 .seq (.reg [] [
  rq 2 (.assign (kb false)) 4,rq 3 (.assign (ki 0)) 25])
 (.seq (.seq (.reg [] [
   rq 5 (.move (tp 0)) 22,rq 6 (cf 23 #[(tp 5)] #[22]) 25,rq 4 (.assign (tp 6)) 25])
 (.seq (.reg [] [
   rq 7 (.move (tp 4)) 25,rq 8 (.binOp .neq 25 (tp 7) (ki 0) 25) 4])
 (.cond (tp 8) (.seq (.reg [] [
   rq 9 (.move (tp 4)) 25,
   rq 2 (.assign (kb false)) 4,
   rq 3 (.assign (tp 9)) 25])
  (.ret))
 (.skip))))
 (.seq (.reg [] [
   rq 10 (.move (tp 0)) 22,rq 11 (cf 24 #[(tp 10)] #[22]) 51,rq 12 (cf 47 #[(tp 11)] #[51]) 4,rq 2 (.assign (tp 12)) 4,rq 3 (.assign (ki 0)) 25])
 (.ret)))
def c16:RC:=
 .seq (.reg [] [
  rq 2 (.assign (ki 0)) 3,rq 3 (.assign (ki 0)) 25])
 (.seq (.seq (.reg [] [
   rq 7 (.move (tp 0)) 22,rq 8 (cf 23 #[(tp 7)] #[22]) 25,rq 4 (.assign (tp 8)) 25])
 (.seq (.reg [] [
   rq 9 (.move (tp 4)) 25,rq 10 (.binOp .neq 25 (tp 9) (ki 0) 25) 4])
 (.cond (tp 10) (.seq (.reg [] [
   rq 11 (.move (tp 4)) 25,
   rq 2 (.assign (ki 0)) 3,
   rq 3 (.assign (tp 11)) 25])
  (.ret))
 (.skip))))
 (.seq (.reg [] [
   rq 13 (.move (tp 0)) 22,rq 14 (cf 24 #[(tp 13)] #[22]) 51,rq 15 (cf 49 #[(tp 14)] #[51]) 70,rq 12 (.move (tp 15)) 70,rq 16 (.extract (tp 12) 0) 3,rq 17 (.extract (tp 12) 1) 51,rq 6 (.alloc 51) 0,rq 5 (.assign (tp 16)) 3,rn (.store 51 (tp 6) (tp 17)) 0])
 (.seq (.reg [] [
   rq 18 (.move (tp 5)) 3,rq 2 (.assign (tp 18)) 3,rq 3 (.assign (ki 0)) 25])
 (.ret))))
def c17:RC:=
 .seq (.reg [] [
  rq 2 (.assign (.const (.slice none 0 0))) 32,rq 3 (.assign (ki 0)) 25])
 (.seq (.seq (.reg [] [
   rq 5 (.move (tp 0)) 22,rq 6 (cf 23 #[(tp 5)] #[22]) 25,rq 4 (.assign (tp 6)) 25])
 (.seq (.reg [] [
   rq 7 (.move (tp 4)) 25,rq 8 (.binOp .neq 25 (tp 7) (ki 0) 25) 4])
 (.cond (tp 8) (.seq (.reg [] [
   rq 9 (.move (tp 4)) 25,
   rq 2 (.assign (.const (.slice none 0 0))) 32,
   rq 3 (.assign (tp 9)) 25])
  (.ret))
 (.skip))))
 (.seq (.reg [] [
   rq 10 (.move (tp 0)) 22,rq 11 (cf 24 #[(tp 10)] #[22]) 51,rq 12 (cf 25 #[(tp 11)] #[51]) 32,rq 2 (.assign (tp 12)) 32,rq 3 (.assign (ki 0)) 25])
 (.ret)))
def c18:RC:=
 .seq (.reg [] [
  rq 2 (.assign (ki 0)) 3,rq 3 (.assign (ki 0)) 25])
 (.seq (.seq (.reg [] [
   rq 5 (.move (tp 0)) 3,rq 6 (cf 32 #[(ki 1),(tp 5),(ki 21)] #[3,3,3]) 4,rq 7 (.unOp .not 4 (tp 6)) 4])
 (.cond (tp 7) (.seq (.reg [] [
   rq 2 (.assign (ki 0)) 3,
   rq 3 (.assign (ki 1)) 25])
  (.ret))
 (.skip)))
 (.seq (.reg [] [
   rq 4 (.alloc 3) 0,rn (.store 3 (tp 4) (ki 0)) 0])
 (.seq (.reg [] [
   rq 8 (.move (tp 0)) 3,rq 9 (.makeFunc (.func 51) #[] #[(tp 4)]) 73,rq 10 (cf 50 #[(tp 8),(tp 9)] #[3,73]) 0])
 (.seq (.reg [] [
   rq 11 (.load 3 (tp 4)) 3,rq 2 (.assign (tp 11)) 3,rq 3 (.assign (ki 0)) 25])
 (.ret)))))
def c19:RC:=
 .seq (.reg [] [
  rq 2 (.assign (ki 0)) 3,rq 3 (.assign (.const (.slice none 0 0))) 22,rq 4 (.assign (ki 0)) 25])
 (.seq (.seq (.reg [] [
   rq 7 (.move (tp 0)) 3,rq 8 (cf 32 #[(ki 1),(tp 7),(ki 21)] #[3,3,3]) 4,rq 9 (.unOp .not 4 (tp 8)) 4])
 (.cond (tp 9) (.seq (.reg [] [
   rq 2 (.assign (ki 0)) 3,
   rq 3 (.assign (.const (.slice none 0 0))) 22,
   rq 4 (.assign (ki 1)) 25])
  (.ret))
 (.skip)))
 (.seq (.reg [] [
   rq 5 (.alloc 3) 0,rq 6 (.alloc 22) 0,rn (.store 3 (tp 5) (ki (-1))) 0,rn (.store 22 (tp 6) (.const (.slice none 0 0))) 0])
 (.seq (.reg [] [
   rq 10 (.move (tp 0)) 3,rq 11 (.makeFunc (.func 52) #[] #[(tp 5),(tp 6)]) 73,rq 12 (cf 50 #[(tp 10),(tp 11)] #[3,73]) 0])
 (.seq (.reg [0, 1, 2, 3, 4] [
   rq 13 (.load 3 (tp 5)) 3,rq 14 (.load 22 (tp 6)) 22,rq 2 (.assign (tp 13)) 3,rq 3 (.assign (tp 14)) 22,rq 4 (.assign (ki 0)) 25])
 (.ret)))))
def c20:RC:=
 .seq (.reg [] [
  rq 2 (.assign (.const (.slice none 0 0))) 22,rq 3 (.assign (ki 0)) 25])
 (.seq (.seq (.reg [] [
   rq 9 (.move (tp 0)) 22,rq 10 (cf 23 #[(tp 9)] #[22]) 25,rq 4 (.assign (tp 10)) 25])
 (.seq (.reg [] [
   rq 11 (.move (tp 4)) 25,rq 12 (.binOp .neq 25 (tp 11) (ki 0) 25) 4])
 (.cond (tp 12) (.seq (.reg [] [
   rq 13 (.move (tp 4)) 25,
   rq 2 (.assign (.const (.slice none 0 0))) 22,
   rq 3 (.assign (tp 13)) 25])
  (.ret))
 (.skip))))
 (.seq (.reg [] [
   rq 14 (.move (tp 0)) 22,rq 15 (.indexAddr 22 (tp 14) (ki 0)) 0,rq 16 (.load 3 (tp 15)) 3,rq 17 (.makeSlice 22 (tp 16) (tp 16)) 22,rq 5 (.assign (tp 17)) 22])
 (.seq (.seq (.reg [] [
   rq 18 (.move (tp 0)) 22,rq 19 (cb .len #[(tp 18)] #[22]) 3,rq 20 (.move (ki 0)) 3])
 (.block 0 (.loop (.seq (.reg [] [
   rq 21 (.binOp .lss 3 (tp 20) (tp 19) 3) 0])
   (.seq (.cond (tp 21) (.skip)
   (.exit 0))
   (.seq (.block 1 (.seq (.reg [] [
     rq 22 (.indexAddr 22 (tp 18) (tp 20)) 0,
     rq 23 (.load 3 (tp 22)) 3,
     rq 7 (.assign (tp 23)) 3])
    (.seq (.reg [] [
      rq 24 (.move (tp 7)) 3,
      rq 25 (.move (ki 0)) 3])
    (.block 2 (.loop (.seq (.reg [] [
      rq 26 (.binOp .lss 3 (tp 25) (tp 24) 3) 4])
      (.seq (.cond (tp 26) (.skip)
      (.exit 2))
      (.seq (.block 3 (.seq (.reg [] [
        rq 27 (.move (tp 25)) 3,
        rq 8 (.assign (tp 27)) 3])
       (.reg [] [
         rq 28 (.move (tp 5)) 22,
         rq 29 (.move (tp 8)) 3,
         rq 30 (.indexAddr 22 (tp 28) (tp 29)) 0,
         rq 31 (.load 3 (tp 30)) 3,
         rq 32 (.binOp .add 3 (tp 31) (ki 1) 3) 3,
         rq 33 (.indexAddr 22 (tp 28) (tp 29)) 0,
         rn (.store 3 (tp 33) (tp 32)) 0])))
      (.reg [] [
        rq 34 (.binOp .add 3 (tp 25) (ki 1) 3) 3,
        rq 25 (.move (tp 34)) 3])))))))))
   (.reg [] [
     rq 35 (.binOp .add 3 (tp 20) (ki 1) 3) 3,
     rq 20 (.move (tp 35)) 3])))))))
 (.seq (.reg [] [
   rq 36 (.move (tp 5)) 22,rq 2 (.assign (tp 36)) 22,rq 3 (.assign (ki 0)) 25])
 (.ret)))))
def c21:RC:=c21_26
def c22:RC:=
 .seq (.reg [] [
  rq 2 (.assign (.const (.slice none 0 0))) 32])
 (.seq (.reg [] [
   rq 3 (.move (tp 0)) 32,rq 2 (.assign (tp 3)) 32])
 (.ret))
def c23:RC:=c23_46
def c24:RC:=c24_20
def c25:RC:=c25_31
def c26:RC:=
 .seq (.reg [] [
  rq 1 (.box 51 (tp 0)) 0,rq 2 (.assign (.const (.slice none 0 0))) 32])
 (.seq (.reg [] [
   rq 8 (.load 51 (tp 1)) 51,rq 9 (cf 54 #[(tp 8)] #[51]) 3,rq 10 (.binOp .sub 3 (tp 9) (ki 1) 3) 3,rq 3 (.assign (tp 10)) 3])
 (.seq (.reg [] [
   rq 4 (.assign (.const (.slice none 0 0))) 32])
 (.seq (.seq (.reg [] [
   rq 11 (.move (tp 3)) 3,rq 12 (cb .max #[(tp 11),(ki 1)] #[3,3]) 3,rq 5 (.assign (tp 12)) 3])
 (.block 0 (.loop (.seq (.seq (.reg [] [
   rq 13 (.move (tp 5)) 3,
   rq 14 (.binOp .leq 3 (tp 13) (ki 21) 3) 4])
   (.cond (tp 14) (.skip)
   (.exit 0)))
   (.seq (.block 1 (.seq (.seq (.reg [] [
     rq 17 (.move (tp 5)) 3,
     rq 18 (.indexAddr 51 (tp 1) (tp 17)) 0,
     rq 19 (.load 3 (tp 18)) 3,
     rq 20 (.binOp .eql 3 (tp 19) (ki 0) 3) 4])
    (.cond (tp 20) (.exit 1)
    (.skip)))
    (.seq (.reg [] [
      rq 21 (.load 51 (tp 1)) 51,
      rq 6 (.alloc 51) 0,
      rn (.store 51 (tp 6) (tp 21)) 0])
    (.seq (.reg [] [
      rq 22 (.move (tp 5)) 3,
      rq 23 (.indexAddr 51 (tp 6) (tp 22)) 0,
      rq 24 (.load 3 (tp 23)) 3,
      rq 25 (.binOp .sub 3 (tp 24) (ki 1) 3) 3,
      rq 26 (.indexAddr 51 (tp 6) (tp 22)) 0,
      rn (.store 3 (tp 26) (tp 25)) 0])
    (.seq (.reg [] [
      rq 7 (.alloc 51) 0])
    (.seq (.reg [0, 1, 2] [
      rq 27 (.slice 51 (tp 7) (some (ki 2)) none none) 22,
      rq 28 (.slice 51 (tp 6) (some (ki 1)) none none) 22,
      rq 29 (cb .copy #[(tp 27),(tp 28)] #[22,22]) 3])
    (.seq (.reg [] [
      rq 30 (.move (tp 5)) 3,
      rq 31 (.move (tp 3)) 3,
      rq 32 (.binOp .sub 3 (tp 30) (tp 31) 3) 3,
      rq 33 (.indexAddr 51 (tp 7) (ki 1)) 0,
      rn (.store 3 (tp 33) (tp 32)) 0])
    (.reg [] [
      rq 34 (.move (tp 4)) 32,
      rq 35 (.load 51 (tp 7)) 51,
      rq 36 (cf 46 #[(tp 35)] #[51]) 22,
      rq 37 (.buildSlice 32 1 #[(0,(tp 36))]) 32,
      rq 38 (cb .append #[(tp 34),(tp 37)] #[32,32]) 32,
      rq 4 (.assign (tp 38)) 32]))))))))
   (.reg [] [
     rq 15 (.move (tp 5)) 3,
     rq 16 (.binOp .add 3 (tp 15) (ki 1) 3) 3,
     rq 5 (.assign (tp 16)) 3]))))))
 (.seq (.reg [] [
   rq 39 (.move (tp 4)) 32,rq 40 (cf 55 #[(tp 39),(.func 42)] #[32,65]) 0])
 (.seq (.reg [] [
   rq 41 (.move (tp 4)) 32,rq 2 (.assign (tp 41)) 32])
 (.ret))))))
def c27:RC:=c27_53
def c28:RC:=c28_38
def c29:RC:=c29_37
def c30:RC:=c30_18
def c31:RC:=c31_26
def c32:RC:=c32_3
def c33:RC:=c33_16
def c34:RC:=
 .seq (.seq (.reg [] [
  rq 10 (.move (tp 1)) 3,rq 11 (.load 3 (tp 3)) 3,rq 12 (.binOp .gtr 3 (tp 10) (tp 11) 3) 4])
 (.cond (tp 12) (.seq (.seq (.reg [] [
   rq 13 (.move (tp 2)) 3,
   rq 14 (.binOp .gtr 3 (tp 13) (ki 0) 3) 4])
  (.cond (tp 14) (.ret)
  (.skip)))
  (.seq (.reg [] [
    rq 15 (.move (tp 0)) 22,
    rq 16 (cf 36 #[(tp 15)] #[22]) 22,
    rq 17 (cf 35 #[(tp 16),(.func 37)] #[22,63]) 22,
    rq 0 (.assign (tp 17)) 22])
  (.seq (.seq (.reg [] [
    rq 18 (.move (tp 0)) 22,
    rq 19 (cf 24 #[(tp 18)] #[22]) 51,
    rq 20 (cf 25 #[(tp 19)] #[51]) 32,
    rq 9 (.assign (tp 20)) 32])
  (.seq (.reg [] [
    rq 21 (.move (tp 9)) 32,
    rq 22 (.indexAddr 32 (tp 21) (ki 0)) 0,
    rq 23 (.load 22 (tp 22)) 22,
    rq 24 (.move (tp 0)) 22,
    rq 25 (cf 38 #[(tp 23),(tp 24)] #[22,22]) 4])
  (.cond (tp 25) (.reg [] [
    rq 26 (.load 28 (tp 4)) 28,
    rq 27 (.move (tp 9)) 32,
    rq 28 (.buildSlice 28 1 #[(0,(tp 27))]) 28,
    rq 29 (cb .append #[(tp 26),(tp 28)] #[28,28]) 28,
    rn (.store 28 (tp 4) (tp 29)) 0])
  (.skip))))
  (.ret))))
 (.skip)))
 (.seq (.reg [0, 1, 3, 4, 5, 6, 8, 9, 10, 2, 7, 11] [
   rq 30 (.load 60 (tp 5)) 60,rq 31 (.move (tp 0)) 22,rq 33 (.load 3 (tp 3)) 3,rq 34 (.move (tp 1)) 3,rq 35 (.binOp .sub 3 (tp 33) (tp 34) 3) 3,rq 36 (.buildSlice 22 1 #[(0,(tp 35))]) 22,rq 38 (.move (tp 1)) 3,rq 39 (.binOp .add 3 (tp 38) (ki 1) 3) 3,rq 40 (.move (tp 2)) 3,
   ⟨(some 32),cf 39 #[(tp 31)] #[22],22,none,[(tp 3),(tp 5)]⟩,
   ⟨(some 37),cb .append #[(tp 32),(tp 36)] #[22,22],22,none,[(tp 5)]⟩,rq 41 (.call ⟨.value (tp 30),#[(tp 37),(tp 39),(tp 40)],#[22,3,3]⟩) 0])
 (.seq (.reg [] [
   rq 42 (.move (tp 2)) 3,rq 43 (.binOp .gtr 3 (tp 42) (ki 0) 3) 4])
 (.cond (tp 43) (.reg [0, 1, 3, 4, 5, 6, 7, 9, 10, 11, 12, 2, 8, 13] [
   rq 44 (.load 60 (tp 5)) 60,
   rq 45 (.move (tp 0)) 22,
   rq 47 (.load 3 (tp 3)) 3,
   rq 48 (.move (tp 1)) 3,
   rq 49 (.binOp .sub 3 (tp 47) (tp 48) 3) 3,
   rq 50 (.binOp .add 3 (tp 49) (ki 1) 3) 3,
   rq 51 (.buildSlice 22 1 #[(0,(tp 50))]) 22,
   rq 53 (.move (tp 1)) 3,
   rq 54 (.binOp .add 3 (tp 53) (ki 1) 3) 3,
   rq 55 (.move (tp 2)) 3,
   rq 56 (.binOp .sub 3 (tp 55) (ki 1) 3) 3,
   ⟨(some 46),cf 39 #[(tp 45)] #[22],22,none,[(tp 3),(tp 5)]⟩,
   ⟨(some 52),cb .append #[(tp 46),(tp 51)] #[22,22],22,none,[(tp 5)]⟩,
   rq 57 (.call ⟨.value (tp 44),#[(tp 52),(tp 54),(tp 56)],#[22,3,3]⟩) 0])
 (.skip))))
def c35:RC:=
 .seq (.reg [] [
  rq 4 (.assign (.const (.slice none 0 0))) 22])
 (.seq (.reg [] [
   rq 8 (.move (tp 0)) 22,rq 9 (.move (tp 1)) 63,rq 10 (cf 59 #[(tp 8),(tp 9)] #[22,63]) 3,rq 5 (.assign (tp 10)) 3])
 (.seq (.seq (.reg [] [
   rq 11 (.move (tp 5)) 3,rq 12 (.binOp .eql 3 (tp 11) (ki (-1)) 3) 4])
 (.cond (tp 12) (.seq (.reg [] [
   rq 13 (.move (tp 0)) 22,
   rq 4 (.assign (tp 13)) 22])
  (.ret))
 (.skip)))
 (.seq (.seq (.reg [] [
   rq 14 (.move (tp 5)) 3,rq 15 (.binOp .add 3 (tp 14) (ki 1) 3) 3,rq 6 (.assign (tp 15)) 3])
 (.block 0 (.loop (.seq (.seq (.reg [] [
   rq 16 (.move (tp 6)) 3,
   rq 17 (.move (tp 0)) 22,
   rq 18 (cb .len #[(tp 17)] #[22]) 3,
   rq 19 (.binOp .lss 3 (tp 16) (tp 18) 3) 4])
   (.cond (tp 19) (.skip)
   (.exit 0)))
   (.seq (.block 1 (.seq (.reg [] [
     rq 22 (.move (tp 0)) 22,
     rq 23 (.move (tp 6)) 3,
     rq 24 (.indexAddr 22 (tp 22) (tp 23)) 0,
     rq 25 (.load 3 (tp 24)) 3,
     rq 7 (.assign (tp 25)) 3])
    (.seq (.reg [] [
      rq 26 (.move (tp 1)) 63,
      rq 27 (.move (tp 7)) 3,
      rq 28 (.call ⟨.value (tp 26),#[(tp 27)],#[3]⟩) 4,
      rq 29 (.unOp .not 4 (tp 28)) 4])
    (.cond (tp 29) (.seq (.reg [] [
      rq 30 (.move (tp 0)) 22,
      rq 31 (.move (tp 5)) 3,
      rq 32 (.move (tp 7)) 3,
      rq 33 (.indexAddr 22 (tp 30) (tp 31)) 0,
      rn (.store 3 (tp 33) (tp 32)) 0])
     (.reg [] [
       rq 34 (.move (tp 5)) 3,
       rq 35 (.binOp .add 3 (tp 34) (ki 1) 3) 3,
       rq 5 (.assign (tp 35)) 3]))
    (.skip)))))
   (.reg [] [
     rq 20 (.move (tp 6)) 3,
     rq 21 (.binOp .add 3 (tp 20) (ki 1) 3) 3,
     rq 6 (.assign (tp 21)) 3]))))))
 (.seq (.reg [] [
   rq 36 (.move (tp 0)) 22,rq 37 (.move (tp 5)) 3,rq 38 (.slice 22 (tp 36) (some (tp 37)) none none) 22,rn (cb .clear #[(tp 38)] #[22]) 0])
 (.seq (.reg [] [
   rq 39 (.move (tp 0)) 22,rq 40 (.move (tp 5)) 3,rq 41 (.slice 22 (tp 39) none (some (tp 40)) none) 22,rq 4 (.assign (tp 41)) 22])
 (.ret))))))
def c36:RC:=
 .seq (.reg [] [
  rq 2 (.assign (.const (.slice none 0 0))) 22])
 (.seq (.seq (.reg [] [
   rq 3 (.move (tp 0)) 22,rq 4 (.binOp .eql 22 (tp 3) (.const (.slice none 0 0)) 22) 4])
 (.cond (tp 4) (.seq (.reg [] [
   rq 2 (.assign (.const (.slice none 0 0))) 22])
  (.ret))
 (.skip)))
 (.seq (.reg [] [
   rq 5 (.buildSlice 22 0 #[]) 22,rq 6 (.move (tp 0)) 22,rq 7 (cb .append #[(tp 5),(tp 6)] #[22,22]) 22,rq 2 (.assign (tp 7)) 22])
 (.ret)))
def c37:RC:=
 .seq (.reg [] [
  rq 2 (.assign (kb false)) 4])
 (.seq (.reg [] [
   rq 3 (.move (tp 0)) 3,rq 4 (.binOp .eql 3 (tp 3) (ki 0) 3) 4,rq 2 (.assign (tp 4)) 4])
 (.ret))
def c38:RC:=
 .seq (.reg [] [
  rq 4 (.assign (kb false)) 4])
 (.seq (.seq (.reg [] [
   rq 6 (.move (tp 0)) 22,rq 7 (cb .len #[(tp 6)] #[22]) 3,rq 8 (.move (tp 1)) 22,rq 9 (cb .len #[(tp 8)] #[22]) 3,rq 10 (.binOp .neq 3 (tp 7) (tp 9) 3) 4])
 (.cond (tp 10) (.seq (.reg [] [
   rq 4 (.assign (kb false)) 4])
  (.ret))
 (.skip)))
 (.seq (.seq (.reg [] [
   rq 11 (.move (tp 0)) 22,rq 12 (cb .len #[(tp 11)] #[22]) 3,rq 13 (.move (ki 0)) 3])
 (.block 0 (.loop (.seq (.reg [] [
   rq 14 (.binOp .lss 3 (tp 13) (tp 12) 3) 0])
   (.seq (.cond (tp 14) (.skip)
   (.exit 0))
   (.seq (.block 1 (.seq (.reg [] [
     rq 15 (.move (tp 13)) 3,
     rq 5 (.assign (tp 15)) 3])
    (.seq (.reg [0, 1, 2, 3, 4, 5, 6, 7, 8] [
      rq 16 (.move (tp 0)) 22,
      rq 17 (.move (tp 5)) 3,
      rq 18 (.indexAddr 22 (tp 16) (tp 17)) 0,
      rq 19 (.load 3 (tp 18)) 3,
      rq 20 (.move (tp 1)) 22,
      rq 21 (.move (tp 5)) 3,
      rq 22 (.indexAddr 22 (tp 20) (tp 21)) 0,
      rq 23 (.load 3 (tp 22)) 3,
      rq 24 (.binOp .neq 3 (tp 19) (tp 23) 3) 4])
    (.cond (tp 24) (.seq (.reg [] [
      rq 4 (.assign (kb false)) 4])
     (.ret))
    (.skip)))))
   (.reg [] [
     rq 25 (.binOp .add 3 (tp 13) (ki 1) 3) 3,
     rq 13 (.move (tp 25)) 3])))))))
 (.seq (.reg [] [
   rq 4 (.assign (kb true)) 4])
 (.ret))))
def c39:RC:=
 .seq (.reg [] [
  rq 2 (.assign (.const (.slice none 0 0))) 22])
 (.seq (.reg [] [
   rq 3 (.move (tp 0)) 22,rq 4 (.move (tp 0)) 22,rq 5 (cb .len #[(tp 4)] #[22]) 3,rq 6 (.move (tp 0)) 22,rq 7 (cb .len #[(tp 6)] #[22]) 3,rq 8 (.slice 22 (tp 3) none (some (tp 5)) (some (tp 7))) 22,rq 2 (.assign (tp 8)) 22])
 (.ret))
def c40:RC:=
 .seq (.reg [] [
  rq 5 (.move (tp 0)) 28,rq 6 (cb .len #[(tp 5)] #[28]) 3,rq 4 (.assign (tp 6)) 3])
 (.reg [] [
   rq 7 (.move (tp 0)) 28,rq 8 (.move (tp 4)) 3,rq 9 (.move (tp 4)) 3,rq 10 (.convert 3 81 (tp 9)) 81,rq 11 (cf 61 #[(tp 10)] #[81]) 3,rq 12 (.move (tp 1)) 66,rq 13 (cf 60 #[(tp 7),(ki 0),(tp 8),(tp 11),(tp 12)] #[28,3,3,3,66]) 0])
def c41:RC:=
 .seq (.reg [] [
  rq 4 (.assign (ki 0)) 3])
 (.seq (.reg [0, 1, 2, 3, 4, 5, 6, 7] [
   rq 5 (.move (tp 0)) 32,rq 6 (.indexAddr 32 (tp 5) (ki 0)) 0,rq 7 (.load 22 (tp 6)) 22,rq 8 (.move (tp 1)) 32,rq 9 (.indexAddr 32 (tp 8) (ki 0)) 0,rq 10 (.load 22 (tp 9)) 22,rq 11 (cf 42 #[(tp 7),(tp 10)] #[22,22]) 3,rq 4 (.assign (tp 11)) 3])
 (.ret))
def c42:RC:=c42_38
def c43:RC:=c43_3
def c44:RC:=c44_24
def c45:RC:=c45_11
def c46:RC:=c46_18
def c47:RC:=c47_32
def c48:RC:=c48_20
def c49:RC:=c49_26
def c50:RC:=
 .seq (.reg [] [
  rq 3 (.box 73 (tp 1)) 0])
 (.seq (.reg [] [
   rq 4 (.alloc 60) 0])
 (.seq (.reg [] [
   rq 5 (.makeFunc (.func 64) #[] #[(tp 3),(tp 4)]) 60,rn (.store 60 (tp 4) (tp 5)) 0])
 (.reg [] [
   rq 6 (.load 60 (tp 4)) 60,rq 7 (.move (tp 0)) 3,rq 8 (.move (tp 0)) 3,rq 9 (.call ⟨.value (tp 6),#[(.const (.slice none 0 0)),(tp 7),(tp 8)],#[22,3,3]⟩) 0])))
def c51:RC:=
 .seq (.reg [] [
  rq 3 (.move (tp 0)) 22,rq 4 (cf 24 #[(tp 3)] #[22]) 51,rq 5 (cf 26 #[(tp 4)] #[51]) 32,rq 6 (cb .len #[(tp 5)] #[32]) 3,rq 7 (.binOp .eql 3 (tp 6) (ki 0) 3) 4])
 (.cond (tp 7) (.reg [] [
   rq 8 (.load 3 (tp 1)) 3,
   rq 9 (.binOp .add 3 (tp 8) (ki 1) 3) 3,
   rn (.store 3 (tp 1) (tp 9)) 0])
 (.skip))
def c52:RC:=
 .seq (.reg [] [
  rq 7 (.move (tp 0)) 22,rq 8 (cf 24 #[(tp 7)] #[22]) 51,rq 9 (cf 49 #[(tp 8)] #[51]) 70,rq 6 (.move (tp 9)) 70,rq 10 (.extract (tp 6) 0) 3,rq 11 (.extract (tp 6) 1) 51,rq 5 (.alloc 51) 0,rq 4 (.assign (tp 10)) 3,rn (.store 51 (tp 5) (tp 11)) 0])
 (.seq (.reg [] [
   rq 12 (.move (tp 4)) 3,rq 13 (.load 3 (tp 1)) 3,rq 14 (.binOp .gtr 3 (tp 12) (tp 13) 3) 4])
 (.cond (tp 14) (.reg [] [
   rq 15 (.move (tp 4)) 3,
   rq 16 (.move (tp 0)) 22,
   rn (.store 3 (tp 1) (tp 15)) 0,
   rn (.store 22 (tp 2) (tp 16)) 0])
 (.skip)))
def c53:RC:=
 .seq (.reg [] [
  rq 2 (.assign (.const (.slice none 0 0))) 32])
 (.seq (.reg [] [
   rq 3 (.assign (ki 0)) 3])
 (.seq (.seq (.reg [] [
   rq 9 (.move (tp 0)) 28,rq 10 (cb .len #[(tp 9)] #[28]) 3,rq 11 (.move (ki 0)) 3])
 (.block 0 (.loop (.seq (.reg [] [
   rq 12 (.binOp .lss 3 (tp 11) (tp 10) 3) 0])
   (.seq (.cond (tp 12) (.skip)
   (.exit 0))
   (.seq (.block 1 (.seq (.reg [] [
     rq 13 (.indexAddr 28 (tp 9) (tp 11)) 0,
     rq 14 (.load 32 (tp 13)) 32,
     rq 5 (.assign (tp 14)) 32])
    (.seq (.reg [] [
      rq 15 (.move (tp 3)) 3,
      rq 16 (.move (tp 5)) 32,
      rq 17 (cb .len #[(tp 16)] #[32]) 3,
      rq 18 (.binOp .add 3 (tp 15) (tp 17) 3) 3,
      rq 3 (.assign (tp 18)) 3])
    (.seq (.reg [] [
      rq 19 (.move (tp 3)) 3,
      rq 20 (.binOp .lss 3 (tp 19) (ki 0) 3) 4])
    (.cond (tp 20) (.reg [] [
      rq 21 (.makeInterface 9 (.const (.string ⟨#[108,101,110,32,111,117,116,32,111,102,32,114,97,110,103,101]⟩))) 20,
      rn (.panic (tp 21)) 0])
    (.skip))))))
   (.reg [] [
     rq 22 (.binOp .add 3 (tp 11) (ki 1) 3) 3,
     rq 11 (.move (tp 22)) 3])))))))
 (.seq (.reg [] [
   rq 23 (.move (tp 3)) 3,rq 24 (cf 65 #[(.const (.slice none 0 0)),(tp 23)] #[32,3]) 32,rq 6 (.assign (tp 24)) 32])
 (.seq (.seq (.reg [] [
   rq 25 (.move (tp 0)) 28,rq 26 (cb .len #[(tp 25)] #[28]) 3,rq 27 (.move (ki 0)) 3])
 (.block 2 (.loop (.seq (.reg [] [
   rq 28 (.binOp .lss 3 (tp 27) (tp 26) 3) 0])
   (.seq (.cond (tp 28) (.skip)
   (.exit 2))
   (.seq (.block 3 (.seq (.reg [] [
     rq 29 (.indexAddr 28 (tp 25) (tp 27)) 0,
     rq 30 (.load 32 (tp 29)) 32,
     rq 8 (.assign (tp 30)) 32])
    (.reg [] [
      rq 31 (.move (tp 6)) 32,
      rq 32 (.move (tp 8)) 32,
      rq 33 (cb .append #[(tp 31),(tp 32)] #[32,32]) 32,
      rq 6 (.assign (tp 33)) 32])))
   (.reg [] [
     rq 34 (.binOp .add 3 (tp 27) (ki 1) 3) 3,
     rq 27 (.move (tp 34)) 3])))))))
 (.seq (.reg [] [
   rq 35 (.move (tp 6)) 32,rq 2 (.assign (tp 35)) 32])
 (.ret))))))
def c54:RC:=c54_20
def c55:RC:=
 .seq (.reg [] [
  rq 5 (.move (tp 0)) 32,rq 6 (cb .len #[(tp 5)] #[32]) 3,rq 4 (.assign (tp 6)) 3])
 (.reg [] [
   rq 7 (.move (tp 0)) 32,rq 8 (.move (tp 4)) 3,rq 9 (.move (tp 4)) 3,rq 10 (.convert 3 81 (tp 9)) 81,rq 11 (cf 61 #[(tp 10)] #[81]) 3,rq 12 (.move (tp 1)) 65,rq 13 (cf 66 #[(tp 7),(ki 0),(tp 8),(tp 11),(tp 12)] #[32,3,3,3,65]) 0])
def c56:RC:=c56_16
def c57:RC:=c57_35
def c58:RC:=c58_20
def c59:RC:=
 .seq (.reg [] [
  rq 4 (.assign (ki 0)) 3])
 (.seq (.seq (.reg [] [
   rq 6 (.move (tp 0)) 22,rq 7 (cb .len #[(tp 6)] #[22]) 3,rq 8 (.move (ki 0)) 3])
 (.block 0 (.loop (.seq (.reg [] [
   rq 9 (.binOp .lss 3 (tp 8) (tp 7) 3) 0])
   (.seq (.cond (tp 9) (.skip)
   (.exit 0))
   (.seq (.block 1 (.seq (.reg [] [
     rq 10 (.move (tp 8)) 3,
     rq 5 (.assign (tp 10)) 3])
    (.seq (.reg [] [
      rq 11 (.move (tp 1)) 63,
      rq 12 (.move (tp 0)) 22,
      rq 13 (.move (tp 5)) 3,
      rq 14 (.indexAddr 22 (tp 12) (tp 13)) 0,
      rq 15 (.load 3 (tp 14)) 3,
      rq 16 (.call ⟨.value (tp 11),#[(tp 15)],#[3]⟩) 4])
    (.cond (tp 16) (.seq (.reg [] [
      rq 17 (.move (tp 5)) 3,
      rq 4 (.assign (tp 17)) 3])
     (.ret))
    (.skip)))))
   (.reg [] [
     rq 18 (.binOp .add 3 (tp 8) (ki 1) 3) 3,
     rq 8 (.move (tp 18)) 3])))))))
 (.seq (.reg [] [
   rq 4 (.assign (ki (-1))) 3])
 (.ret)))
def c60:RC:=
 .seq (.reg [] [
  rq 10 (.assign (kb true)) 4])
 (.seq (.reg [] [
   rq 11 (.assign (kb true)) 4])
 (.block 0 (.loop (.block 1 (.seq (.reg [] [
   rq 21 (.move (tp 2)) 3,
   rq 22 (.move (tp 1)) 3,
   rq 23 (.binOp .sub 3 (tp 21) (tp 22) 3) 3,
   rq 12 (.assign (tp 23)) 3])
   (.seq (.seq (.reg [] [
     rq 24 (.move (tp 12)) 3,
     rq 25 (.binOp .leq 3 (tp 24) (ki 12) 3) 4])
   (.cond (tp 25) (.seq (.reg [] [
     rq 26 (.move (tp 0)) 28,
     rq 27 (.move (tp 1)) 3,
     rq 28 (.move (tp 2)) 3,
     rq 29 (.move (tp 4)) 66,
     rq 30 (cf 67 #[(tp 26),(tp 27),(tp 28),(tp 29)] #[28,3,3,66]) 0])
    (.ret))
   (.skip)))
   (.seq (.seq (.reg [] [
     rq 31 (.move (tp 3)) 3,
     rq 32 (.binOp .eql 3 (tp 31) (ki 0) 3) 4])
   (.cond (tp 32) (.seq (.reg [] [
     rq 33 (.move (tp 0)) 28,
     rq 34 (.move (tp 1)) 3,
     rq 35 (.move (tp 2)) 3,
     rq 36 (.move (tp 4)) 66,
     rq 37 (cf 68 #[(tp 33),(tp 34),(tp 35),(tp 36)] #[28,3,3,66]) 0])
    (.ret))
   (.skip)))
   (.seq (.seq (.reg [] [
     rq 38 (.move (tp 10)) 4,
     rq 39 (.unOp .not 4 (tp 38)) 4])
   (.cond (tp 39) (.seq (.reg [] [
     rq 40 (.move (tp 0)) 28,
     rq 41 (.move (tp 1)) 3,
     rq 42 (.move (tp 2)) 3,
     rq 43 (.move (tp 4)) 66,
     rq 44 (cf 69 #[(tp 40),(tp 41),(tp 42),(tp 43)] #[28,3,3,66]) 0])
    (.reg [] [
      rq 45 (.move (tp 3)) 3,
      rq 46 (.binOp .sub 3 (tp 45) (ki 1) 3) 3,
      rq 3 (.assign (tp 46)) 3]))
   (.skip)))
   (.seq (.reg [] [
     rq 48 (.move (tp 0)) 28,
     rq 49 (.move (tp 1)) 3,
     rq 50 (.move (tp 2)) 3,
     rq 51 (.move (tp 4)) 66,
     rq 52 (cf 70 #[(tp 48),(tp 49),(tp 50),(tp 51)] #[28,3,3,66]) 88,
     rq 47 (.move (tp 52)) 88,
     rq 53 (.extract (tp 47) 0) 3,
     rq 54 (.extract (tp 47) 1) 87,
     rq 13 (.assign (tp 53)) 3,
     rq 14 (.assign (tp 54)) 87])
   (.seq (.seq (.reg [] [
     rq 55 (.move (tp 14)) 87,
     rq 56 (.binOp .eql 87 (tp 55) (ki 2) 87) 4])
   (.cond (tp 56) (.seq (.reg [] [
     rq 57 (.move (tp 0)) 28,
     rq 58 (.move (tp 1)) 3,
     rq 59 (.move (tp 2)) 3,
     rq 60 (.move (tp 4)) 66,
     rq 61 (cf 71 #[(tp 57),(tp 58),(tp 59),(tp 60)] #[28,3,3,66]) 0])
    (.seq (.reg [] [
      rq 62 (.move (tp 2)) 3,
      rq 63 (.binOp .sub 3 (tp 62) (ki 1) 3) 3,
      rq 64 (.move (tp 13)) 3,
      rq 65 (.move (tp 1)) 3,
      rq 66 (.binOp .sub 3 (tp 64) (tp 65) 3) 3,
      rq 67 (.binOp .sub 3 (tp 63) (tp 66) 3) 3,
      rq 13 (.assign (tp 67)) 3])
    (.reg [] [
      rq 14 (.assign (ki 1)) 87])))
   (.skip)))
   (.seq (.seq (.reg [] [
     rq 68 (.move (tp 10)) 4,
     rq 69 (.move (tp 68)) 4,
     rg 70 (.move (tp 11)) 4 69 true,
     rq 71 (.pick (tp 69) (tp 70) (kb false)) 4,
     rq 72 (.move (tp 71)) 4,
     rg 73 (.move (tp 14)) 87 72 true,
     rg 74 (.binOp .eql 87 (tp 73) (ki 1) 87) 4 72 true,
     rq 75 (.pick (tp 72) (tp 74) (kb false)) 4])
   (.cond (tp 75) (.seq (.reg [] [
     rq 76 (.move (tp 0)) 28,
     rq 77 (.move (tp 1)) 3,
     rq 78 (.move (tp 2)) 3,
     rq 79 (.move (tp 4)) 66,
     rq 80 (cf 72 #[(tp 76),(tp 77),(tp 78),(tp 79)] #[28,3,3,66]) 4])
    (.cond (tp 80) (.ret)
    (.skip)))
   (.skip)))
   (.seq (.seq (.reg [0, 1, 2, 3, 4, 5, 6, 7, 8, 9, 10, 11, 12, 13, 14, 15, 16] [
     rq 81 (.move (tp 1)) 3,
     rq 82 (.binOp .gtr 3 (tp 81) (ki 0) 3) 4,
     rq 83 (.move (tp 82)) 4,
     rg 84 (.move (tp 4)) 66 83 true,
     rg 85 (.move (tp 0)) 28 83 true,
     rg 86 (.move (tp 1)) 3 83 true,
     rg 87 (.binOp .sub 3 (tp 86) (ki 1) 3) 3 83 true,
     rg 88 (.indexAddr 28 (tp 85) (tp 87)) 0 83 true,
     rg 89 (.load 32 (tp 88)) 32 83 true,
     rg 90 (.move (tp 0)) 28 83 true,
     rg 91 (.move (tp 13)) 3 83 true,
     rg 92 (.indexAddr 28 (tp 90) (tp 91)) 0 83 true,
     rg 93 (.load 32 (tp 92)) 32 83 true,
     rg 94 (.call ⟨.value (tp 84),#[(tp 89),(tp 93)],#[32,32]⟩) 3 83 true,
     rg 95 (.binOp .lss 3 (tp 94) (ki 0) 3) 4 83 true,
     rg 96 (.unOp .not 4 (tp 95)) 4 83 true,
     rq 97 (.pick (tp 83) (tp 96) (kb false)) 4])
   (.cond (tp 97) (.seq (.reg [] [
     rq 98 (.move (tp 0)) 28,
     rq 99 (.move (tp 1)) 3,
     rq 100 (.move (tp 2)) 3,
     rq 101 (.move (tp 13)) 3,
     rq 102 (.move (tp 4)) 66,
     rq 103 (cf 73 #[(tp 98),(tp 99),(tp 100),(tp 101),(tp 102)] #[28,3,3,3,66]) 3,
     rq 15 (.assign (tp 103)) 3])
    (.seq (.reg [] [
      rq 104 (.move (tp 15)) 3,
      rq 1 (.assign (tp 104)) 3])
    (.exit 1)))
   (.skip)))
   (.seq (.reg [] [
     rq 106 (.move (tp 0)) 28,
     rq 107 (.move (tp 1)) 3,
     rq 108 (.move (tp 2)) 3,
     rq 109 (.move (tp 13)) 3,
     rq 110 (.move (tp 4)) 66,
     rq 111 (cf 74 #[(tp 106),(tp 107),(tp 108),(tp 109),(tp 110)] #[28,3,3,3,66]) 92,
     rq 105 (.move (tp 111)) 92,
     rq 112 (.extract (tp 105) 0) 3,
     rq 113 (.extract (tp 105) 1) 4,
     rq 16 (.assign (tp 112)) 3,
     rq 17 (.assign (tp 113)) 4])
   (.seq (.reg [] [
     rq 114 (.move (tp 17)) 4,
     rq 11 (.assign (tp 114)) 4])
   (.seq (.reg [] [
     rq 115 (.move (tp 16)) 3,
     rq 116 (.move (tp 1)) 3,
     rq 117 (.binOp .sub 3 (tp 115) (tp 116) 3) 3,
     rq 118 (.move (tp 2)) 3,
     rq 119 (.move (tp 16)) 3,
     rq 120 (.binOp .sub 3 (tp 118) (tp 119) 3) 3,
     rq 18 (.assign (tp 117)) 3,
     rq 19 (.assign (tp 120)) 3])
   (.seq (.reg [] [
     rq 121 (.move (tp 12)) 3,
     rq 122 (.binOp .quo 3 (tp 121) (ki 8) 3) 3,
     rq 20 (.assign (tp 122)) 3])
   (.seq (.reg [] [
     rq 123 (.move (tp 18)) 3,
     rq 124 (.move (tp 19)) 3,
     rq 125 (.binOp .lss 3 (tp 123) (tp 124) 3) 4])
   (.cond (tp 125) (.seq (.reg [] [
     rq 126 (.move (tp 18)) 3,
     rq 127 (.move (tp 20)) 3,
     rq 128 (.binOp .geq 3 (tp 126) (tp 127) 3) 4,
     rq 10 (.assign (tp 128)) 4])
    (.seq (.reg [] [
      rq 129 (.move (tp 0)) 28,
      rq 130 (.move (tp 1)) 3,
      rq 131 (.move (tp 16)) 3,
      rq 132 (.move (tp 3)) 3,
      rq 133 (.move (tp 4)) 66,
      rq 134 (cf 60 #[(tp 129),(tp 130),(tp 131),(tp 132),(tp 133)] #[28,3,3,3,66]) 0])
    (.reg [] [
      rq 135 (.move (tp 16)) 3,
      rq 136 (.binOp .add 3 (tp 135) (ki 1) 3) 3,
      rq 1 (.assign (tp 136)) 3])))
   (.seq (.reg [] [
     rq 137 (.move (tp 19)) 3,
     rq 138 (.move (tp 20)) 3,
     rq 139 (.binOp .geq 3 (tp 137) (tp 138) 3) 4,
     rq 10 (.assign (tp 139)) 4])
    (.seq (.reg [] [
      rq 140 (.move (tp 0)) 28,
      rq 141 (.move (tp 16)) 3,
      rq 142 (.binOp .add 3 (tp 141) (ki 1) 3) 3,
      rq 143 (.move (tp 2)) 3,
      rq 144 (.move (tp 3)) 3,
      rq 145 (.move (tp 4)) 66,
      rq 146 (cf 60 #[(tp 140),(tp 142),(tp 143),(tp 144),(tp 145)] #[28,3,3,3,66]) 0])
    (.reg [] [
      rq 147 (.move (tp 16)) 3,
      rq 2 (.assign (tp 147)) 3])))))))))))))))))))))
def c61:RC:=
 .seq (.reg [] [
  rq 2 (.assign (ki 0)) 3])
 (.seq (.cond (kb false) (.seq (.reg [] [
   rq 3 (.move (tp 0)) 81,
   rq 4 (.convert 81 95 (tp 3)) 95,
   rq 5 (cf 75 #[(tp 4)] #[95]) 3,
   rq 2 (.assign (tp 5)) 3])
  (.ret))
 (.skip))
 (.seq (.reg [] [
   rq 6 (.move (tp 0)) 81,rq 7 (cf 76 #[(tp 6)] #[97]) 3,rq 2 (.assign (tp 7)) 3])
 (.ret)))
def c62:RC:=c62_37
def c63:RC:=
 .seq (.reg [] [
  rq 4 (.assign (.const (.slice none 0 0))) 22])
 (.seq (.seq (.reg [] [
   rq 9 (.move (tp 1)) 3,rq 10 (.binOp .lss 3 (tp 9) (ki 0) 3) 4])
 (.cond (tp 10) (.reg [] [
   rq 11 (.makeInterface 9 (.const (.string ⟨#[99,97,110,110,111,116,32,98,101,32,110,101,103,97,116,105,118,101]⟩))) 20,
   rn (.panic (tp 11)) 0])
 (.skip)))
 (.seq (.reg [] [
   rq 13 (.move (tp 0)) 22,rq 14 (cb .len #[(tp 13)] #[22]) 3,rq 15 (.convert 3 81 (tp 14)) 81,rq 16 (.move (tp 1)) 3,rq 17 (.convert 3 81 (tp 16)) 81,rq 18 (cf 78 #[(tp 15),(tp 17)] #[81,81]) 98,rq 12 (.move (tp 18)) 98,rq 19 (.extract (tp 12) 0) 81,rq 20 (.extract (tp 12) 1) 81,rq 5 (.assign (tp 19)) 81,rq 6 (.assign (tp 20)) 81])
 (.seq (.seq (.reg [] [
   rq 21 (.move (tp 5)) 81,rq 22 (.binOp .gtr 81 (tp 21) (.const (.int .u64 0)) 81) 4,rq 23 (.move (tp 22)) 4,rg 24 (.move (tp 6)) 81 23 false,rg 25 (.binOp .gtr 81 (tp 24) (.const (.int .u64 9223372036854775807)) 81) 4 23 false,rq 26 (.pick (tp 23) (kb true) (tp 25)) 4])
 (.cond (tp 26) (.reg [] [
   rq 27 (.makeInterface 9 (.const (.string ⟨#[116,104,101,32,114,101,115,117,108,116,32,111,102,32,40,108,101,110,40,120,41,32,42,32,99,111,117,110,116,41,32,111,118,101,114,102,108,111,119,115]⟩))) 20,
   rn (.panic (tp 27)) 0])
 (.skip)))
 (.seq (.reg [] [
   rq 28 (.move (tp 6)) 81,rq 29 (.convert 81 3 (tp 28)) 3,rq 30 (.makeSlice 22 (tp 29) (tp 29)) 22,rq 7 (.assign (tp 30)) 22])
 (.seq (.reg [] [
   rq 31 (.move (tp 7)) 22,rq 32 (.move (tp 0)) 22,rq 33 (cb .copy #[(tp 31),(tp 32)] #[22,22]) 3,rq 8 (.assign (tp 33)) 3])
 (.seq (.block 0 (.loop (.seq (.seq (.reg [] [
   rq 34 (.move (tp 8)) 3,
   rq 35 (.move (tp 7)) 22,
   rq 36 (cb .len #[(tp 35)] #[22]) 3,
   rq 37 (.binOp .lss 3 (tp 34) (tp 36) 3) 4])
   (.cond (tp 37) (.skip)
   (.exit 0)))
   (.block 1 (.reg [0, 1, 2, 3, 4, 5, 6, 7, 8, 9] [
     rq 38 (.move (tp 8)) 3,
     rq 39 (.move (tp 7)) 22,
     rq 40 (.move (tp 8)) 3,
     rq 41 (.slice 22 (tp 39) (some (tp 40)) none none) 22,
     rq 42 (.move (tp 7)) 22,
     rq 43 (.move (tp 8)) 3,
     rq 44 (.slice 22 (tp 42) none (some (tp 43)) none) 22,
     rq 45 (cb .copy #[(tp 41),(tp 44)] #[22,22]) 3,
     rq 46 (.binOp .add 3 (tp 38) (tp 45) 3) 3,
     rq 8 (.assign (tp 46)) 3])))))
 (.seq (.reg [] [
   rq 47 (.move (tp 7)) 22,rq 4 (.assign (tp 47)) 22])
 (.ret))))))))
def c64:RC:=
 .seq (.seq (.reg [] [
  rq 9 (.move (tp 1)) 3,rq 10 (.binOp .eql 3 (tp 9) (ki 0) 3) 4])
 (.cond (tp 10) (.seq (.reg [] [
   rq 11 (.load 73 (tp 3)) 73,
   rq 12 (.move (tp 0)) 22,
   rq 13 (.call ⟨.value (tp 11),#[(tp 12)],#[22]⟩) 0])
  (.ret))
 (.skip)))
 (.seq (.reg [] [
   rq 8 (.assign (ki 1)) 3])
 (.block 0 (.loop (.seq (.seq (.reg [] [
   rq 14 (.move (tp 8)) 3,
   rq 15 (.move (tp 1)) 3,
   rq 16 (.move (tp 2)) 3,
   rq 17 (cb .min #[(tp 15),(tp 16)] #[3,3]) 3,
   rq 18 (.binOp .leq 3 (tp 14) (tp 17) 3) 4])
   (.cond (tp 18) (.skip)
   (.exit 0)))
   (.seq (.block 1 (.reg [0, 1, 3, 4, 6, 7, 8, 9, 2, 5, 10] [
     rq 21 (.load 60 (tp 4)) 60,
     rq 22 (.move (tp 0)) 22,
     rq 24 (.move (tp 8)) 3,
     rq 25 (.buildSlice 22 1 #[(0,(tp 24))]) 22,
     rq 27 (.move (tp 1)) 3,
     rq 28 (.move (tp 8)) 3,
     rq 29 (.binOp .sub 3 (tp 27) (tp 28) 3) 3,
     rq 30 (.move (tp 8)) 3,
     ⟨(some 23),cf 39 #[(tp 22)] #[22],22,none,[(tp 4)]⟩,
     ⟨(some 26),cb .append #[(tp 23),(tp 25)] #[22,22],22,none,[(tp 4)]⟩,
     rq 31 (.call ⟨.value (tp 21),#[(tp 26),(tp 29),(tp 30)],#[22,3,3]⟩) 0]))
   (.reg [] [
     rq 19 (.move (tp 8)) 3,
     rq 20 (.binOp .add 3 (tp 19) (ki 1) 3) 3,
     rq 8 (.assign (tp 20)) 3]))))))
def c65:RC:=
 .seq (.reg [] [
  rq 4 (.assign (.const (.slice none 0 0))) 32])
 (.seq (.seq (.reg [] [
   rq 5 (.move (tp 1)) 3,rq 6 (.binOp .lss 3 (tp 5) (ki 0) 3) 4])
 (.cond (tp 6) (.reg [] [
   rq 7 (.makeInterface 9 (.const (.string ⟨#[99,97,110,110,111,116,32,98,101,32,110,101,103,97,116,105,118,101]⟩))) 20,
   rn (.panic (tp 7)) 0])
 (.skip)))
 (.seq (.seq (.reg [] [
   rq 8 (.move (tp 1)) 3,rq 9 (.move (tp 0)) 32,rq 10 (cb .cap #[(tp 9)] #[32]) 3,rq 11 (.move (tp 0)) 32,rq 12 (cb .len #[(tp 11)] #[32]) 3,rq 13 (.binOp .sub 3 (tp 10) (tp 12) 3) 3,rq 14 (.binOp .sub 3 (tp 8) (tp 13) 3) 3,rq 1 (.assign (tp 14)) 3])
 (.seq (.reg [] [
   rq 15 (.move (tp 1)) 3,rq 16 (.binOp .gtr 3 (tp 15) (ki 0) 3) 4])
 (.cond (tp 16) (.reg [] [
   rq 17 (.move (tp 0)) 32,
   rq 18 (.move (tp 0)) 32,
   rq 19 (cb .cap #[(tp 18)] #[32]) 3,
   rq 20 (.slice 32 (tp 17) none (some (tp 19)) none) 32,
   rq 21 (.move (tp 1)) 3,
   rq 22 (cb .append #[(tp 20),(tp 21)] #[32,3]) 32,
   rq 23 (.move (tp 0)) 32,
   rq 24 (cb .len #[(tp 23)] #[32]) 3,
   rq 25 (.slice 32 (tp 22) none (some (tp 24)) none) 32,
   rq 0 (.assign (tp 25)) 32])
 (.skip))))
 (.seq (.reg [] [
   rq 26 (.move (tp 0)) 32,rq 4 (.assign (tp 26)) 32])
 (.ret))))
def c66:RC:=
 .seq (.reg [] [
  rq 10 (.assign (kb true)) 4])
 (.seq (.reg [] [
   rq 11 (.assign (kb true)) 4])
 (.block 0 (.loop (.block 1 (.seq (.reg [] [
   rq 21 (.move (tp 2)) 3,
   rq 22 (.move (tp 1)) 3,
   rq 23 (.binOp .sub 3 (tp 21) (tp 22) 3) 3,
   rq 12 (.assign (tp 23)) 3])
   (.seq (.seq (.reg [] [
     rq 24 (.move (tp 12)) 3,
     rq 25 (.binOp .leq 3 (tp 24) (ki 12) 3) 4])
   (.cond (tp 25) (.seq (.reg [] [
     rq 26 (.move (tp 0)) 32,
     rq 27 (.move (tp 1)) 3,
     rq 28 (.move (tp 2)) 3,
     rq 29 (.move (tp 4)) 65,
     rq 30 (cf 79 #[(tp 26),(tp 27),(tp 28),(tp 29)] #[32,3,3,65]) 0])
    (.ret))
   (.skip)))
   (.seq (.seq (.reg [] [
     rq 31 (.move (tp 3)) 3,
     rq 32 (.binOp .eql 3 (tp 31) (ki 0) 3) 4])
   (.cond (tp 32) (.seq (.reg [] [
     rq 33 (.move (tp 0)) 32,
     rq 34 (.move (tp 1)) 3,
     rq 35 (.move (tp 2)) 3,
     rq 36 (.move (tp 4)) 65,
     rq 37 (cf 80 #[(tp 33),(tp 34),(tp 35),(tp 36)] #[32,3,3,65]) 0])
    (.ret))
   (.skip)))
   (.seq (.seq (.reg [] [
     rq 38 (.move (tp 10)) 4,
     rq 39 (.unOp .not 4 (tp 38)) 4])
   (.cond (tp 39) (.seq (.reg [] [
     rq 40 (.move (tp 0)) 32,
     rq 41 (.move (tp 1)) 3,
     rq 42 (.move (tp 2)) 3,
     rq 43 (.move (tp 4)) 65,
     rq 44 (cf 81 #[(tp 40),(tp 41),(tp 42),(tp 43)] #[32,3,3,65]) 0])
    (.reg [] [
      rq 45 (.move (tp 3)) 3,
      rq 46 (.binOp .sub 3 (tp 45) (ki 1) 3) 3,
      rq 3 (.assign (tp 46)) 3]))
   (.skip)))
   (.seq (.reg [] [
     rq 48 (.move (tp 0)) 32,
     rq 49 (.move (tp 1)) 3,
     rq 50 (.move (tp 2)) 3,
     rq 51 (.move (tp 4)) 65,
     rq 52 (cf 82 #[(tp 48),(tp 49),(tp 50),(tp 51)] #[32,3,3,65]) 88,
     rq 47 (.move (tp 52)) 88,
     rq 53 (.extract (tp 47) 0) 3,
     rq 54 (.extract (tp 47) 1) 87,
     rq 13 (.assign (tp 53)) 3,
     rq 14 (.assign (tp 54)) 87])
   (.seq (.seq (.reg [] [
     rq 55 (.move (tp 14)) 87,
     rq 56 (.binOp .eql 87 (tp 55) (ki 2) 87) 4])
   (.cond (tp 56) (.seq (.reg [] [
     rq 57 (.move (tp 0)) 32,
     rq 58 (.move (tp 1)) 3,
     rq 59 (.move (tp 2)) 3,
     rq 60 (.move (tp 4)) 65,
     rq 61 (cf 83 #[(tp 57),(tp 58),(tp 59),(tp 60)] #[32,3,3,65]) 0])
    (.seq (.reg [] [
      rq 62 (.move (tp 2)) 3,
      rq 63 (.binOp .sub 3 (tp 62) (ki 1) 3) 3,
      rq 64 (.move (tp 13)) 3,
      rq 65 (.move (tp 1)) 3,
      rq 66 (.binOp .sub 3 (tp 64) (tp 65) 3) 3,
      rq 67 (.binOp .sub 3 (tp 63) (tp 66) 3) 3,
      rq 13 (.assign (tp 67)) 3])
    (.reg [] [
      rq 14 (.assign (ki 1)) 87])))
   (.skip)))
   (.seq (.seq (.reg [] [
     rq 68 (.move (tp 10)) 4,
     rq 69 (.move (tp 68)) 4,
     rg 70 (.move (tp 11)) 4 69 true,
     rq 71 (.pick (tp 69) (tp 70) (kb false)) 4,
     rq 72 (.move (tp 71)) 4,
     rg 73 (.move (tp 14)) 87 72 true,
     rg 74 (.binOp .eql 87 (tp 73) (ki 1) 87) 4 72 true,
     rq 75 (.pick (tp 72) (tp 74) (kb false)) 4])
   (.cond (tp 75) (.seq (.reg [] [
     rq 76 (.move (tp 0)) 32,
     rq 77 (.move (tp 1)) 3,
     rq 78 (.move (tp 2)) 3,
     rq 79 (.move (tp 4)) 65,
     rq 80 (cf 84 #[(tp 76),(tp 77),(tp 78),(tp 79)] #[32,3,3,65]) 4])
    (.cond (tp 80) (.ret)
    (.skip)))
   (.skip)))
   (.seq (.seq (.reg [0, 1, 2, 3, 4, 5, 6, 7, 8, 9, 10, 11, 12, 13, 14, 15, 16] [
     rq 81 (.move (tp 1)) 3,
     rq 82 (.binOp .gtr 3 (tp 81) (ki 0) 3) 4,
     rq 83 (.move (tp 82)) 4,
     rg 84 (.move (tp 4)) 65 83 true,
     rg 85 (.move (tp 0)) 32 83 true,
     rg 86 (.move (tp 1)) 3 83 true,
     rg 87 (.binOp .sub 3 (tp 86) (ki 1) 3) 3 83 true,
     rg 88 (.indexAddr 32 (tp 85) (tp 87)) 0 83 true,
     rg 89 (.load 22 (tp 88)) 22 83 true,
     rg 90 (.move (tp 0)) 32 83 true,
     rg 91 (.move (tp 13)) 3 83 true,
     rg 92 (.indexAddr 32 (tp 90) (tp 91)) 0 83 true,
     rg 93 (.load 22 (tp 92)) 22 83 true,
     rg 94 (.call ⟨.value (tp 84),#[(tp 89),(tp 93)],#[22,22]⟩) 3 83 true,
     rg 95 (.binOp .lss 3 (tp 94) (ki 0) 3) 4 83 true,
     rg 96 (.unOp .not 4 (tp 95)) 4 83 true,
     rq 97 (.pick (tp 83) (tp 96) (kb false)) 4])
   (.cond (tp 97) (.seq (.reg [] [
     rq 98 (.move (tp 0)) 32,
     rq 99 (.move (tp 1)) 3,
     rq 100 (.move (tp 2)) 3,
     rq 101 (.move (tp 13)) 3,
     rq 102 (.move (tp 4)) 65,
     rq 103 (cf 85 #[(tp 98),(tp 99),(tp 100),(tp 101),(tp 102)] #[32,3,3,3,65]) 3,
     rq 15 (.assign (tp 103)) 3])
    (.seq (.reg [] [
      rq 104 (.move (tp 15)) 3,
      rq 1 (.assign (tp 104)) 3])
    (.exit 1)))
   (.skip)))
   (.seq (.reg [] [
     rq 106 (.move (tp 0)) 32,
     rq 107 (.move (tp 1)) 3,
     rq 108 (.move (tp 2)) 3,
     rq 109 (.move (tp 13)) 3,
     rq 110 (.move (tp 4)) 65,
     rq 111 (cf 86 #[(tp 106),(tp 107),(tp 108),(tp 109),(tp 110)] #[32,3,3,3,65]) 92,
     rq 105 (.move (tp 111)) 92,
     rq 112 (.extract (tp 105) 0) 3,
     rq 113 (.extract (tp 105) 1) 4,
     rq 16 (.assign (tp 112)) 3,
     rq 17 (.assign (tp 113)) 4])
   (.seq (.reg [] [
     rq 114 (.move (tp 17)) 4,
     rq 11 (.assign (tp 114)) 4])
   (.seq (.reg [] [
     rq 115 (.move (tp 16)) 3,
     rq 116 (.move (tp 1)) 3,
     rq 117 (.binOp .sub 3 (tp 115) (tp 116) 3) 3,
     rq 118 (.move (tp 2)) 3,
     rq 119 (.move (tp 16)) 3,
     rq 120 (.binOp .sub 3 (tp 118) (tp 119) 3) 3,
     rq 18 (.assign (tp 117)) 3,
     rq 19 (.assign (tp 120)) 3])
   (.seq (.reg [] [
     rq 121 (.move (tp 12)) 3,
     rq 122 (.binOp .quo 3 (tp 121) (ki 8) 3) 3,
     rq 20 (.assign (tp 122)) 3])
   (.seq (.reg [] [
     rq 123 (.move (tp 18)) 3,
     rq 124 (.move (tp 19)) 3,
     rq 125 (.binOp .lss 3 (tp 123) (tp 124) 3) 4])
   (.cond (tp 125) (.seq (.reg [] [
     rq 126 (.move (tp 18)) 3,
     rq 127 (.move (tp 20)) 3,
     rq 128 (.binOp .geq 3 (tp 126) (tp 127) 3) 4,
     rq 10 (.assign (tp 128)) 4])
    (.seq (.reg [] [
      rq 129 (.move (tp 0)) 32,
      rq 130 (.move (tp 1)) 3,
      rq 131 (.move (tp 16)) 3,
      rq 132 (.move (tp 3)) 3,
      rq 133 (.move (tp 4)) 65,
      rq 134 (cf 66 #[(tp 129),(tp 130),(tp 131),(tp 132),(tp 133)] #[32,3,3,3,65]) 0])
    (.reg [] [
      rq 135 (.move (tp 16)) 3,
      rq 136 (.binOp .add 3 (tp 135) (ki 1) 3) 3,
      rq 1 (.assign (tp 136)) 3])))
   (.seq (.reg [] [
     rq 137 (.move (tp 19)) 3,
     rq 138 (.move (tp 20)) 3,
     rq 139 (.binOp .geq 3 (tp 137) (tp 138) 3) 4,
     rq 10 (.assign (tp 139)) 4])
    (.seq (.reg [] [
      rq 140 (.move (tp 0)) 32,
      rq 141 (.move (tp 16)) 3,
      rq 142 (.binOp .add 3 (tp 141) (ki 1) 3) 3,
      rq 143 (.move (tp 2)) 3,
      rq 144 (.move (tp 3)) 3,
      rq 145 (.move (tp 4)) 65,
      rq 146 (cf 66 #[(tp 140),(tp 142),(tp 143),(tp 144),(tp 145)] #[32,3,3,3,65]) 0])
    (.reg [] [
      rq 147 (.move (tp 16)) 3,
      rq 2 (.assign (tp 147)) 3])))))))))))))))))))))
def c67:RC:=
 .seq (.reg [] [
  rq 10 (.move (tp 1)) 3,rq 11 (.binOp .add 3 (tp 10) (ki 1) 3) 3,rq 8 (.assign (tp 11)) 3])
 (.block 0 (.loop (.seq (.seq (.reg [] [
   rq 12 (.move (tp 8)) 3,
   rq 13 (.move (tp 2)) 3,
   rq 14 (.binOp .lss 3 (tp 12) (tp 13) 3) 4])
   (.cond (tp 14) (.skip)
   (.exit 0)))
   (.seq (.block 1 (.seq (.reg [] [
     rq 17 (.move (tp 8)) 3,
     rq 9 (.assign (tp 17)) 3])
    (.block 2 (.loop (.seq (.seq (.reg [0, 1, 2, 3, 4, 5, 6, 7, 8, 9, 10, 11, 12, 13, 14, 15, 16] [
      rq 18 (.move (tp 9)) 3,
      rq 19 (.move (tp 1)) 3,
      rq 20 (.binOp .gtr 3 (tp 18) (tp 19) 3) 4,
      rq 21 (.move (tp 20)) 4,
      rg 22 (.move (tp 3)) 66 21 true,
      rg 23 (.move (tp 0)) 28 21 true,
      rg 24 (.move (tp 9)) 3 21 true,
      rg 25 (.indexAddr 28 (tp 23) (tp 24)) 0 21 true,
      rg 26 (.load 32 (tp 25)) 32 21 true,
      rg 27 (.move (tp 0)) 28 21 true,
      rg 28 (.move (tp 9)) 3 21 true,
      rg 29 (.binOp .sub 3 (tp 28) (ki 1) 3) 3 21 true,
      rg 30 (.indexAddr 28 (tp 27) (tp 29)) 0 21 true,
      rg 31 (.load 32 (tp 30)) 32 21 true,
      rg 32 (.call ⟨.value (tp 22),#[(tp 26),(tp 31)],#[32,32]⟩) 3 21 true,
      rg 33 (.binOp .lss 3 (tp 32) (ki 0) 3) 4 21 true,
      rq 34 (.pick (tp 21) (tp 33) (kb false)) 4])
      (.cond (tp 34) (.skip)
      (.exit 2)))
      (.seq (.block 3 (.reg [0, 1, 2, 3, 4, 5, 6, 7, 8, 9, 10, 11, 12, 13, 14, 15, 16, 17] [
        rq 37 (.move (tp 0)) 28,
        rq 38 (.move (tp 9)) 3,
        rq 39 (.move (tp 0)) 28,
        rq 40 (.move (tp 9)) 3,
        rq 41 (.binOp .sub 3 (tp 40) (ki 1) 3) 3,
        rq 42 (.move (tp 0)) 28,
        rq 43 (.move (tp 9)) 3,
        rq 44 (.binOp .sub 3 (tp 43) (ki 1) 3) 3,
        rq 45 (.indexAddr 28 (tp 42) (tp 44)) 0,
        rq 46 (.load 32 (tp 45)) 32,
        rq 47 (.move (tp 0)) 28,
        rq 48 (.move (tp 9)) 3,
        rq 49 (.indexAddr 28 (tp 47) (tp 48)) 0,
        rq 50 (.load 32 (tp 49)) 32,
        rq 51 (.indexAddr 28 (tp 37) (tp 38)) 0,
        rn (.store 32 (tp 51) (tp 46)) 0,
        rq 52 (.indexAddr 28 (tp 39) (tp 41)) 0,
        rn (.store 32 (tp 52) (tp 50)) 0]))
      (.reg [] [
        rq 35 (.move (tp 9)) 3,
        rq 36 (.binOp .sub 3 (tp 35) (ki 1) 3) 3,
        rq 9 (.assign (tp 36)) 3])))))))
   (.reg [] [
     rq 15 (.move (tp 8)) 3,
     rq 16 (.binOp .add 3 (tp 15) (ki 1) 3) 3,
     rq 8 (.assign (tp 16)) 3])))))
def c68:RC:=
 .seq (.reg [] [
  rq 13 (.move (tp 1)) 3,rq 8 (.assign (tp 13)) 3])
 (.seq (.reg [] [
   rq 9 (.assign (ki 0)) 3])
 (.seq (.reg [] [
   rq 14 (.move (tp 2)) 3,rq 15 (.move (tp 1)) 3,rq 16 (.binOp .sub 3 (tp 14) (tp 15) 3) 3,rq 10 (.assign (tp 16)) 3])
 (.seq (.seq (.reg [] [
   rq 17 (.move (tp 10)) 3,rq 18 (.binOp .sub 3 (tp 17) (ki 1) 3) 3,rq 19 (.binOp .quo 3 (tp 18) (ki 2) 3) 3,rq 11 (.assign (tp 19)) 3])
 (.block 0 (.loop (.seq (.seq (.reg [] [
   rq 20 (.move (tp 11)) 3,
   rq 21 (.binOp .geq 3 (tp 20) (ki 0) 3) 4])
   (.cond (tp 21) (.skip)
   (.exit 0)))
   (.seq (.block 1 (.reg [] [
     rq 24 (.move (tp 0)) 28,
     rq 25 (.move (tp 11)) 3,
     rq 26 (.move (tp 10)) 3,
     rq 27 (.move (tp 8)) 3,
     rq 28 (.move (tp 3)) 66,
     rq 29 (cf 87 #[(tp 24),(tp 25),(tp 26),(tp 27),(tp 28)] #[28,3,3,3,66]) 0]))
   (.reg [] [
     rq 22 (.move (tp 11)) 3,
     rq 23 (.binOp .sub 3 (tp 22) (ki 1) 3) 3,
     rq 11 (.assign (tp 23)) 3]))))))
 (.seq (.reg [] [
   rq 30 (.move (tp 10)) 3,rq 31 (.binOp .sub 3 (tp 30) (ki 1) 3) 3,rq 12 (.assign (tp 31)) 3])
 (.block 2 (.loop (.seq (.seq (.reg [] [
   rq 32 (.move (tp 12)) 3,
   rq 33 (.binOp .geq 3 (tp 32) (ki 0) 3) 4])
   (.cond (tp 33) (.skip)
   (.exit 2)))
   (.seq (.block 3 (.seq (.reg [0, 1, 2, 3, 4, 5, 6, 7, 8, 9, 10, 11, 12, 13, 14, 15, 16, 17, 18, 19] [
     rq 36 (.move (tp 0)) 28,
     rq 37 (.move (tp 8)) 3,
     rq 38 (.move (tp 0)) 28,
     rq 39 (.move (tp 8)) 3,
     rq 40 (.move (tp 12)) 3,
     rq 41 (.binOp .add 3 (tp 39) (tp 40) 3) 3,
     rq 42 (.move (tp 0)) 28,
     rq 43 (.move (tp 8)) 3,
     rq 44 (.move (tp 12)) 3,
     rq 45 (.binOp .add 3 (tp 43) (tp 44) 3) 3,
     rq 46 (.indexAddr 28 (tp 42) (tp 45)) 0,
     rq 47 (.load 32 (tp 46)) 32,
     rq 48 (.move (tp 0)) 28,
     rq 49 (.move (tp 8)) 3,
     rq 50 (.indexAddr 28 (tp 48) (tp 49)) 0,
     rq 51 (.load 32 (tp 50)) 32,
     rq 52 (.indexAddr 28 (tp 36) (tp 37)) 0,
     rn (.store 32 (tp 52) (tp 47)) 0,
     rq 53 (.indexAddr 28 (tp 38) (tp 41)) 0,
     rn (.store 32 (tp 53) (tp 51)) 0])
    (.reg [] [
      rq 54 (.move (tp 0)) 28,
      rq 55 (.move (tp 9)) 3,
      rq 56 (.move (tp 12)) 3,
      rq 57 (.move (tp 8)) 3,
      rq 58 (.move (tp 3)) 66,
      rq 59 (cf 87 #[(tp 54),(tp 55),(tp 56),(tp 57),(tp 58)] #[28,3,3,3,66]) 0])))
   (.reg [] [
     rq 34 (.move (tp 12)) 3,
     rq 35 (.binOp .sub 3 (tp 34) (ki 1) 3) 3,
     rq 12 (.assign (tp 35)) 3])))))))))
def c69:RC:=
 .seq (.reg [] [
  rq 13 (.move (tp 2)) 3,rq 14 (.move (tp 1)) 3,rq 15 (.binOp .sub 3 (tp 13) (tp 14) 3) 3,rq 8 (.assign (tp 15)) 3])
 (.seq (.reg [] [
   rq 16 (.move (tp 8)) 3,rq 17 (.binOp .geq 3 (tp 16) (ki 8) 3) 4])
 (.cond (tp 17) (.seq (.reg [] [
   rq 18 (.move (tp 8)) 3,
   rq 19 (.convert 3 105 (tp 18)) 105,
   rq 9 (.alloc 105) 0,
   rn (.store 105 (tp 9) (tp 19)) 0])
  (.seq (.reg [] [
    rq 20 (.move (tp 8)) 3,
    rq 21 (cf 88 #[(tp 20)] #[3]) 81,
    rq 10 (.assign (tp 21)) 81])
  (.seq (.reg [] [
    rq 22 (.move (tp 1)) 3,
    rq 23 (.move (tp 8)) 3,
    rq 24 (.binOp .quo 3 (tp 23) (ki 4) 3) 3,
    rq 25 (.binOp .mul 3 (tp 24) (ki 2) 3) 3,
    rq 26 (.binOp .add 3 (tp 22) (tp 25) 3) 3,
    rq 27 (.binOp .sub 3 (tp 26) (ki 1) 3) 3,
    rq 11 (.assign (tp 27)) 3])
  (.block 0 (.loop (.seq (.seq (.reg [] [
    rq 28 (.move (tp 11)) 3,
    rq 29 (.move (tp 1)) 3,
    rq 30 (.move (tp 8)) 3,
    rq 31 (.binOp .quo 3 (tp 30) (ki 4) 3) 3,
    rq 32 (.binOp .mul 3 (tp 31) (ki 2) 3) 3,
    rq 33 (.binOp .add 3 (tp 29) (tp 32) 3) 3,
    rq 34 (.binOp .add 3 (tp 33) (ki 1) 3) 3,
    rq 35 (.binOp .leq 3 (tp 28) (tp 34) 3) 4])
    (.cond (tp 35) (.skip)
    (.exit 0)))
    (.seq (.block 1 (.seq (.reg [] [
      rq 38 (cf 89 #[(tp 9)] #[105]) 97,
      rq 39 (.move (tp 10)) 81,
      rq 40 (.binOp .sub 81 (tp 39) (.const (.int .u64 1)) 81) 81,
      rq 41 (.binOp .and 81 (tp 38) (tp 40) 81) 81,
      rq 42 (.convert 81 3 (tp 41)) 3,
      rq 12 (.assign (tp 42)) 3])
     (.seq (.seq (.reg [] [
       rq 43 (.move (tp 12)) 3,
       rq 44 (.move (tp 8)) 3,
       rq 45 (.binOp .geq 3 (tp 43) (tp 44) 3) 4])
     (.cond (tp 45) (.reg [] [
       rq 46 (.move (tp 12)) 3,
       rq 47 (.move (tp 8)) 3,
       rq 48 (.binOp .sub 3 (tp 46) (tp 47) 3) 3,
       rq 12 (.assign (tp 48)) 3])
     (.skip)))
     (.reg [0, 1, 2, 3, 4, 5, 6, 7, 8, 9, 10, 11, 12, 13, 14, 15, 16, 17, 18, 19] [
       rq 49 (.move (tp 0)) 28,
       rq 50 (.move (tp 11)) 3,
       rq 51 (.move (tp 0)) 28,
       rq 52 (.move (tp 1)) 3,
       rq 53 (.move (tp 12)) 3,
       rq 54 (.binOp .add 3 (tp 52) (tp 53) 3) 3,
       rq 55 (.move (tp 0)) 28,
       rq 56 (.move (tp 1)) 3,
       rq 57 (.move (tp 12)) 3,
       rq 58 (.binOp .add 3 (tp 56) (tp 57) 3) 3,
       rq 59 (.indexAddr 28 (tp 55) (tp 58)) 0,
       rq 60 (.load 32 (tp 59)) 32,
       rq 61 (.move (tp 0)) 28,
       rq 62 (.move (tp 11)) 3,
       rq 63 (.indexAddr 28 (tp 61) (tp 62)) 0,
       rq 64 (.load 32 (tp 63)) 32,
       rq 65 (.indexAddr 28 (tp 49) (tp 50)) 0,
       rn (.store 32 (tp 65) (tp 60)) 0,
       rq 66 (.indexAddr 28 (tp 51) (tp 54)) 0,
       rn (.store 32 (tp 66) (tp 64)) 0]))))
    (.reg [] [
      rq 36 (.move (tp 11)) 3,
      rq 37 (.binOp .add 3 (tp 36) (ki 1) 3) 3,
      rq 11 (.assign (tp 37)) 3]))))))))
 (.skip)))
def c70:RC:=
 .seq (.reg [] [
  rq 8 (.assign (ki 0)) 3,rq 9 (.assign (ki 0)) 87])
 (.seq (.reg [] [
   rq 15 (.move (tp 2)) 3,rq 16 (.move (tp 1)) 3,rq 17 (.binOp .sub 3 (tp 15) (tp 16) 3) 3,rq 10 (.assign (tp 17)) 3])
 (.seq (.reg [] [
   rq 11 (.alloc 3) 0])
 (.seq (.reg [] [
   rq 18 (.move (tp 1)) 3,rq 19 (.move (tp 10)) 3,rq 20 (.binOp .quo 3 (tp 19) (ki 4) 3) 3,rq 21 (.binOp .mul 3 (tp 20) (ki 1) 3) 3,rq 22 (.binOp .add 3 (tp 18) (tp 21) 3) 3,rq 12 (.assign (tp 22)) 3])
 (.seq (.reg [] [
   rq 23 (.move (tp 1)) 3,rq 24 (.move (tp 10)) 3,rq 25 (.binOp .quo 3 (tp 24) (ki 4) 3) 3,rq 26 (.binOp .mul 3 (tp 25) (ki 2) 3) 3,rq 27 (.binOp .add 3 (tp 23) (tp 26) 3) 3,rq 13 (.assign (tp 27)) 3])
 (.seq (.reg [] [
   rq 28 (.move (tp 1)) 3,rq 29 (.move (tp 10)) 3,rq 30 (.binOp .quo 3 (tp 29) (ki 4) 3) 3,rq 31 (.binOp .mul 3 (tp 30) (ki 3) 3) 3,rq 32 (.binOp .add 3 (tp 28) (tp 31) 3) 3,rq 14 (.assign (tp 32)) 3])
 (.seq (.seq (.reg [] [
   rq 33 (.move (tp 10)) 3,rq 34 (.binOp .geq 3 (tp 33) (ki 8) 3) 4])
 (.cond (tp 34) (.seq (.seq (.reg [] [
   rq 35 (.move (tp 10)) 3,
   rq 36 (.binOp .geq 3 (tp 35) (ki 50) 3) 4])
  (.cond (tp 36) (.seq (.reg [] [
    rq 37 (.move (tp 0)) 28,
    rq 38 (.move (tp 12)) 3,
    rq 39 (.move (tp 3)) 66,
    rq 40 (cf 90 #[(tp 37),(tp 38),(tp 11),(tp 39)] #[28,3,109,66]) 3,
    rq 12 (.assign (tp 40)) 3])
   (.seq (.reg [] [
     rq 41 (.move (tp 0)) 28,
     rq 42 (.move (tp 13)) 3,
     rq 43 (.move (tp 3)) 66,
     rq 44 (cf 90 #[(tp 41),(tp 42),(tp 11),(tp 43)] #[28,3,109,66]) 3,
     rq 13 (.assign (tp 44)) 3])
   (.reg [] [
     rq 45 (.move (tp 0)) 28,
     rq 46 (.move (tp 14)) 3,
     rq 47 (.move (tp 3)) 66,
     rq 48 (cf 90 #[(tp 45),(tp 46),(tp 11),(tp 47)] #[28,3,109,66]) 3,
     rq 14 (.assign (tp 48)) 3])))
  (.skip)))
  (.reg [] [
    rq 49 (.move (tp 0)) 28,
    rq 50 (.move (tp 12)) 3,
    rq 51 (.move (tp 13)) 3,
    rq 52 (.move (tp 14)) 3,
    rq 53 (.move (tp 3)) 66,
    rq 54 (cf 91 #[(tp 49),(tp 50),(tp 51),(tp 52),(tp 11),(tp 53)] #[28,3,3,3,109,66]) 3,
    rq 13 (.assign (tp 54)) 3]))
 (.skip)))
 (.seq (.reg [] [
   rq 55 (.load 3 (tp 11)) 3])
 (.block 0 (.seq (.reg [] [
   rq 58 (.binOp .eql 3 (tp 55) (ki 0) 3) 4,
   rq 57 (.assign (tp 58)) 4])
  (.cond (tp 57) (.seq (.reg [] [
    rq 59 (.move (tp 13)) 3,
    rq 8 (.assign (tp 59)) 3,
    rq 9 (.assign (ki 1)) 87])
   (.ret))
  (.seq (.reg [] [
    rq 61 (.binOp .eql 3 (tp 55) (ki 12) 3) 4,
    rq 60 (.assign (tp 61)) 4])
   (.cond (tp 60) (.seq (.reg [] [
     rq 62 (.move (tp 13)) 3,
     rq 8 (.assign (tp 62)) 3,
     rq 9 (.assign (ki 2)) 87])
    (.ret))
   (.seq (.reg [] [
     rq 56 (.move (tp 13)) 3,
     rq 8 (.assign (tp 56)) 3,
     rq 9 (.assign (ki 0)) 87])
    (.ret))))))))))))))
def c71:RC:=
 .seq (.reg [] [
  rq 10 (.move (tp 1)) 3,rq 8 (.assign (tp 10)) 3])
 (.seq (.reg [] [
   rq 11 (.move (tp 2)) 3,rq 12 (.binOp .sub 3 (tp 11) (ki 1) 3) 3,rq 9 (.assign (tp 12)) 3])
 (.block 0 (.loop (.seq (.seq (.reg [] [
   rq 13 (.move (tp 8)) 3,
   rq 14 (.move (tp 9)) 3,
   rq 15 (.binOp .lss 3 (tp 13) (tp 14) 3) 4])
   (.cond (tp 15) (.skip)
   (.exit 0)))
   (.block 1 (.seq (.reg [0, 1, 2, 3, 4, 5, 6, 7, 8, 9, 10, 11, 12, 13, 14, 15] [
     rq 16 (.move (tp 0)) 28,
     rq 17 (.move (tp 8)) 3,
     rq 18 (.move (tp 0)) 28,
     rq 19 (.move (tp 9)) 3,
     rq 20 (.move (tp 0)) 28,
     rq 21 (.move (tp 9)) 3,
     rq 22 (.indexAddr 28 (tp 20) (tp 21)) 0,
     rq 23 (.load 32 (tp 22)) 32,
     rq 24 (.move (tp 0)) 28,
     rq 25 (.move (tp 8)) 3,
     rq 26 (.indexAddr 28 (tp 24) (tp 25)) 0,
     rq 27 (.load 32 (tp 26)) 32,
     rq 28 (.indexAddr 28 (tp 16) (tp 17)) 0,
     rn (.store 32 (tp 28) (tp 23)) 0,
     rq 29 (.indexAddr 28 (tp 18) (tp 19)) 0,
     rn (.store 32 (tp 29) (tp 27)) 0])
    (.seq (.reg [] [
      rq 30 (.move (tp 8)) 3,
      rq 31 (.binOp .add 3 (tp 30) (ki 1) 3) 3,
      rq 8 (.assign (tp 31)) 3])
    (.reg [] [
      rq 32 (.move (tp 9)) 3,
      rq 33 (.binOp .sub 3 (tp 32) (ki 1) 3) 3,
      rq 9 (.assign (tp 33)) 3]))))))))
def c72:RC:=
 .seq (.reg [] [
  rq 8 (.assign (kb false)) 4])
 (.seq (.reg [] [
   rq 13 (.move (tp 1)) 3,rq 14 (.binOp .add 3 (tp 13) (ki 1) 3) 3,rq 9 (.assign (tp 14)) 3])
 (.seq (.seq (.reg [] [
   rq 10 (.assign (ki 0)) 3])
 (.block 0 (.loop (.seq (.seq (.reg [] [
   rq 15 (.move (tp 10)) 3,
   rq 16 (.binOp .lss 3 (tp 15) (ki 5) 3) 4])
   (.cond (tp 16) (.skip)
   (.exit 0)))
   (.seq (.block 1 (.seq (.block 2 (.loop (.seq (.seq (.reg [0, 1, 2, 3, 4, 5, 6, 7, 8, 9, 10, 11, 12, 13, 14, 15, 16, 17] [
     rq 19 (.move (tp 9)) 3,
     rq 20 (.move (tp 2)) 3,
     rq 21 (.binOp .lss 3 (tp 19) (tp 20) 3) 4,
     rq 22 (.move (tp 21)) 4,
     rg 23 (.move (tp 3)) 66 22 true,
     rg 24 (.move (tp 0)) 28 22 true,
     rg 25 (.move (tp 9)) 3 22 true,
     rg 26 (.indexAddr 28 (tp 24) (tp 25)) 0 22 true,
     rg 27 (.load 32 (tp 26)) 32 22 true,
     rg 28 (.move (tp 0)) 28 22 true,
     rg 29 (.move (tp 9)) 3 22 true,
     rg 30 (.binOp .sub 3 (tp 29) (ki 1) 3) 3 22 true,
     rg 31 (.indexAddr 28 (tp 28) (tp 30)) 0 22 true,
     rg 32 (.load 32 (tp 31)) 32 22 true,
     rg 33 (.call ⟨.value (tp 23),#[(tp 27),(tp 32)],#[32,32]⟩) 3 22 true,
     rg 34 (.binOp .lss 3 (tp 33) (ki 0) 3) 4 22 true,
     rg 35 (.unOp .not 4 (tp 34)) 4 22 true,
     rq 36 (.pick (tp 22) (tp 35) (kb false)) 4])
     (.cond (tp 36) (.skip)
     (.exit 2)))
     (.block 3 (.reg [] [
       rq 37 (.move (tp 9)) 3,
       rq 38 (.binOp .add 3 (tp 37) (ki 1) 3) 3,
       rq 9 (.assign (tp 38)) 3])))))
    (.seq (.seq (.reg [] [
      rq 39 (.move (tp 9)) 3,
      rq 40 (.move (tp 2)) 3,
      rq 41 (.binOp .eql 3 (tp 39) (tp 40) 3) 4])
    (.cond (tp 41) (.seq (.reg [] [
      rq 8 (.assign (kb true)) 4])
     (.ret))
    (.skip)))
    (.seq (.seq (.reg [] [
      rq 42 (.move (tp 2)) 3,
      rq 43 (.move (tp 1)) 3,
      rq 44 (.binOp .sub 3 (tp 42) (tp 43) 3) 3,
      rq 45 (.binOp .lss 3 (tp 44) (ki 50) 3) 4])
    (.cond (tp 45) (.seq (.reg [] [
      rq 8 (.assign (kb false)) 4])
     (.ret))
    (.skip)))
    (.seq (.reg [0, 1, 2, 3, 4, 5, 6, 7, 8, 9, 10, 11, 12, 13, 14, 15, 16, 17] [
      rq 46 (.move (tp 0)) 28,
      rq 47 (.move (tp 9)) 3,
      rq 48 (.move (tp 0)) 28,
      rq 49 (.move (tp 9)) 3,
      rq 50 (.binOp .sub 3 (tp 49) (ki 1) 3) 3,
      rq 51 (.move (tp 0)) 28,
      rq 52 (.move (tp 9)) 3,
      rq 53 (.binOp .sub 3 (tp 52) (ki 1) 3) 3,
      rq 54 (.indexAddr 28 (tp 51) (tp 53)) 0,
      rq 55 (.load 32 (tp 54)) 32,
      rq 56 (.move (tp 0)) 28,
      rq 57 (.move (tp 9)) 3,
      rq 58 (.indexAddr 28 (tp 56) (tp 57)) 0,
      rq 59 (.load 32 (tp 58)) 32,
      rq 60 (.indexAddr 28 (tp 46) (tp 47)) 0,
      rn (.store 32 (tp 60) (tp 55)) 0,
      rq 61 (.indexAddr 28 (tp 48) (tp 50)) 0,
      rn (.store 32 (tp 61) (tp 59)) 0])
    (.seq (.seq (.reg [] [
      rq 62 (.move (tp 9)) 3,
      rq 63 (.move (tp 1)) 3,
      rq 64 (.binOp .sub 3 (tp 62) (tp 63) 3) 3,
      rq 65 (.binOp .geq 3 (tp 64) (ki 2) 3) 4])
    (.cond (tp 65) (.seq (.reg [] [
      rq 66 (.move (tp 9)) 3,
      rq 67 (.binOp .sub 3 (tp 66) (ki 1) 3) 3,
      rq 11 (.assign (tp 67)) 3])
     (.block 4 (.loop (.seq (.seq (.reg [] [
       rq 68 (.move (tp 11)) 3,
       rq 69 (.binOp .geq 3 (tp 68) (ki 1) 3) 4])
       (.cond (tp 69) (.skip)
       (.exit 4)))
       (.seq (.block 5 (.seq (.seq (.reg [0, 1, 2, 3, 4, 5, 6, 7, 8, 9, 10, 11, 12] [
         rq 72 (.move (tp 3)) 66,
         rq 73 (.move (tp 0)) 28,
         rq 74 (.move (tp 11)) 3,
         rq 75 (.indexAddr 28 (tp 73) (tp 74)) 0,
         rq 76 (.load 32 (tp 75)) 32,
         rq 77 (.move (tp 0)) 28,
         rq 78 (.move (tp 11)) 3,
         rq 79 (.binOp .sub 3 (tp 78) (ki 1) 3) 3,
         rq 80 (.indexAddr 28 (tp 77) (tp 79)) 0,
         rq 81 (.load 32 (tp 80)) 32,
         rq 82 (.call ⟨.value (tp 72),#[(tp 76),(tp 81)],#[32,32]⟩) 3,
         rq 83 (.binOp .lss 3 (tp 82) (ki 0) 3) 4,
         rq 84 (.unOp .not 4 (tp 83)) 4])
        (.cond (tp 84) (.exit 4)
        (.skip)))
        (.reg [0, 1, 2, 3, 4, 5, 6, 7, 8, 9, 10, 11, 12, 13, 14, 15, 16, 17] [
          rq 85 (.move (tp 0)) 28,
          rq 86 (.move (tp 11)) 3,
          rq 87 (.move (tp 0)) 28,
          rq 88 (.move (tp 11)) 3,
          rq 89 (.binOp .sub 3 (tp 88) (ki 1) 3) 3,
          rq 90 (.move (tp 0)) 28,
          rq 91 (.move (tp 11)) 3,
          rq 92 (.binOp .sub 3 (tp 91) (ki 1) 3) 3,
          rq 93 (.indexAddr 28 (tp 90) (tp 92)) 0,
          rq 94 (.load 32 (tp 93)) 32,
          rq 95 (.move (tp 0)) 28,
          rq 96 (.move (tp 11)) 3,
          rq 97 (.indexAddr 28 (tp 95) (tp 96)) 0,
          rq 98 (.load 32 (tp 97)) 32,
          rq 99 (.indexAddr 28 (tp 85) (tp 86)) 0,
          rn (.store 32 (tp 99) (tp 94)) 0,
          rq 100 (.indexAddr 28 (tp 87) (tp 89)) 0,
          rn (.store 32 (tp 100) (tp 98)) 0])))
       (.reg [] [
         rq 70 (.move (tp 11)) 3,
         rq 71 (.binOp .sub 3 (tp 70) (ki 1) 3) 3,
         rq 11 (.assign (tp 71)) 3]))))))
    (.skip)))
    (.seq (.reg [] [
      rq 101 (.move (tp 2)) 3,
      rq 102 (.move (tp 9)) 3,
      rq 103 (.binOp .sub 3 (tp 101) (tp 102) 3) 3,
      rq 104 (.binOp .geq 3 (tp 103) (ki 2) 3) 4])
    (.cond (tp 104) (.seq (.reg [] [
      rq 105 (.move (tp 9)) 3,
      rq 106 (.binOp .add 3 (tp 105) (ki 1) 3) 3,
      rq 12 (.assign (tp 106)) 3])
     (.block 6 (.loop (.seq (.seq (.reg [] [
       rq 107 (.move (tp 12)) 3,
       rq 108 (.move (tp 2)) 3,
       rq 109 (.binOp .lss 3 (tp 107) (tp 108) 3) 4])
       (.cond (tp 109) (.skip)
       (.exit 6)))
       (.seq (.block 7 (.seq (.seq (.reg [0, 1, 2, 3, 4, 5, 6, 7, 8, 9, 10, 11, 12] [
         rq 112 (.move (tp 3)) 66,
         rq 113 (.move (tp 0)) 28,
         rq 114 (.move (tp 12)) 3,
         rq 115 (.indexAddr 28 (tp 113) (tp 114)) 0,
         rq 116 (.load 32 (tp 115)) 32,
         rq 117 (.move (tp 0)) 28,
         rq 118 (.move (tp 12)) 3,
         rq 119 (.binOp .sub 3 (tp 118) (ki 1) 3) 3,
         rq 120 (.indexAddr 28 (tp 117) (tp 119)) 0,
         rq 121 (.load 32 (tp 120)) 32,
         rq 122 (.call ⟨.value (tp 112),#[(tp 116),(tp 121)],#[32,32]⟩) 3,
         rq 123 (.binOp .lss 3 (tp 122) (ki 0) 3) 4,
         rq 124 (.unOp .not 4 (tp 123)) 4])
        (.cond (tp 124) (.exit 6)
        (.skip)))
        (.reg [0, 1, 2, 3, 4, 5, 6, 7, 8, 9, 10, 11, 12, 13, 14, 15, 16, 17] [
          rq 125 (.move (tp 0)) 28,
          rq 126 (.move (tp 12)) 3,
          rq 127 (.move (tp 0)) 28,
          rq 128 (.move (tp 12)) 3,
          rq 129 (.binOp .sub 3 (tp 128) (ki 1) 3) 3,
          rq 130 (.move (tp 0)) 28,
          rq 131 (.move (tp 12)) 3,
          rq 132 (.binOp .sub 3 (tp 131) (ki 1) 3) 3,
          rq 133 (.indexAddr 28 (tp 130) (tp 132)) 0,
          rq 134 (.load 32 (tp 133)) 32,
          rq 135 (.move (tp 0)) 28,
          rq 136 (.move (tp 12)) 3,
          rq 137 (.indexAddr 28 (tp 135) (tp 136)) 0,
          rq 138 (.load 32 (tp 137)) 32,
          rq 139 (.indexAddr 28 (tp 125) (tp 126)) 0,
          rn (.store 32 (tp 139) (tp 134)) 0,
          rq 140 (.indexAddr 28 (tp 127) (tp 129)) 0,
          rn (.store 32 (tp 140) (tp 138)) 0])))
       (.reg [] [
         rq 110 (.move (tp 12)) 3,
         rq 111 (.binOp .add 3 (tp 110) (ki 1) 3) 3,
         rq 12 (.assign (tp 111)) 3]))))))
    (.skip)))))))))
   (.reg [] [
     rq 17 (.move (tp 10)) 3,
     rq 18 (.binOp .add 3 (tp 17) (ki 1) 3) 3,
     rq 10 (.assign (tp 18)) 3]))))))
 (.seq (.reg [] [
   rq 8 (.assign (kb false)) 4])
 (.ret))))
def c73:RC:=
 .seq (.reg [] [
  rq 10 (.assign (ki 0)) 3])
 (.seq (.reg [0, 1, 2, 3, 4, 5, 6, 7, 8, 9, 10, 11, 12, 13, 14, 15] [
   rq 13 (.move (tp 0)) 28,rq 14 (.move (tp 1)) 3,rq 15 (.move (tp 0)) 28,rq 16 (.move (tp 3)) 3,rq 17 (.move (tp 0)) 28,rq 18 (.move (tp 3)) 3,rq 19 (.indexAddr 28 (tp 17) (tp 18)) 0,rq 20 (.load 32 (tp 19)) 32,rq 21 (.move (tp 0)) 28,rq 22 (.move (tp 1)) 3,rq 23 (.indexAddr 28 (tp 21) (tp 22)) 0,rq 24 (.load 32 (tp 23)) 32,rq 25 (.indexAddr 28 (tp 13) (tp 14)) 0,rn (.store 32 (tp 25) (tp 20)) 0,rq 26 (.indexAddr 28 (tp 15) (tp 16)) 0,rn (.store 32 (tp 26) (tp 24)) 0])
 (.seq (.reg [] [
   rq 27 (.move (tp 1)) 3,rq 28 (.binOp .add 3 (tp 27) (ki 1) 3) 3,rq 29 (.move (tp 2)) 3,rq 30 (.binOp .sub 3 (tp 29) (ki 1) 3) 3,rq 11 (.assign (tp 28)) 3,rq 12 (.assign (tp 30)) 3])
 (.seq (.block 0 (.loop (.block 1 (.seq (.block 2 (.loop (.seq (.seq (.reg [0, 1, 2, 3, 4, 5, 6, 7, 8, 9, 10, 11, 12, 13, 14, 15, 16] [
        rq 31 (.move (tp 11)) 3,
        rq 32 (.move (tp 12)) 3,
        rq 33 (.binOp .leq 3 (tp 31) (tp 32) 3) 4,
        rq 34 (.move (tp 33)) 4,
        rg 35 (.move (tp 4)) 66 34 true,
        rg 36 (.move (tp 0)) 28 34 true,
        rg 37 (.move (tp 1)) 3 34 true,
        rg 38 (.indexAddr 28 (tp 36) (tp 37)) 0 34 true,
        rg 39 (.load 32 (tp 38)) 32 34 true,
        rg 40 (.move (tp 0)) 28 34 true,
        rg 41 (.move (tp 11)) 3 34 true,
        rg 42 (.indexAddr 28 (tp 40) (tp 41)) 0 34 true,
        rg 43 (.load 32 (tp 42)) 32 34 true,
        rg 44 (.call ⟨.value (tp 35),#[(tp 39),(tp 43)],#[32,32]⟩) 3 34 true,
        rg 45 (.binOp .lss 3 (tp 44) (ki 0) 3) 4 34 true,
        rg 46 (.unOp .not 4 (tp 45)) 4 34 true,
        rq 47 (.pick (tp 34) (tp 46) (kb false)) 4])
   (.cond (tp 47) (.skip)
   (.exit 2)))
   (.block 3 (.reg [] [
     rq 48 (.move (tp 11)) 3,
     rq 49 (.binOp .add 3 (tp 48) (ki 1) 3) 3,
     rq 11 (.assign (tp 49)) 3])))))
   (.seq (.block 4 (.loop (.seq (.seq (.reg [0, 1, 2, 3, 4, 5, 6, 7, 8, 9, 10, 11, 12, 13, 14, 15] [
     rq 50 (.move (tp 11)) 3,
     rq 51 (.move (tp 12)) 3,
     rq 52 (.binOp .leq 3 (tp 50) (tp 51) 3) 4,
     rq 53 (.move (tp 52)) 4,
     rg 54 (.move (tp 4)) 66 53 true,
     rg 55 (.move (tp 0)) 28 53 true,
     rg 56 (.move (tp 1)) 3 53 true,
     rg 57 (.indexAddr 28 (tp 55) (tp 56)) 0 53 true,
     rg 58 (.load 32 (tp 57)) 32 53 true,
     rg 59 (.move (tp 0)) 28 53 true,
     rg 60 (.move (tp 12)) 3 53 true,
     rg 61 (.indexAddr 28 (tp 59) (tp 60)) 0 53 true,
     rg 62 (.load 32 (tp 61)) 32 53 true,
     rg 63 (.call ⟨.value (tp 54),#[(tp 58),(tp 62)],#[32,32]⟩) 3 53 true,
     rg 64 (.binOp .lss 3 (tp 63) (ki 0) 3) 4 53 true,
     rq 65 (.pick (tp 53) (tp 64) (kb false)) 4])
     (.cond (tp 65) (.skip)
     (.exit 4)))
     (.block 5 (.reg [] [
       rq 66 (.move (tp 12)) 3,
       rq 67 (.binOp .sub 3 (tp 66) (ki 1) 3) 3,
       rq 12 (.assign (tp 67)) 3])))))
   (.seq (.seq (.reg [] [
     rq 68 (.move (tp 11)) 3,
     rq 69 (.move (tp 12)) 3,
     rq 70 (.binOp .gtr 3 (tp 68) (tp 69) 3) 4])
   (.cond (tp 70) (.exit 0)
   (.skip)))
   (.seq (.reg [0, 1, 2, 3, 4, 5, 6, 7, 8, 9, 10, 11, 12, 13, 14, 15] [
     rq 71 (.move (tp 0)) 28,
     rq 72 (.move (tp 11)) 3,
     rq 73 (.move (tp 0)) 28,
     rq 74 (.move (tp 12)) 3,
     rq 75 (.move (tp 0)) 28,
     rq 76 (.move (tp 12)) 3,
     rq 77 (.indexAddr 28 (tp 75) (tp 76)) 0,
     rq 78 (.load 32 (tp 77)) 32,
     rq 79 (.move (tp 0)) 28,
     rq 80 (.move (tp 11)) 3,
     rq 81 (.indexAddr 28 (tp 79) (tp 80)) 0,
     rq 82 (.load 32 (tp 81)) 32,
     rq 83 (.indexAddr 28 (tp 71) (tp 72)) 0,
     rn (.store 32 (tp 83) (tp 78)) 0,
     rq 84 (.indexAddr 28 (tp 73) (tp 74)) 0,
     rn (.store 32 (tp 84) (tp 82)) 0])
   (.seq (.reg [] [
     rq 85 (.move (tp 11)) 3,
     rq 86 (.binOp .add 3 (tp 85) (ki 1) 3) 3,
     rq 11 (.assign (tp 86)) 3])
   (.reg [] [
     rq 87 (.move (tp 12)) 3,
     rq 88 (.binOp .sub 3 (tp 87) (ki 1) 3) 3,
     rq 12 (.assign (tp 88)) 3])))))))))
 (.seq (.reg [] [
   rq 89 (.move (tp 11)) 3,rq 10 (.assign (tp 89)) 3])
 (.ret)))))
def c74:RC:=
 .seq (.reg [] [
  rq 10 (.assign (ki 0)) 3,rq 11 (.assign (kb false)) 4])
 (.seq (.reg [0, 1, 2, 3, 4, 5, 6, 7, 8, 9, 10, 11, 12, 13, 14, 15] [
   rq 14 (.move (tp 0)) 28,rq 15 (.move (tp 1)) 3,rq 16 (.move (tp 0)) 28,rq 17 (.move (tp 3)) 3,rq 18 (.move (tp 0)) 28,rq 19 (.move (tp 3)) 3,rq 20 (.indexAddr 28 (tp 18) (tp 19)) 0,rq 21 (.load 32 (tp 20)) 32,rq 22 (.move (tp 0)) 28,rq 23 (.move (tp 1)) 3,rq 24 (.indexAddr 28 (tp 22) (tp 23)) 0,rq 25 (.load 32 (tp 24)) 32,rq 26 (.indexAddr 28 (tp 14) (tp 15)) 0,rn (.store 32 (tp 26) (tp 21)) 0,rq 27 (.indexAddr 28 (tp 16) (tp 17)) 0,rn (.store 32 (tp 27) (tp 25)) 0])
 (.seq (.reg [] [
   rq 28 (.move (tp 1)) 3,rq 29 (.binOp .add 3 (tp 28) (ki 1) 3) 3,rq 30 (.move (tp 2)) 3,rq 31 (.binOp .sub 3 (tp 30) (ki 1) 3) 3,rq 12 (.assign (tp 29)) 3,rq 13 (.assign (tp 31)) 3])
 (.seq (.block 0 (.loop (.seq (.seq (.reg [0, 1, 2, 3, 4, 5, 6, 7, 8, 9, 10, 11, 12, 13, 14, 15] [
   rq 32 (.move (tp 12)) 3,
   rq 33 (.move (tp 13)) 3,
   rq 34 (.binOp .leq 3 (tp 32) (tp 33) 3) 4,
   rq 35 (.move (tp 34)) 4,
   rg 36 (.move (tp 4)) 66 35 true,
   rg 37 (.move (tp 0)) 28 35 true,
   rg 38 (.move (tp 12)) 3 35 true,
   rg 39 (.indexAddr 28 (tp 37) (tp 38)) 0 35 true,
   rg 40 (.load 32 (tp 39)) 32 35 true,
   rg 41 (.move (tp 0)) 28 35 true,
   rg 42 (.move (tp 1)) 3 35 true,
   rg 43 (.indexAddr 28 (tp 41) (tp 42)) 0 35 true,
   rg 44 (.load 32 (tp 43)) 32 35 true,
   rg 45 (.call ⟨.value (tp 36),#[(tp 40),(tp 44)],#[32,32]⟩) 3 35 true,
   rg 46 (.binOp .lss 3 (tp 45) (ki 0) 3) 4 35 true,
   rq 47 (.pick (tp 35) (tp 46) (kb false)) 4])
   (.cond (tp 47) (.skip)
   (.exit 0)))
   (.block 1 (.reg [] [
     rq 48 (.move (tp 12)) 3,
     rq 49 (.binOp .add 3 (tp 48) (ki 1) 3) 3,
     rq 12 (.assign (tp 49)) 3])))))
 (.seq (.block 2 (.loop (.seq (.seq (.reg [0, 1, 2, 3, 4, 5, 6, 7, 8, 9, 10, 11, 12, 13, 14, 15, 16] [
   rq 50 (.move (tp 12)) 3,
   rq 51 (.move (tp 13)) 3,
   rq 52 (.binOp .leq 3 (tp 50) (tp 51) 3) 4,
   rq 53 (.move (tp 52)) 4,
   rg 54 (.move (tp 4)) 66 53 true,
   rg 55 (.move (tp 0)) 28 53 true,
   rg 56 (.move (tp 13)) 3 53 true,
   rg 57 (.indexAddr 28 (tp 55) (tp 56)) 0 53 true,
   rg 58 (.load 32 (tp 57)) 32 53 true,
   rg 59 (.move (tp 0)) 28 53 true,
   rg 60 (.move (tp 1)) 3 53 true,
   rg 61 (.indexAddr 28 (tp 59) (tp 60)) 0 53 true,
   rg 62 (.load 32 (tp 61)) 32 53 true,
   rg 63 (.call ⟨.value (tp 54),#[(tp 58),(tp 62)],#[32,32]⟩) 3 53 true,
   rg 64 (.binOp .lss 3 (tp 63) (ki 0) 3) 4 53 true,
   rg 65 (.unOp .not 4 (tp 64)) 4 53 true,
   rq 66 (.pick (tp 53) (tp 65) (kb false)) 4])
   (.cond (tp 66) (.skip)
   (.exit 2)))
   (.block 3 (.reg [] [
     rq 67 (.move (tp 13)) 3,
     rq 68 (.binOp .sub 3 (tp 67) (ki 1) 3) 3,
     rq 13 (.assign (tp 68)) 3])))))
 (.seq (.seq (.reg [] [
   rq 69 (.move (tp 12)) 3,rq 70 (.move (tp 13)) 3,rq 71 (.binOp .gtr 3 (tp 69) (tp 70) 3) 4])
 (.cond (tp 71) (.seq (.reg [0, 1, 2, 3, 4, 5, 6, 7, 8, 9, 10, 11, 12, 13, 14, 15] [
   rq 72 (.move (tp 0)) 28,
   rq 73 (.move (tp 13)) 3,
   rq 74 (.move (tp 0)) 28,
   rq 75 (.move (tp 1)) 3,
   rq 76 (.move (tp 0)) 28,
   rq 77 (.move (tp 1)) 3,
   rq 78 (.indexAddr 28 (tp 76) (tp 77)) 0,
   rq 79 (.load 32 (tp 78)) 32,
   rq 80 (.move (tp 0)) 28,
   rq 81 (.move (tp 13)) 3,
   rq 82 (.indexAddr 28 (tp 80) (tp 81)) 0,
   rq 83 (.load 32 (tp 82)) 32,
   rq 84 (.indexAddr 28 (tp 72) (tp 73)) 0,
   rn (.store 32 (tp 84) (tp 79)) 0,
   rq 85 (.indexAddr 28 (tp 74) (tp 75)) 0,
   rn (.store 32 (tp 85) (tp 83)) 0])
  (.seq (.reg [] [
    rq 86 (.move (tp 13)) 3,
    rq 10 (.assign (tp 86)) 3,
    rq 11 (.assign (kb true)) 4])
  (.ret)))
 (.skip)))
 (.seq (.reg [0, 1, 2, 3, 4, 5, 6, 7, 8, 9, 10, 11, 12, 13, 14, 15] [
   rq 87 (.move (tp 0)) 28,rq 88 (.move (tp 12)) 3,rq 89 (.move (tp 0)) 28,rq 90 (.move (tp 13)) 3,rq 91 (.move (tp 0)) 28,rq 92 (.move (tp 13)) 3,rq 93 (.indexAddr 28 (tp 91) (tp 92)) 0,rq 94 (.load 32 (tp 93)) 32,rq 95 (.move (tp 0)) 28,rq 96 (.move (tp 12)) 3,rq 97 (.indexAddr 28 (tp 95) (tp 96)) 0,rq 98 (.load 32 (tp 97)) 32,rq 99 (.indexAddr 28 (tp 87) (tp 88)) 0,rn (.store 32 (tp 99) (tp 94)) 0,rq 100 (.indexAddr 28 (tp 89) (tp 90)) 0,rn (.store 32 (tp 100) (tp 98)) 0])
 (.seq (.reg [] [
   rq 101 (.move (tp 12)) 3,rq 102 (.binOp .add 3 (tp 101) (ki 1) 3) 3,rq 12 (.assign (tp 102)) 3])
 (.seq (.reg [] [
   rq 103 (.move (tp 13)) 3,rq 104 (.binOp .sub 3 (tp 103) (ki 1) 3) 3,rq 13 (.assign (tp 104)) 3])
 (.seq (.block 4 (.loop (.block 5 (.seq (.block 6 (.loop (.seq (.seq (.reg [0, 1, 2, 3, 4, 5, 6, 7, 8, 9, 10, 11, 12, 13, 14, 15] [
        rq 105 (.move (tp 12)) 3,
        rq 106 (.move (tp 13)) 3,
        rq 107 (.binOp .leq 3 (tp 105) (tp 106) 3) 4,
        rq 108 (.move (tp 107)) 4,
        rg 109 (.move (tp 4)) 66 108 true,
        rg 110 (.move (tp 0)) 28 108 true,
        rg 111 (.move (tp 12)) 3 108 true,
        rg 112 (.indexAddr 28 (tp 110) (tp 111)) 0 108 true,
        rg 113 (.load 32 (tp 112)) 32 108 true,
        rg 114 (.move (tp 0)) 28 108 true,
        rg 115 (.move (tp 1)) 3 108 true,
        rg 116 (.indexAddr 28 (tp 114) (tp 115)) 0 108 true,
        rg 117 (.load 32 (tp 116)) 32 108 true,
        rg 118 (.call ⟨.value (tp 109),#[(tp 113),(tp 117)],#[32,32]⟩) 3 108 true,
        rg 119 (.binOp .lss 3 (tp 118) (ki 0) 3) 4 108 true,
        rq 120 (.pick (tp 108) (tp 119) (kb false)) 4])
   (.cond (tp 120) (.skip)
   (.exit 6)))
   (.block 7 (.reg [] [
     rq 121 (.move (tp 12)) 3,
     rq 122 (.binOp .add 3 (tp 121) (ki 1) 3) 3,
     rq 12 (.assign (tp 122)) 3])))))
   (.seq (.block 8 (.loop (.seq (.seq (.reg [0, 1, 2, 3, 4, 5, 6, 7, 8, 9, 10, 11, 12, 13, 14, 15, 16] [
     rq 123 (.move (tp 12)) 3,
     rq 124 (.move (tp 13)) 3,
     rq 125 (.binOp .leq 3 (tp 123) (tp 124) 3) 4,
     rq 126 (.move (tp 125)) 4,
     rg 127 (.move (tp 4)) 66 126 true,
     rg 128 (.move (tp 0)) 28 126 true,
     rg 129 (.move (tp 13)) 3 126 true,
     rg 130 (.indexAddr 28 (tp 128) (tp 129)) 0 126 true,
     rg 131 (.load 32 (tp 130)) 32 126 true,
     rg 132 (.move (tp 0)) 28 126 true,
     rg 133 (.move (tp 1)) 3 126 true,
     rg 134 (.indexAddr 28 (tp 132) (tp 133)) 0 126 true,
     rg 135 (.load 32 (tp 134)) 32 126 true,
     rg 136 (.call ⟨.value (tp 127),#[(tp 131),(tp 135)],#[32,32]⟩) 3 126 true,
     rg 137 (.binOp .lss 3 (tp 136) (ki 0) 3) 4 126 true,
     rg 138 (.unOp .not 4 (tp 137)) 4 126 true,
     rq 139 (.pick (tp 126) (tp 138) (kb false)) 4])
     (.cond (tp 139) (.skip)
     (.exit 8)))
     (.block 9 (.reg [] [
       rq 140 (.move (tp 13)) 3,
       rq 141 (.binOp .sub 3 (tp 140) (ki 1) 3) 3,
       rq 13 (.assign (tp 141)) 3])))))
   (.seq (.seq (.reg [] [
     rq 142 (.move (tp 12)) 3,
     rq 143 (.move (tp 13)) 3,
     rq 144 (.binOp .gtr 3 (tp 142) (tp 143) 3) 4])
   (.cond (tp 144) (.exit 4)
   (.skip)))
   (.seq (.reg [0, 1, 2, 3, 4, 5, 6, 7, 8, 9, 10, 11, 12, 13, 14, 15] [
     rq 145 (.move (tp 0)) 28,
     rq 146 (.move (tp 12)) 3,
     rq 147 (.move (tp 0)) 28,
     rq 148 (.move (tp 13)) 3,
     rq 149 (.move (tp 0)) 28,
     rq 150 (.move (tp 13)) 3,
     rq 151 (.indexAddr 28 (tp 149) (tp 150)) 0,
     rq 152 (.load 32 (tp 151)) 32,
     rq 153 (.move (tp 0)) 28,
     rq 154 (.move (tp 12)) 3,
     rq 155 (.indexAddr 28 (tp 153) (tp 154)) 0,
     rq 156 (.load 32 (tp 155)) 32,
     rq 157 (.indexAddr 28 (tp 145) (tp 146)) 0,
     rn (.store 32 (tp 157) (tp 152)) 0,
     rq 158 (.indexAddr 28 (tp 147) (tp 148)) 0,
     rn (.store 32 (tp 158) (tp 156)) 0])
   (.seq (.reg [] [
     rq 159 (.move (tp 12)) 3,
     rq 160 (.binOp .add 3 (tp 159) (ki 1) 3) 3,
     rq 12 (.assign (tp 160)) 3])
   (.reg [] [
     rq 161 (.move (tp 13)) 3,
     rq 162 (.binOp .sub 3 (tp 161) (ki 1) 3) 3,
     rq 13 (.assign (tp 162)) 3])))))))))
 (.seq (.reg [0, 1, 2, 3, 4, 5, 6, 7, 8, 9, 10, 11, 12, 13, 14, 15] [
   rq 163 (.move (tp 0)) 28,rq 164 (.move (tp 13)) 3,rq 165 (.move (tp 0)) 28,rq 166 (.move (tp 1)) 3,rq 167 (.move (tp 0)) 28,rq 168 (.move (tp 1)) 3,rq 169 (.indexAddr 28 (tp 167) (tp 168)) 0,rq 170 (.load 32 (tp 169)) 32,rq 171 (.move (tp 0)) 28,rq 172 (.move (tp 13)) 3,rq 173 (.indexAddr 28 (tp 171) (tp 172)) 0,rq 174 (.load 32 (tp 173)) 32,rq 175 (.indexAddr 28 (tp 163) (tp 164)) 0,rn (.store 32 (tp 175) (tp 170)) 0,rq 176 (.indexAddr 28 (tp 165) (tp 166)) 0,rn (.store 32 (tp 176) (tp 174)) 0])
 (.seq (.reg [] [
   rq 177 (.move (tp 13)) 3,rq 10 (.assign (tp 177)) 3,rq 11 (.assign (kb false)) 4])
 (.ret))))))))))))
def c75:RC:=
 .seq (.reg [] [
  rq 2 (.assign (ki 0)) 3])
 (.seq (.seq (.reg [] [
   rq 3 (.move (tp 0)) 95,rq 4 (.binOp .geq 95 (tp 3) (.const (.int .u32 65536)) 95) 4])
 (.cond (tp 4) (.seq (.reg [] [
   rq 5 (.move (tp 0)) 95,
   rq 6 (.binOp .shr 95 (tp 5) (.const (.int .u64 16)) 81) 95,
   rq 0 (.assign (tp 6)) 95])
  (.reg [] [
    rq 2 (.assign (ki 16)) 3]))
 (.skip)))
 (.seq (.seq (.reg [] [
   rq 7 (.move (tp 0)) 95,rq 8 (.binOp .geq 95 (tp 7) (.const (.int .u32 256)) 95) 4])
 (.cond (tp 8) (.seq (.reg [] [
   rq 9 (.move (tp 0)) 95,
   rq 10 (.binOp .shr 95 (tp 9) (.const (.int .u64 8)) 81) 95,
   rq 0 (.assign (tp 10)) 95])
  (.reg [] [
    rq 11 (.move (tp 2)) 3,
    rq 12 (.binOp .add 3 (tp 11) (ki 8) 3) 3,
    rq 2 (.assign (tp 12)) 3]))
 (.skip)))
 (.seq (.reg [] [
   rq 13 (.move (tp 2)) 3,rq 14 (.move (tp 0)) 95,rq 15 (.convert 95 5 (tp 14)) 5,rq 16 (.index 9 (.const (.string ⟨#[0,1,2,2,3,3,3,3,4,4,4,4,4,4,4,4,5,5,5,5,5,5,5,5,5,5,5,5,5,5,5,5,6,6,6,6,6,6,6,6,6,6,6,6,6,6,6,6,6,6,6,6,6,6,6,6,6,6,6,6,6,6,6,6,7,7,7,7,7,7,7,7,7,7,7,7,7,7,7,7,7,7,7,7,7,7,7,7,7,7,7,7,7,7,7,7,7,7,7,7,7,7,7,7,7,7,7,7,7,7,7,7,7,7,7,7,7,7,7,7,7,7,7,7,7,7,7,7,8,8,8,8,8,8,8,8,8,8,8,8,8,8,8,8,8,8,8,8,8,8,8,8,8,8,8,8,8,8,8,8,8,8,8,8,8,8,8,8,8,8,8,8,8,8,8,8,8,8,8,8,8,8,8,8,8,8,8,8,8,8,8,8,8,8,8,8,8,8,8,8,8,8,8,8,8,8,8,8,8,8,8,8,8,8,8,8,8,8,8,8,8,8,8,8,8,8,8,8,8,8,8,8,8,8,8,8,8,8,8,8,8,8,8,8,8,8,8,8,8,8,8,8,8,8,8,8]⟩)) (tp 15)) 5,rq 17 (.convert 5 3 (tp 16)) 3,rq 18 (.binOp .add 3 (tp 13) (tp 17) 3) 3,rq 2 (.assign (tp 18)) 3])
 (.ret))))
def c76:RC:=
 .seq (.reg [] [
  rq 2 (.assign (ki 0)) 3])
 (.seq (.seq (.reg [] [
   rq 3 (.move (tp 0)) 97,rq 4 (.binOp .geq 97 (tp 3) (.const (.int .u64 4294967296)) 97) 4])
 (.cond (tp 4) (.seq (.reg [] [
   rq 5 (.move (tp 0)) 97,
   rq 6 (.binOp .shr 97 (tp 5) (.const (.int .u64 32)) 81) 97,
   rq 0 (.assign (tp 6)) 97])
  (.reg [] [
    rq 2 (.assign (ki 32)) 3]))
 (.skip)))
 (.seq (.seq (.reg [] [
   rq 7 (.move (tp 0)) 97,rq 8 (.binOp .geq 97 (tp 7) (.const (.int .u64 65536)) 97) 4])
 (.cond (tp 8) (.seq (.reg [] [
   rq 9 (.move (tp 0)) 97,
   rq 10 (.binOp .shr 97 (tp 9) (.const (.int .u64 16)) 81) 97,
   rq 0 (.assign (tp 10)) 97])
  (.reg [] [
    rq 11 (.move (tp 2)) 3,
    rq 12 (.binOp .add 3 (tp 11) (ki 16) 3) 3,
    rq 2 (.assign (tp 12)) 3]))
 (.skip)))
 (.seq (.seq (.reg [] [
   rq 13 (.move (tp 0)) 97,rq 14 (.binOp .geq 97 (tp 13) (.const (.int .u64 256)) 97) 4])
 (.cond (tp 14) (.seq (.reg [] [
   rq 15 (.move (tp 0)) 97,
   rq 16 (.binOp .shr 97 (tp 15) (.const (.int .u64 8)) 81) 97,
   rq 0 (.assign (tp 16)) 97])
  (.reg [] [
    rq 17 (.move (tp 2)) 3,
    rq 18 (.binOp .add 3 (tp 17) (ki 8) 3) 3,
    rq 2 (.assign (tp 18)) 3]))
 (.skip)))
 (.seq (.reg [] [
   rq 19 (.move (tp 2)) 3,rq 20 (.move (tp 0)) 97,rq 21 (.convert 97 5 (tp 20)) 5,rq 22 (.index 9 (.const (.string ⟨#[0,1,2,2,3,3,3,3,4,4,4,4,4,4,4,4,5,5,5,5,5,5,5,5,5,5,5,5,5,5,5,5,6,6,6,6,6,6,6,6,6,6,6,6,6,6,6,6,6,6,6,6,6,6,6,6,6,6,6,6,6,6,6,6,7,7,7,7,7,7,7,7,7,7,7,7,7,7,7,7,7,7,7,7,7,7,7,7,7,7,7,7,7,7,7,7,7,7,7,7,7,7,7,7,7,7,7,7,7,7,7,7,7,7,7,7,7,7,7,7,7,7,7,7,7,7,7,7,8,8,8,8,8,8,8,8,8,8,8,8,8,8,8,8,8,8,8,8,8,8,8,8,8,8,8,8,8,8,8,8,8,8,8,8,8,8,8,8,8,8,8,8,8,8,8,8,8,8,8,8,8,8,8,8,8,8,8,8,8,8,8,8,8,8,8,8,8,8,8,8,8,8,8,8,8,8,8,8,8,8,8,8,8,8,8,8,8,8,8,8,8,8,8,8,8,8,8,8,8,8,8,8,8,8,8,8,8,8,8,8,8,8,8,8,8,8,8,8,8,8,8,8,8,8,8,8]⟩)) (tp 21)) 5,rq 23 (.convert 5 3 (tp 22)) 3,rq 24 (.binOp .add 3 (tp 19) (tp 23) 3) 3,rq 2 (.assign (tp 24)) 3])
 (.ret)))))
def c77:RC:=c77_3
def c78:RC:=
 .seq (.reg [] [
  rq 4 (.assign (.const (.int .u64 0))) 81,rq 5 (.assign (.const (.int .u64 0))) 81])
 (.seq (.cond (kb false) (.seq (.reg [] [
   rq 11 (.move (tp 0)) 81,
   rq 12 (.convert 81 95 (tp 11)) 95,
   rq 13 (.move (tp 1)) 81,
   rq 14 (.convert 81 95 (tp 13)) 95,
   rq 15 (cf 92 #[(tp 12),(tp 14)] #[95,95]) 111,
   rq 10 (.move (tp 15)) 111,
   rq 16 (.extract (tp 10) 0) 95,
   rq 17 (.extract (tp 10) 1) 95,
   rq 6 (.assign (tp 16)) 95,
   rq 7 (.assign (tp 17)) 95])
  (.seq (.reg [] [
    rq 18 (.move (tp 6)) 95,
    rq 19 (.convert 95 81 (tp 18)) 81,
    rq 20 (.move (tp 7)) 95,
    rq 21 (.convert 95 81 (tp 20)) 81,
    rq 4 (.assign (tp 19)) 81,
    rq 5 (.assign (tp 21)) 81])
  (.ret)))
 (.skip))
 (.seq (.reg [] [
   rq 23 (.move (tp 0)) 81,rq 24 (.move (tp 1)) 81,rq 25 (cf 93 #[(tp 23),(tp 24)] #[97,97]) 113,rq 22 (.move (tp 25)) 113,rq 26 (.extract (tp 22) 0) 97,rq 27 (.extract (tp 22) 1) 97,rq 8 (.assign (tp 26)) 97,rq 9 (.assign (tp 27)) 97])
 (.seq (.reg [] [
   rq 28 (.move (tp 8)) 97,rq 29 (.move (tp 9)) 97,rq 4 (.assign (tp 28)) 81,rq 5 (.assign (tp 29)) 81])
 (.ret))))
def c79:RC:=
 .seq (.reg [] [
  rq 10 (.move (tp 1)) 3,rq 11 (.binOp .add 3 (tp 10) (ki 1) 3) 3,rq 8 (.assign (tp 11)) 3])
 (.block 0 (.loop (.seq (.seq (.reg [] [
   rq 12 (.move (tp 8)) 3,
   rq 13 (.move (tp 2)) 3,
   rq 14 (.binOp .lss 3 (tp 12) (tp 13) 3) 4])
   (.cond (tp 14) (.skip)
   (.exit 0)))
   (.seq (.block 1 (.seq (.reg [] [
     rq 17 (.move (tp 8)) 3,
     rq 9 (.assign (tp 17)) 3])
    (.block 2 (.loop (.seq (.seq (.reg [0, 1, 2, 3, 4, 5, 6, 7, 8, 9, 10, 11, 12, 13, 14, 15, 16] [
      rq 18 (.move (tp 9)) 3,
      rq 19 (.move (tp 1)) 3,
      rq 20 (.binOp .gtr 3 (tp 18) (tp 19) 3) 4,
      rq 21 (.move (tp 20)) 4,
      rg 22 (.move (tp 3)) 65 21 true,
      rg 23 (.move (tp 0)) 32 21 true,
      rg 24 (.move (tp 9)) 3 21 true,
      rg 25 (.indexAddr 32 (tp 23) (tp 24)) 0 21 true,
      rg 26 (.load 22 (tp 25)) 22 21 true,
      rg 27 (.move (tp 0)) 32 21 true,
      rg 28 (.move (tp 9)) 3 21 true,
      rg 29 (.binOp .sub 3 (tp 28) (ki 1) 3) 3 21 true,
      rg 30 (.indexAddr 32 (tp 27) (tp 29)) 0 21 true,
      rg 31 (.load 22 (tp 30)) 22 21 true,
      rg 32 (.call ⟨.value (tp 22),#[(tp 26),(tp 31)],#[22,22]⟩) 3 21 true,
      rg 33 (.binOp .lss 3 (tp 32) (ki 0) 3) 4 21 true,
      rq 34 (.pick (tp 21) (tp 33) (kb false)) 4])
      (.cond (tp 34) (.skip)
      (.exit 2)))
      (.seq (.block 3 (.reg [0, 1, 2, 3, 4, 5, 6, 7, 8, 9, 10, 11, 12, 13, 14, 15, 16, 17] [
        rq 37 (.move (tp 0)) 32,
        rq 38 (.move (tp 9)) 3,
        rq 39 (.move (tp 0)) 32,
        rq 40 (.move (tp 9)) 3,
        rq 41 (.binOp .sub 3 (tp 40) (ki 1) 3) 3,
        rq 42 (.move (tp 0)) 32,
        rq 43 (.move (tp 9)) 3,
        rq 44 (.binOp .sub 3 (tp 43) (ki 1) 3) 3,
        rq 45 (.indexAddr 32 (tp 42) (tp 44)) 0,
        rq 46 (.load 22 (tp 45)) 22,
        rq 47 (.move (tp 0)) 32,
        rq 48 (.move (tp 9)) 3,
        rq 49 (.indexAddr 32 (tp 47) (tp 48)) 0,
        rq 50 (.load 22 (tp 49)) 22,
        rq 51 (.indexAddr 32 (tp 37) (tp 38)) 0,
        rn (.store 22 (tp 51) (tp 46)) 0,
        rq 52 (.indexAddr 32 (tp 39) (tp 41)) 0,
        rn (.store 22 (tp 52) (tp 50)) 0]))
      (.reg [] [
        rq 35 (.move (tp 9)) 3,
        rq 36 (.binOp .sub 3 (tp 35) (ki 1) 3) 3,
        rq 9 (.assign (tp 36)) 3])))))))
   (.reg [] [
     rq 15 (.move (tp 8)) 3,
     rq 16 (.binOp .add 3 (tp 15) (ki 1) 3) 3,
     rq 8 (.assign (tp 16)) 3])))))
def c80:RC:=
 .seq (.reg [] [
  rq 13 (.move (tp 1)) 3,rq 8 (.assign (tp 13)) 3])
 (.seq (.reg [] [
   rq 9 (.assign (ki 0)) 3])
 (.seq (.reg [] [
   rq 14 (.move (tp 2)) 3,rq 15 (.move (tp 1)) 3,rq 16 (.binOp .sub 3 (tp 14) (tp 15) 3) 3,rq 10 (.assign (tp 16)) 3])
 (.seq (.seq (.reg [] [
   rq 17 (.move (tp 10)) 3,rq 18 (.binOp .sub 3 (tp 17) (ki 1) 3) 3,rq 19 (.binOp .quo 3 (tp 18) (ki 2) 3) 3,rq 11 (.assign (tp 19)) 3])
 (.block 0 (.loop (.seq (.seq (.reg [] [
   rq 20 (.move (tp 11)) 3,
   rq 21 (.binOp .geq 3 (tp 20) (ki 0) 3) 4])
   (.cond (tp 21) (.skip)
   (.exit 0)))
   (.seq (.block 1 (.reg [] [
     rq 24 (.move (tp 0)) 32,
     rq 25 (.move (tp 11)) 3,
     rq 26 (.move (tp 10)) 3,
     rq 27 (.move (tp 8)) 3,
     rq 28 (.move (tp 3)) 65,
     rq 29 (cf 94 #[(tp 24),(tp 25),(tp 26),(tp 27),(tp 28)] #[32,3,3,3,65]) 0]))
   (.reg [] [
     rq 22 (.move (tp 11)) 3,
     rq 23 (.binOp .sub 3 (tp 22) (ki 1) 3) 3,
     rq 11 (.assign (tp 23)) 3]))))))
 (.seq (.reg [] [
   rq 30 (.move (tp 10)) 3,rq 31 (.binOp .sub 3 (tp 30) (ki 1) 3) 3,rq 12 (.assign (tp 31)) 3])
 (.block 2 (.loop (.seq (.seq (.reg [] [
   rq 32 (.move (tp 12)) 3,
   rq 33 (.binOp .geq 3 (tp 32) (ki 0) 3) 4])
   (.cond (tp 33) (.skip)
   (.exit 2)))
   (.seq (.block 3 (.seq (.reg [0, 1, 2, 3, 4, 5, 6, 7, 8, 9, 10, 11, 12, 13, 14, 15, 16, 17, 18, 19] [
     rq 36 (.move (tp 0)) 32,
     rq 37 (.move (tp 8)) 3,
     rq 38 (.move (tp 0)) 32,
     rq 39 (.move (tp 8)) 3,
     rq 40 (.move (tp 12)) 3,
     rq 41 (.binOp .add 3 (tp 39) (tp 40) 3) 3,
     rq 42 (.move (tp 0)) 32,
     rq 43 (.move (tp 8)) 3,
     rq 44 (.move (tp 12)) 3,
     rq 45 (.binOp .add 3 (tp 43) (tp 44) 3) 3,
     rq 46 (.indexAddr 32 (tp 42) (tp 45)) 0,
     rq 47 (.load 22 (tp 46)) 22,
     rq 48 (.move (tp 0)) 32,
     rq 49 (.move (tp 8)) 3,
     rq 50 (.indexAddr 32 (tp 48) (tp 49)) 0,
     rq 51 (.load 22 (tp 50)) 22,
     rq 52 (.indexAddr 32 (tp 36) (tp 37)) 0,
     rn (.store 22 (tp 52) (tp 47)) 0,
     rq 53 (.indexAddr 32 (tp 38) (tp 41)) 0,
     rn (.store 22 (tp 53) (tp 51)) 0])
    (.reg [] [
      rq 54 (.move (tp 0)) 32,
      rq 55 (.move (tp 9)) 3,
      rq 56 (.move (tp 12)) 3,
      rq 57 (.move (tp 8)) 3,
      rq 58 (.move (tp 3)) 65,
      rq 59 (cf 94 #[(tp 54),(tp 55),(tp 56),(tp 57),(tp 58)] #[32,3,3,3,65]) 0])))
   (.reg [] [
     rq 34 (.move (tp 12)) 3,
     rq 35 (.binOp .sub 3 (tp 34) (ki 1) 3) 3,
     rq 12 (.assign (tp 35)) 3])))))))))
def c81:RC:=
 .seq (.reg [] [
  rq 13 (.move (tp 2)) 3,rq 14 (.move (tp 1)) 3,rq 15 (.binOp .sub 3 (tp 13) (tp 14) 3) 3,rq 8 (.assign (tp 15)) 3])
 (.seq (.reg [] [
   rq 16 (.move (tp 8)) 3,rq 17 (.binOp .geq 3 (tp 16) (ki 8) 3) 4])
 (.cond (tp 17) (.seq (.reg [] [
   rq 18 (.move (tp 8)) 3,
   rq 19 (.convert 3 105 (tp 18)) 105,
   rq 9 (.alloc 105) 0,
   rn (.store 105 (tp 9) (tp 19)) 0])
  (.seq (.reg [] [
    rq 20 (.move (tp 8)) 3,
    rq 21 (cf 88 #[(tp 20)] #[3]) 81,
    rq 10 (.assign (tp 21)) 81])
  (.seq (.reg [] [
    rq 22 (.move (tp 1)) 3,
    rq 23 (.move (tp 8)) 3,
    rq 24 (.binOp .quo 3 (tp 23) (ki 4) 3) 3,
    rq 25 (.binOp .mul 3 (tp 24) (ki 2) 3) 3,
    rq 26 (.binOp .add 3 (tp 22) (tp 25) 3) 3,
    rq 27 (.binOp .sub 3 (tp 26) (ki 1) 3) 3,
    rq 11 (.assign (tp 27)) 3])
  (.block 0 (.loop (.seq (.seq (.reg [] [
    rq 28 (.move (tp 11)) 3,
    rq 29 (.move (tp 1)) 3,
    rq 30 (.move (tp 8)) 3,
    rq 31 (.binOp .quo 3 (tp 30) (ki 4) 3) 3,
    rq 32 (.binOp .mul 3 (tp 31) (ki 2) 3) 3,
    rq 33 (.binOp .add 3 (tp 29) (tp 32) 3) 3,
    rq 34 (.binOp .add 3 (tp 33) (ki 1) 3) 3,
    rq 35 (.binOp .leq 3 (tp 28) (tp 34) 3) 4])
    (.cond (tp 35) (.skip)
    (.exit 0)))
    (.seq (.block 1 (.seq (.reg [] [
      rq 38 (cf 89 #[(tp 9)] #[105]) 97,
      rq 39 (.move (tp 10)) 81,
      rq 40 (.binOp .sub 81 (tp 39) (.const (.int .u64 1)) 81) 81,
      rq 41 (.binOp .and 81 (tp 38) (tp 40) 81) 81,
      rq 42 (.convert 81 3 (tp 41)) 3,
      rq 12 (.assign (tp 42)) 3])
     (.seq (.seq (.reg [] [
       rq 43 (.move (tp 12)) 3,
       rq 44 (.move (tp 8)) 3,
       rq 45 (.binOp .geq 3 (tp 43) (tp 44) 3) 4])
     (.cond (tp 45) (.reg [] [
       rq 46 (.move (tp 12)) 3,
       rq 47 (.move (tp 8)) 3,
       rq 48 (.binOp .sub 3 (tp 46) (tp 47) 3) 3,
       rq 12 (.assign (tp 48)) 3])
     (.skip)))
     (.reg [0, 1, 2, 3, 4, 5, 6, 7, 8, 9, 10, 11, 12, 13, 14, 15, 16, 17, 18, 19] [
       rq 49 (.move (tp 0)) 32,
       rq 50 (.move (tp 11)) 3,
       rq 51 (.move (tp 0)) 32,
       rq 52 (.move (tp 1)) 3,
       rq 53 (.move (tp 12)) 3,
       rq 54 (.binOp .add 3 (tp 52) (tp 53) 3) 3,
       rq 55 (.move (tp 0)) 32,
       rq 56 (.move (tp 1)) 3,
       rq 57 (.move (tp 12)) 3,
       rq 58 (.binOp .add 3 (tp 56) (tp 57) 3) 3,
       rq 59 (.indexAddr 32 (tp 55) (tp 58)) 0,
       rq 60 (.load 22 (tp 59)) 22,
       rq 61 (.move (tp 0)) 32,
       rq 62 (.move (tp 11)) 3,
       rq 63 (.indexAddr 32 (tp 61) (tp 62)) 0,
       rq 64 (.load 22 (tp 63)) 22,
       rq 65 (.indexAddr 32 (tp 49) (tp 50)) 0,
       rn (.store 22 (tp 65) (tp 60)) 0,
       rq 66 (.indexAddr 32 (tp 51) (tp 54)) 0,
       rn (.store 22 (tp 66) (tp 64)) 0]))))
    (.reg [] [
      rq 36 (.move (tp 11)) 3,
      rq 37 (.binOp .add 3 (tp 36) (ki 1) 3) 3,
      rq 11 (.assign (tp 37)) 3]))))))))
 (.skip)))
def c82:RC:=
 .seq (.reg [] [
  rq 8 (.assign (ki 0)) 3,rq 9 (.assign (ki 0)) 87])
 (.seq (.reg [] [
   rq 15 (.move (tp 2)) 3,rq 16 (.move (tp 1)) 3,rq 17 (.binOp .sub 3 (tp 15) (tp 16) 3) 3,rq 10 (.assign (tp 17)) 3])
 (.seq (.reg [] [
   rq 11 (.alloc 3) 0])
 (.seq (.reg [] [
   rq 18 (.move (tp 1)) 3,rq 19 (.move (tp 10)) 3,rq 20 (.binOp .quo 3 (tp 19) (ki 4) 3) 3,rq 21 (.binOp .mul 3 (tp 20) (ki 1) 3) 3,rq 22 (.binOp .add 3 (tp 18) (tp 21) 3) 3,rq 12 (.assign (tp 22)) 3])
 (.seq (.reg [] [
   rq 23 (.move (tp 1)) 3,rq 24 (.move (tp 10)) 3,rq 25 (.binOp .quo 3 (tp 24) (ki 4) 3) 3,rq 26 (.binOp .mul 3 (tp 25) (ki 2) 3) 3,rq 27 (.binOp .add 3 (tp 23) (tp 26) 3) 3,rq 13 (.assign (tp 27)) 3])
 (.seq (.reg [] [
   rq 28 (.move (tp 1)) 3,rq 29 (.move (tp 10)) 3,rq 30 (.binOp .quo 3 (tp 29) (ki 4) 3) 3,rq 31 (.binOp .mul 3 (tp 30) (ki 3) 3) 3,rq 32 (.binOp .add 3 (tp 28) (tp 31) 3) 3,rq 14 (.assign (tp 32)) 3])
 (.seq (.seq (.reg [] [
   rq 33 (.move (tp 10)) 3,rq 34 (.binOp .geq 3 (tp 33) (ki 8) 3) 4])
 (.cond (tp 34) (.seq (.seq (.reg [] [
   rq 35 (.move (tp 10)) 3,
   rq 36 (.binOp .geq 3 (tp 35) (ki 50) 3) 4])
  (.cond (tp 36) (.seq (.reg [] [
    rq 37 (.move (tp 0)) 32,
    rq 38 (.move (tp 12)) 3,
    rq 39 (.move (tp 3)) 65,
    rq 40 (cf 95 #[(tp 37),(tp 38),(tp 11),(tp 39)] #[32,3,109,65]) 3,
    rq 12 (.assign (tp 40)) 3])
   (.seq (.reg [] [
     rq 41 (.move (tp 0)) 32,
     rq 42 (.move (tp 13)) 3,
     rq 43 (.move (tp 3)) 65,
     rq 44 (cf 95 #[(tp 41),(tp 42),(tp 11),(tp 43)] #[32,3,109,65]) 3,
     rq 13 (.assign (tp 44)) 3])
   (.reg [] [
     rq 45 (.move (tp 0)) 32,
     rq 46 (.move (tp 14)) 3,
     rq 47 (.move (tp 3)) 65,
     rq 48 (cf 95 #[(tp 45),(tp 46),(tp 11),(tp 47)] #[32,3,109,65]) 3,
     rq 14 (.assign (tp 48)) 3])))
  (.skip)))
  (.reg [] [
    rq 49 (.move (tp 0)) 32,
    rq 50 (.move (tp 12)) 3,
    rq 51 (.move (tp 13)) 3,
    rq 52 (.move (tp 14)) 3,
    rq 53 (.move (tp 3)) 65,
    rq 54 (cf 96 #[(tp 49),(tp 50),(tp 51),(tp 52),(tp 11),(tp 53)] #[32,3,3,3,109,65]) 3,
    rq 13 (.assign (tp 54)) 3]))
 (.skip)))
 (.seq (.reg [] [
   rq 55 (.load 3 (tp 11)) 3])
 (.block 0 (.seq (.reg [] [
   rq 58 (.binOp .eql 3 (tp 55) (ki 0) 3) 4,
   rq 57 (.assign (tp 58)) 4])
  (.cond (tp 57) (.seq (.reg [] [
    rq 59 (.move (tp 13)) 3,
    rq 8 (.assign (tp 59)) 3,
    rq 9 (.assign (ki 1)) 87])
   (.ret))
  (.seq (.reg [] [
    rq 61 (.binOp .eql 3 (tp 55) (ki 12) 3) 4,
    rq 60 (.assign (tp 61)) 4])
   (.cond (tp 60) (.seq (.reg [] [
     rq 62 (.move (tp 13)) 3,
     rq 8 (.assign (tp 62)) 3,
     rq 9 (.assign (ki 2)) 87])
    (.ret))
   (.seq (.reg [] [
     rq 56 (.move (tp 13)) 3,
     rq 8 (.assign (tp 56)) 3,
     rq 9 (.assign (ki 0)) 87])
    (.ret))))))))))))))
def c83:RC:=
 .seq (.reg [] [
  rq 10 (.move (tp 1)) 3,rq 8 (.assign (tp 10)) 3])
 (.seq (.reg [] [
   rq 11 (.move (tp 2)) 3,rq 12 (.binOp .sub 3 (tp 11) (ki 1) 3) 3,rq 9 (.assign (tp 12)) 3])
 (.block 0 (.loop (.seq (.seq (.reg [] [
   rq 13 (.move (tp 8)) 3,
   rq 14 (.move (tp 9)) 3,
   rq 15 (.binOp .lss 3 (tp 13) (tp 14) 3) 4])
   (.cond (tp 15) (.skip)
   (.exit 0)))
   (.block 1 (.seq (.reg [0, 1, 2, 3, 4, 5, 6, 7, 8, 9, 10, 11, 12, 13, 14, 15] [
     rq 16 (.move (tp 0)) 32,
     rq 17 (.move (tp 8)) 3,
     rq 18 (.move (tp 0)) 32,
     rq 19 (.move (tp 9)) 3,
     rq 20 (.move (tp 0)) 32,
     rq 21 (.move (tp 9)) 3,
     rq 22 (.indexAddr 32 (tp 20) (tp 21)) 0,
     rq 23 (.load 22 (tp 22)) 22,
     rq 24 (.move (tp 0)) 32,
     rq 25 (.move (tp 8)) 3,
     rq 26 (.indexAddr 32 (tp 24) (tp 25)) 0,
     rq 27 (.load 22 (tp 26)) 22,
     rq 28 (.indexAddr 32 (tp 16) (tp 17)) 0,
     rn (.store 22 (tp 28) (tp 23)) 0,
     rq 29 (.indexAddr 32 (tp 18) (tp 19)) 0,
     rn (.store 22 (tp 29) (tp 27)) 0])
    (.seq (.reg [] [
      rq 30 (.move (tp 8)) 3,
      rq 31 (.binOp .add 3 (tp 30) (ki 1) 3) 3,
      rq 8 (.assign (tp 31)) 3])
    (.reg [] [
      rq 32 (.move (tp 9)) 3,
      rq 33 (.binOp .sub 3 (tp 32) (ki 1) 3) 3,
      rq 9 (.assign (tp 33)) 3]))))))))
def c84:RC:=
 .seq (.reg [] [
  rq 8 (.assign (kb false)) 4])
 (.seq (.reg [] [
   rq 13 (.move (tp 1)) 3,rq 14 (.binOp .add 3 (tp 13) (ki 1) 3) 3,rq 9 (.assign (tp 14)) 3])
 (.seq (.seq (.reg [] [
   rq 10 (.assign (ki 0)) 3])
 (.block 0 (.loop (.seq (.seq (.reg [] [
   rq 15 (.move (tp 10)) 3,
   rq 16 (.binOp .lss 3 (tp 15) (ki 5) 3) 4])
   (.cond (tp 16) (.skip)
   (.exit 0)))
   (.seq (.block 1 (.seq (.block 2 (.loop (.seq (.seq (.reg [0, 1, 2, 3, 4, 5, 6, 7, 8, 9, 10, 11, 12, 13, 14, 15, 16, 17] [
     rq 19 (.move (tp 9)) 3,
     rq 20 (.move (tp 2)) 3,
     rq 21 (.binOp .lss 3 (tp 19) (tp 20) 3) 4,
     rq 22 (.move (tp 21)) 4,
     rg 23 (.move (tp 3)) 65 22 true,
     rg 24 (.move (tp 0)) 32 22 true,
     rg 25 (.move (tp 9)) 3 22 true,
     rg 26 (.indexAddr 32 (tp 24) (tp 25)) 0 22 true,
     rg 27 (.load 22 (tp 26)) 22 22 true,
     rg 28 (.move (tp 0)) 32 22 true,
     rg 29 (.move (tp 9)) 3 22 true,
     rg 30 (.binOp .sub 3 (tp 29) (ki 1) 3) 3 22 true,
     rg 31 (.indexAddr 32 (tp 28) (tp 30)) 0 22 true,
     rg 32 (.load 22 (tp 31)) 22 22 true,
     rg 33 (.call ⟨.value (tp 23),#[(tp 27),(tp 32)],#[22,22]⟩) 3 22 true,
     rg 34 (.binOp .lss 3 (tp 33) (ki 0) 3) 4 22 true,
     rg 35 (.unOp .not 4 (tp 34)) 4 22 true,
     rq 36 (.pick (tp 22) (tp 35) (kb false)) 4])
     (.cond (tp 36) (.skip)
     (.exit 2)))
     (.block 3 (.reg [] [
       rq 37 (.move (tp 9)) 3,
       rq 38 (.binOp .add 3 (tp 37) (ki 1) 3) 3,
       rq 9 (.assign (tp 38)) 3])))))
    (.seq (.seq (.reg [] [
      rq 39 (.move (tp 9)) 3,
      rq 40 (.move (tp 2)) 3,
      rq 41 (.binOp .eql 3 (tp 39) (tp 40) 3) 4])
    (.cond (tp 41) (.seq (.reg [] [
      rq 8 (.assign (kb true)) 4])
     (.ret))
    (.skip)))
    (.seq (.seq (.reg [] [
      rq 42 (.move (tp 2)) 3,
      rq 43 (.move (tp 1)) 3,
      rq 44 (.binOp .sub 3 (tp 42) (tp 43) 3) 3,
      rq 45 (.binOp .lss 3 (tp 44) (ki 50) 3) 4])
    (.cond (tp 45) (.seq (.reg [] [
      rq 8 (.assign (kb false)) 4])
     (.ret))
    (.skip)))
    (.seq (.reg [0, 1, 2, 3, 4, 5, 6, 7, 8, 9, 10, 11, 12, 13, 14, 15, 16, 17] [
      rq 46 (.move (tp 0)) 32,
      rq 47 (.move (tp 9)) 3,
      rq 48 (.move (tp 0)) 32,
      rq 49 (.move (tp 9)) 3,
      rq 50 (.binOp .sub 3 (tp 49) (ki 1) 3) 3,
      rq 51 (.move (tp 0)) 32,
      rq 52 (.move (tp 9)) 3,
      rq 53 (.binOp .sub 3 (tp 52) (ki 1) 3) 3,
      rq 54 (.indexAddr 32 (tp 51) (tp 53)) 0,
      rq 55 (.load 22 (tp 54)) 22,
      rq 56 (.move (tp 0)) 32,
      rq 57 (.move (tp 9)) 3,
      rq 58 (.indexAddr 32 (tp 56) (tp 57)) 0,
      rq 59 (.load 22 (tp 58)) 22,
      rq 60 (.indexAddr 32 (tp 46) (tp 47)) 0,
      rn (.store 22 (tp 60) (tp 55)) 0,
      rq 61 (.indexAddr 32 (tp 48) (tp 50)) 0,
      rn (.store 22 (tp 61) (tp 59)) 0])
    (.seq (.seq (.reg [] [
      rq 62 (.move (tp 9)) 3,
      rq 63 (.move (tp 1)) 3,
      rq 64 (.binOp .sub 3 (tp 62) (tp 63) 3) 3,
      rq 65 (.binOp .geq 3 (tp 64) (ki 2) 3) 4])
    (.cond (tp 65) (.seq (.reg [] [
      rq 66 (.move (tp 9)) 3,
      rq 67 (.binOp .sub 3 (tp 66) (ki 1) 3) 3,
      rq 11 (.assign (tp 67)) 3])
     (.block 4 (.loop (.seq (.seq (.reg [] [
       rq 68 (.move (tp 11)) 3,
       rq 69 (.binOp .geq 3 (tp 68) (ki 1) 3) 4])
       (.cond (tp 69) (.skip)
       (.exit 4)))
       (.seq (.block 5 (.seq (.seq (.reg [0, 1, 2, 3, 4, 5, 6, 7, 8, 9, 10, 11, 12] [
         rq 72 (.move (tp 3)) 65,
         rq 73 (.move (tp 0)) 32,
         rq 74 (.move (tp 11)) 3,
         rq 75 (.indexAddr 32 (tp 73) (tp 74)) 0,
         rq 76 (.load 22 (tp 75)) 22,
         rq 77 (.move (tp 0)) 32,
         rq 78 (.move (tp 11)) 3,
         rq 79 (.binOp .sub 3 (tp 78) (ki 1) 3) 3,
         rq 80 (.indexAddr 32 (tp 77) (tp 79)) 0,
         rq 81 (.load 22 (tp 80)) 22,
         rq 82 (.call ⟨.value (tp 72),#[(tp 76),(tp 81)],#[22,22]⟩) 3,
         rq 83 (.binOp .lss 3 (tp 82) (ki 0) 3) 4,
         rq 84 (.unOp .not 4 (tp 83)) 4])
        (.cond (tp 84) (.exit 4)
        (.skip)))
        (.reg [0, 1, 2, 3, 4, 5, 6, 7, 8, 9, 10, 11, 12, 13, 14, 15, 16, 17] [
          rq 85 (.move (tp 0)) 32,
          rq 86 (.move (tp 11)) 3,
          rq 87 (.move (tp 0)) 32,
          rq 88 (.move (tp 11)) 3,
          rq 89 (.binOp .sub 3 (tp 88) (ki 1) 3) 3,
          rq 90 (.move (tp 0)) 32,
          rq 91 (.move (tp 11)) 3,
          rq 92 (.binOp .sub 3 (tp 91) (ki 1) 3) 3,
          rq 93 (.indexAddr 32 (tp 90) (tp 92)) 0,
          rq 94 (.load 22 (tp 93)) 22,
          rq 95 (.move (tp 0)) 32,
          rq 96 (.move (tp 11)) 3,
          rq 97 (.indexAddr 32 (tp 95) (tp 96)) 0,
          rq 98 (.load 22 (tp 97)) 22,
          rq 99 (.indexAddr 32 (tp 85) (tp 86)) 0,
          rn (.store 22 (tp 99) (tp 94)) 0,
          rq 100 (.indexAddr 32 (tp 87) (tp 89)) 0,
          rn (.store 22 (tp 100) (tp 98)) 0])))
       (.reg [] [
         rq 70 (.move (tp 11)) 3,
         rq 71 (.binOp .sub 3 (tp 70) (ki 1) 3) 3,
         rq 11 (.assign (tp 71)) 3]))))))
    (.skip)))
    (.seq (.reg [] [
      rq 101 (.move (tp 2)) 3,
      rq 102 (.move (tp 9)) 3,
      rq 103 (.binOp .sub 3 (tp 101) (tp 102) 3) 3,
      rq 104 (.binOp .geq 3 (tp 103) (ki 2) 3) 4])
    (.cond (tp 104) (.seq (.reg [] [
      rq 105 (.move (tp 9)) 3,
      rq 106 (.binOp .add 3 (tp 105) (ki 1) 3) 3,
      rq 12 (.assign (tp 106)) 3])
     (.block 6 (.loop (.seq (.seq (.reg [] [
       rq 107 (.move (tp 12)) 3,
       rq 108 (.move (tp 2)) 3,
       rq 109 (.binOp .lss 3 (tp 107) (tp 108) 3) 4])
       (.cond (tp 109) (.skip)
       (.exit 6)))
       (.seq (.block 7 (.seq (.seq (.reg [0, 1, 2, 3, 4, 5, 6, 7, 8, 9, 10, 11, 12] [
         rq 112 (.move (tp 3)) 65,
         rq 113 (.move (tp 0)) 32,
         rq 114 (.move (tp 12)) 3,
         rq 115 (.indexAddr 32 (tp 113) (tp 114)) 0,
         rq 116 (.load 22 (tp 115)) 22,
         rq 117 (.move (tp 0)) 32,
         rq 118 (.move (tp 12)) 3,
         rq 119 (.binOp .sub 3 (tp 118) (ki 1) 3) 3,
         rq 120 (.indexAddr 32 (tp 117) (tp 119)) 0,
         rq 121 (.load 22 (tp 120)) 22,
         rq 122 (.call ⟨.value (tp 112),#[(tp 116),(tp 121)],#[22,22]⟩) 3,
         rq 123 (.binOp .lss 3 (tp 122) (ki 0) 3) 4,
         rq 124 (.unOp .not 4 (tp 123)) 4])
        (.cond (tp 124) (.exit 6)
        (.skip)))
        (.reg [0, 1, 2, 3, 4, 5, 6, 7, 8, 9, 10, 11, 12, 13, 14, 15, 16, 17] [
          rq 125 (.move (tp 0)) 32,
          rq 126 (.move (tp 12)) 3,
          rq 127 (.move (tp 0)) 32,
          rq 128 (.move (tp 12)) 3,
          rq 129 (.binOp .sub 3 (tp 128) (ki 1) 3) 3,
          rq 130 (.move (tp 0)) 32,
          rq 131 (.move (tp 12)) 3,
          rq 132 (.binOp .sub 3 (tp 131) (ki 1) 3) 3,
          rq 133 (.indexAddr 32 (tp 130) (tp 132)) 0,
          rq 134 (.load 22 (tp 133)) 22,
          rq 135 (.move (tp 0)) 32,
          rq 136 (.move (tp 12)) 3,
          rq 137 (.indexAddr 32 (tp 135) (tp 136)) 0,
          rq 138 (.load 22 (tp 137)) 22,
          rq 139 (.indexAddr 32 (tp 125) (tp 126)) 0,
          rn (.store 22 (tp 139) (tp 134)) 0,
          rq 140 (.indexAddr 32 (tp 127) (tp 129)) 0,
          rn (.store 22 (tp 140) (tp 138)) 0])))
       (.reg [] [
         rq 110 (.move (tp 12)) 3,
         rq 111 (.binOp .add 3 (tp 110) (ki 1) 3) 3,
         rq 12 (.assign (tp 111)) 3]))))))
    (.skip)))))))))
   (.reg [] [
     rq 17 (.move (tp 10)) 3,
     rq 18 (.binOp .add 3 (tp 17) (ki 1) 3) 3,
     rq 10 (.assign (tp 18)) 3]))))))
 (.seq (.reg [] [
   rq 8 (.assign (kb false)) 4])
 (.ret))))
def c85:RC:=
 .seq (.reg [] [
  rq 10 (.assign (ki 0)) 3])
 (.seq (.reg [0, 1, 2, 3, 4, 5, 6, 7, 8, 9, 10, 11, 12, 13, 14, 15] [
   rq 13 (.move (tp 0)) 32,rq 14 (.move (tp 1)) 3,rq 15 (.move (tp 0)) 32,rq 16 (.move (tp 3)) 3,rq 17 (.move (tp 0)) 32,rq 18 (.move (tp 3)) 3,rq 19 (.indexAddr 32 (tp 17) (tp 18)) 0,rq 20 (.load 22 (tp 19)) 22,rq 21 (.move (tp 0)) 32,rq 22 (.move (tp 1)) 3,rq 23 (.indexAddr 32 (tp 21) (tp 22)) 0,rq 24 (.load 22 (tp 23)) 22,rq 25 (.indexAddr 32 (tp 13) (tp 14)) 0,rn (.store 22 (tp 25) (tp 20)) 0,rq 26 (.indexAddr 32 (tp 15) (tp 16)) 0,rn (.store 22 (tp 26) (tp 24)) 0])
 (.seq (.reg [] [
   rq 27 (.move (tp 1)) 3,rq 28 (.binOp .add 3 (tp 27) (ki 1) 3) 3,rq 29 (.move (tp 2)) 3,rq 30 (.binOp .sub 3 (tp 29) (ki 1) 3) 3,rq 11 (.assign (tp 28)) 3,rq 12 (.assign (tp 30)) 3])
 (.seq (.block 0 (.loop (.block 1 (.seq (.block 2 (.loop (.seq (.seq (.reg [0, 1, 2, 3, 4, 5, 6, 7, 8, 9, 10, 11, 12, 13, 14, 15, 16] [
        rq 31 (.move (tp 11)) 3,
        rq 32 (.move (tp 12)) 3,
        rq 33 (.binOp .leq 3 (tp 31) (tp 32) 3) 4,
        rq 34 (.move (tp 33)) 4,
        rg 35 (.move (tp 4)) 65 34 true,
        rg 36 (.move (tp 0)) 32 34 true,
        rg 37 (.move (tp 1)) 3 34 true,
        rg 38 (.indexAddr 32 (tp 36) (tp 37)) 0 34 true,
        rg 39 (.load 22 (tp 38)) 22 34 true,
        rg 40 (.move (tp 0)) 32 34 true,
        rg 41 (.move (tp 11)) 3 34 true,
        rg 42 (.indexAddr 32 (tp 40) (tp 41)) 0 34 true,
        rg 43 (.load 22 (tp 42)) 22 34 true,
        rg 44 (.call ⟨.value (tp 35),#[(tp 39),(tp 43)],#[22,22]⟩) 3 34 true,
        rg 45 (.binOp .lss 3 (tp 44) (ki 0) 3) 4 34 true,
        rg 46 (.unOp .not 4 (tp 45)) 4 34 true,
        rq 47 (.pick (tp 34) (tp 46) (kb false)) 4])
   (.cond (tp 47) (.skip)
   (.exit 2)))
   (.block 3 (.reg [] [
     rq 48 (.move (tp 11)) 3,
     rq 49 (.binOp .add 3 (tp 48) (ki 1) 3) 3,
     rq 11 (.assign (tp 49)) 3])))))
   (.seq (.block 4 (.loop (.seq (.seq (.reg [0, 1, 2, 3, 4, 5, 6, 7, 8, 9, 10, 11, 12, 13, 14, 15] [
     rq 50 (.move (tp 11)) 3,
     rq 51 (.move (tp 12)) 3,
     rq 52 (.binOp .leq 3 (tp 50) (tp 51) 3) 4,
     rq 53 (.move (tp 52)) 4,
     rg 54 (.move (tp 4)) 65 53 true,
     rg 55 (.move (tp 0)) 32 53 true,
     rg 56 (.move (tp 1)) 3 53 true,
     rg 57 (.indexAddr 32 (tp 55) (tp 56)) 0 53 true,
     rg 58 (.load 22 (tp 57)) 22 53 true,
     rg 59 (.move (tp 0)) 32 53 true,
     rg 60 (.move (tp 12)) 3 53 true,
     rg 61 (.indexAddr 32 (tp 59) (tp 60)) 0 53 true,
     rg 62 (.load 22 (tp 61)) 22 53 true,
     rg 63 (.call ⟨.value (tp 54),#[(tp 58),(tp 62)],#[22,22]⟩) 3 53 true,
     rg 64 (.binOp .lss 3 (tp 63) (ki 0) 3) 4 53 true,
     rq 65 (.pick (tp 53) (tp 64) (kb false)) 4])
     (.cond (tp 65) (.skip)
     (.exit 4)))
     (.block 5 (.reg [] [
       rq 66 (.move (tp 12)) 3,
       rq 67 (.binOp .sub 3 (tp 66) (ki 1) 3) 3,
       rq 12 (.assign (tp 67)) 3])))))
   (.seq (.seq (.reg [] [
     rq 68 (.move (tp 11)) 3,
     rq 69 (.move (tp 12)) 3,
     rq 70 (.binOp .gtr 3 (tp 68) (tp 69) 3) 4])
   (.cond (tp 70) (.exit 0)
   (.skip)))
   (.seq (.reg [0, 1, 2, 3, 4, 5, 6, 7, 8, 9, 10, 11, 12, 13, 14, 15] [
     rq 71 (.move (tp 0)) 32,
     rq 72 (.move (tp 11)) 3,
     rq 73 (.move (tp 0)) 32,
     rq 74 (.move (tp 12)) 3,
     rq 75 (.move (tp 0)) 32,
     rq 76 (.move (tp 12)) 3,
     rq 77 (.indexAddr 32 (tp 75) (tp 76)) 0,
     rq 78 (.load 22 (tp 77)) 22,
     rq 79 (.move (tp 0)) 32,
     rq 80 (.move (tp 11)) 3,
     rq 81 (.indexAddr 32 (tp 79) (tp 80)) 0,
     rq 82 (.load 22 (tp 81)) 22,
     rq 83 (.indexAddr 32 (tp 71) (tp 72)) 0,
     rn (.store 22 (tp 83) (tp 78)) 0,
     rq 84 (.indexAddr 32 (tp 73) (tp 74)) 0,
     rn (.store 22 (tp 84) (tp 82)) 0])
   (.seq (.reg [] [
     rq 85 (.move (tp 11)) 3,
     rq 86 (.binOp .add 3 (tp 85) (ki 1) 3) 3,
     rq 11 (.assign (tp 86)) 3])
   (.reg [] [
     rq 87 (.move (tp 12)) 3,
     rq 88 (.binOp .sub 3 (tp 87) (ki 1) 3) 3,
     rq 12 (.assign (tp 88)) 3])))))))))
 (.seq (.reg [] [
   rq 89 (.move (tp 11)) 3,rq 10 (.assign (tp 89)) 3])
 (.ret)))))
def c86:RC:=
 .seq (.reg [] [
  rq 10 (.assign (ki 0)) 3,rq 11 (.assign (kb false)) 4])
 (.seq (.reg [0, 1, 2, 3, 4, 5, 6, 7, 8, 9, 10, 11, 12, 13, 14, 15] [
   rq 14 (.move (tp 0)) 32,rq 15 (.move (tp 1)) 3,rq 16 (.move (tp 0)) 32,rq 17 (.move (tp 3)) 3,rq 18 (.move (tp 0)) 32,rq 19 (.move (tp 3)) 3,rq 20 (.indexAddr 32 (tp 18) (tp 19)) 0,rq 21 (.load 22 (tp 20)) 22,rq 22 (.move (tp 0)) 32,rq 23 (.move (tp 1)) 3,rq 24 (.indexAddr 32 (tp 22) (tp 23)) 0,rq 25 (.load 22 (tp 24)) 22,rq 26 (.indexAddr 32 (tp 14) (tp 15)) 0,rn (.store 22 (tp 26) (tp 21)) 0,rq 27 (.indexAddr 32 (tp 16) (tp 17)) 0,rn (.store 22 (tp 27) (tp 25)) 0])
 (.seq (.reg [] [
   rq 28 (.move (tp 1)) 3,rq 29 (.binOp .add 3 (tp 28) (ki 1) 3) 3,rq 30 (.move (tp 2)) 3,rq 31 (.binOp .sub 3 (tp 30) (ki 1) 3) 3,rq 12 (.assign (tp 29)) 3,rq 13 (.assign (tp 31)) 3])
 (.seq (.block 0 (.loop (.seq (.seq (.reg [0, 1, 2, 3, 4, 5, 6, 7, 8, 9, 10, 11, 12, 13, 14, 15] [
   rq 32 (.move (tp 12)) 3,
   rq 33 (.move (tp 13)) 3,
   rq 34 (.binOp .leq 3 (tp 32) (tp 33) 3) 4,
   rq 35 (.move (tp 34)) 4,
   rg 36 (.move (tp 4)) 65 35 true,
   rg 37 (.move (tp 0)) 32 35 true,
   rg 38 (.move (tp 12)) 3 35 true,
   rg 39 (.indexAddr 32 (tp 37) (tp 38)) 0 35 true,
   rg 40 (.load 22 (tp 39)) 22 35 true,
   rg 41 (.move (tp 0)) 32 35 true,
   rg 42 (.move (tp 1)) 3 35 true,
   rg 43 (.indexAddr 32 (tp 41) (tp 42)) 0 35 true,
   rg 44 (.load 22 (tp 43)) 22 35 true,
   rg 45 (.call ⟨.value (tp 36),#[(tp 40),(tp 44)],#[22,22]⟩) 3 35 true,
   rg 46 (.binOp .lss 3 (tp 45) (ki 0) 3) 4 35 true,
   rq 47 (.pick (tp 35) (tp 46) (kb false)) 4])
   (.cond (tp 47) (.skip)
   (.exit 0)))
   (.block 1 (.reg [] [
     rq 48 (.move (tp 12)) 3,
     rq 49 (.binOp .add 3 (tp 48) (ki 1) 3) 3,
     rq 12 (.assign (tp 49)) 3])))))
 (.seq (.block 2 (.loop (.seq (.seq (.reg [0, 1, 2, 3, 4, 5, 6, 7, 8, 9, 10, 11, 12, 13, 14, 15, 16] [
   rq 50 (.move (tp 12)) 3,
   rq 51 (.move (tp 13)) 3,
   rq 52 (.binOp .leq 3 (tp 50) (tp 51) 3) 4,
   rq 53 (.move (tp 52)) 4,
   rg 54 (.move (tp 4)) 65 53 true,
   rg 55 (.move (tp 0)) 32 53 true,
   rg 56 (.move (tp 13)) 3 53 true,
   rg 57 (.indexAddr 32 (tp 55) (tp 56)) 0 53 true,
   rg 58 (.load 22 (tp 57)) 22 53 true,
   rg 59 (.move (tp 0)) 32 53 true,
   rg 60 (.move (tp 1)) 3 53 true,
   rg 61 (.indexAddr 32 (tp 59) (tp 60)) 0 53 true,
   rg 62 (.load 22 (tp 61)) 22 53 true,
   rg 63 (.call ⟨.value (tp 54),#[(tp 58),(tp 62)],#[22,22]⟩) 3 53 true,
   rg 64 (.binOp .lss 3 (tp 63) (ki 0) 3) 4 53 true,
   rg 65 (.unOp .not 4 (tp 64)) 4 53 true,
   rq 66 (.pick (tp 53) (tp 65) (kb false)) 4])
   (.cond (tp 66) (.skip)
   (.exit 2)))
   (.block 3 (.reg [] [
     rq 67 (.move (tp 13)) 3,
     rq 68 (.binOp .sub 3 (tp 67) (ki 1) 3) 3,
     rq 13 (.assign (tp 68)) 3])))))
 (.seq (.seq (.reg [] [
   rq 69 (.move (tp 12)) 3,rq 70 (.move (tp 13)) 3,rq 71 (.binOp .gtr 3 (tp 69) (tp 70) 3) 4])
 (.cond (tp 71) (.seq (.reg [0, 1, 2, 3, 4, 5, 6, 7, 8, 9, 10, 11, 12, 13, 14, 15] [
   rq 72 (.move (tp 0)) 32,
   rq 73 (.move (tp 13)) 3,
   rq 74 (.move (tp 0)) 32,
   rq 75 (.move (tp 1)) 3,
   rq 76 (.move (tp 0)) 32,
   rq 77 (.move (tp 1)) 3,
   rq 78 (.indexAddr 32 (tp 76) (tp 77)) 0,
   rq 79 (.load 22 (tp 78)) 22,
   rq 80 (.move (tp 0)) 32,
   rq 81 (.move (tp 13)) 3,
   rq 82 (.indexAddr 32 (tp 80) (tp 81)) 0,
   rq 83 (.load 22 (tp 82)) 22,
   rq 84 (.indexAddr 32 (tp 72) (tp 73)) 0,
   rn (.store 22 (tp 84) (tp 79)) 0,
   rq 85 (.indexAddr 32 (tp 74) (tp 75)) 0,
   rn (.store 22 (tp 85) (tp 83)) 0])
  (.seq (.reg [] [
    rq 86 (.move (tp 13)) 3,
    rq 10 (.assign (tp 86)) 3,
    rq 11 (.assign (kb true)) 4])
  (.ret)))
 (.skip)))
 (.seq (.reg [0, 1, 2, 3, 4, 5, 6, 7, 8, 9, 10, 11, 12, 13, 14, 15] [
   rq 87 (.move (tp 0)) 32,rq 88 (.move (tp 12)) 3,rq 89 (.move (tp 0)) 32,rq 90 (.move (tp 13)) 3,rq 91 (.move (tp 0)) 32,rq 92 (.move (tp 13)) 3,rq 93 (.indexAddr 32 (tp 91) (tp 92)) 0,rq 94 (.load 22 (tp 93)) 22,rq 95 (.move (tp 0)) 32,rq 96 (.move (tp 12)) 3,rq 97 (.indexAddr 32 (tp 95) (tp 96)) 0,rq 98 (.load 22 (tp 97)) 22,rq 99 (.indexAddr 32 (tp 87) (tp 88)) 0,rn (.store 22 (tp 99) (tp 94)) 0,rq 100 (.indexAddr 32 (tp 89) (tp 90)) 0,rn (.store 22 (tp 100) (tp 98)) 0])
 (.seq (.reg [] [
   rq 101 (.move (tp 12)) 3,rq 102 (.binOp .add 3 (tp 101) (ki 1) 3) 3,rq 12 (.assign (tp 102)) 3])
 (.seq (.reg [] [
   rq 103 (.move (tp 13)) 3,rq 104 (.binOp .sub 3 (tp 103) (ki 1) 3) 3,rq 13 (.assign (tp 104)) 3])
 (.seq (.block 4 (.loop (.block 5 (.seq (.block 6 (.loop (.seq (.seq (.reg [0, 1, 2, 3, 4, 5, 6, 7, 8, 9, 10, 11, 12, 13, 14, 15] [
        rq 105 (.move (tp 12)) 3,
        rq 106 (.move (tp 13)) 3,
        rq 107 (.binOp .leq 3 (tp 105) (tp 106) 3) 4,
        rq 108 (.move (tp 107)) 4,
        rg 109 (.move (tp 4)) 65 108 true,
        rg 110 (.move (tp 0)) 32 108 true,
        rg 111 (.move (tp 12)) 3 108 true,
        rg 112 (.indexAddr 32 (tp 110) (tp 111)) 0 108 true,
        rg 113 (.load 22 (tp 112)) 22 108 true,
        rg 114 (.move (tp 0)) 32 108 true,
        rg 115 (.move (tp 1)) 3 108 true,
        rg 116 (.indexAddr 32 (tp 114) (tp 115)) 0 108 true,
        rg 117 (.load 22 (tp 116)) 22 108 true,
        rg 118 (.call ⟨.value (tp 109),#[(tp 113),(tp 117)],#[22,22]⟩) 3 108 true,
        rg 119 (.binOp .lss 3 (tp 118) (ki 0) 3) 4 108 true,
        rq 120 (.pick (tp 108) (tp 119) (kb false)) 4])
   (.cond (tp 120) (.skip)
   (.exit 6)))
   (.block 7 (.reg [] [
     rq 121 (.move (tp 12)) 3,
     rq 122 (.binOp .add 3 (tp 121) (ki 1) 3) 3,
     rq 12 (.assign (tp 122)) 3])))))
   (.seq (.block 8 (.loop (.seq (.seq (.reg [0, 1, 2, 3, 4, 5, 6, 7, 8, 9, 10, 11, 12, 13, 14, 15, 16] [
     rq 123 (.move (tp 12)) 3,
     rq 124 (.move (tp 13)) 3,
     rq 125 (.binOp .leq 3 (tp 123) (tp 124) 3) 4,
     rq 126 (.move (tp 125)) 4,
     rg 127 (.move (tp 4)) 65 126 true,
     rg 128 (.move (tp 0)) 32 126 true,
     rg 129 (.move (tp 13)) 3 126 true,
     rg 130 (.indexAddr 32 (tp 128) (tp 129)) 0 126 true,
     rg 131 (.load 22 (tp 130)) 22 126 true,
     rg 132 (.move (tp 0)) 32 126 true,
     rg 133 (.move (tp 1)) 3 126 true,
     rg 134 (.indexAddr 32 (tp 132) (tp 133)) 0 126 true,
     rg 135 (.load 22 (tp 134)) 22 126 true,
     rg 136 (.call ⟨.value (tp 127),#[(tp 131),(tp 135)],#[22,22]⟩) 3 126 true,
     rg 137 (.binOp .lss 3 (tp 136) (ki 0) 3) 4 126 true,
     rg 138 (.unOp .not 4 (tp 137)) 4 126 true,
     rq 139 (.pick (tp 126) (tp 138) (kb false)) 4])
     (.cond (tp 139) (.skip)
     (.exit 8)))
     (.block 9 (.reg [] [
       rq 140 (.move (tp 13)) 3,
       rq 141 (.binOp .sub 3 (tp 140) (ki 1) 3) 3,
       rq 13 (.assign (tp 141)) 3])))))
   (.seq (.seq (.reg [] [
     rq 142 (.move (tp 12)) 3,
     rq 143 (.move (tp 13)) 3,
     rq 144 (.binOp .gtr 3 (tp 142) (tp 143) 3) 4])
   (.cond (tp 144) (.exit 4)
   (.skip)))
   (.seq (.reg [0, 1, 2, 3, 4, 5, 6, 7, 8, 9, 10, 11, 12, 13, 14, 15] [
     rq 145 (.move (tp 0)) 32,
     rq 146 (.move (tp 12)) 3,
     rq 147 (.move (tp 0)) 32,
     rq 148 (.move (tp 13)) 3,
     rq 149 (.move (tp 0)) 32,
     rq 150 (.move (tp 13)) 3,
     rq 151 (.indexAddr 32 (tp 149) (tp 150)) 0,
     rq 152 (.load 22 (tp 151)) 22,
     rq 153 (.move (tp 0)) 32,
     rq 154 (.move (tp 12)) 3,
     rq 155 (.indexAddr 32 (tp 153) (tp 154)) 0,
     rq 156 (.load 22 (tp 155)) 22,
     rq 157 (.indexAddr 32 (tp 145) (tp 146)) 0,
     rn (.store 22 (tp 157) (tp 152)) 0,
     rq 158 (.indexAddr 32 (tp 147) (tp 148)) 0,
     rn (.store 22 (tp 158) (tp 156)) 0])
   (.seq (.reg [] [
     rq 159 (.move (tp 12)) 3,
     rq 160 (.binOp .add 3 (tp 159) (ki 1) 3) 3,
     rq 12 (.assign (tp 160)) 3])
   (.reg [] [
     rq 161 (.move (tp 13)) 3,
     rq 162 (.binOp .sub 3 (tp 161) (ki 1) 3) 3,
     rq 13 (.assign (tp 162)) 3])))))))))
 (.seq (.reg [0, 1, 2, 3, 4, 5, 6, 7, 8, 9, 10, 11, 12, 13, 14, 15] [
   rq 163 (.move (tp 0)) 32,rq 164 (.move (tp 13)) 3,rq 165 (.move (tp 0)) 32,rq 166 (.move (tp 1)) 3,rq 167 (.move (tp 0)) 32,rq 168 (.move (tp 1)) 3,rq 169 (.indexAddr 32 (tp 167) (tp 168)) 0,rq 170 (.load 22 (tp 169)) 22,rq 171 (.move (tp 0)) 32,rq 172 (.move (tp 13)) 3,rq 173 (.indexAddr 32 (tp 171) (tp 172)) 0,rq 174 (.load 22 (tp 173)) 22,rq 175 (.indexAddr 32 (tp 163) (tp 164)) 0,rn (.store 22 (tp 175) (tp 170)) 0,rq 176 (.indexAddr 32 (tp 165) (tp 166)) 0,rn (.store 22 (tp 176) (tp 174)) 0])
 (.seq (.reg [] [
   rq 177 (.move (tp 13)) 3,rq 10 (.assign (tp 177)) 3,rq 11 (.assign (kb false)) 4])
 (.ret))))))))))))
def c87:RC:=
 .seq (.reg [] [
  rq 12 (.move (tp 1)) 3,rq 10 (.assign (tp 12)) 3])
 (.block 0 (.loop (.block 1 (.seq (.reg [] [
   rq 13 (.move (tp 10)) 3,
   rq 14 (.binOp .mul 3 (ki 2) (tp 13) 3) 3,
   rq 15 (.binOp .add 3 (tp 14) (ki 1) 3) 3,
   rq 11 (.assign (tp 15)) 3])
   (.seq (.seq (.reg [] [
     rq 16 (.move (tp 11)) 3,
     rq 17 (.move (tp 2)) 3,
     rq 18 (.binOp .geq 3 (tp 16) (tp 17) 3) 4])
   (.cond (tp 18) (.exit 0)
   (.skip)))
   (.seq (.seq (.reg [0, 1, 2, 3, 4, 5, 6, 7, 8, 9, 10, 11, 12, 13, 14, 15, 16, 17, 18, 19, 20, 21] [
     rq 19 (.move (tp 11)) 3,
     rq 20 (.binOp .add 3 (tp 19) (ki 1) 3) 3,
     rq 21 (.move (tp 2)) 3,
     rq 22 (.binOp .lss 3 (tp 20) (tp 21) 3) 4,
     rq 23 (.move (tp 22)) 4,
     rg 24 (.move (tp 4)) 66 23 true,
     rg 25 (.move (tp 0)) 28 23 true,
     rg 26 (.move (tp 3)) 3 23 true,
     rg 27 (.move (tp 11)) 3 23 true,
     rg 28 (.binOp .add 3 (tp 26) (tp 27) 3) 3 23 true,
     rg 29 (.indexAddr 28 (tp 25) (tp 28)) 0 23 true,
     rg 30 (.load 32 (tp 29)) 32 23 true,
     rg 31 (.move (tp 0)) 28 23 true,
     rg 32 (.move (tp 3)) 3 23 true,
     rg 33 (.move (tp 11)) 3 23 true,
     rg 34 (.binOp .add 3 (tp 32) (tp 33) 3) 3 23 true,
     rg 35 (.binOp .add 3 (tp 34) (ki 1) 3) 3 23 true,
     rg 36 (.indexAddr 28 (tp 31) (tp 35)) 0 23 true,
     rg 37 (.load 32 (tp 36)) 32 23 true,
     rg 38 (.call ⟨.value (tp 24),#[(tp 30),(tp 37)],#[32,32]⟩) 3 23 true,
     rg 39 (.binOp .lss 3 (tp 38) (ki 0) 3) 4 23 true,
     rq 40 (.pick (tp 23) (tp 39) (kb false)) 4])
   (.cond (tp 40) (.reg [] [
     rq 41 (.move (tp 11)) 3,
     rq 42 (.binOp .add 3 (tp 41) (ki 1) 3) 3,
     rq 11 (.assign (tp 42)) 3])
   (.skip)))
   (.seq (.seq (.reg [0, 1, 2, 3, 4, 5, 6, 7, 8, 9, 10, 11, 12, 13, 14, 15] [
     rq 43 (.move (tp 4)) 66,
     rq 44 (.move (tp 0)) 28,
     rq 45 (.move (tp 3)) 3,
     rq 46 (.move (tp 10)) 3,
     rq 47 (.binOp .add 3 (tp 45) (tp 46) 3) 3,
     rq 48 (.indexAddr 28 (tp 44) (tp 47)) 0,
     rq 49 (.load 32 (tp 48)) 32,
     rq 50 (.move (tp 0)) 28,
     rq 51 (.move (tp 3)) 3,
     rq 52 (.move (tp 11)) 3,
     rq 53 (.binOp .add 3 (tp 51) (tp 52) 3) 3,
     rq 54 (.indexAddr 28 (tp 50) (tp 53)) 0,
     rq 55 (.load 32 (tp 54)) 32,
     rq 56 (.call ⟨.value (tp 43),#[(tp 49),(tp 55)],#[32,32]⟩) 3,
     rq 57 (.binOp .lss 3 (tp 56) (ki 0) 3) 4,
     rq 58 (.unOp .not 4 (tp 57)) 4])
   (.cond (tp 58) (.ret)
   (.skip)))
   (.seq (.reg [0, 1, 2, 3, 4, 5, 6, 7, 8, 9, 10, 11, 12, 13, 14, 15, 16, 17, 18, 19, 20, 21, 22, 23] [
     rq 59 (.move (tp 0)) 28,
     rq 60 (.move (tp 3)) 3,
     rq 61 (.move (tp 10)) 3,
     rq 62 (.binOp .add 3 (tp 60) (tp 61) 3) 3,
     rq 63 (.move (tp 0)) 28,
     rq 64 (.move (tp 3)) 3,
     rq 65 (.move (tp 11)) 3,
     rq 66 (.binOp .add 3 (tp 64) (tp 65) 3) 3,
     rq 67 (.move (tp 0)) 28,
     rq 68 (.move (tp 3)) 3,
     rq 69 (.move (tp 11)) 3,
     rq 70 (.binOp .add 3 (tp 68) (tp 69) 3) 3,
     rq 71 (.indexAddr 28 (tp 67) (tp 70)) 0,
     rq 72 (.load 32 (tp 71)) 32,
     rq 73 (.move (tp 0)) 28,
     rq 74 (.move (tp 3)) 3,
     rq 75 (.move (tp 10)) 3,
     rq 76 (.binOp .add 3 (tp 74) (tp 75) 3) 3,
     rq 77 (.indexAddr 28 (tp 73) (tp 76)) 0,
     rq 78 (.load 32 (tp 77)) 32,
     rq 79 (.indexAddr 28 (tp 59) (tp 62)) 0,
     rn (.store 32 (tp 79) (tp 72)) 0,
     rq 80 (.indexAddr 28 (tp 63) (tp 66)) 0,
     rn (.store 32 (tp 80) (tp 78)) 0])
   (.reg [] [
     rq 81 (.move (tp 11)) 3,
     rq 10 (.assign (tp 81)) 3])))))))))
def c88:RC:=
 .seq (.reg [] [
  rq 2 (.assign (.const (.int .u64 0))) 81])
 (.seq (.reg [] [
   rq 3 (.move (tp 0)) 3,rq 4 (.convert 3 81 (tp 3)) 81,rq 5 (cf 61 #[(tp 4)] #[81]) 3,rq 6 (.binOp .shl 81 (.const (.int .u64 1)) (tp 5) 3) 81,rq 2 (.assign (tp 6)) 81])
 (.ret))
def c89:RC:=
 .seq (.reg [] [
  rq 2 (.assign (.const (.int .u64 0))) 97])
 (.seq (.reg [0, 1, 2, 3, 4, 5, 6, 7, 8, 9] [
   rq 3 (.move (tp 0)) 117,rq 4 (.nilCheck (tp 3)) 0,rq 5 (.load 105 (tp 4)) 105,rq 6 (.move (tp 0)) 117,rq 7 (.nilCheck (tp 6)) 0,rq 8 (.load 105 (tp 7)) 105,rq 9 (.binOp .shl 105 (tp 8) (.const (.int .u64 13)) 81) 105,rq 10 (.binOp .xor 105 (tp 5) (tp 9) 105) 105,rq 11 (.nilCheck (tp 3)) 0,rn (.store 105 (tp 11) (tp 10)) 0])
 (.seq (.reg [0, 1, 2, 3, 4, 5, 6, 7, 8, 9] [
   rq 12 (.move (tp 0)) 117,rq 13 (.nilCheck (tp 12)) 0,rq 14 (.load 105 (tp 13)) 105,rq 15 (.move (tp 0)) 117,rq 16 (.nilCheck (tp 15)) 0,rq 17 (.load 105 (tp 16)) 105,rq 18 (.binOp .shr 105 (tp 17) (.const (.int .u64 7)) 81) 105,rq 19 (.binOp .xor 105 (tp 14) (tp 18) 105) 105,rq 20 (.nilCheck (tp 12)) 0,rn (.store 105 (tp 20) (tp 19)) 0])
 (.seq (.reg [0, 1, 2, 3, 4, 5, 6, 7, 8, 9] [
   rq 21 (.move (tp 0)) 117,rq 22 (.nilCheck (tp 21)) 0,rq 23 (.load 105 (tp 22)) 105,rq 24 (.move (tp 0)) 117,rq 25 (.nilCheck (tp 24)) 0,rq 26 (.load 105 (tp 25)) 105,rq 27 (.binOp .shl 105 (tp 26) (.const (.int .u64 17)) 81) 105,rq 28 (.binOp .xor 105 (tp 23) (tp 27) 105) 105,rq 29 (.nilCheck (tp 21)) 0,rn (.store 105 (tp 29) (tp 28)) 0])
 (.seq (.reg [] [
   rq 30 (.move (tp 0)) 117,rq 31 (.nilCheck (tp 30)) 0,rq 32 (.load 105 (tp 31)) 105,rq 2 (.assign (tp 32)) 97])
 (.ret)))))
def c90:RC:=
 .seq (.reg [] [
  rq 8 (.assign (ki 0)) 3])
 (.seq (.reg [] [
   rq 9 (.move (tp 0)) 28,rq 10 (.move (tp 1)) 3,rq 11 (.binOp .sub 3 (tp 10) (ki 1) 3) 3,rq 12 (.move (tp 1)) 3,rq 13 (.move (tp 1)) 3,rq 14 (.binOp .add 3 (tp 13) (ki 1) 3) 3,rq 15 (.move (tp 2)) 109,rq 16 (.move (tp 3)) 66,rq 17 (cf 91 #[(tp 9),(tp 11),(tp 12),(tp 14),(tp 15),(tp 16)] #[28,3,3,3,109,66]) 3,rq 8 (.assign (tp 17)) 3])
 (.ret))
def c91:RC:=
 .seq (.reg [] [
  rq 12 (.assign (ki 0)) 3])
 (.seq (.reg [] [
   rq 14 (.move (tp 0)) 28,rq 15 (.move (tp 1)) 3,rq 16 (.move (tp 2)) 3,rq 17 (.move (tp 4)) 109,rq 18 (.move (tp 5)) 66,rq 19 (cf 97 #[(tp 14),(tp 15),(tp 16),(tp 17),(tp 18)] #[28,3,3,109,66]) 58,rq 13 (.move (tp 19)) 58,rq 20 (.extract (tp 13) 0) 3,rq 21 (.extract (tp 13) 1) 3,rq 1 (.assign (tp 20)) 3,rq 2 (.assign (tp 21)) 3])
 (.seq (.reg [] [
   rq 23 (.move (tp 0)) 28,rq 24 (.move (tp 2)) 3,rq 25 (.move (tp 3)) 3,rq 26 (.move (tp 4)) 109,rq 27 (.move (tp 5)) 66,rq 28 (cf 97 #[(tp 23),(tp 24),(tp 25),(tp 26),(tp 27)] #[28,3,3,109,66]) 58,rq 22 (.move (tp 28)) 58,rq 29 (.extract (tp 22) 0) 3,rq 30 (.extract (tp 22) 1) 3,rq 2 (.assign (tp 29)) 3,rq 3 (.assign (tp 30)) 3])
 (.seq (.reg [] [
   rq 32 (.move (tp 0)) 28,rq 33 (.move (tp 1)) 3,rq 34 (.move (tp 2)) 3,rq 35 (.move (tp 4)) 109,rq 36 (.move (tp 5)) 66,rq 37 (cf 97 #[(tp 32),(tp 33),(tp 34),(tp 35),(tp 36)] #[28,3,3,109,66]) 58,rq 31 (.move (tp 37)) 58,rq 38 (.extract (tp 31) 0) 3,rq 39 (.extract (tp 31) 1) 3,rq 1 (.assign (tp 38)) 3,rq 2 (.assign (tp 39)) 3])
 (.seq (.reg [] [
   rq 40 (.move (tp 2)) 3,rq 12 (.assign (tp 40)) 3])
 (.ret)))))
def c92:RC:=
 .seq (.reg [] [
  rq 4 (.assign (.const (.int .u32 0))) 95,rq 5 (.assign (.const (.int .u32 0))) 95])
 (.seq (.reg [] [
   rq 7 (.move (tp 0)) 95,rq 8 (.convert 95 97 (tp 7)) 97,rq 9 (.move (tp 1)) 95,rq 10 (.convert 95 97 (tp 9)) 97,rq 11 (.binOp .mul 97 (tp 8) (tp 10) 97) 97,rq 6 (.assign (tp 11)) 97])
 (.seq (.reg [] [
   rq 12 (.move (tp 6)) 97,rq 13 (.binOp .shr 97 (tp 12) (.const (.int .u64 32)) 81) 97,rq 14 (.convert 97 95 (tp 13)) 95,rq 15 (.move (tp 6)) 97,rq 16 (.convert 97 95 (tp 15)) 95,rq 4 (.assign (tp 14)) 95,rq 5 (.assign (tp 16)) 95])
 (.ret)))
def c93:RC:=
 .seq (.reg [] [
  rq 4 (.assign (.const (.int .u64 0))) 97,rq 5 (.assign (.const (.int .u64 0))) 97])
 (.seq (.reg [] [
   rq 14 (.move (tp 0)) 97,rq 15 (.binOp .and 97 (tp 14) (.const (.int .u64 4294967295)) 97) 97,rq 6 (.assign (tp 15)) 97])
 (.seq (.reg [] [
   rq 16 (.move (tp 0)) 97,rq 17 (.binOp .shr 97 (tp 16) (.const (.int .u64 32)) 81) 97,rq 7 (.assign (tp 17)) 97])
 (.seq (.reg [] [
   rq 18 (.move (tp 1)) 97,rq 19 (.binOp .and 97 (tp 18) (.const (.int .u64 4294967295)) 97) 97,rq 8 (.assign (tp 19)) 97])
 (.seq (.reg [] [
   rq 20 (.move (tp 1)) 97,rq 21 (.binOp .shr 97 (tp 20) (.const (.int .u64 32)) 81) 97,rq 9 (.assign (tp 21)) 97])
 (.seq (.reg [] [
   rq 22 (.move (tp 6)) 97,rq 23 (.move (tp 8)) 97,rq 24 (.binOp .mul 97 (tp 22) (tp 23) 97) 97,rq 10 (.assign (tp 24)) 97])
 (.seq (.reg [] [
   rq 25 (.move (tp 7)) 97,rq 26 (.move (tp 8)) 97,rq 27 (.binOp .mul 97 (tp 25) (tp 26) 97) 97,rq 28 (.move (tp 10)) 97,rq 29 (.binOp .shr 97 (tp 28) (.const (.int .u64 32)) 81) 97,rq 30 (.binOp .add 97 (tp 27) (tp 29) 97) 97,rq 11 (.assign (tp 30)) 97])
 (.seq (.reg [] [
   rq 31 (.move (tp 11)) 97,rq 32 (.binOp .and 97 (tp 31) (.const (.int .u64 4294967295)) 97) 97,rq 12 (.assign (tp 32)) 97])
 (.seq (.reg [] [
   rq 33 (.move (tp 11)) 97,rq 34 (.binOp .shr 97 (tp 33) (.const (.int .u64 32)) 81) 97,rq 13 (.assign (tp 34)) 97])
 (.seq (.reg [] [
   rq 35 (.move (tp 12)) 97,rq 36 (.move (tp 6)) 97,rq 37 (.move (tp 9)) 97,rq 38 (.binOp .mul 97 (tp 36) (tp 37) 97) 97,rq 39 (.binOp .add 97 (tp 35) (tp 38) 97) 97,rq 12 (.assign (tp 39)) 97])
 (.seq (.reg [] [
   rq 40 (.move (tp 7)) 97,rq 41 (.move (tp 9)) 97,rq 42 (.binOp .mul 97 (tp 40) (tp 41) 97) 97,rq 43 (.move (tp 13)) 97,rq 44 (.binOp .add 97 (tp 42) (tp 43) 97) 97,rq 45 (.move (tp 12)) 97,rq 46 (.binOp .shr 97 (tp 45) (.const (.int .u64 32)) 81) 97,rq 47 (.binOp .add 97 (tp 44) (tp 46) 97) 97,rq 4 (.assign (tp 47)) 97])
 (.seq (.reg [] [
   rq 48 (.move (tp 0)) 97,rq 49 (.move (tp 1)) 97,rq 50 (.binOp .mul 97 (tp 48) (tp 49) 97) 97,rq 5 (.assign (tp 50)) 97])
 (.ret))))))))))))
def c94:RC:=
 .seq (.reg [] [
  rq 12 (.move (tp 1)) 3,rq 10 (.assign (tp 12)) 3])
 (.block 0 (.loop (.block 1 (.seq (.reg [] [
   rq 13 (.move (tp 10)) 3,
   rq 14 (.binOp .mul 3 (ki 2) (tp 13) 3) 3,
   rq 15 (.binOp .add 3 (tp 14) (ki 1) 3) 3,
   rq 11 (.assign (tp 15)) 3])
   (.seq (.seq (.reg [] [
     rq 16 (.move (tp 11)) 3,
     rq 17 (.move (tp 2)) 3,
     rq 18 (.binOp .geq 3 (tp 16) (tp 17) 3) 4])
   (.cond (tp 18) (.exit 0)
   (.skip)))
   (.seq (.seq (.reg [0, 1, 2, 3, 4, 5, 6, 7, 8, 9, 10, 11, 12, 13, 14, 15, 16, 17, 18, 19, 20, 21] [
     rq 19 (.move (tp 11)) 3,
     rq 20 (.binOp .add 3 (tp 19) (ki 1) 3) 3,
     rq 21 (.move (tp 2)) 3,
     rq 22 (.binOp .lss 3 (tp 20) (tp 21) 3) 4,
     rq 23 (.move (tp 22)) 4,
     rg 24 (.move (tp 4)) 65 23 true,
     rg 25 (.move (tp 0)) 32 23 true,
     rg 26 (.move (tp 3)) 3 23 true,
     rg 27 (.move (tp 11)) 3 23 true,
     rg 28 (.binOp .add 3 (tp 26) (tp 27) 3) 3 23 true,
     rg 29 (.indexAddr 32 (tp 25) (tp 28)) 0 23 true,
     rg 30 (.load 22 (tp 29)) 22 23 true,
     rg 31 (.move (tp 0)) 32 23 true,
     rg 32 (.move (tp 3)) 3 23 true,
     rg 33 (.move (tp 11)) 3 23 true,
     rg 34 (.binOp .add 3 (tp 32) (tp 33) 3) 3 23 true,
     rg 35 (.binOp .add 3 (tp 34) (ki 1) 3) 3 23 true,
     rg 36 (.indexAddr 32 (tp 31) (tp 35)) 0 23 true,
     rg 37 (.load 22 (tp 36)) 22 23 true,
     rg 38 (.call ⟨.value (tp 24),#[(tp 30),(tp 37)],#[22,22]⟩) 3 23 true,
     rg 39 (.binOp .lss 3 (tp 38) (ki 0) 3) 4 23 true,
     rq 40 (.pick (tp 23) (tp 39) (kb false)) 4])
   (.cond (tp 40) (.reg [] [
     rq 41 (.move (tp 11)) 3,
     rq 42 (.binOp .add 3 (tp 41) (ki 1) 3) 3,
     rq 11 (.assign (tp 42)) 3])
   (.skip)))
   (.seq (.seq (.reg [0, 1, 2, 3, 4, 5, 6, 7, 8, 9, 10, 11, 12, 13, 14, 15] [
     rq 43 (.move (tp 4)) 65,
     rq 44 (.move (tp 0)) 32,
     rq 45 (.move (tp 3)) 3,
     rq 46 (.move (tp 10)) 3,
     rq 47 (.binOp .add 3 (tp 45) (tp 46) 3) 3,
     rq 48 (.indexAddr 32 (tp 44) (tp 47)) 0,
     rq 49 (.load 22 (tp 48)) 22,
     rq 50 (.move (tp 0)) 32,
     rq 51 (.move (tp 3)) 3,
     rq 52 (.move (tp 11)) 3,
     rq 53 (.binOp .add 3 (tp 51) (tp 52) 3) 3,
     rq 54 (.indexAddr 32 (tp 50) (tp 53)) 0,
     rq 55 (.load 22 (tp 54)) 22,
     rq 56 (.call ⟨.value (tp 43),#[(tp 49),(tp 55)],#[22,22]⟩) 3,
     rq 57 (.binOp .lss 3 (tp 56) (ki 0) 3) 4,
     rq 58 (.unOp .not 4 (tp 57)) 4])
   (.cond (tp 58) (.ret)
   (.skip)))
   (.seq (.reg [0, 1, 2, 3, 4, 5, 6, 7, 8, 9, 10, 11, 12, 13, 14, 15, 16, 17, 18, 19, 20, 21, 22, 23] [
     rq 59 (.move (tp 0)) 32,
     rq 60 (.move (tp 3)) 3,
     rq 61 (.move (tp 10)) 3,
     rq 62 (.binOp .add 3 (tp 60) (tp 61) 3) 3,
     rq 63 (.move (tp 0)) 32,
     rq 64 (.move (tp 3)) 3,
     rq 65 (.move (tp 11)) 3,
     rq 66 (.binOp .add 3 (tp 64) (tp 65) 3) 3,
     rq 67 (.move (tp 0)) 32,
     rq 68 (.move (tp 3)) 3,
     rq 69 (.move (tp 11)) 3,
     rq 70 (.binOp .add 3 (tp 68) (tp 69) 3) 3,
     rq 71 (.indexAddr 32 (tp 67) (tp 70)) 0,
     rq 72 (.load 22 (tp 71)) 22,
     rq 73 (.move (tp 0)) 32,
     rq 74 (.move (tp 3)) 3,
     rq 75 (.move (tp 10)) 3,
     rq 76 (.binOp .add 3 (tp 74) (tp 75) 3) 3,
     rq 77 (.indexAddr 32 (tp 73) (tp 76)) 0,
     rq 78 (.load 22 (tp 77)) 22,
     rq 79 (.indexAddr 32 (tp 59) (tp 62)) 0,
     rn (.store 22 (tp 79) (tp 72)) 0,
     rq 80 (.indexAddr 32 (tp 63) (tp 66)) 0,
     rn (.store 22 (tp 80) (tp 78)) 0])
   (.reg [] [
     rq 81 (.move (tp 11)) 3,
     rq 10 (.assign (tp 81)) 3])))))))))
def c95:RC:=
 .seq (.reg [] [
  rq 8 (.assign (ki 0)) 3])
 (.seq (.reg [] [
   rq 9 (.move (tp 0)) 32,rq 10 (.move (tp 1)) 3,rq 11 (.binOp .sub 3 (tp 10) (ki 1) 3) 3,rq 12 (.move (tp 1)) 3,rq 13 (.move (tp 1)) 3,rq 14 (.binOp .add 3 (tp 13) (ki 1) 3) 3,rq 15 (.move (tp 2)) 109,rq 16 (.move (tp 3)) 65,rq 17 (cf 96 #[(tp 9),(tp 11),(tp 12),(tp 14),(tp 15),(tp 16)] #[32,3,3,3,109,65]) 3,rq 8 (.assign (tp 17)) 3])
 (.ret))
def c96:RC:=
 .seq (.reg [] [
  rq 12 (.assign (ki 0)) 3])
 (.seq (.reg [] [
   rq 14 (.move (tp 0)) 32,rq 15 (.move (tp 1)) 3,rq 16 (.move (tp 2)) 3,rq 17 (.move (tp 4)) 109,rq 18 (.move (tp 5)) 65,rq 19 (cf 98 #[(tp 14),(tp 15),(tp 16),(tp 17),(tp 18)] #[32,3,3,109,65]) 58,rq 13 (.move (tp 19)) 58,rq 20 (.extract (tp 13) 0) 3,rq 21 (.extract (tp 13) 1) 3,rq 1 (.assign (tp 20)) 3,rq 2 (.assign (tp 21)) 3])
 (.seq (.reg [] [
   rq 23 (.move (tp 0)) 32,rq 24 (.move (tp 2)) 3,rq 25 (.move (tp 3)) 3,rq 26 (.move (tp 4)) 109,rq 27 (.move (tp 5)) 65,rq 28 (cf 98 #[(tp 23),(tp 24),(tp 25),(tp 26),(tp 27)] #[32,3,3,109,65]) 58,rq 22 (.move (tp 28)) 58,rq 29 (.extract (tp 22) 0) 3,rq 30 (.extract (tp 22) 1) 3,rq 2 (.assign (tp 29)) 3,rq 3 (.assign (tp 30)) 3])
 (.seq (.reg [] [
   rq 32 (.move (tp 0)) 32,rq 33 (.move (tp 1)) 3,rq 34 (.move (tp 2)) 3,rq 35 (.move (tp 4)) 109,rq 36 (.move (tp 5)) 65,rq 37 (cf 98 #[(tp 32),(tp 33),(tp 34),(tp 35),(tp 36)] #[32,3,3,109,65]) 58,rq 31 (.move (tp 37)) 58,rq 38 (.extract (tp 31) 0) 3,rq 39 (.extract (tp 31) 1) 3,rq 1 (.assign (tp 38)) 3,rq 2 (.assign (tp 39)) 3])
 (.seq (.reg [] [
   rq 40 (.move (tp 2)) 3,rq 12 (.assign (tp 40)) 3])
 (.ret)))))
def c97:RC:=
 .seq (.reg [] [
  rq 10 (.assign (ki 0)) 3,rq 11 (.assign (ki 0)) 3])
 (.seq (.seq (.reg [0, 1, 2, 3, 4, 5, 6, 7, 8, 9, 10] [
   rq 12 (.move (tp 4)) 66,rq 13 (.move (tp 0)) 28,rq 14 (.move (tp 2)) 3,rq 15 (.indexAddr 28 (tp 13) (tp 14)) 0,rq 16 (.load 32 (tp 15)) 32,rq 17 (.move (tp 0)) 28,rq 18 (.move (tp 1)) 3,rq 19 (.indexAddr 28 (tp 17) (tp 18)) 0,rq 20 (.load 32 (tp 19)) 32,rq 21 (.call ⟨.value (tp 12),#[(tp 16),(tp 20)],#[32,32]⟩) 3,rq 22 (.binOp .lss 3 (tp 21) (ki 0) 3) 4])
 (.cond (tp 22) (.seq (.reg [] [
   rq 23 (.move (tp 3)) 109,
   rq 24 (.nilCheck (tp 23)) 0,
   rq 25 (.load 3 (tp 24)) 3,
   rq 26 (.binOp .add 3 (tp 25) (ki 1) 3) 3,
   rq 27 (.nilCheck (tp 23)) 0,
   rn (.store 3 (tp 27) (tp 26)) 0])
  (.seq (.reg [] [
    rq 28 (.move (tp 2)) 3,
    rq 29 (.move (tp 1)) 3,
    rq 10 (.assign (tp 28)) 3,
    rq 11 (.assign (tp 29)) 3])
  (.ret)))
 (.skip)))
 (.seq (.reg [] [
   rq 30 (.move (tp 1)) 3,rq 31 (.move (tp 2)) 3,rq 10 (.assign (tp 30)) 3,rq 11 (.assign (tp 31)) 3])
 (.ret)))
def c98:RC:=
 .seq (.reg [] [
  rq 10 (.assign (ki 0)) 3,rq 11 (.assign (ki 0)) 3])
 (.seq (.seq (.reg [0, 1, 2, 3, 4, 5, 6, 7, 8, 9, 10] [
   rq 12 (.move (tp 4)) 65,rq 13 (.move (tp 0)) 32,rq 14 (.move (tp 2)) 3,rq 15 (.indexAddr 32 (tp 13) (tp 14)) 0,rq 16 (.load 22 (tp 15)) 22,rq 17 (.move (tp 0)) 32,rq 18 (.move (tp 1)) 3,rq 19 (.indexAddr 32 (tp 17) (tp 18)) 0,rq 20 (.load 22 (tp 19)) 22,rq 21 (.call ⟨.value (tp 12),#[(tp 16),(tp 20)],#[22,22]⟩) 3,rq 22 (.binOp .lss 3 (tp 21) (ki 0) 3) 4])
 (.cond (tp 22) (.seq (.reg [] [
   rq 23 (.move (tp 3)) 109,
   rq 24 (.nilCheck (tp 23)) 0,
   rq 25 (.load 3 (tp 24)) 3,
   rq 26 (.binOp .add 3 (tp 25) (ki 1) 3) 3,
   rq 27 (.nilCheck (tp 23)) 0,
   rn (.store 3 (tp 27) (tp 26)) 0])
  (.seq (.reg [] [
    rq 28 (.move (tp 2)) 3,
    rq 29 (.move (tp 1)) 3,
    rq 10 (.assign (tp 28)) 3,
    rq 11 (.assign (tp 29)) 3])
  (.ret)))
 (.skip)))
 (.seq (.reg [] [
   rq 30 (.move (tp 1)) 3,rq 31 (.move (tp 2)) 3,rq 10 (.assign (tp 30)) 3,rq 11 (.assign (tp 31)) 3])
 (.ret)))
def ti3:TI:=⟨.int .i64,1,8,(some (.int .i64 0)),false⟩
def ti4:TI:=⟨.bool,1,1,(some (.bool false)),false⟩
def ti5:TI:=⟨.int .u8,1,1,(some (.int .u8 0)),false⟩
def ti9:TI:=⟨.string,1,16,(some (.string ⟨#[]⟩)),false⟩
def ti22:TI:=⟨.slice 3,1,24,(some (.slice none 0 0)),false⟩
def ti25:TI:=⟨.int .i64,1,8,(some (.int .i64 0)),false⟩
def ti28:TI:=⟨.slice 32,1,24,(some (.slice none 0 0)),false⟩
def ti32:TI:=⟨.slice 22,1,24,(some (.slice none 0 0)),false⟩
def ti48:TI:=⟨.map 51 4,1,8,(some (.map none)),false⟩
def ti49:TI:=⟨.slice 51,1,24,(some (.slice none 0 0)),false⟩
def ti51:TI:=⟨.array 22 3,22,176,(some (.agg #[(.int .i64 0),(.int .i64 0),(.int .i64 0),(.int .i64 0),(.int .i64 0),(.int .i64 0),(.int .i64 0),(.int .i64 0),(.int .i64 0),(.int .i64 0),(.int .i64 0),(.int .i64 0),(.int .i64 0),(.int .i64 0),(.int .i64 0),(.int .i64 0),(.int .i64 0),(.int .i64 0),(.int .i64 0),(.int .i64 0),(.int .i64 0),(.int .i64 0)])),true⟩
def ti60:TI:=⟨.func #[22,3,3] #[] false,1,8,(some .nilFunc),false⟩
def ti63:TI:=⟨.func #[3] #[4] false,1,8,(some .nilFunc),false⟩
def ti65:TI:=⟨.func #[22,22] #[3] false,1,8,(some .nilFunc),false⟩
def ti66:TI:=⟨.func #[32,32] #[3] false,1,8,(some .nilFunc),false⟩
def ti73:TI:=⟨.func #[22] #[] false,1,8,(some .nilFunc),false⟩
def ti81:TI:=⟨.int .u64,1,8,(some (.int .u64 0)),false⟩
def ti87:TI:=⟨.int .i64,1,8,(some (.int .i64 0)),false⟩
def ti95:TI:=⟨.int .u32,1,4,(some (.int .u32 0)),false⟩
def ti97:TI:=⟨.int .u64,1,8,(some (.int .u64 0)),false⟩
def ti105:TI:=⟨.int .u64,1,8,(some (.int .u64 0)),false⟩
def ti109:TI:=⟨.pointer 3,1,8,(some (.pointer none)),false⟩
def ttTr:Tr TI:=(.node none (.node none (.node (some ti3) (.node none (.node none (.node none (.node (some ti63) .nil .nil) (.node (some ti95) .nil .nil)) .nil) (.node none .nil (.node none (.node (some ti87) .nil .nil) .nil))) (.node none (.node none .nil (.node (some ti51) .nil .nil)) .nil)) (.node (some ti5) (.node (some ti9) (.node none (.node none (.node (some ti65) .nil .nil) (.node (some ti97) .nil .nil)) (.node (some ti49) (.node (some ti81) .nil .nil) .nil)) (.node (some ti25) (.node none (.node (some ti73) .nil .nil) (.node (some ti105) .nil .nil)) .nil)) (.node none .nil (.node none (.node none .nil (.node (some ti109) .nil .nil)) .nil)))) (.node none (.node (some ti4) (.node none (.node none (.node (some ti32) .nil .nil) (.node (some ti48) .nil .nil)) .nil) (.node none .nil (.node (some ti28) .nil (.node (some ti60) .nil .nil)))) (.node none (.node none (.node none (.node none (.node (some ti66) .nil .nil) .nil) .nil) .nil) (.node none (.node (some ti22) .nil .nil) .nil))))
noncomputable def tt:TT:=ttTr.get
def fnTr:Tr RFn:=(.node none (.node none (.node (some ⟨105,c3,[.tmp 4]⟩) (.node (some ⟨39,c7,[.tmp 2,.tmp 3]⟩) (.node (some ⟨13,c15,[.tmp 2,.tmp 3]⟩) (.node (some ⟨26,c31,[.tmp 4]⟩) (.node (some ⟨48,c63,[.tmp 4]⟩) .nil .nil) (.node (some ⟨18,c95,[.tmp 8]⟩) .nil .nil)) (.node (some ⟨45,c47,[.tmp 2]⟩) (.node (some ⟨53,c79,[]⟩) .nil .nil) .nil)) (.node (some ⟨32,c23,[.tmp 2]⟩) (.node (some ⟨9,c39,[.tmp 2]⟩) (.node (some ⟨34,c71,[]⟩) .nil .nil) .nil) (.node (some ⟨14,c55,[]⟩) (.node (some ⟨82,c87,[]⟩) .nil .nil) .nil))) (.node (some ⟨14,c11,[.tmp 2,.tmp 3]⟩) (.node (some ⟨15,c19,[.tmp 2,.tmp 3,.tmp 4]⟩) (.node (some ⟨42,c35,[.tmp 4]⟩) (.node (some ⟨53,c67,[]⟩) .nil .nil) .nil) (.node (some ⟨10,c51,[]⟩) (.node (some ⟨34,c83,[]⟩) .nil .nil) .nil)) (.node (some ⟨49,c27,[.tmp 2]⟩) (.node (some ⟨15,c43,[.tmp 6]⟩) (.node (some ⟨19,c75,[.tmp 2]⟩) .nil .nil) .nil) (.node (some ⟨19,c59,[.tmp 4]⟩) (.node (some ⟨41,c91,[.tmp 12]⟩) .nil .nil) .nil)))) (.node (some ⟨234,c5,[.tmp 0]⟩) (.node (some ⟨46,c9,[.tmp 2,.tmp 3]⟩) (.node (some ⟨13,c17,[.tmp 2,.tmp 3]⟩) (.node (some ⟨15,c33,[.tmp 2,.tmp 3]⟩) (.node (some ⟨27,c65,[.tmp 4]⟩) .nil .nil) (.node (some ⟨32,c97,[.tmp 10,.tmp 11]⟩) .nil .nil)) (.node (some ⟨14,c49,[.tmp 2,.cell 3 51]⟩) (.node (some ⟨67,c81,[]⟩) .nil .nil) .nil)) (.node (some ⟨51,c25,[.tmp 2]⟩) (.node (some ⟨12,c41,[.tmp 4]⟩) (.node (some ⟨90,c73,[.tmp 10]⟩) .nil .nil) .nil) (.node (some ⟨50,c57,[.tmp 2]⟩) (.node (some ⟨33,c89,[.tmp 2]⟩) .nil .nil) .nil))) (.node (some ⟨44,c13,[.tmp 4,.tmp 5]⟩) (.node (some ⟨26,c21,[.tmp 4]⟩) (.node (some ⟨5,c37,[.tmp 2]⟩) (.node (some ⟨67,c69,[]⟩) .nil .nil) .nil) (.node (some ⟨36,c53,[.tmp 2]⟩) (.node (some ⟨90,c85,[.tmp 10]⟩) .nil .nil) .nil)) (.node (some ⟨44,c29,[.tmp 4]⟩) (.node (some ⟨15,c45,[.cell 2 51]⟩) (.node (some ⟨6,c77,[.tmp 2]⟩) .nil .nil) .nil) (.node (some ⟨8,c61,[.tmp 2]⟩) (.node (some ⟨51,c93,[.tmp 4,.tmp 5]⟩) .nil .nil) .nil))))) (.node none (.node (some ⟨6,c4,[.tmp 2]⟩) (.node (some ⟨23,c8,[.tmp 2,.tmp 3]⟩) (.node (some ⟨19,c16,[.tmp 2,.tmp 3]⟩) (.node (some ⟨15,c32,[.tmp 6]⟩) (.node (some ⟨32,c64,[]⟩) .nil .nil) (.node (some ⟨41,c96,[.tmp 12]⟩) .nil .nil)) (.node (some ⟨18,c48,[.tmp 2]⟩) (.node (some ⟨60,c80,[]⟩) .nil .nil) .nil)) (.node (some ⟨19,c24,[.cell 2 51]⟩) (.node (some ⟨14,c40,[]⟩) (.node (some ⟨141,c72,[.tmp 8]⟩) .nil .nil) .nil) (.node (some ⟨14,c56,[.tmp 2,.tmp 3]⟩) (.node (some ⟨7,c88,[.tmp 2]⟩) .nil .nil) .nil))) (.node (some ⟨4,c12,[.tmp 2]⟩) (.node (some ⟨37,c20,[.tmp 2,.tmp 3]⟩) (.node (some ⟨8,c36,[.tmp 2]⟩) (.node (some ⟨60,c68,[]⟩) .nil .nil) .nil) (.node (some ⟨17,c52,[]⟩) (.node (some ⟨141,c84,[.tmp 8]⟩) .nil .nil) .nil)) (.node (some ⟨42,c28,[.tmp 2]⟩) (.node (some ⟨15,c44,[.tmp 2]⟩) (.node (some ⟨25,c76,[.tmp 2]⟩) .nil .nil) .nil) (.node (some ⟨148,c60,[]⟩) (.node (some ⟨17,c92,[.tmp 4,.tmp 5]⟩) .nil .nil) .nil)))) (.node (some ⟨65,c6,[.tmp 2,.tmp 3]⟩) (.node (some ⟨27,c10,[.tmp 4]⟩) (.node (some ⟨12,c18,[.tmp 2,.tmp 3]⟩) (.node (some ⟨58,c34,[]⟩) (.node (some ⟨148,c66,[]⟩) .nil .nil) (.node (some ⟨32,c98,[.tmp 10,.tmp 11]⟩) .nil .nil)) (.node (some ⟨10,c50,[]⟩) (.node (some ⟨63,c82,[.tmp 8,.tmp 9]⟩) .nil .nil) .nil)) (.node (some ⟨42,c26,[.tmp 2]⟩) (.node (some ⟨36,c42,[.tmp 4]⟩) (.node (some ⟨178,c74,[.tmp 10,.tmp 11]⟩) .nil .nil) .nil) (.node (some ⟨41,c58,[.tmp 4]⟩) (.node (some ⟨18,c90,[.tmp 8]⟩) .nil .nil) .nil))) (.node (some ⟨13,c14,[.tmp 2,.tmp 3]⟩) (.node (some ⟨4,c22,[.tmp 2]⟩) (.node (some ⟨26,c38,[.tmp 4]⟩) (.node (some ⟨63,c70,[.tmp 8,.tmp 9]⟩) .nil .nil) .nil) (.node (some ⟨17,c54,[.tmp 2]⟩) (.node (some ⟨178,c86,[.tmp 10,.tmp 11]⟩) .nil .nil) .nil)) (.node (some ⟨18,c30,[.tmp 2]⟩) (.node (some ⟨18,c46,[.tmp 2]⟩) (.node (some ⟨30,c78,[.tmp 4,.tmp 5]⟩) .nil .nil) .nil) (.node (some ⟨20,c62,[.tmp 4]⟩) (.node (some ⟨82,c94,[]⟩) .nil .nil) .nil))))))
noncomputable def fns:FuncId→Option RFn:=fnTr.get
end Go.HvR
