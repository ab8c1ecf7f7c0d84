/- Made from wip. -/
import Derived.Test.YtkhedoaiejjcfaaGreatSpFramex
import Derived.Test.YtkhedoaiejjcfaaGreatHzSNodes

set_option maxRecDepth 100000
namespace Go.HzS
open Go.Sp
def c5:RC:=c5_72
def c8:RC:=
 .seq (.reg [] [
  rq 2 (.assign (.const (.slice none 0 0))) 23])
 (.seq (.reg [] [
   rq 3 (.alloc 23) 0])
 (.seq (.reg [] [
   rq 4 (.alloc 51) 0])
 (.seq (.reg [] [
   rq 5 (.makeFunc (.func 26) #[] #[(tp 3),(tp 4)]) 51,rn (.store 51 (tp 4) (tp 5)) 0])
 (.seq (.reg [] [
   rq 6 (.load 51 (tp 4)) 51,rq 7 (.move (tp 0)) 3,rq 8 (.move (tp 0)) 3,rq 9 (.call ⟨.value (tp 6),#[(.const (.slice none 0 0)),(tp 7),(tp 8)],#[25,3,3]⟩) 0])
 (.seq (.reg [] [
   rq 10 (.load 23 (tp 3)) 23,rq 2 (.assign (tp 10)) 23])
 (.ret))))))
def c9:RC:=
 .seq (.reg [] [
  rq 2 (.assign (kb false)) 4,rq 3 (.assign (ki 0)) 26])
 (.seq (.seq (.reg [] [
   rq 5 (.move (tp 0)) 25,rq 6 (cf 27 #[(tp 5)] #[25]) 26,rq 4 (.assign (tp 6)) 26])
 (.seq (.reg [] [
   rq 7 (.move (tp 4)) 26,rq 8 (.binOp .neq 26 (tp 7) (ki 0) 26) 4])
 (.cond (tp 8) (.seq (.reg [] [
   rq 9 (.move (tp 4)) 26,
   rq 2 (.assign (kb false)) 4,
   rq 3 (.assign (tp 9)) 26])
  (.ret))
 (.skip))))
 (.seq (.reg [] [
   rq 10 (.move (tp 0)) 25,rq 11 (cf 28 #[(tp 10)] #[25]) 54,rq 12 (cf 29 #[(tp 11)] #[54]) 4,rq 2 (.assign (tp 12)) 4,rq 3 (.assign (ki 0)) 26])
 (.ret)))
def c11:RC:=
 .seq (.reg [] [
  rq 2 (.assign (.const (.slice none 0 0))) 30,rq 3 (.assign (ki 0)) 26])
 (.seq (.seq (.reg [] [
   rq 8 (.move (tp 0)) 3,rq 9 (cf 30 #[(ki 1),(tp 8),(ki 21)] #[3,3,3]) 4,rq 10 (.unOp .not 4 (tp 9)) 4])
 (.cond (tp 10) (.seq (.reg [] [
   rq 2 (.assign (.const (.slice none 0 0))) 30,
   rq 3 (.assign (ki 1)) 26])
  (.ret))
 (.skip)))
 (.seq (.reg [] [
   rq 12 (.move (tp 0)) 3,rq 13 (cf 31 #[(tp 12)] #[3]) 57,rq 11 (.move (tp 13)) 57,rq 14 (.extract (tp 11) 0) 3,rq 15 (.extract (tp 11) 1) 3,rq 4 (.alloc 3) 0,rn (.store 3 (tp 4) (tp 14)) 0,rq 5 (.assign (tp 15)) 3])
 (.seq (.reg [] [
   rq 6 (.alloc 30) 0])
 (.seq (.reg [] [
   rq 7 (.alloc 51) 0])
 (.seq (.reg [] [
   rq 16 (.makeFunc (.func 32) #[] #[(tp 4),(tp 6),(tp 7)]) 51,rn (.store 51 (tp 7) (tp 16)) 0])
 (.seq (.reg [] [
   rq 17 (.load 51 (tp 7)) 51,rq 18 (.move (tp 5)) 3,rq 19 (.call ⟨.value (tp 17),#[(.const (.slice none 0 0)),(ki 0),(tp 18)],#[25,3,3]⟩) 0])
 (.seq (.reg [] [
   rq 20 (.load 30 (tp 6)) 30,rq 21 (cf 39 #[(tp 20),(.func 40)] #[30,63]) 0])
 (.seq (.reg [] [
   rq 22 (.load 30 (tp 6)) 30,rq 2 (.assign (tp 22)) 30,rq 3 (.assign (ki 0)) 26])
 (.ret)))))))))
def c12:RC:=c12_38
def c13:RC:=c13_20
def c14:RC:=c14_26
def c15:RC:=c15_27
def c16:RC:=
 .seq (.reg [] [
  rq 0 (.assign (kb false)) 4])
 (.seq (.reg [] [
   rq 23 (.buildSlice 25 3 #[(0,(ki 4)),(1,(ki 1)),(2,(ki 1))]) 25,rq 24 (cf 42 #[(tp 23)] #[25]) 25,rq 25 (cf 45 #[(tp 24)] #[25]) 67,rq 22 (.move (tp 25)) 67,rq 26 (.extract (tp 22) 0) 25,rq 27 (.extract (tp 22) 1) 26,rq 1 (.assign (tp 26)) 25,rq 2 (.assign (tp 27)) 26])
 (.seq (.reg [] [
   rq 29 (.buildSlice 25 2 #[(0,(ki 3)),(1,(ki 2))]) 25,rq 30 (cf 42 #[(tp 29)] #[25]) 25,rq 31 (cf 46 #[(tp 30),(ki 1000000000)] #[25,3]) 67,rq 28 (.move (tp 31)) 67,rq 32 (.extract (tp 28) 0) 25,rq 33 (.extract (tp 28) 1) 26,rq 3 (.assign (tp 32)) 25,rq 4 (.assign (tp 33)) 26])
 (.seq (.reg [] [
   rq 35 (.buildSlice 25 3 #[(0,(ki 3)),(1,(ki 2)),(2,(ki 1))]) 25,rq 36 (cf 42 #[(tp 35)] #[25]) 25,rq 37 (cf 19 #[(tp 36)] #[25]) 42,rq 34 (.move (tp 37)) 42,rq 38 (.extract (tp 34) 0) 23,rq 39 (.extract (tp 34) 1) 26,rq 5 (.assign (tp 38)) 23,rq 6 (.assign (tp 39)) 26])
 (.seq (.reg [] [
   rq 41 (.buildSlice 25 4 #[(0,(ki 2)),(1,(ki 2)),(2,(ki 1)),(3,(ki 1))]) 25,rq 42 (cf 42 #[(tp 41)] #[25]) 25,rq 43 (cf 19 #[(tp 42)] #[25]) 42,rq 40 (.move (tp 43)) 42,rq 44 (.extract (tp 40) 0) 23,rq 45 (.extract (tp 40) 1) 26,rq 7 (.assign (tp 44)) 23,rq 8 (.assign (tp 45)) 26])
 (.seq (.reg [] [
   rq 47 (.buildSlice 25 2 #[(0,(ki 3)),(1,(ki 2))]) 25,rq 48 (cf 42 #[(tp 47)] #[25]) 25,rq 49 (cf 9 #[(tp 48)] #[25]) 27,rq 46 (.move (tp 49)) 27,rq 50 (.extract (tp 46) 0) 4,rq 51 (.extract (tp 46) 1) 26,rq 9 (.assign (tp 50)) 4,rq 10 (.assign (tp 51)) 26])
 (.seq (.reg [] [
   rq 53 (.buildSlice 25 2 #[(0,(ki 4)),(1,(ki 1))]) 25,rq 54 (cf 42 #[(tp 53)] #[25]) 25,rq 55 (cf 9 #[(tp 54)] #[25]) 27,rq 52 (.move (tp 55)) 27,rq 56 (.extract (tp 52) 0) 4,rq 57 (.extract (tp 52) 1) 26,rq 11 (.assign (tp 56)) 4,rq 12 (.assign (tp 57)) 26])
 (.seq (.reg [] [
   rq 59 (.buildSlice 25 4 #[(0,(ki 2)),(1,(ki 2)),(2,(ki 1)),(3,(ki 1))]) 25,rq 60 (cf 42 #[(tp 59)] #[25]) 25,rq 61 (cf 47 #[(tp 60)] #[25]) 44,rq 58 (.move (tp 61)) 44,rq 62 (.extract (tp 58) 0) 3,rq 63 (.extract (tp 58) 1) 26,rq 13 (.assign (tp 62)) 3,rq 14 (.assign (tp 63)) 26])
 (.seq (.seq (.reg [] [
   rq 64 (.move (tp 2)) 26,rq 65 (.binOp .neq 26 (tp 64) (ki 0) 26) 4,rq 66 (.move (tp 65)) 4,rg 67 (.move (tp 4)) 26 66 false,rg 68 (.binOp .neq 26 (tp 67) (ki 0) 26) 4 66 false,rq 69 (.pick (tp 66) (kb true) (tp 68)) 4,rq 70 (.move (tp 69)) 4,rg 71 (.move (tp 6)) 26 70 false,rg 72 (.binOp .neq 26 (tp 71) (ki 0) 26) 4 70 false,rq 73 (.pick (tp 70) (kb true) (tp 72)) 4,rq 74 (.move (tp 73)) 4,rg 75 (.move (tp 8)) 26 74 false,rg 76 (.binOp .neq 26 (tp 75) (ki 0) 26) 4 74 false,rq 77 (.pick (tp 74) (kb true) (tp 76)) 4,rq 78 (.move (tp 77)) 4,rg 79 (.move (tp 10)) 26 78 false,rg 80 (.binOp .neq 26 (tp 79) (ki 0) 26) 4 78 false,rq 81 (.pick (tp 78) (kb true) (tp 80)) 4,rq 82 (.move (tp 81)) 4,rg 83 (.move (tp 12)) 26 82 false,rg 84 (.binOp .neq 26 (tp 83) (ki 0) 26) 4 82 false,rq 85 (.pick (tp 82) (kb true) (tp 84)) 4,rq 86 (.move (tp 85)) 4,rg 87 (.move (tp 14)) 26 86 false,rg 88 (.binOp .neq 26 (tp 87) (ki 0) 26) 4 86 false,rq 89 (.pick (tp 86) (kb true) (tp 88)) 4])
 (.cond (tp 89) (.seq (.reg [] [
   rq 0 (.assign (kb false)) 4])
  (.ret))
 (.skip)))
 (.seq (.reg [] [
   rq 91 (.buildSlice 25 1 #[(0,(ki 5))]) 25,rq 92 (cf 42 #[(tp 91)] #[25]) 25,rq 93 (cf 48 #[(tp 92)] #[25]) 42,rq 90 (.move (tp 93)) 42,rq 94 (.extract (tp 90) 0) 23,rq 95 (.extract (tp 90) 1) 26,rq 15 (.assign (tp 94)) 23,rq 2 (.assign (tp 95)) 26])
 (.seq (.reg [] [
   rq 97 (cf 11 #[(ki 8)] #[3]) 31,rq 96 (.move (tp 97)) 31,rq 98 (.extract (tp 96) 0) 30,rq 99 (.extract (tp 96) 1) 26,rq 16 (.assign (tp 98)) 30,rq 4 (.assign (tp 99)) 26])
 (.seq (.reg [] [
   rq 101 (.buildSlice 25 3 #[(0,(ki 4)),(1,(ki 2)),(2,(ki 2))]) 25,rq 102 (cf 42 #[(tp 101)] #[25]) 25,rq 103 (cf 23 #[(tp 102)] #[25]) 44,rq 100 (.move (tp 103)) 44,rq 104 (.extract (tp 100) 0) 3,rq 105 (.extract (tp 100) 1) 26,rq 17 (.assign (tp 104)) 3,rq 6 (.assign (tp 105)) 26])
 (.seq (.reg [] [
   rq 107 (cf 20 #[(ki 6)] #[3]) 44,rq 106 (.move (tp 107)) 44,rq 108 (.extract (tp 106) 0) 3,rq 109 (.extract (tp 106) 1) 26,rq 18 (.assign (tp 108)) 3,rq 8 (.assign (tp 109)) 26])
 (.seq (.reg [] [
   rq 111 (cf 25 #[(ki 6)] #[3]) 49,rq 110 (.move (tp 111)) 49,rq 112 (.extract (tp 110) 0) 3,rq 113 (.extract (tp 110) 1) 25,rq 114 (.extract (tp 110) 2) 26,rq 19 (.assign (tp 112)) 3,rq 20 (.assign (tp 113)) 25,rq 10 (.assign (tp 114)) 26])
 (.seq (.reg [] [
   rq 116 (.buildSlice 25 3 #[(0,(ki 4)),(1,(ki 2)),(2,(ki 2))]) 25,rq 117 (cf 42 #[(tp 116)] #[25]) 25,rq 118 (cf 49 #[(tp 117)] #[25]) 67,rq 115 (.move (tp 118)) 67,rq 119 (.extract (tp 115) 0) 25,rq 120 (.extract (tp 115) 1) 26,rq 21 (.assign (tp 119)) 25,rq 12 (.assign (tp 120)) 26])
 (.seq (.reg [0, 1, 2, 3, 4, 5, 6, 7, 8, 9, 10, 11, 12, 13, 14, 15, 16, 17, 18, 19, 20, 21, 22, 23, 24, 25, 26, 27, 28, 29, 30, 31, 32, 33, 34, 35, 36, 37, 38, 39, 40, 41, 42, 43, 44, 45, 46, 47, 48, 49, 50, 51, 52, 53, 54, 55, 56, 57, 58, 59, 60, 61, 62, 63, 64, 66, 65, 67, 68, 69, 70, 71, 72, 73, 74, 75, 76, 77, 78, 79, 81, 83, 80, 82, 84, 85, 86, 87, 88, 89, 90, 91, 92, 93, 95, 94, 96, 97, 98, 99, 100, 101, 102, 103, 104, 105, 106, 107, 108, 109, 110, 111, 112, 113] [
   rq 121 (.move (tp 2)) 26,rq 122 (.binOp .eql 26 (tp 121) (ki 0) 26) 4,rq 123 (.move (tp 122)) 4,rg 124 (.move (tp 4)) 26 123 true,rg 125 (.binOp .eql 26 (tp 124) (ki 0) 26) 4 123 true,rq 126 (.pick (tp 123) (tp 125) (kb false)) 4,rq 127 (.move (tp 126)) 4,rg 128 (.move (tp 6)) 26 127 true,rg 129 (.binOp .eql 26 (tp 128) (ki 0) 26) 4 127 true,rq 130 (.pick (tp 127) (tp 129) (kb false)) 4,rq 131 (.move (tp 130)) 4,rg 132 (.move (tp 8)) 26 131 true,rg 133 (.binOp .eql 26 (tp 132) (ki 0) 26) 4 131 true,rq 134 (.pick (tp 131) (tp 133) (kb false)) 4,rq 135 (.move (tp 134)) 4,rg 136 (.move (tp 10)) 26 135 true,rg 137 (.binOp .eql 26 (tp 136) (ki 0) 26) 4 135 true,rq 138 (.pick (tp 135) (tp 137) (kb false)) 4,rq 139 (.move (tp 138)) 4,rg 140 (.move (tp 12)) 26 139 true,rg 141 (.binOp .eql 26 (tp 140) (ki 0) 26) 4 139 true,rq 142 (.pick (tp 139) (tp 141) (kb false)) 4,rq 143 (.move (tp 142)) 4,rg 144 (.move (tp 9)) 4 143 true,rq 145 (.pick (tp 143) (tp 144) (kb false)) 4,rq 146 (.move (tp 145)) 4,rg 147 (.move (tp 11)) 4 146 true,rg 148 (.unOp .not 4 (tp 147)) 4 146 true,rq 149 (.pick (tp 146) (tp 148) (kb false)) 4,rq 150 (.move (tp 149)) 4,rg 151 (.move (tp 13)) 3 150 true,rg 152 (.binOp .eql 3 (tp 151) (ki 6) 3) 4 150 true,rq 153 (.pick (tp 150) (tp 152) (kb false)) 4,rq 154 (.move (tp 153)) 4,rg 155 (.move (tp 17)) 3 154 true,rg 156 (.binOp .eql 3 (tp 155) (ki 7) 3) 4 154 true,rq 157 (.pick (tp 154) (tp 156) (kb false)) 4,rq 158 (.move (tp 157)) 4,rg 159 (.move (tp 18)) 3 158 true,rg 160 (.binOp .eql 3 (tp 159) (ki 3) 3) 4 158 true,rq 161 (.pick (tp 158) (tp 160) (kb false)) 4,rq 162 (.move (tp 161)) 4,rg 163 (.move (tp 19)) 3 162 true,rg 164 (.binOp .eql 3 (tp 163) (ki 6) 3) 4 162 true,rq 165 (.pick (tp 162) (tp 164) (kb false)) 4,rq 166 (.move (tp 165)) 4,rg 167 (.move (tp 16)) 30 166 true,rg 168 (cb .len #[(tp 167)] #[30]) 3 166 true,rg 169 (.binOp .eql 3 (tp 168) (ki 2) 3) 4 166 true,rq 170 (.pick (tp 166) (tp 169) (kb false)) 4,rq 171 (.move (tp 170)) 4,rg 172 (.move (tp 1)) 25 171 true,rg 173 (.buildSlice 25 2 #[(0,(ki 3)),(1,(ki 3))]) 25 171 true,rg 174 (cf 42 #[(tp 173)] #[25]) 25 171 true,rg 175 (cf 14 #[(tp 172),(tp 174)] #[25,25]) 4 171 true,rq 176 (.pick (tp 171) (tp 175) (kb false)) 4,rq 177 (.move (tp 176)) 4,rg 178 (.move (tp 3)) 25 177 true,rg 179 (.buildSlice 25 3 #[(0,(ki 2)),(1,(ki 2)),(2,(ki 1))]) 25 177 true,rg 180 (cf 42 #[(tp 179)] #[25]) 25 177 true,rg 181 (cf 14 #[(tp 178),(tp 180)] #[25,25]) 4 177 true,rq 182 (.pick (tp 177) (tp 181) (kb false)) 4,rq 183 (.move (tp 182)) 4,rg 184 (.move (tp 5)) 23 183 true,rg 185 (.buildSlice 25 3 #[(0,(ki 3)),(1,(ki 2)),(2,(ki 1))]) 25 183 true,rg 187 (.buildSlice 25 2 #[(0,(ki 4)),(1,(ki 2))]) 25 183 true,rg 186 (cf 42 #[(tp 185)] #[25]) 25 183 true,rg 188 (cf 42 #[(tp 187)] #[25]) 25 183 true,rg 189 (.buildSlice 23 2 #[(0,(tp 186)),(1,(tp 188))]) 23 183 true,rg 190 (cf 50 #[(tp 189)] #[23]) 23 183 true,rg 191 (cf 21 #[(tp 184),(tp 190)] #[23,23]) 4 183 true,rq 192 (.pick (tp 183) (tp 191) (kb false)) 4,rq 193 (.move (tp 192)) 4,rg 194 (.move (tp 7)) 23 193 true,rg 195 (cb .len #[(tp 194)] #[23]) 3 193 true,rg 196 (.binOp .eql 3 (tp 195) (ki 0) 3) 4 193 true,rq 197 (.pick (tp 193) (tp 196) (kb false)) 4,rq 198 (.move (tp 197)) 4,rg 199 (.move (tp 15)) 23 198 true,rg 200 (.buildSlice 25 3 #[(0,(ki 2)),(1,(ki 2)),(2,(ki 1))]) 25 198 true,rg 202 (.buildSlice 25 3 #[(0,(ki 3)),(1,(ki 1)),(2,(ki 1))]) 25 198 true,rg 204 (.buildSlice 25 2 #[(0,(ki 3)),(1,(ki 2))]) 25 198 true,rg 201 (cf 42 #[(tp 200)] #[25]) 25 198 true,rg 203 (cf 42 #[(tp 202)] #[25]) 25 198 true,rg 205 (cf 42 #[(tp 204)] #[25]) 25 198 true,rg 206 (.buildSlice 23 3 #[(0,(tp 201)),(1,(tp 203)),(2,(tp 205))]) 23 198 true,rg 207 (cf 50 #[(tp 206)] #[23]) 23 198 true,rg 208 (cf 21 #[(tp 199),(tp 207)] #[23,23]) 4 198 true,rq 209 (.pick (tp 198) (tp 208) (kb false)) 4,rq 210 (.move (tp 209)) 4,rg 211 (.move (tp 16)) 30 210 true,rg 212 (.indexAddr 30 (tp 211) (ki 1)) 0 210 true,rg 213 (.load 23 (tp 212)) 23 210 true,rg 214 (.buildSlice 25 4 #[(0,(ki 3)),(1,(ki 3)),(2,(ki 1)),(3,(ki 1))]) 25 210 true,rg 216 (.buildSlice 25 3 #[(0,(ki 4)),(1,(ki 2)),(2,(ki 2))]) 25 210 true,
   ⟨(some 215),cf 42 #[(tp 214)] #[25],25,(some ((some 210),true)),[(tp 212)]⟩,
   ⟨(some 217),cf 42 #[(tp 216)] #[25],25,(some ((some 210),true)),[(tp 212)]⟩,rg 218 (.buildSlice 23 2 #[(0,(tp 215)),(1,(tp 217))]) 23 210 true,
   ⟨(some 219),cf 50 #[(tp 218)] #[23],23,(some ((some 210),true)),[(tp 212)]⟩,rg 220 (cf 21 #[(tp 213),(tp 219)] #[23,23]) 4 210 true,rq 221 (.pick (tp 210) (tp 220) (kb false)) 4,rq 222 (.move (tp 221)) 4,rg 223 (.move (tp 20)) 25 222 true,rg 224 (.buildSlice 25 4 #[(0,(ki 2)),(1,(ki 2)),(2,(ki 1)),(3,(ki 1))]) 25 222 true,rg 225 (cf 42 #[(tp 224)] #[25]) 25 222 true,rg 226 (cf 14 #[(tp 223),(tp 225)] #[25,25]) 4 222 true,rq 227 (.pick (tp 222) (tp 226) (kb false)) 4,rq 228 (.move (tp 227)) 4,rg 229 (.move (tp 21)) 25 228 true,rg 230 (.buildSlice 25 4 #[(0,(ki 3)),(1,(ki 3)),(2,(ki 1)),(3,(ki 1))]) 25 228 true,rg 231 (cf 42 #[(tp 230)] #[25]) 25 228 true,rg 232 (cf 14 #[(tp 229),(tp 231)] #[25,25]) 4 228 true,rq 233 (.pick (tp 228) (tp 232) (kb false)) 4,rq 0 (.assign (tp 233)) 4])
 (.ret))))))))))))))))
def c17:RC:=c17_39
def c19:RC:=
 .seq (.reg [] [
  rq 2 (.assign (.const (.slice none 0 0))) 23,rq 3 (.assign (ki 0)) 26])
 (.seq (.seq (.reg [] [
   rq 5 (.move (tp 0)) 25,rq 6 (cf 27 #[(tp 5)] #[25]) 26,rq 4 (.assign (tp 6)) 26])
 (.seq (.reg [] [
   rq 7 (.move (tp 4)) 26,rq 8 (.binOp .neq 26 (tp 7) (ki 0) 26) 4])
 (.cond (tp 8) (.seq (.reg [] [
   rq 9 (.move (tp 4)) 26,
   rq 2 (.assign (.const (.slice none 0 0))) 23,
   rq 3 (.assign (tp 9)) 26])
  (.ret))
 (.skip))))
 (.seq (.reg [] [
   rq 10 (.move (tp 0)) 25,rq 11 (cf 28 #[(tp 10)] #[25]) 54,rq 12 (cf 51 #[(tp 11)] #[54]) 23,rq 2 (.assign (tp 12)) 23,rq 3 (.assign (ki 0)) 26])
 (.ret)))
def c20:RC:=
 .seq (.reg [] [
  rq 2 (.assign (ki 0)) 3,rq 3 (.assign (ki 0)) 26])
 (.seq (.seq (.reg [] [
   rq 5 (.move (tp 0)) 3,rq 6 (cf 30 #[(ki 1),(tp 5),(ki 21)] #[3,3,3]) 4,rq 7 (.unOp .not 4 (tp 6)) 4])
 (.cond (tp 7) (.seq (.reg [] [
   rq 2 (.assign (ki 0)) 3,
   rq 3 (.assign (ki 1)) 26])
  (.ret))
 (.skip)))
 (.seq (.reg [] [
   rq 4 (.alloc 3) 0,rn (.store 3 (tp 4) (ki 0)) 0])
 (.seq (.reg [] [
   rq 8 (.move (tp 0)) 3,rq 9 (.makeFunc (.func 53) #[] #[(tp 4)]) 66,rq 10 (cf 52 #[(tp 8),(tp 9)] #[3,66]) 0])
 (.seq (.reg [] [
   rq 11 (.load 3 (tp 4)) 3,rq 2 (.assign (tp 11)) 3,rq 3 (.assign (ki 0)) 26])
 (.ret)))))
def c21:RC:=
 .seq (.reg [] [
  rq 4 (.assign (kb false)) 4])
 (.seq (.seq (.reg [] [
   rq 6 (.move (tp 0)) 23,rq 7 (cb .len #[(tp 6)] #[23]) 3,rq 8 (.move (tp 1)) 23,rq 9 (cb .len #[(tp 8)] #[23]) 3,rq 10 (.binOp .neq 3 (tp 7) (tp 9) 3) 4])
 (.cond (tp 10) (.seq (.reg [] [
   rq 4 (.assign (kb false)) 4])
  (.ret))
 (.skip)))
 (.seq (.seq (.reg [] [
   rq 5 (.assign (ki 0)) 3])
 (.block 0 (.loop (.seq (.seq (.reg [] [
   rq 11 (.move (tp 5)) 3,
   rq 12 (.move (tp 0)) 23,
   rq 13 (cb .len #[(tp 12)] #[23]) 3,
   rq 14 (.binOp .lss 3 (tp 11) (tp 13) 3) 4])
   (.cond (tp 14) (.skip)
   (.exit 0)))
   (.seq (.block 1 (.seq (.reg [0, 1, 2, 3, 4, 5, 6, 7, 8, 9] [
     rq 17 (.move (tp 0)) 23,
     rq 18 (.move (tp 5)) 3,
     rq 19 (.indexAddr 23 (tp 17) (tp 18)) 0,
     rq 20 (.load 25 (tp 19)) 25,
     rq 21 (.move (tp 1)) 23,
     rq 22 (.move (tp 5)) 3,
     rq 23 (.indexAddr 23 (tp 21) (tp 22)) 0,
     rq 24 (.load 25 (tp 23)) 25,
     rq 25 (cf 14 #[(tp 20),(tp 24)] #[25,25]) 4,
     rq 26 (.unOp .not 4 (tp 25)) 4])
    (.cond (tp 26) (.seq (.reg [] [
      rq 4 (.assign (kb false)) 4])
     (.ret))
    (.skip))))
   (.reg [] [
     rq 15 (.move (tp 5)) 3,
     rq 16 (.binOp .add 3 (tp 15) (ki 1) 3) 3,
     rq 5 (.assign (tp 16)) 3]))))))
 (.seq (.reg [] [
   rq 4 (.assign (kb true)) 4])
 (.ret))))
def c22:RC:=c22_36
def c23:RC:=c23_65
def c25:RC:=
 .seq (.reg [] [
  rq 2 (.assign (ki 0)) 3,rq 3 (.assign (.const (.slice none 0 0))) 25,rq 4 (.assign (ki 0)) 26])
 (.seq (.seq (.reg [] [
   rq 7 (.move (tp 0)) 3,rq 8 (cf 30 #[(ki 1),(tp 7),(ki 21)] #[3,3,3]) 4,rq 9 (.unOp .not 4 (tp 8)) 4])
 (.cond (tp 9) (.seq (.reg [] [
   rq 2 (.assign (ki 0)) 3,
   rq 3 (.assign (.const (.slice none 0 0))) 25,
   rq 4 (.assign (ki 1)) 26])
  (.ret))
 (.skip)))
 (.seq (.reg [] [
   rq 5 (.alloc 3) 0,rq 6 (.alloc 25) 0,rn (.store 3 (tp 5) (ki (-1))) 0,rn (.store 25 (tp 6) (.const (.slice none 0 0))) 0])
 (.seq (.reg [] [
   rq 10 (.move (tp 0)) 3,rq 11 (.makeFunc (.func 54) #[] #[(tp 5),(tp 6)]) 66,rq 12 (cf 52 #[(tp 10),(tp 11)] #[3,66]) 0])
 (.seq (.reg [0, 1, 2, 3, 4] [
   rq 13 (.load 3 (tp 5)) 3,rq 14 (.load 25 (tp 6)) 25,rq 2 (.assign (tp 13)) 3,rq 3 (.assign (tp 14)) 25,rq 4 (.assign (ki 0)) 26])
 (.ret)))))
def c26:RC:=
 .seq (.seq (.reg [] [
  rq 9 (.move (tp 1)) 3,rq 10 (.binOp .eql 3 (tp 9) (ki 0) 3) 4])
 (.cond (tp 10) (.seq (.reg [] [
   rq 11 (.load 23 (tp 3)) 23,
   rq 12 (.move (tp 0)) 25,
   rq 13 (.buildSlice 23 1 #[(0,(tp 12))]) 23,
   rq 14 (cb .append #[(tp 11),(tp 13)] #[23,23]) 23,
   rn (.store 23 (tp 3) (tp 14)) 0])
  (.ret))
 (.skip)))
 (.seq (.reg [] [
   rq 8 (.assign (ki 1)) 3])
 (.block 0 (.loop (.seq (.seq (.reg [] [
   rq 15 (.move (tp 8)) 3,
   rq 16 (.move (tp 1)) 3,
   rq 17 (.binOp .leq 3 (tp 15) (tp 16) 3) 4,
   rq 18 (.move (tp 17)) 4,
   rg 19 (.move (tp 8)) 3 18 true,
   rg 20 (.move (tp 2)) 3 18 true,
   rg 21 (.binOp .leq 3 (tp 19) (tp 20) 3) 4 18 true,
   rq 22 (.pick (tp 18) (tp 21) (kb false)) 4])
   (.cond (tp 22) (.skip)
   (.exit 0)))
   (.seq (.block 1 (.reg [0, 1, 2, 4, 5, 7, 8, 9, 10, 3, 6, 11] [
     rq 25 (.load 51 (tp 4)) 51,
     rq 26 (.buildSlice 25 0 #[]) 25,
     rq 27 (.move (tp 0)) 25,
     rq 29 (.move (tp 8)) 3,
     rq 30 (.buildSlice 25 1 #[(0,(tp 29))]) 25,
     rq 32 (.move (tp 1)) 3,
     rq 33 (.move (tp 8)) 3,
     rq 34 (.binOp .sub 3 (tp 32) (tp 33) 3) 3,
     rq 35 (.move (tp 8)) 3,
     ⟨(some 28),cb .append #[(tp 26),(tp 27)] #[25,25],25,none,[(tp 4)]⟩,
     ⟨(some 31),cb .append #[(tp 28),(tp 30)] #[25,25],25,none,[(tp 4)]⟩,
     rq 36 (.call ⟨.value (tp 25),#[(tp 31),(tp 34),(tp 35)],#[25,3,3]⟩) 0]))
   (.reg [] [
     rq 23 (.move (tp 8)) 3,
     rq 24 (.binOp .add 3 (tp 23) (ki 1) 3) 3,
     rq 8 (.assign (tp 24)) 3]))))))
def c27:RC:=c27_46
def c28:RC:=c28_20
def c29:RC:=c29_32
def c30:RC:=c30_3
def c31:RC:=c31_16
def c32:RC:=
 .seq (.seq (.reg [] [
  rq 10 (.move (tp 1)) 3,rq 11 (.load 3 (tp 3)) 3,rq 12 (.binOp .gtr 3 (tp 10) (tp 11) 3) 4])
 (.cond (tp 12) (.seq (.seq (.reg [] [
   rq 13 (.move (tp 2)) 3,
   rq 14 (.binOp .gtr 3 (tp 13) (ki 0) 3) 4])
  (.cond (tp 14) (.ret)
  (.skip)))
  (.seq (.reg [] [
    rq 15 (.move (tp 0)) 25,
    rq 16 (cf 34 #[(tp 15)] #[25]) 25,
    rq 17 (cf 33 #[(tp 16),(.func 35)] #[25,60]) 25,
    rq 0 (.assign (tp 17)) 25])
  (.seq (.seq (.reg [] [
    rq 18 (.move (tp 0)) 25,
    rq 19 (cf 28 #[(tp 18)] #[25]) 54,
    rq 20 (cf 36 #[(tp 19)] #[54]) 23,
    rq 9 (.assign (tp 20)) 23])
  (.seq (.reg [] [
    rq 21 (.move (tp 9)) 23,
    rq 22 (.indexAddr 23 (tp 21) (ki 0)) 0,
    rq 23 (.load 25 (tp 22)) 25,
    rq 24 (.move (tp 0)) 25,
    rq 25 (cf 37 #[(tp 23),(tp 24)] #[25,25]) 4])
  (.cond (tp 25) (.reg [] [
    rq 26 (.load 30 (tp 4)) 30,
    rq 27 (.move (tp 9)) 23,
    rq 28 (.buildSlice 30 1 #[(0,(tp 27))]) 30,
    rq 29 (cb .append #[(tp 26),(tp 28)] #[30,30]) 30,
    rn (.store 30 (tp 4) (tp 29)) 0])
  (.skip))))
  (.ret))))
 (.skip)))
 (.seq (.reg [0, 1, 3, 4, 5, 6, 8, 9, 10, 2, 7, 11] [
   rq 30 (.load 51 (tp 5)) 51,rq 31 (.move (tp 0)) 25,rq 33 (.load 3 (tp 3)) 3,rq 34 (.move (tp 1)) 3,rq 35 (.binOp .sub 3 (tp 33) (tp 34) 3) 3,rq 36 (.buildSlice 25 1 #[(0,(tp 35))]) 25,rq 38 (.move (tp 1)) 3,rq 39 (.binOp .add 3 (tp 38) (ki 1) 3) 3,rq 40 (.move (tp 2)) 3,
   ⟨(some 32),cf 38 #[(tp 31)] #[25],25,none,[(tp 3),(tp 5)]⟩,
   ⟨(some 37),cb .append #[(tp 32),(tp 36)] #[25,25],25,none,[(tp 5)]⟩,rq 41 (.call ⟨.value (tp 30),#[(tp 37),(tp 39),(tp 40)],#[25,3,3]⟩) 0])
 (.seq (.reg [] [
   rq 42 (.move (tp 2)) 3,rq 43 (.binOp .gtr 3 (tp 42) (ki 0) 3) 4])
 (.cond (tp 43) (.reg [0, 1, 3, 4, 5, 6, 7, 9, 10, 11, 12, 2, 8, 13] [
   rq 44 (.load 51 (tp 5)) 51,
   rq 45 (.move (tp 0)) 25,
   rq 47 (.load 3 (tp 3)) 3,
   rq 48 (.move (tp 1)) 3,
   rq 49 (.binOp .sub 3 (tp 47) (tp 48) 3) 3,
   rq 50 (.binOp .add 3 (tp 49) (ki 1) 3) 3,
   rq 51 (.buildSlice 25 1 #[(0,(tp 50))]) 25,
   rq 53 (.move (tp 1)) 3,
   rq 54 (.binOp .add 3 (tp 53) (ki 1) 3) 3,
   rq 55 (.move (tp 2)) 3,
   rq 56 (.binOp .sub 3 (tp 55) (ki 1) 3) 3,
   ⟨(some 46),cf 38 #[(tp 45)] #[25],25,none,[(tp 3),(tp 5)]⟩,
   ⟨(some 52),cb .append #[(tp 46),(tp 51)] #[25,25],25,none,[(tp 5)]⟩,
   rq 57 (.call ⟨.value (tp 44),#[(tp 52),(tp 54),(tp 56)],#[25,3,3]⟩) 0])
 (.skip))))
def c33:RC:=
 .seq (.reg [] [
  rq 4 (.assign (.const (.slice none 0 0))) 25])
 (.seq (.reg [] [
   rq 8 (.move (tp 0)) 25,rq 9 (.move (tp 1)) 60,rq 10 (cf 58 #[(tp 8),(tp 9)] #[25,60]) 3,rq 5 (.assign (tp 10)) 3])
 (.seq (.seq (.reg [] [
   rq 11 (.move (tp 5)) 3,rq 12 (.binOp .eql 3 (tp 11) (ki (-1)) 3) 4])
 (.cond (tp 12) (.seq (.reg [] [
   rq 13 (.move (tp 0)) 25,
   rq 4 (.assign (tp 13)) 25])
  (.ret))
 (.skip)))
 (.seq (.seq (.reg [] [
   rq 14 (.move (tp 5)) 3,rq 15 (.binOp .add 3 (tp 14) (ki 1) 3) 3,rq 6 (.assign (tp 15)) 3])
 (.block 0 (.loop (.seq (.seq (.reg [] [
   rq 16 (.move (tp 6)) 3,
   rq 17 (.move (tp 0)) 25,
   rq 18 (cb .len #[(tp 17)] #[25]) 3,
   rq 19 (.binOp .lss 3 (tp 16) (tp 18) 3) 4])
   (.cond (tp 19) (.skip)
   (.exit 0)))
   (.seq (.block 1 (.seq (.reg [] [
     rq 22 (.move (tp 0)) 25,
     rq 23 (.move (tp 6)) 3,
     rq 24 (.indexAddr 25 (tp 22) (tp 23)) 0,
     rq 25 (.load 3 (tp 24)) 3,
     rq 7 (.assign (tp 25)) 3])
    (.seq (.reg [] [
      rq 26 (.move (tp 1)) 60,
      rq 27 (.move (tp 7)) 3,
      rq 28 (.call ⟨.value (tp 26),#[(tp 27)],#[3]⟩) 4,
      rq 29 (.unOp .not 4 (tp 28)) 4])
    (.cond (tp 29) (.seq (.reg [] [
      rq 30 (.move (tp 0)) 25,
      rq 31 (.move (tp 5)) 3,
      rq 32 (.move (tp 7)) 3,
      rq 33 (.indexAddr 25 (tp 30) (tp 31)) 0,
      rn (.store 3 (tp 33) (tp 32)) 0])
     (.reg [] [
       rq 34 (.move (tp 5)) 3,
       rq 35 (.binOp .add 3 (tp 34) (ki 1) 3) 3,
       rq 5 (.assign (tp 35)) 3]))
    (.skip)))))
   (.reg [] [
     rq 20 (.move (tp 6)) 3,
     rq 21 (.binOp .add 3 (tp 20) (ki 1) 3) 3,
     rq 6 (.assign (tp 21)) 3]))))))
 (.seq (.reg [] [
   rq 36 (.move (tp 0)) 25,rq 37 (.move (tp 5)) 3,rq 38 (.slice 25 (tp 36) (some (tp 37)) none none) 25,rn (cb .clear #[(tp 38)] #[25]) 0])
 (.seq (.reg [] [
   rq 39 (.move (tp 0)) 25,rq 40 (.move (tp 5)) 3,rq 41 (.slice 25 (tp 39) none (some (tp 40)) none) 25,rq 4 (.assign (tp 41)) 25])
 (.ret))))))
def c34:RC:=
 .seq (.reg [] [
  rq 2 (.assign (.const (.slice none 0 0))) 25])
 (.seq (.seq (.reg [] [
   rq 3 (.move (tp 0)) 25,rq 4 (.binOp .eql 25 (tp 3) (.const (.slice none 0 0)) 25) 4])
 (.cond (tp 4) (.seq (.reg [] [
   rq 2 (.assign (.const (.slice none 0 0))) 25])
  (.ret))
 (.skip)))
 (.seq (.reg [] [
   rq 5 (.buildSlice 25 0 #[]) 25,rq 6 (.move (tp 0)) 25,rq 7 (cb .append #[(tp 5),(tp 6)] #[25,25]) 25,rq 2 (.assign (tp 7)) 25])
 (.ret)))
def c35:RC:=
 .seq (.reg [] [
  rq 2 (.assign (kb false)) 4])
 (.seq (.reg [] [
   rq 3 (.move (tp 0)) 3,rq 4 (.binOp .eql 3 (tp 3) (ki 0) 3) 4,rq 2 (.assign (tp 4)) 4])
 (.ret))
def c36:RC:=c36_31
def c37:RC:=
 .seq (.reg [] [
  rq 4 (.assign (kb false)) 4])
 (.seq (.seq (.reg [] [
   rq 6 (.move (tp 0)) 25,rq 7 (cb .len #[(tp 6)] #[25]) 3,rq 8 (.move (tp 1)) 25,rq 9 (cb .len #[(tp 8)] #[25]) 3,rq 10 (.binOp .neq 3 (tp 7) (tp 9) 3) 4])
 (.cond (tp 10) (.seq (.reg [] [
   rq 4 (.assign (kb false)) 4])
  (.ret))
 (.skip)))
 (.seq (.seq (.reg [] [
   rq 11 (.move (tp 0)) 25,rq 12 (cb .len #[(tp 11)] #[25]) 3,rq 13 (.move (ki 0)) 3])
 (.block 0 (.loop (.seq (.reg [] [
   rq 14 (.binOp .lss 3 (tp 13) (tp 12) 3) 0])
   (.seq (.cond (tp 14) (.skip)
   (.exit 0))
   (.seq (.block 1 (.seq (.reg [] [
     rq 15 (.move (tp 13)) 3,
     rq 5 (.assign (tp 15)) 3])
    (.seq (.reg [0, 1, 2, 3, 4, 5, 6, 7, 8] [
      rq 16 (.move (tp 0)) 25,
      rq 17 (.move (tp 5)) 3,
      rq 18 (.indexAddr 25 (tp 16) (tp 17)) 0,
      rq 19 (.load 3 (tp 18)) 3,
      rq 20 (.move (tp 1)) 25,
      rq 21 (.move (tp 5)) 3,
      rq 22 (.indexAddr 25 (tp 20) (tp 21)) 0,
      rq 23 (.load 3 (tp 22)) 3,
      rq 24 (.binOp .neq 3 (tp 19) (tp 23) 3) 4])
    (.cond (tp 24) (.seq (.reg [] [
      rq 4 (.assign (kb false)) 4])
     (.ret))
    (.skip)))))
   (.reg [] [
     rq 25 (.binOp .add 3 (tp 13) (ki 1) 3) 3,
     rq 13 (.move (tp 25)) 3])))))))
 (.seq (.reg [] [
   rq 4 (.assign (kb true)) 4])
 (.ret))))
def c38:RC:=
 .seq (.reg [] [
  rq 2 (.assign (.const (.slice none 0 0))) 25])
 (.seq (.reg [] [
   rq 3 (.move (tp 0)) 25,rq 4 (.move (tp 0)) 25,rq 5 (cb .len #[(tp 4)] #[25]) 3,rq 6 (.move (tp 0)) 25,rq 7 (cb .len #[(tp 6)] #[25]) 3,rq 8 (.slice 25 (tp 3) none (some (tp 5)) (some (tp 7))) 25,rq 2 (.assign (tp 8)) 25])
 (.ret))
def c39:RC:=
 .seq (.reg [] [
  rq 5 (.move (tp 0)) 30,rq 6 (cb .len #[(tp 5)] #[30]) 3,rq 4 (.assign (tp 6)) 3])
 (.reg [] [
   rq 7 (.move (tp 0)) 30,rq 8 (.move (tp 4)) 3,rq 9 (.move (tp 4)) 3,rq 10 (.convert 3 83 (tp 9)) 83,rq 11 (cf 62 #[(tp 10)] #[83]) 3,rq 12 (.move (tp 1)) 63,rq 13 (cf 61 #[(tp 7),(ki 0),(tp 8),(tp 11),(tp 12)] #[30,3,3,3,63]) 0])
def c40:RC:=
 .seq (.reg [] [
  rq 4 (.assign (ki 0)) 3])
 (.seq (.reg [0, 1, 2, 3, 4, 5, 6, 7] [
   rq 5 (.move (tp 0)) 23,rq 6 (.indexAddr 23 (tp 5) (ki 0)) 0,rq 7 (.load 25 (tp 6)) 25,rq 8 (.move (tp 1)) 23,rq 9 (.indexAddr 23 (tp 8) (ki 0)) 0,rq 10 (.load 25 (tp 9)) 25,rq 11 (cf 12 #[(tp 7),(tp 10)] #[25,25]) 3,rq 4 (.assign (tp 11)) 3])
 (.ret))
def c41:RC:=c41_37
def c42:RC:=
 .seq (.reg [] [
  rq 2 (.assign (.const (.slice none 0 0))) 25])
 (.seq (.reg [] [
   rq 3 (.move (tp 0)) 25,rq 2 (.assign (tp 3)) 25])
 (.ret))
def c43:RC:=
 .seq (.reg [] [
  rq 3 (.move (tp 0)) 25,rq 4 (cb .len #[(tp 3)] #[25]) 3,rq 2 (.assign (tp 4)) 3])
 (.reg [] [
   rq 5 (.move (tp 0)) 25,rq 6 (.move (tp 2)) 3,rq 7 (.move (tp 2)) 3,rq 8 (.convert 3 83 (tp 7)) 83,rq 9 (cf 62 #[(tp 8)] #[83]) 3,rq 10 (cf 64 #[(tp 5),(ki 0),(tp 6),(tp 9)] #[25,3,3,3]) 0])
def c44:RC:=c44_11
def c45:RC:=
 .seq (.reg [] [
  rq 2 (.assign (.const (.slice none 0 0))) 25,rq 3 (.assign (ki 0)) 26])
 (.seq (.seq (.reg [] [
   rq 5 (.move (tp 0)) 25,rq 6 (cf 27 #[(tp 5)] #[25]) 26,rq 4 (.assign (tp 6)) 26])
 (.seq (.reg [] [
   rq 7 (.move (tp 4)) 26,rq 8 (.binOp .neq 26 (tp 7) (ki 0) 26) 4])
 (.cond (tp 8) (.seq (.reg [] [
   rq 9 (.move (tp 4)) 26,
   rq 2 (.assign (.const (.slice none 0 0))) 25,
   rq 3 (.assign (tp 9)) 26])
  (.ret))
 (.skip))))
 (.seq (.reg [] [
   rq 10 (.move (tp 0)) 25,rq 11 (cf 28 #[(tp 10)] #[25]) 54,rq 12 (cf 59 #[(tp 11)] #[54]) 54,rq 13 (cf 56 #[(tp 12)] #[54]) 25,rq 2 (.assign (tp 13)) 25,rq 3 (.assign (ki 0)) 26])
 (.ret)))
def c46:RC:=
 .seq (.reg [] [
  rq 4 (.assign (.const (.slice none 0 0))) 25,rq 5 (.assign (ki 0)) 26])
 (.seq (.reg [] [
   rq 10 (.move (tp 0)) 25,rq 11 (cf 27 #[(tp 10)] #[25]) 26,rq 6 (.assign (tp 11)) 26])
 (.seq (.block 0 (.seq (.reg [] [
   rq 13 (.move (tp 6)) 26,
   rq 14 (.binOp .neq 26 (tp 13) (ki 0) 26) 4,
   rq 12 (.assign (tp 14)) 4])
  (.cond (tp 12) (.seq (.reg [] [
    rq 15 (.move (tp 6)) 26,
    rq 4 (.assign (.const (.slice none 0 0))) 25,
    rq 5 (.assign (tp 15)) 26])
   (.ret))
  (.seq (.reg [] [
    rq 17 (.move (tp 1)) 3,
    rq 18 (cf 30 #[(ki 0),(tp 17),(ki 1000000000)] #[3,3,3]) 4,
    rq 19 (.unOp .not 4 (tp 18)) 4,
    rq 16 (.assign (tp 19)) 4])
   (.cond (tp 16) (.seq (.reg [] [
     rq 4 (.assign (.const (.slice none 0 0))) 25,
     rq 5 (.assign (ki 1)) 26])
    (.ret))
   (.skip))))))
 (.seq (.reg [] [
   rq 20 (.move (tp 0)) 25,rq 21 (cf 28 #[(tp 20)] #[25]) 54,rq 7 (.alloc 54) 0,rn (.store 54 (tp 7) (tp 21)) 0])
 (.seq (.block 1 (.loop (.seq (.seq (.reg [] [
   rq 22 (.move (tp 1)) 3,
   rq 23 (.binOp .gtr 3 (tp 22) (ki 0) 3) 4])
   (.cond (tp 23) (.skip)
   (.exit 1)))
   (.seq (.block 2 (.seq (.seq (.reg [] [
     rq 26 (.load 54 (tp 7)) 54,
     rq 27 (cf 29 #[(tp 26)] #[54]) 4])
    (.cond (tp 27) (.seq (.reg [] [
      rq 29 (.load 54 (tp 7)) 54,
      rq 30 (cf 57 #[(tp 29)] #[54]) 3,
      rq 31 (cf 31 #[(tp 30)] #[3]) 57,
      rq 28 (.move (tp 31)) 57,
      rq 32 (.extract (tp 28) 0) 3,
      rq 33 (.extract (tp 28) 1) 3,
      rq 8 (.assign (tp 32)) 3,
      rq 9 (.assign (tp 33)) 3])
     (.reg [] [
       rq 34 (.move (tp 1)) 3,
       rq 35 (.binOp .sub 3 (tp 34) (ki 1) 3) 3,
       rq 36 (.move (tp 8)) 3,
       rq 37 (.binOp .add 3 (tp 36) (ki 1) 3) 3,
       rq 38 (.binOp .rem 3 (tp 35) (tp 37) 3) 3,
       rq 39 (.binOp .add 3 (tp 38) (ki 1) 3) 3,
       rq 1 (.assign (tp 39)) 3]))
    (.skip)))
    (.reg [] [
      rq 40 (.load 54 (tp 7)) 54,
      rq 41 (cf 59 #[(tp 40)] #[54]) 54,
      rn (.store 54 (tp 7) (tp 41)) 0])))
   (.reg [] [
     rq 24 (.move (tp 1)) 3,
     rq 25 (.binOp .sub 3 (tp 24) (ki 1) 3) 3,
     rq 1 (.assign (tp 25)) 3])))))
 (.seq (.reg [] [
   rq 42 (.load 54 (tp 7)) 54,rq 43 (cf 56 #[(tp 42)] #[54]) 25,rq 4 (.assign (tp 43)) 25,rq 5 (.assign (ki 0)) 26])
 (.ret))))))
def c47:RC:=
 .seq (.reg [] [
  rq 2 (.assign (ki 0)) 3,rq 3 (.assign (ki 0)) 26])
 (.seq (.seq (.reg [] [
   rq 7 (.move (tp 0)) 25,rq 8 (cf 27 #[(tp 7)] #[25]) 26,rq 4 (.assign (tp 8)) 26])
 (.seq (.reg [] [
   rq 9 (.move (tp 4)) 26,rq 10 (.binOp .neq 26 (tp 9) (ki 0) 26) 4])
 (.cond (tp 10) (.seq (.reg [] [
   rq 11 (.move (tp 4)) 26,
   rq 2 (.assign (ki 0)) 3,
   rq 3 (.assign (tp 11)) 26])
  (.ret))
 (.skip))))
 (.seq (.reg [] [
   rq 13 (.move (tp 0)) 25,rq 14 (cf 28 #[(tp 13)] #[25]) 54,rq 15 (cf 55 #[(tp 14)] #[54]) 74,rq 12 (.move (tp 15)) 74,rq 16 (.extract (tp 12) 0) 3,rq 17 (.extract (tp 12) 1) 54,rq 6 (.alloc 54) 0,rq 5 (.assign (tp 16)) 3,rn (.store 54 (tp 6) (tp 17)) 0])
 (.seq (.reg [] [
   rq 18 (.move (tp 5)) 3,rq 2 (.assign (tp 18)) 3,rq 3 (.assign (ki 0)) 26])
 (.ret))))
def c48:RC:=
 .seq (.reg [] [
  rq 2 (.assign (.const (.slice none 0 0))) 23,rq 3 (.assign (ki 0)) 26])
 (.seq (.seq (.reg [] [
   rq 5 (.move (tp 0)) 25,rq 6 (cf 27 #[(tp 5)] #[25]) 26,rq 4 (.assign (tp 6)) 26])
 (.seq (.reg [] [
   rq 7 (.move (tp 4)) 26,rq 8 (.binOp .neq 26 (tp 7) (ki 0) 26) 4])
 (.cond (tp 8) (.seq (.reg [] [
   rq 9 (.move (tp 4)) 26,
   rq 2 (.assign (.const (.slice none 0 0))) 23,
   rq 3 (.assign (tp 9)) 26])
  (.ret))
 (.skip))))
 (.seq (.reg [] [
   rq 10 (.move (tp 0)) 25,rq 11 (cf 28 #[(tp 10)] #[25]) 54,rq 12 (cf 36 #[(tp 11)] #[54]) 23,rq 2 (.assign (tp 12)) 23,rq 3 (.assign (ki 0)) 26])
 (.ret)))
def c49:RC:=
 .seq (.reg [] [
  rq 2 (.assign (.const (.slice none 0 0))) 25,rq 3 (.assign (ki 0)) 26])
 (.seq (.seq (.reg [] [
   rq 9 (.move (tp 0)) 25,rq 10 (cf 27 #[(tp 9)] #[25]) 26,rq 4 (.assign (tp 10)) 26])
 (.seq (.reg [] [
   rq 11 (.move (tp 4)) 26,rq 12 (.binOp .neq 26 (tp 11) (ki 0) 26) 4])
 (.cond (tp 12) (.seq (.reg [] [
   rq 13 (.move (tp 4)) 26,
   rq 2 (.assign (.const (.slice none 0 0))) 25,
   rq 3 (.assign (tp 13)) 26])
  (.ret))
 (.skip))))
 (.seq (.reg [] [
   rq 14 (.move (tp 0)) 25,rq 15 (.indexAddr 25 (tp 14) (ki 0)) 0,rq 16 (.load 3 (tp 15)) 3,rq 17 (.makeSlice 25 (tp 16) (tp 16)) 25,rq 5 (.assign (tp 17)) 25])
 (.seq (.seq (.reg [] [
   rq 18 (.move (tp 0)) 25,rq 19 (cb .len #[(tp 18)] #[25]) 3,rq 20 (.move (ki 0)) 3])
 (.block 0 (.loop (.seq (.reg [] [
   rq 21 (.binOp .lss 3 (tp 20) (tp 19) 3) 0])
   (.seq (.cond (tp 21) (.skip)
   (.exit 0))
   (.seq (.block 1 (.seq (.reg [] [
     rq 22 (.indexAddr 25 (tp 18) (tp 20)) 0,
     rq 23 (.load 3 (tp 22)) 3,
     rq 7 (.assign (tp 23)) 3])
    (.seq (.reg [] [
      rq 24 (.move (tp 7)) 3,
      rq 25 (.move (ki 0)) 3])
    (.block 2 (.loop (.seq (.reg [] [
      rq 26 (.binOp .lss 3 (tp 25) (tp 24) 3) 4])
      (.seq (.cond (tp 26) (.skip)
      (.exit 2))
      (.seq (.block 3 (.seq (.reg [] [
        rq 27 (.move (tp 25)) 3,
        rq 8 (.assign (tp 27)) 3])
       (.reg [] [
         rq 28 (.move (tp 5)) 25,
         rq 29 (.move (tp 8)) 3,
         rq 30 (.indexAddr 25 (tp 28) (tp 29)) 0,
         rq 31 (.load 3 (tp 30)) 3,
         rq 32 (.binOp .add 3 (tp 31) (ki 1) 3) 3,
         rq 33 (.indexAddr 25 (tp 28) (tp 29)) 0,
         rn (.store 3 (tp 33) (tp 32)) 0])))
      (.reg [] [
        rq 34 (.binOp .add 3 (tp 25) (ki 1) 3) 3,
        rq 25 (.move (tp 34)) 3])))))))))
   (.reg [] [
     rq 35 (.binOp .add 3 (tp 20) (ki 1) 3) 3,
     rq 20 (.move (tp 35)) 3])))))))
 (.seq (.reg [] [
   rq 36 (.move (tp 5)) 25,rq 2 (.assign (tp 36)) 25,rq 3 (.assign (ki 0)) 26])
 (.ret)))))
def c50:RC:=
 .seq (.reg [] [
  rq 2 (.assign (.const (.slice none 0 0))) 23])
 (.seq (.reg [] [
   rq 3 (.move (tp 0)) 23,rq 2 (.assign (tp 3)) 23])
 (.ret))
def c51:RC:=
 .seq (.reg [] [
  rq 1 (.box 54 (tp 0)) 0,rq 2 (.assign (.const (.slice none 0 0))) 23])
 (.seq (.reg [] [
   rq 8 (.load 54 (tp 1)) 54,rq 9 (cf 65 #[(tp 8)] #[54]) 3,rq 10 (.binOp .sub 3 (tp 9) (ki 1) 3) 3,rq 3 (.assign (tp 10)) 3])
 (.seq (.reg [] [
   rq 4 (.assign (.const (.slice none 0 0))) 23])
 (.seq (.seq (.reg [] [
   rq 11 (.move (tp 3)) 3,rq 12 (cb .max #[(tp 11),(ki 1)] #[3,3]) 3,rq 5 (.assign (tp 12)) 3])
 (.block 0 (.loop (.seq (.seq (.reg [] [
   rq 13 (.move (tp 5)) 3,
   rq 14 (.binOp .leq 3 (tp 13) (ki 21) 3) 4])
   (.cond (tp 14) (.skip)
   (.exit 0)))
   (.seq (.block 1 (.seq (.seq (.reg [] [
     rq 17 (.move (tp 5)) 3,
     rq 18 (.indexAddr 54 (tp 1) (tp 17)) 0,
     rq 19 (.load 3 (tp 18)) 3,
     rq 20 (.binOp .eql 3 (tp 19) (ki 0) 3) 4])
    (.cond (tp 20) (.exit 1)
    (.skip)))
    (.seq (.reg [] [
      rq 21 (.load 54 (tp 1)) 54,
      rq 6 (.alloc 54) 0,
      rn (.store 54 (tp 6) (tp 21)) 0])
    (.seq (.reg [] [
      rq 22 (.move (tp 5)) 3,
      rq 23 (.indexAddr 54 (tp 6) (tp 22)) 0,
      rq 24 (.load 3 (tp 23)) 3,
      rq 25 (.binOp .sub 3 (tp 24) (ki 1) 3) 3,
      rq 26 (.indexAddr 54 (tp 6) (tp 22)) 0,
      rn (.store 3 (tp 26) (tp 25)) 0])
    (.seq (.reg [] [
      rq 7 (.alloc 54) 0])
    (.seq (.reg [0, 1, 2] [
      rq 27 (.slice 54 (tp 7) (some (ki 2)) none none) 25,
      rq 28 (.slice 54 (tp 6) (some (ki 1)) none none) 25,
      rq 29 (cb .copy #[(tp 27),(tp 28)] #[25,25]) 3])
    (.seq (.reg [] [
      rq 30 (.move (tp 5)) 3,
      rq 31 (.move (tp 3)) 3,
      rq 32 (.binOp .sub 3 (tp 30) (tp 31) 3) 3,
      rq 33 (.indexAddr 54 (tp 7) (ki 1)) 0,
      rn (.store 3 (tp 33) (tp 32)) 0])
    (.reg [] [
      rq 34 (.move (tp 4)) 23,
      rq 35 (.load 54 (tp 7)) 54,
      rq 36 (cf 56 #[(tp 35)] #[54]) 25,
      rq 37 (.buildSlice 23 1 #[(0,(tp 36))]) 23,
      rq 38 (cb .append #[(tp 34),(tp 37)] #[23,23]) 23,
      rq 4 (.assign (tp 38)) 23]))))))))
   (.reg [] [
     rq 15 (.move (tp 5)) 3,
     rq 16 (.binOp .add 3 (tp 15) (ki 1) 3) 3,
     rq 5 (.assign (tp 16)) 3]))))))
 (.seq (.reg [] [
   rq 39 (.move (tp 4)) 23,rq 40 (cf 66 #[(tp 39),(.func 12)] #[23,33]) 0])
 (.seq (.reg [] [
   rq 41 (.move (tp 4)) 23,rq 2 (.assign (tp 41)) 23])
 (.ret))))))
def c52:RC:=
 .seq (.reg [] [
  rq 3 (.box 66 (tp 1)) 0])
 (.seq (.reg [] [
   rq 4 (.alloc 51) 0])
 (.seq (.reg [] [
   rq 5 (.makeFunc (.func 67) #[] #[(tp 3),(tp 4)]) 51,rn (.store 51 (tp 4) (tp 5)) 0])
 (.reg [] [
   rq 6 (.load 51 (tp 4)) 51,rq 7 (.move (tp 0)) 3,rq 8 (.move (tp 0)) 3,rq 9 (.call ⟨.value (tp 6),#[(.const (.slice none 0 0)),(tp 7),(tp 8)],#[25,3,3]⟩) 0])))
def c53:RC:=
 .seq (.reg [] [
  rq 3 (.move (tp 0)) 25,rq 4 (cf 28 #[(tp 3)] #[25]) 54,rq 5 (cf 51 #[(tp 4)] #[54]) 23,rq 6 (cb .len #[(tp 5)] #[23]) 3,rq 7 (.binOp .eql 3 (tp 6) (ki 0) 3) 4])
 (.cond (tp 7) (.reg [] [
   rq 8 (.load 3 (tp 1)) 3,
   rq 9 (.binOp .add 3 (tp 8) (ki 1) 3) 3,
   rn (.store 3 (tp 1) (tp 9)) 0])
 (.skip))
def c54:RC:=
 .seq (.reg [] [
  rq 7 (.move (tp 0)) 25,rq 8 (cf 28 #[(tp 7)] #[25]) 54,rq 9 (cf 55 #[(tp 8)] #[54]) 74,rq 6 (.move (tp 9)) 74,rq 10 (.extract (tp 6) 0) 3,rq 11 (.extract (tp 6) 1) 54,rq 5 (.alloc 54) 0,rq 4 (.assign (tp 10)) 3,rn (.store 54 (tp 5) (tp 11)) 0])
 (.seq (.reg [] [
   rq 12 (.move (tp 4)) 3,rq 13 (.load 3 (tp 1)) 3,rq 14 (.binOp .gtr 3 (tp 12) (tp 13) 3) 4])
 (.cond (tp 14) (.reg [] [
   rq 15 (.move (tp 4)) 3,
   rq 16 (.move (tp 0)) 25,
   rn (.store 3 (tp 1) (tp 15)) 0,
   rn (.store 25 (tp 2) (tp 16)) 0])
 (.skip)))
def c55:RC:=c55_26
def c56:RC:=c56_18
def c57:RC:=c57_20
def c58:RC:=
 .seq (.reg [] [
  rq 4 (.assign (ki 0)) 3])
 (.seq (.seq (.reg [] [
   rq 6 (.move (tp 0)) 25,rq 7 (cb .len #[(tp 6)] #[25]) 3,rq 8 (.move (ki 0)) 3])
 (.block 0 (.loop (.seq (.reg [] [
   rq 9 (.binOp .lss 3 (tp 8) (tp 7) 3) 0])
   (.seq (.cond (tp 9) (.skip)
   (.exit 0))
   (.seq (.block 1 (.seq (.reg [] [
     rq 10 (.move (tp 8)) 3,
     rq 5 (.assign (tp 10)) 3])
    (.seq (.reg [] [
      rq 11 (.move (tp 1)) 60,
      rq 12 (.move (tp 0)) 25,
      rq 13 (.move (tp 5)) 3,
      rq 14 (.indexAddr 25 (tp 12) (tp 13)) 0,
      rq 15 (.load 3 (tp 14)) 3,
      rq 16 (.call ⟨.value (tp 11),#[(tp 15)],#[3]⟩) 4])
    (.cond (tp 16) (.seq (.reg [] [
      rq 17 (.move (tp 5)) 3,
      rq 4 (.assign (tp 17)) 3])
     (.ret))
    (.skip)))))
   (.reg [] [
     rq 18 (.binOp .add 3 (tp 8) (ki 1) 3) 3,
     rq 8 (.move (tp 18)) 3])))))))
 (.seq (.reg [] [
   rq 4 (.assign (ki (-1))) 3])
 (.ret)))
def c59:RC:=c59_11
def c60:RC:=
 .seq (.reg [] [
  rq 2 (.assign (.const (.slice none 0 0))) 23])
 (.seq (.reg [] [
   rq 3 (.assign (ki 0)) 3])
 (.seq (.seq (.reg [] [
   rq 9 (.move (tp 0)) 30,rq 10 (cb .len #[(tp 9)] #[30]) 3,rq 11 (.move (ki 0)) 3])
 (.block 0 (.loop (.seq (.reg [] [
   rq 12 (.binOp .lss 3 (tp 11) (tp 10) 3) 0])
   (.seq (.cond (tp 12) (.skip)
   (.exit 0))
   (.seq (.block 1 (.seq (.reg [] [
     rq 13 (.indexAddr 30 (tp 9) (tp 11)) 0,
     rq 14 (.load 23 (tp 13)) 23,
     rq 5 (.assign (tp 14)) 23])
    (.seq (.reg [] [
      rq 15 (.move (tp 3)) 3,
      rq 16 (.move (tp 5)) 23,
      rq 17 (cb .len #[(tp 16)] #[23]) 3,
      rq 18 (.binOp .add 3 (tp 15) (tp 17) 3) 3,
      rq 3 (.assign (tp 18)) 3])
    (.seq (.reg [] [
      rq 19 (.move (tp 3)) 3,
      rq 20 (.binOp .lss 3 (tp 19) (ki 0) 3) 4])
    (.cond (tp 20) (.reg [] [
      rq 21 (.makeInterface 9 (.const (.string ⟨#[108,101,110,32,111,117,116,32,111,102,32,114,97,110,103,101]⟩))) 20,
      rn (.panic (tp 21)) 0])
    (.skip))))))
   (.reg [] [
     rq 22 (.binOp .add 3 (tp 11) (ki 1) 3) 3,
     rq 11 (.move (tp 22)) 3])))))))
 (.seq (.reg [] [
   rq 23 (.move (tp 3)) 3,rq 24 (cf 69 #[(.const (.slice none 0 0)),(tp 23)] #[23,3]) 23,rq 6 (.assign (tp 24)) 23])
 (.seq (.seq (.reg [] [
   rq 25 (.move (tp 0)) 30,rq 26 (cb .len #[(tp 25)] #[30]) 3,rq 27 (.move (ki 0)) 3])
 (.block 2 (.loop (.seq (.reg [] [
   rq 28 (.binOp .lss 3 (tp 27) (tp 26) 3) 0])
   (.seq (.cond (tp 28) (.skip)
   (.exit 2))
   (.seq (.block 3 (.seq (.reg [] [
     rq 29 (.indexAddr 30 (tp 25) (tp 27)) 0,
     rq 30 (.load 23 (tp 29)) 23,
     rq 8 (.assign (tp 30)) 23])
    (.reg [] [
      rq 31 (.move (tp 6)) 23,
      rq 32 (.move (tp 8)) 23,
      rq 33 (cb .append #[(tp 31),(tp 32)] #[23,23]) 23,
      rq 6 (.assign (tp 33)) 23])))
   (.reg [] [
     rq 34 (.binOp .add 3 (tp 27) (ki 1) 3) 3,
     rq 27 (.move (tp 34)) 3])))))))
 (.seq (.reg [] [
   rq 35 (.move (tp 6)) 23,rq 2 (.assign (tp 35)) 23])
 (.ret))))))
def c61:RC:=
 .seq (.reg [] [
  rq 10 (.assign (kb true)) 4])
 (.seq (.reg [] [
   rq 11 (.assign (kb true)) 4])
 (.block 0 (.loop (.block 1 (.seq (.reg [] [
   rq 21 (.move (tp 2)) 3,
   rq 22 (.move (tp 1)) 3,
   rq 23 (.binOp .sub 3 (tp 21) (tp 22) 3) 3,
   rq 12 (.assign (tp 23)) 3])
   (.seq (.seq (.reg [] [
     rq 24 (.move (tp 12)) 3,
     rq 25 (.binOp .leq 3 (tp 24) (ki 12) 3) 4])
   (.cond (tp 25) (.seq (.reg [] [
     rq 26 (.move (tp 0)) 30,
     rq 27 (.move (tp 1)) 3,
     rq 28 (.move (tp 2)) 3,
     rq 29 (.move (tp 4)) 63,
     rq 30 (cf 70 #[(tp 26),(tp 27),(tp 28),(tp 29)] #[30,3,3,63]) 0])
    (.ret))
   (.skip)))
   (.seq (.seq (.reg [] [
     rq 31 (.move (tp 3)) 3,
     rq 32 (.binOp .eql 3 (tp 31) (ki 0) 3) 4])
   (.cond (tp 32) (.seq (.reg [] [
     rq 33 (.move (tp 0)) 30,
     rq 34 (.move (tp 1)) 3,
     rq 35 (.move (tp 2)) 3,
     rq 36 (.move (tp 4)) 63,
     rq 37 (cf 71 #[(tp 33),(tp 34),(tp 35),(tp 36)] #[30,3,3,63]) 0])
    (.ret))
   (.skip)))
   (.seq (.seq (.reg [] [
     rq 38 (.move (tp 10)) 4,
     rq 39 (.unOp .not 4 (tp 38)) 4])
   (.cond (tp 39) (.seq (.reg [] [
     rq 40 (.move (tp 0)) 30,
     rq 41 (.move (tp 1)) 3,
     rq 42 (.move (tp 2)) 3,
     rq 43 (.move (tp 4)) 63,
     rq 44 (cf 72 #[(tp 40),(tp 41),(tp 42),(tp 43)] #[30,3,3,63]) 0])
    (.reg [] [
      rq 45 (.move (tp 3)) 3,
      rq 46 (.binOp .sub 3 (tp 45) (ki 1) 3) 3,
      rq 3 (.assign (tp 46)) 3]))
   (.skip)))
   (.seq (.reg [] [
     rq 48 (.move (tp 0)) 30,
     rq 49 (.move (tp 1)) 3,
     rq 50 (.move (tp 2)) 3,
     rq 51 (.move (tp 4)) 63,
     rq 52 (cf 73 #[(tp 48),(tp 49),(tp 50),(tp 51)] #[30,3,3,63]) 90,
     rq 47 (.move (tp 52)) 90,
     rq 53 (.extract (tp 47) 0) 3,
     rq 54 (.extract (tp 47) 1) 89,
     rq 13 (.assign (tp 53)) 3,
     rq 14 (.assign (tp 54)) 89])
   (.seq (.seq (.reg [] [
     rq 55 (.move (tp 14)) 89,
     rq 56 (.binOp .eql 89 (tp 55) (ki 2) 89) 4])
   (.cond (tp 56) (.seq (.reg [] [
     rq 57 (.move (tp 0)) 30,
     rq 58 (.move (tp 1)) 3,
     rq 59 (.move (tp 2)) 3,
     rq 60 (.move (tp 4)) 63,
     rq 61 (cf 74 #[(tp 57),(tp 58),(tp 59),(tp 60)] #[30,3,3,63]) 0])
    (.seq (.reg [] [
      rq 62 (.move (tp 2)) 3,
      rq 63 (.binOp .sub 3 (tp 62) (ki 1) 3) 3,
      rq 64 (.move (tp 13)) 3,
      rq 65 (.move (tp 1)) 3,
      rq 66 (.binOp .sub 3 (tp 64) (tp 65) 3) 3,
      rq 67 (.binOp .sub 3 (tp 63) (tp 66) 3) 3,
      rq 13 (.assign (tp 67)) 3])
    (.reg [] [
      rq 14 (.assign (ki 1)) 89])))
   (.skip)))
   (.seq (.seq (.reg [] [
     rq 68 (.move (tp 10)) 4,
     rq 69 (.move (tp 68)) 4,
     rg 70 (.move (tp 11)) 4 69 true,
     rq 71 (.pick (tp 69) (tp 70) (kb false)) 4,
     rq 72 (.move (tp 71)) 4,
     rg 73 (.move (tp 14)) 89 72 true,
     rg 74 (.binOp .eql 89 (tp 73) (ki 1) 89) 4 72 true,
     rq 75 (.pick (tp 72) (tp 74) (kb false)) 4])
   (.cond (tp 75) (.seq (.reg [] [
     rq 76 (.move (tp 0)) 30,
     rq 77 (.move (tp 1)) 3,
     rq 78 (.move (tp 2)) 3,
     rq 79 (.move (tp 4)) 63,
     rq 80 (cf 75 #[(tp 76),(tp 77),(tp 78),(tp 79)] #[30,3,3,63]) 4])
    (.cond (tp 80) (.ret)
    (.skip)))
   (.skip)))
   (.seq (.seq (.reg [0, 1, 2, 3, 4, 5, 6, 7, 8, 9, 10, 11, 12, 13, 14, 15, 16] [
     rq 81 (.move (tp 1)) 3,
     rq 82 (.binOp .gtr 3 (tp 81) (ki 0) 3) 4,
     rq 83 (.move (tp 82)) 4,
     rg 84 (.move (tp 4)) 63 83 true,
     rg 85 (.move (tp 0)) 30 83 true,
     rg 86 (.move (tp 1)) 3 83 true,
     rg 87 (.binOp .sub 3 (tp 86) (ki 1) 3) 3 83 true,
     rg 88 (.indexAddr 30 (tp 85) (tp 87)) 0 83 true,
     rg 89 (.load 23 (tp 88)) 23 83 true,
     rg 90 (.move (tp 0)) 30 83 true,
     rg 91 (.move (tp 13)) 3 83 true,
     rg 92 (.indexAddr 30 (tp 90) (tp 91)) 0 83 true,
     rg 93 (.load 23 (tp 92)) 23 83 true,
     rg 94 (.call ⟨.value (tp 84),#[(tp 89),(tp 93)],#[23,23]⟩) 3 83 true,
     rg 95 (.binOp .lss 3 (tp 94) (ki 0) 3) 4 83 true,
     rg 96 (.unOp .not 4 (tp 95)) 4 83 true,
     rq 97 (.pick (tp 83) (tp 96) (kb false)) 4])
   (.cond (tp 97) (.seq (.reg [] [
     rq 98 (.move (tp 0)) 30,
     rq 99 (.move (tp 1)) 3,
     rq 100 (.move (tp 2)) 3,
     rq 101 (.move (tp 13)) 3,
     rq 102 (.move (tp 4)) 63,
     rq 103 (cf 76 #[(tp 98),(tp 99),(tp 100),(tp 101),(tp 102)] #[30,3,3,3,63]) 3,
     rq 15 (.assign (tp 103)) 3])
    (.seq (.reg [] [
      rq 104 (.move (tp 15)) 3,
      rq 1 (.assign (tp 104)) 3])
    (.exit 1)))
   (.skip)))
   (.seq (.reg [] [
     rq 106 (.move (tp 0)) 30,
     rq 107 (.move (tp 1)) 3,
     rq 108 (.move (tp 2)) 3,
     rq 109 (.move (tp 13)) 3,
     rq 110 (.move (tp 4)) 63,
     rq 111 (cf 77 #[(tp 106),(tp 107),(tp 108),(tp 109),(tp 110)] #[30,3,3,3,63]) 94,
     rq 105 (.move (tp 111)) 94,
     rq 112 (.extract (tp 105) 0) 3,
     rq 113 (.extract (tp 105) 1) 4,
     rq 16 (.assign (tp 112)) 3,
     rq 17 (.assign (tp 113)) 4])
   (.seq (.reg [] [
     rq 114 (.move (tp 17)) 4,
     rq 11 (.assign (tp 114)) 4])
   (.seq (.reg [] [
     rq 115 (.move (tp 16)) 3,
     rq 116 (.move (tp 1)) 3,
     rq 117 (.binOp .sub 3 (tp 115) (tp 116) 3) 3,
     rq 118 (.move (tp 2)) 3,
     rq 119 (.move (tp 16)) 3,
     rq 120 (.binOp .sub 3 (tp 118) (tp 119) 3) 3,
     rq 18 (.assign (tp 117)) 3,
     rq 19 (.assign (tp 120)) 3])
   (.seq (.reg [] [
     rq 121 (.move (tp 12)) 3,
     rq 122 (.binOp .quo 3 (tp 121) (ki 8) 3) 3,
     rq 20 (.assign (tp 122)) 3])
   (.seq (.reg [] [
     rq 123 (.move (tp 18)) 3,
     rq 124 (.move (tp 19)) 3,
     rq 125 (.binOp .lss 3 (tp 123) (tp 124) 3) 4])
   (.cond (tp 125) (.seq (.reg [] [
     rq 126 (.move (tp 18)) 3,
     rq 127 (.move (tp 20)) 3,
     rq 128 (.binOp .geq 3 (tp 126) (tp 127) 3) 4,
     rq 10 (.assign (tp 128)) 4])
    (.seq (.reg [] [
      rq 129 (.move (tp 0)) 30,
      rq 130 (.move (tp 1)) 3,
      rq 131 (.move (tp 16)) 3,
      rq 132 (.move (tp 3)) 3,
      rq 133 (.move (tp 4)) 63,
      rq 134 (cf 61 #[(tp 129),(tp 130),(tp 131),(tp 132),(tp 133)] #[30,3,3,3,63]) 0])
    (.reg [] [
      rq 135 (.move (tp 16)) 3,
      rq 136 (.binOp .add 3 (tp 135) (ki 1) 3) 3,
      rq 1 (.assign (tp 136)) 3])))
   (.seq (.reg [] [
     rq 137 (.move (tp 19)) 3,
     rq 138 (.move (tp 20)) 3,
     rq 139 (.binOp .geq 3 (tp 137) (tp 138) 3) 4,
     rq 10 (.assign (tp 139)) 4])
    (.seq (.reg [] [
      rq 140 (.move (tp 0)) 30,
      rq 141 (.move (tp 16)) 3,
      rq 142 (.binOp .add 3 (tp 141) (ki 1) 3) 3,
      rq 143 (.move (tp 2)) 3,
      rq 144 (.move (tp 3)) 3,
      rq 145 (.move (tp 4)) 63,
      rq 146 (cf 61 #[(tp 140),(tp 142),(tp 143),(tp 144),(tp 145)] #[30,3,3,3,63]) 0])
    (.reg [] [
      rq 147 (.move (tp 16)) 3,
      rq 2 (.assign (tp 147)) 3])))))))))))))))))))))
def c62:RC:=
 .seq (.reg [] [
  rq 2 (.assign (ki 0)) 3])
 (.seq (.cond (kb false) (.seq (.reg [] [
   rq 3 (.move (tp 0)) 83,
   rq 4 (.convert 83 97 (tp 3)) 97,
   rq 5 (cf 78 #[(tp 4)] #[97]) 3,
   rq 2 (.assign (tp 5)) 3])
  (.ret))
 (.skip))
 (.seq (.reg [] [
   rq 6 (.move (tp 0)) 83,rq 7 (cf 79 #[(tp 6)] #[99]) 3,rq 2 (.assign (tp 7)) 3])
 (.ret)))
def c63:RC:=c63_3
def c64:RC:=
 .seq (.reg [] [
  rq 8 (.assign (kb true)) 4])
 (.seq (.reg [] [
   rq 9 (.assign (kb true)) 4])
 (.block 0 (.loop (.block 1 (.seq (.reg [] [
   rq 19 (.move (tp 2)) 3,
   rq 20 (.move (tp 1)) 3,
   rq 21 (.binOp .sub 3 (tp 19) (tp 20) 3) 3,
   rq 10 (.assign (tp 21)) 3])
   (.seq (.seq (.reg [] [
     rq 22 (.move (tp 10)) 3,
     rq 23 (.binOp .leq 3 (tp 22) (ki 12) 3) 4])
   (.cond (tp 23) (.seq (.reg [] [
     rq 24 (.move (tp 0)) 25,
     rq 25 (.move (tp 1)) 3,
     rq 26 (.move (tp 2)) 3,
     rq 27 (cf 80 #[(tp 24),(tp 25),(tp 26)] #[25,3,3]) 0])
    (.ret))
   (.skip)))
   (.seq (.seq (.reg [] [
     rq 28 (.move (tp 3)) 3,
     rq 29 (.binOp .eql 3 (tp 28) (ki 0) 3) 4])
   (.cond (tp 29) (.seq (.reg [] [
     rq 30 (.move (tp 0)) 25,
     rq 31 (.move (tp 1)) 3,
     rq 32 (.move (tp 2)) 3,
     rq 33 (cf 81 #[(tp 30),(tp 31),(tp 32)] #[25,3,3]) 0])
    (.ret))
   (.skip)))
   (.seq (.seq (.reg [] [
     rq 34 (.move (tp 8)) 4,
     rq 35 (.unOp .not 4 (tp 34)) 4])
   (.cond (tp 35) (.seq (.reg [] [
     rq 36 (.move (tp 0)) 25,
     rq 37 (.move (tp 1)) 3,
     rq 38 (.move (tp 2)) 3,
     rq 39 (cf 82 #[(tp 36),(tp 37),(tp 38)] #[25,3,3]) 0])
    (.reg [] [
      rq 40 (.move (tp 3)) 3,
      rq 41 (.binOp .sub 3 (tp 40) (ki 1) 3) 3,
      rq 3 (.assign (tp 41)) 3]))
   (.skip)))
   (.seq (.reg [] [
     rq 43 (.move (tp 0)) 25,
     rq 44 (.move (tp 1)) 3,
     rq 45 (.move (tp 2)) 3,
     rq 46 (cf 83 #[(tp 43),(tp 44),(tp 45)] #[25,3,3]) 90,
     rq 42 (.move (tp 46)) 90,
     rq 47 (.extract (tp 42) 0) 3,
     rq 48 (.extract (tp 42) 1) 89,
     rq 11 (.assign (tp 47)) 3,
     rq 12 (.assign (tp 48)) 89])
   (.seq (.seq (.reg [] [
     rq 49 (.move (tp 12)) 89,
     rq 50 (.binOp .eql 89 (tp 49) (ki 2) 89) 4])
   (.cond (tp 50) (.seq (.reg [] [
     rq 51 (.move (tp 0)) 25,
     rq 52 (.move (tp 1)) 3,
     rq 53 (.move (tp 2)) 3,
     rq 54 (cf 84 #[(tp 51),(tp 52),(tp 53)] #[25,3,3]) 0])
    (.seq (.reg [] [
      rq 55 (.move (tp 2)) 3,
      rq 56 (.binOp .sub 3 (tp 55) (ki 1) 3) 3,
      rq 57 (.move (tp 11)) 3,
      rq 58 (.move (tp 1)) 3,
      rq 59 (.binOp .sub 3 (tp 57) (tp 58) 3) 3,
      rq 60 (.binOp .sub 3 (tp 56) (tp 59) 3) 3,
      rq 11 (.assign (tp 60)) 3])
    (.reg [] [
      rq 12 (.assign (ki 1)) 89])))
   (.skip)))
   (.seq (.seq (.reg [] [
     rq 61 (.move (tp 8)) 4,
     rq 62 (.move (tp 61)) 4,
     rg 63 (.move (tp 9)) 4 62 true,
     rq 64 (.pick (tp 62) (tp 63) (kb false)) 4,
     rq 65 (.move (tp 64)) 4,
     rg 66 (.move (tp 12)) 89 65 true,
     rg 67 (.binOp .eql 89 (tp 66) (ki 1) 89) 4 65 true,
     rq 68 (.pick (tp 65) (tp 67) (kb false)) 4])
   (.cond (tp 68) (.seq (.reg [] [
     rq 69 (.move (tp 0)) 25,
     rq 70 (.move (tp 1)) 3,
     rq 71 (.move (tp 2)) 3,
     rq 72 (cf 85 #[(tp 69),(tp 70),(tp 71)] #[25,3,3]) 4])
    (.cond (tp 72) (.ret)
    (.skip)))
   (.skip)))
   (.seq (.seq (.reg [0, 1, 2, 3, 4, 5, 6, 7, 8, 9, 10, 11, 12, 13, 14] [
     rq 73 (.move (tp 1)) 3,
     rq 74 (.binOp .gtr 3 (tp 73) (ki 0) 3) 4,
     rq 75 (.move (tp 74)) 4,
     rg 76 (.move (tp 0)) 25 75 true,
     rg 77 (.move (tp 1)) 3 75 true,
     rg 78 (.binOp .sub 3 (tp 77) (ki 1) 3) 3 75 true,
     rg 79 (.indexAddr 25 (tp 76) (tp 78)) 0 75 true,
     rg 80 (.load 3 (tp 79)) 3 75 true,
     rg 81 (.move (tp 0)) 25 75 true,
     rg 82 (.move (tp 11)) 3 75 true,
     rg 83 (.indexAddr 25 (tp 81) (tp 82)) 0 75 true,
     rg 84 (.load 3 (tp 83)) 3 75 true,
     rg 85 (cf 86 #[(tp 80),(tp 84)] #[3,3]) 4 75 true,
     rg 86 (.unOp .not 4 (tp 85)) 4 75 true,
     rq 87 (.pick (tp 75) (tp 86) (kb false)) 4])
   (.cond (tp 87) (.seq (.reg [] [
     rq 88 (.move (tp 0)) 25,
     rq 89 (.move (tp 1)) 3,
     rq 90 (.move (tp 2)) 3,
     rq 91 (.move (tp 11)) 3,
     rq 92 (cf 87 #[(tp 88),(tp 89),(tp 90),(tp 91)] #[25,3,3,3]) 3,
     rq 13 (.assign (tp 92)) 3])
    (.seq (.reg [] [
      rq 93 (.move (tp 13)) 3,
      rq 1 (.assign (tp 93)) 3])
    (.exit 1)))
   (.skip)))
   (.seq (.reg [] [
     rq 95 (.move (tp 0)) 25,
     rq 96 (.move (tp 1)) 3,
     rq 97 (.move (tp 2)) 3,
     rq 98 (.move (tp 11)) 3,
     rq 99 (cf 88 #[(tp 95),(tp 96),(tp 97),(tp 98)] #[25,3,3,3]) 94,
     rq 94 (.move (tp 99)) 94,
     rq 100 (.extract (tp 94) 0) 3,
     rq 101 (.extract (tp 94) 1) 4,
     rq 14 (.assign (tp 100)) 3,
     rq 15 (.assign (tp 101)) 4])
   (.seq (.reg [] [
     rq 102 (.move (tp 15)) 4,
     rq 9 (.assign (tp 102)) 4])
   (.seq (.reg [] [
     rq 103 (.move (tp 14)) 3,
     rq 104 (.move (tp 1)) 3,
     rq 105 (.binOp .sub 3 (tp 103) (tp 104) 3) 3,
     rq 106 (.move (tp 2)) 3,
     rq 107 (.move (tp 14)) 3,
     rq 108 (.binOp .sub 3 (tp 106) (tp 107) 3) 3,
     rq 16 (.assign (tp 105)) 3,
     rq 17 (.assign (tp 108)) 3])
   (.seq (.reg [] [
     rq 109 (.move (tp 10)) 3,
     rq 110 (.binOp .quo 3 (tp 109) (ki 8) 3) 3,
     rq 18 (.assign (tp 110)) 3])
   (.seq (.reg [] [
     rq 111 (.move (tp 16)) 3,
     rq 112 (.move (tp 17)) 3,
     rq 113 (.binOp .lss 3 (tp 111) (tp 112) 3) 4])
   (.cond (tp 113) (.seq (.reg [] [
     rq 114 (.move (tp 16)) 3,
     rq 115 (.move (tp 18)) 3,
     rq 116 (.binOp .geq 3 (tp 114) (tp 115) 3) 4,
     rq 8 (.assign (tp 116)) 4])
    (.seq (.reg [] [
      rq 117 (.move (tp 0)) 25,
      rq 118 (.move (tp 1)) 3,
      rq 119 (.move (tp 14)) 3,
      rq 120 (.move (tp 3)) 3,
      rq 121 (cf 64 #[(tp 117),(tp 118),(tp 119),(tp 120)] #[25,3,3,3]) 0])
    (.reg [] [
      rq 122 (.move (tp 14)) 3,
      rq 123 (.binOp .add 3 (tp 122) (ki 1) 3) 3,
      rq 1 (.assign (tp 123)) 3])))
   (.seq (.reg [] [
     rq 124 (.move (tp 17)) 3,
     rq 125 (.move (tp 18)) 3,
     rq 126 (.binOp .geq 3 (tp 124) (tp 125) 3) 4,
     rq 8 (.assign (tp 126)) 4])
    (.seq (.reg [] [
      rq 127 (.move (tp 0)) 25,
      rq 128 (.move (tp 14)) 3,
      rq 129 (.binOp .add 3 (tp 128) (ki 1) 3) 3,
      rq 130 (.move (tp 2)) 3,
      rq 131 (.move (tp 3)) 3,
      rq 132 (cf 64 #[(tp 127),(tp 129),(tp 130),(tp 131)] #[25,3,3,3]) 0])
    (.reg [] [
      rq 133 (.move (tp 14)) 3,
      rq 2 (.assign (tp 133)) 3])))))))))))))))))))))
def c65:RC:=c65_20
def c66:RC:=
 .seq (.reg [] [
  rq 5 (.move (tp 0)) 23,rq 6 (cb .len #[(tp 5)] #[23]) 3,rq 4 (.assign (tp 6)) 3])
 (.reg [] [
   rq 7 (.move (tp 0)) 23,rq 8 (.move (tp 4)) 3,rq 9 (.move (tp 4)) 3,rq 10 (.convert 3 83 (tp 9)) 83,rq 11 (cf 62 #[(tp 10)] #[83]) 3,rq 12 (.move (tp 1)) 33,rq 13 (cf 89 #[(tp 7),(ki 0),(tp 8),(tp 11),(tp 12)] #[23,3,3,3,33]) 0])
def c67:RC:=
 .seq (.seq (.reg [] [
  rq 9 (.move (tp 1)) 3,rq 10 (.binOp .eql 3 (tp 9) (ki 0) 3) 4])
 (.cond (tp 10) (.seq (.reg [] [
   rq 11 (.load 66 (tp 3)) 66,
   rq 12 (.move (tp 0)) 25,
   rq 13 (.call ⟨.value (tp 11),#[(tp 12)],#[25]⟩) 0])
  (.ret))
 (.skip)))
 (.seq (.reg [] [
   rq 8 (.assign (ki 1)) 3])
 (.block 0 (.loop (.seq (.seq (.reg [] [
   rq 14 (.move (tp 8)) 3,
   rq 15 (.move (tp 1)) 3,
   rq 16 (.move (tp 2)) 3,
   rq 17 (cb .min #[(tp 15),(tp 16)] #[3,3]) 3,
   rq 18 (.binOp .leq 3 (tp 14) (tp 17) 3) 4])
   (.cond (tp 18) (.skip)
   (.exit 0)))
   (.seq (.block 1 (.reg [0, 1, 3, 4, 6, 7, 8, 9, 2, 5, 10] [
     rq 21 (.load 51 (tp 4)) 51,
     rq 22 (.move (tp 0)) 25,
     rq 24 (.move (tp 8)) 3,
     rq 25 (.buildSlice 25 1 #[(0,(tp 24))]) 25,
     rq 27 (.move (tp 1)) 3,
     rq 28 (.move (tp 8)) 3,
     rq 29 (.binOp .sub 3 (tp 27) (tp 28) 3) 3,
     rq 30 (.move (tp 8)) 3,
     ⟨(some 23),cf 38 #[(tp 22)] #[25],25,none,[(tp 4)]⟩,
     ⟨(some 26),cb .append #[(tp 23),(tp 25)] #[25,25],25,none,[(tp 4)]⟩,
     rq 31 (.call ⟨.value (tp 21),#[(tp 26),(tp 29),(tp 30)],#[25,3,3]⟩) 0]))
   (.reg [] [
     rq 19 (.move (tp 8)) 3,
     rq 20 (.binOp .add 3 (tp 19) (ki 1) 3) 3,
     rq 8 (.assign (tp 20)) 3]))))))
def c68:RC:=
 .seq (.reg [] [
  rq 4 (.assign (.const (.slice none 0 0))) 25])
 (.seq (.seq (.reg [] [
   rq 9 (.move (tp 1)) 3,rq 10 (.binOp .lss 3 (tp 9) (ki 0) 3) 4])
 (.cond (tp 10) (.reg [] [
   rq 11 (.makeInterface 9 (.const (.string ⟨#[99,97,110,110,111,116,32,98,101,32,110,101,103,97,116,105,118,101]⟩))) 20,
   rn (.panic (tp 11)) 0])
 (.skip)))
 (.seq (.reg [] [
   rq 13 (.move (tp 0)) 25,rq 14 (cb .len #[(tp 13)] #[25]) 3,rq 15 (.convert 3 83 (tp 14)) 83,rq 16 (.move (tp 1)) 3,rq 17 (.convert 3 83 (tp 16)) 83,rq 18 (cf 90 #[(tp 15),(tp 17)] #[83,83]) 106,rq 12 (.move (tp 18)) 106,rq 19 (.extract (tp 12) 0) 83,rq 20 (.extract (tp 12) 1) 83,rq 5 (.assign (tp 19)) 83,rq 6 (.assign (tp 20)) 83])
 (.seq (.seq (.reg [] [
   rq 21 (.move (tp 5)) 83,rq 22 (.binOp .gtr 83 (tp 21) (.const (.int .u64 0)) 83) 4,rq 23 (.move (tp 22)) 4,rg 24 (.move (tp 6)) 83 23 false,rg 25 (.binOp .gtr 83 (tp 24) (.const (.int .u64 9223372036854775807)) 83) 4 23 false,rq 26 (.pick (tp 23) (kb true) (tp 25)) 4])
 (.cond (tp 26) (.reg [] [
   rq 27 (.makeInterface 9 (.const (.string ⟨#[116,104,101,32,114,101,115,117,108,116,32,111,102,32,40,108,101,110,40,120,41,32,42,32,99,111,117,110,116,41,32,111,118,101,114,102,108,111,119,115]⟩))) 20,
   rn (.panic (tp 27)) 0])
 (.skip)))
 (.seq (.reg [] [
   rq 28 (.move (tp 6)) 83,rq 29 (.convert 83 3 (tp 28)) 3,rq 30 (.makeSlice 25 (tp 29) (tp 29)) 25,rq 7 (.assign (tp 30)) 25])
 (.seq (.reg [] [
   rq 31 (.move (tp 7)) 25,rq 32 (.move (tp 0)) 25,rq 33 (cb .copy #[(tp 31),(tp 32)] #[25,25]) 3,rq 8 (.assign (tp 33)) 3])
 (.seq (.block 0 (.loop (.seq (.seq (.reg [] [
   rq 34 (.move (tp 8)) 3,
   rq 35 (.move (tp 7)) 25,
   rq 36 (cb .len #[(tp 35)] #[25]) 3,
   rq 37 (.binOp .lss 3 (tp 34) (tp 36) 3) 4])
   (.cond (tp 37) (.skip)
   (.exit 0)))
   (.block 1 (.reg [0, 1, 2, 3, 4, 5, 6, 7, 8, 9] [
     rq 38 (.move (tp 8)) 3,
     rq 39 (.move (tp 7)) 25,
     rq 40 (.move (tp 8)) 3,
     rq 41 (.slice 25 (tp 39) (some (tp 40)) none none) 25,
     rq 42 (.move (tp 7)) 25,
     rq 43 (.move (tp 8)) 3,
     rq 44 (.slice 25 (tp 42) none (some (tp 43)) none) 25,
     rq 45 (cb .copy #[(tp 41),(tp 44)] #[25,25]) 3,
     rq 46 (.binOp .add 3 (tp 38) (tp 45) 3) 3,
     rq 8 (.assign (tp 46)) 3])))))
 (.seq (.reg [] [
   rq 47 (.move (tp 7)) 25,rq 4 (.assign (tp 47)) 25])
 (.ret))))))))
def c69:RC:=
 .seq (.reg [] [
  rq 4 (.assign (.const (.slice none 0 0))) 23])
 (.seq (.seq (.reg [] [
   rq 5 (.move (tp 1)) 3,rq 6 (.binOp .lss 3 (tp 5) (ki 0) 3) 4])
 (.cond (tp 6) (.reg [] [
   rq 7 (.makeInterface 9 (.const (.string ⟨#[99,97,110,110,111,116,32,98,101,32,110,101,103,97,116,105,118,101]⟩))) 20,
   rn (.panic (tp 7)) 0])
 (.skip)))
 (.seq (.seq (.reg [] [
   rq 8 (.move (tp 1)) 3,rq 9 (.move (tp 0)) 23,rq 10 (cb .cap #[(tp 9)] #[23]) 3,rq 11 (.move (tp 0)) 23,rq 12 (cb .len #[(tp 11)] #[23]) 3,rq 13 (.binOp .sub 3 (tp 10) (tp 12) 3) 3,rq 14 (.binOp .sub 3 (tp 8) (tp 13) 3) 3,rq 1 (.assign (tp 14)) 3])
 (.seq (.reg [] [
   rq 15 (.move (tp 1)) 3,rq 16 (.binOp .gtr 3 (tp 15) (ki 0) 3) 4])
 (.cond (tp 16) (.reg [] [
   rq 17 (.move (tp 0)) 23,
   rq 18 (.move (tp 0)) 23,
   rq 19 (cb .cap #[(tp 18)] #[23]) 3,
   rq 20 (.slice 23 (tp 17) none (some (tp 19)) none) 23,
   rq 21 (.move (tp 1)) 3,
   rq 22 (cb .append #[(tp 20),(tp 21)] #[23,3]) 23,
   rq 23 (.move (tp 0)) 23,
   rq 24 (cb .len #[(tp 23)] #[23]) 3,
   rq 25 (.slice 23 (tp 22) none (some (tp 24)) none) 23,
   rq 0 (.assign (tp 25)) 23])
 (.skip))))
 (.seq (.reg [] [
   rq 26 (.move (tp 0)) 23,rq 4 (.assign (tp 26)) 23])
 (.ret))))
def c70:RC:=
 .seq (.reg [] [
  rq 10 (.move (tp 1)) 3,rq 11 (.binOp .add 3 (tp 10) (ki 1) 3) 3,rq 8 (.assign (tp 11)) 3])
 (.block 0 (.loop (.seq (.seq (.reg [] [
   rq 12 (.move (tp 8)) 3,
   rq 13 (.move (tp 2)) 3,
   rq 14 (.binOp .lss 3 (tp 12) (tp 13) 3) 4])
   (.cond (tp 14) (.skip)
   (.exit 0)))
   (.seq (.block 1 (.seq (.reg [] [
     rq 17 (.move (tp 8)) 3,
     rq 9 (.assign (tp 17)) 3])
    (.block 2 (.loop (.seq (.seq (.reg [0, 1, 2, 3, 4, 5, 6, 7, 8, 9, 10, 11, 12, 13, 14, 15, 16] [
      rq 18 (.move (tp 9)) 3,
      rq 19 (.move (tp 1)) 3,
      rq 20 (.binOp .gtr 3 (tp 18) (tp 19) 3) 4,
      rq 21 (.move (tp 20)) 4,
      rg 22 (.move (tp 3)) 63 21 true,
      rg 23 (.move (tp 0)) 30 21 true,
      rg 24 (.move (tp 9)) 3 21 true,
      rg 25 (.indexAddr 30 (tp 23) (tp 24)) 0 21 true,
      rg 26 (.load 23 (tp 25)) 23 21 true,
      rg 27 (.move (tp 0)) 30 21 true,
      rg 28 (.move (tp 9)) 3 21 true,
      rg 29 (.binOp .sub 3 (tp 28) (ki 1) 3) 3 21 true,
      rg 30 (.indexAddr 30 (tp 27) (tp 29)) 0 21 true,
      rg 31 (.load 23 (tp 30)) 23 21 true,
      rg 32 (.call ⟨.value (tp 22),#[(tp 26),(tp 31)],#[23,23]⟩) 3 21 true,
      rg 33 (.binOp .lss 3 (tp 32) (ki 0) 3) 4 21 true,
      rq 34 (.pick (tp 21) (tp 33) (kb false)) 4])
      (.cond (tp 34) (.skip)
      (.exit 2)))
      (.seq (.block 3 (.reg [0, 1, 2, 3, 4, 5, 6, 7, 8, 9, 10, 11, 12, 13, 14, 15, 16, 17] [
        rq 37 (.move (tp 0)) 30,
        rq 38 (.move (tp 9)) 3,
        rq 39 (.move (tp 0)) 30,
        rq 40 (.move (tp 9)) 3,
        rq 41 (.binOp .sub 3 (tp 40) (ki 1) 3) 3,
        rq 42 (.move (tp 0)) 30,
        rq 43 (.move (tp 9)) 3,
        rq 44 (.binOp .sub 3 (tp 43) (ki 1) 3) 3,
        rq 45 (.indexAddr 30 (tp 42) (tp 44)) 0,
        rq 46 (.load 23 (tp 45)) 23,
        rq 47 (.move (tp 0)) 30,
        rq 48 (.move (tp 9)) 3,
        rq 49 (.indexAddr 30 (tp 47) (tp 48)) 0,
        rq 50 (.load 23 (tp 49)) 23,
        rq 51 (.indexAddr 30 (tp 37) (tp 38)) 0,
        rn (.store 23 (tp 51) (tp 46)) 0,
        rq 52 (.indexAddr 30 (tp 39) (tp 41)) 0,
        rn (.store 23 (tp 52) (tp 50)) 0]))
      (.reg [] [
        rq 35 (.move (tp 9)) 3,
        rq 36 (.binOp .sub 3 (tp 35) (ki 1) 3) 3,
        rq 9 (.assign (tp 36)) 3])))))))
   (.reg [] [
     rq 15 (.move (tp 8)) 3,
     rq 16 (.binOp .add 3 (tp 15) (ki 1) 3) 3,
     rq 8 (.assign (tp 16)) 3])))))
def c71:RC:=
 .seq (.reg [] [
  rq 13 (.move (tp 1)) 3,rq 8 (.assign (tp 13)) 3])
 (.seq (.reg [] [
   rq 9 (.assign (ki 0)) 3])
 (.seq (.reg [] [
   rq 14 (.move (tp 2)) 3,rq 15 (.move (tp 1)) 3,rq 16 (.binOp .sub 3 (tp 14) (tp 15) 3) 3,rq 10 (.assign (tp 16)) 3])
 (.seq (.seq (.reg [] [
   rq 17 (.move (tp 10)) 3,rq 18 (.binOp .sub 3 (tp 17) (ki 1) 3) 3,rq 19 (.binOp .quo 3 (tp 18) (ki 2) 3) 3,rq 11 (.assign (tp 19)) 3])
 (.block 0 (.loop (.seq (.seq (.reg [] [
   rq 20 (.move (tp 11)) 3,
   rq 21 (.binOp .geq 3 (tp 20) (ki 0) 3) 4])
   (.cond (tp 21) (.skip)
   (.exit 0)))
   (.seq (.block 1 (.reg [] [
     rq 24 (.move (tp 0)) 30,
     rq 25 (.move (tp 11)) 3,
     rq 26 (.move (tp 10)) 3,
     rq 27 (.move (tp 8)) 3,
     rq 28 (.move (tp 3)) 63,
     rq 29 (cf 91 #[(tp 24),(tp 25),(tp 26),(tp 27),(tp 28)] #[30,3,3,3,63]) 0]))
   (.reg [] [
     rq 22 (.move (tp 11)) 3,
     rq 23 (.binOp .sub 3 (tp 22) (ki 1) 3) 3,
     rq 11 (.assign (tp 23)) 3]))))))
 (.seq (.reg [] [
   rq 30 (.move (tp 10)) 3,rq 31 (.binOp .sub 3 (tp 30) (ki 1) 3) 3,rq 12 (.assign (tp 31)) 3])
 (.block 2 (.loop (.seq (.seq (.reg [] [
   rq 32 (.move (tp 12)) 3,
   rq 33 (.binOp .geq 3 (tp 32) (ki 0) 3) 4])
   (.cond (tp 33) (.skip)
   (.exit 2)))
   (.seq (.block 3 (.seq (.reg [0, 1, 2, 3, 4, 5, 6, 7, 8, 9, 10, 11, 12, 13, 14, 15, 16, 17, 18, 19] [
     rq 36 (.move (tp 0)) 30,
     rq 37 (.move (tp 8)) 3,
     rq 38 (.move (tp 0)) 30,
     rq 39 (.move (tp 8)) 3,
     rq 40 (.move (tp 12)) 3,
     rq 41 (.binOp .add 3 (tp 39) (tp 40) 3) 3,
     rq 42 (.move (tp 0)) 30,
     rq 43 (.move (tp 8)) 3,
     rq 44 (.move (tp 12)) 3,
     rq 45 (.binOp .add 3 (tp 43) (tp 44) 3) 3,
     rq 46 (.indexAddr 30 (tp 42) (tp 45)) 0,
     rq 47 (.load 23 (tp 46)) 23,
     rq 48 (.move (tp 0)) 30,
     rq 49 (.move (tp 8)) 3,
     rq 50 (.indexAddr 30 (tp 48) (tp 49)) 0,
     rq 51 (.load 23 (tp 50)) 23,
     rq 52 (.indexAddr 30 (tp 36) (tp 37)) 0,
     rn (.store 23 (tp 52) (tp 47)) 0,
     rq 53 (.indexAddr 30 (tp 38) (tp 41)) 0,
     rn (.store 23 (tp 53) (tp 51)) 0])
    (.reg [] [
      rq 54 (.move (tp 0)) 30,
      rq 55 (.move (tp 9)) 3,
      rq 56 (.move (tp 12)) 3,
      rq 57 (.move (tp 8)) 3,
      rq 58 (.move (tp 3)) 63,
      rq 59 (cf 91 #[(tp 54),(tp 55),(tp 56),(tp 57),(tp 58)] #[30,3,3,3,63]) 0])))
   (.reg [] [
     rq 34 (.move (tp 12)) 3,
     rq 35 (.binOp .sub 3 (tp 34) (ki 1) 3) 3,
     rq 12 (.assign (tp 35)) 3])))))))))
def c72:RC:=
 .seq (.reg [] [
  rq 13 (.move (tp 2)) 3,rq 14 (.move (tp 1)) 3,rq 15 (.binOp .sub 3 (tp 13) (tp 14) 3) 3,rq 8 (.assign (tp 15)) 3])
 (.seq (.reg [] [
   rq 16 (.move (tp 8)) 3,rq 17 (.binOp .geq 3 (tp 16) (ki 8) 3) 4])
 (.cond (tp 17) (.seq (.reg [] [
   rq 18 (.move (tp 8)) 3,
   rq 19 (.convert 3 108 (tp 18)) 108,
   rq 9 (.alloc 108) 0,
   rn (.store 108 (tp 9) (tp 19)) 0])
  (.seq (.reg [] [
    rq 20 (.move (tp 8)) 3,
    rq 21 (cf 92 #[(tp 20)] #[3]) 83,
    rq 10 (.assign (tp 21)) 83])
  (.seq (.reg [] [
    rq 22 (.move (tp 1)) 3,
    rq 23 (.move (tp 8)) 3,
    rq 24 (.binOp .quo 3 (tp 23) (ki 4) 3) 3,
    rq 25 (.binOp .mul 3 (tp 24) (ki 2) 3) 3,
    rq 26 (.binOp .add 3 (tp 22) (tp 25) 3) 3,
    rq 27 (.binOp .sub 3 (tp 26) (ki 1) 3) 3,
    rq 11 (.assign (tp 27)) 3])
  (.block 0 (.loop (.seq (.seq (.reg [] [
    rq 28 (.move (tp 11)) 3,
    rq 29 (.move (tp 1)) 3,
    rq 30 (.move (tp 8)) 3,
    rq 31 (.binOp .quo 3 (tp 30) (ki 4) 3) 3,
    rq 32 (.binOp .mul 3 (tp 31) (ki 2) 3) 3,
    rq 33 (.binOp .add 3 (tp 29) (tp 32) 3) 3,
    rq 34 (.binOp .add 3 (tp 33) (ki 1) 3) 3,
    rq 35 (.binOp .leq 3 (tp 28) (tp 34) 3) 4])
    (.cond (tp 35) (.skip)
    (.exit 0)))
    (.seq (.block 1 (.seq (.reg [] [
      rq 38 (cf 93 #[(tp 9)] #[108]) 99,
      rq 39 (.move (tp 10)) 83,
      rq 40 (.binOp .sub 83 (tp 39) (.const (.int .u64 1)) 83) 83,
      rq 41 (.binOp .and 83 (tp 38) (tp 40) 83) 83,
      rq 42 (.convert 83 3 (tp 41)) 3,
      rq 12 (.assign (tp 42)) 3])
     (.seq (.seq (.reg [] [
       rq 43 (.move (tp 12)) 3,
       rq 44 (.move (tp 8)) 3,
       rq 45 (.binOp .geq 3 (tp 43) (tp 44) 3) 4])
     (.cond (tp 45) (.reg [] [
       rq 46 (.move (tp 12)) 3,
       rq 47 (.move (tp 8)) 3,
       rq 48 (.binOp .sub 3 (tp 46) (tp 47) 3) 3,
       rq 12 (.assign (tp 48)) 3])
     (.skip)))
     (.reg [0, 1, 2, 3, 4, 5, 6, 7, 8, 9, 10, 11, 12, 13, 14, 15, 16, 17, 18, 19] [
       rq 49 (.move (tp 0)) 30,
       rq 50 (.move (tp 11)) 3,
       rq 51 (.move (tp 0)) 30,
       rq 52 (.move (tp 1)) 3,
       rq 53 (.move (tp 12)) 3,
       rq 54 (.binOp .add 3 (tp 52) (tp 53) 3) 3,
       rq 55 (.move (tp 0)) 30,
       rq 56 (.move (tp 1)) 3,
       rq 57 (.move (tp 12)) 3,
       rq 58 (.binOp .add 3 (tp 56) (tp 57) 3) 3,
       rq 59 (.indexAddr 30 (tp 55) (tp 58)) 0,
       rq 60 (.load 23 (tp 59)) 23,
       rq 61 (.move (tp 0)) 30,
       rq 62 (.move (tp 11)) 3,
       rq 63 (.indexAddr 30 (tp 61) (tp 62)) 0,
       rq 64 (.load 23 (tp 63)) 23,
       rq 65 (.indexAddr 30 (tp 49) (tp 50)) 0,
       rn (.store 23 (tp 65) (tp 60)) 0,
       rq 66 (.indexAddr 30 (tp 51) (tp 54)) 0,
       rn (.store 23 (tp 66) (tp 64)) 0]))))
    (.reg [] [
      rq 36 (.move (tp 11)) 3,
      rq 37 (.binOp .add 3 (tp 36) (ki 1) 3) 3,
      rq 11 (.assign (tp 37)) 3]))))))))
 (.skip)))
def c73:RC:=
 .seq (.reg [] [
  rq 8 (.assign (ki 0)) 3,rq 9 (.assign (ki 0)) 89])
 (.seq (.reg [] [
   rq 15 (.move (tp 2)) 3,rq 16 (.move (tp 1)) 3,rq 17 (.binOp .sub 3 (tp 15) (tp 16) 3) 3,rq 10 (.assign (tp 17)) 3])
 (.seq (.reg [] [
   rq 11 (.alloc 3) 0])
 (.seq (.reg [] [
   rq 18 (.move (tp 1)) 3,rq 19 (.move (tp 10)) 3,rq 20 (.binOp .quo 3 (tp 19) (ki 4) 3) 3,rq 21 (.binOp .mul 3 (tp 20) (ki 1) 3) 3,rq 22 (.binOp .add 3 (tp 18) (tp 21) 3) 3,rq 12 (.assign (tp 22)) 3])
 (.seq (.reg [] [
   rq 23 (.move (tp 1)) 3,rq 24 (.move (tp 10)) 3,rq 25 (.binOp .quo 3 (tp 24) (ki 4) 3) 3,rq 26 (.binOp .mul 3 (tp 25) (ki 2) 3) 3,rq 27 (.binOp .add 3 (tp 23) (tp 26) 3) 3,rq 13 (.assign (tp 27)) 3])
 (.seq (.reg [] [
   rq 28 (.move (tp 1)) 3,rq 29 (.move (tp 10)) 3,rq 30 (.binOp .quo 3 (tp 29) (ki 4) 3) 3,rq 31 (.binOp .mul 3 (tp 30) (ki 3) 3) 3,rq 32 (.binOp .add 3 (tp 28) (tp 31) 3) 3,rq 14 (.assign (tp 32)) 3])
 (.seq (.seq (.reg [] [
   rq 33 (.move (tp 10)) 3,rq 34 (.binOp .geq 3 (tp 33) (ki 8) 3) 4])
 (.cond (tp 34) (.seq (.seq (.reg [] [
   rq 35 (.move (tp 10)) 3,
   rq 36 (.binOp .geq 3 (tp 35) (ki 50) 3) 4])
  (.cond (tp 36) (.seq (.reg [] [
    rq 37 (.move (tp 0)) 30,
    rq 38 (.move (tp 12)) 3,
    rq 39 (.move (tp 3)) 63,
    rq 40 (cf 94 #[(tp 37),(tp 38),(tp 11),(tp 39)] #[30,3,112,63]) 3,
    rq 12 (.assign (tp 40)) 3])
   (.seq (.reg [] [
     rq 41 (.move (tp 0)) 30,
     rq 42 (.move (tp 13)) 3,
     rq 43 (.move (tp 3)) 63,
     rq 44 (cf 94 #[(tp 41),(tp 42),(tp 11),(tp 43)] #[30,3,112,63]) 3,
     rq 13 (.assign (tp 44)) 3])
   (.reg [] [
     rq 45 (.move (tp 0)) 30,
     rq 46 (.move (tp 14)) 3,
     rq 47 (.move (tp 3)) 63,
     rq 48 (cf 94 #[(tp 45),(tp 46),(tp 11),(tp 47)] #[30,3,112,63]) 3,
     rq 14 (.assign (tp 48)) 3])))
  (.skip)))
  (.reg [] [
    rq 49 (.move (tp 0)) 30,
    rq 50 (.move (tp 12)) 3,
    rq 51 (.move (tp 13)) 3,
    rq 52 (.move (tp 14)) 3,
    rq 53 (.move (tp 3)) 63,
    rq 54 (cf 95 #[(tp 49),(tp 50),(tp 51),(tp 52),(tp 11),(tp 53)] #[30,3,3,3,112,63]) 3,
    rq 13 (.assign (tp 54)) 3]))
 (.skip)))
 (.seq (.reg [] [
   rq 55 (.load 3 (tp 11)) 3])
 (.block 0 (.seq (.reg [] [
   rq 58 (.binOp .eql 3 (tp 55) (ki 0) 3) 4,
   rq 57 (.assign (tp 58)) 4])
  (.cond (tp 57) (.seq (.reg [] [
    rq 59 (.move (tp 13)) 3,
    rq 8 (.assign (tp 59)) 3,
    rq 9 (.assign (ki 1)) 89])
   (.ret))
  (.seq (.reg [] [
    rq 61 (.binOp .eql 3 (tp 55) (ki 12) 3) 4,
    rq 60 (.assign (tp 61)) 4])
   (.cond (tp 60) (.seq (.reg [] [
     rq 62 (.move (tp 13)) 3,
     rq 8 (.assign (tp 62)) 3,
     rq 9 (.assign (ki 2)) 89])
    (.ret))
   (.seq (.reg [] [
     rq 56 (.move (tp 13)) 3,
     rq 8 (.assign (tp 56)) 3,
     rq 9 (.assign (ki 0)) 89])
    (.ret))))))))))))))
def c74:RC:=
 .seq (.reg [] [
  rq 10 (.move (tp 1)) 3,rq 8 (.assign (tp 10)) 3])
 (.seq (.reg [] [
   rq 11 (.move (tp 2)) 3,rq 12 (.binOp .sub 3 (tp 11) (ki 1) 3) 3,rq 9 (.assign (tp 12)) 3])
 (.block 0 (.loop (.seq (.seq (.reg [] [
   rq 13 (.move (tp 8)) 3,
   rq 14 (.move (tp 9)) 3,
   rq 15 (.binOp .lss 3 (tp 13) (tp 14) 3) 4])
   (.cond (tp 15) (.skip)
   (.exit 0)))
   (.block 1 (.seq (.reg [0, 1, 2, 3, 4, 5, 6, 7, 8, 9, 10, 11, 12, 13, 14, 15] [
     rq 16 (.move (tp 0)) 30,
     rq 17 (.move (tp 8)) 3,
     rq 18 (.move (tp 0)) 30,
     rq 19 (.move (tp 9)) 3,
     rq 20 (.move (tp 0)) 30,
     rq 21 (.move (tp 9)) 3,
     rq 22 (.indexAddr 30 (tp 20) (tp 21)) 0,
     rq 23 (.load 23 (tp 22)) 23,
     rq 24 (.move (tp 0)) 30,
     rq 25 (.move (tp 8)) 3,
     rq 26 (.indexAddr 30 (tp 24) (tp 25)) 0,
     rq 27 (.load 23 (tp 26)) 23,
     rq 28 (.indexAddr 30 (tp 16) (tp 17)) 0,
     rn (.store 23 (tp 28) (tp 23)) 0,
     rq 29 (.indexAddr 30 (tp 18) (tp 19)) 0,
     rn (.store 23 (tp 29) (tp 27)) 0])
    (.seq (.reg [] [
      rq 30 (.move (tp 8)) 3,
      rq 31 (.binOp .add 3 (tp 30) (ki 1) 3) 3,
      rq 8 (.assign (tp 31)) 3])
    (.reg [] [
      rq 32 (.move (tp 9)) 3,
      rq 33 (.binOp .sub 3 (tp 32) (ki 1) 3) 3,
      rq 9 (.assign (tp 33)) 3]))))))))
def c75:RC:=
 .seq (.reg [] [
  rq 8 (.assign (kb false)) 4])
 (.seq (.reg [] [
   rq 13 (.move (tp 1)) 3,rq 14 (.binOp .add 3 (tp 13) (ki 1) 3) 3,rq 9 (.assign (tp 14)) 3])
 (.seq (.seq (.reg [] [
   rq 10 (.assign (ki 0)) 3])
 (.block 0 (.loop (.seq (.seq (.reg [] [
   rq 15 (.move (tp 10)) 3,
   rq 16 (.binOp .lss 3 (tp 15) (ki 5) 3) 4])
   (.cond (tp 16) (.skip)
   (.exit 0)))
   (.seq (.block 1 (.seq (.block 2 (.loop (.seq (.seq (.reg [0, 1, 2, 3, 4, 5, 6, 7, 8, 9, 10, 11, 12, 13, 14, 15, 16, 17] [
     rq 19 (.move (tp 9)) 3,
     rq 20 (.move (tp 2)) 3,
     rq 21 (.binOp .lss 3 (tp 19) (tp 20) 3) 4,
     rq 22 (.move (tp 21)) 4,
     rg 23 (.move (tp 3)) 63 22 true,
     rg 24 (.move (tp 0)) 30 22 true,
     rg 25 (.move (tp 9)) 3 22 true,
     rg 26 (.indexAddr 30 (tp 24) (tp 25)) 0 22 true,
     rg 27 (.load 23 (tp 26)) 23 22 true,
     rg 28 (.move (tp 0)) 30 22 true,
     rg 29 (.move (tp 9)) 3 22 true,
     rg 30 (.binOp .sub 3 (tp 29) (ki 1) 3) 3 22 true,
     rg 31 (.indexAddr 30 (tp 28) (tp 30)) 0 22 true,
     rg 32 (.load 23 (tp 31)) 23 22 true,
     rg 33 (.call ⟨.value (tp 23),#[(tp 27),(tp 32)],#[23,23]⟩) 3 22 true,
     rg 34 (.binOp .lss 3 (tp 33) (ki 0) 3) 4 22 true,
     rg 35 (.unOp .not 4 (tp 34)) 4 22 true,
     rq 36 (.pick (tp 22) (tp 35) (kb false)) 4])
     (.cond (tp 36) (.skip)
     (.exit 2)))
     (.block 3 (.reg [] [
       rq 37 (.move (tp 9)) 3,
       rq 38 (.binOp .add 3 (tp 37) (ki 1) 3) 3,
       rq 9 (.assign (tp 38)) 3])))))
    (.seq (.seq (.reg [] [
      rq 39 (.move (tp 9)) 3,
      rq 40 (.move (tp 2)) 3,
      rq 41 (.binOp .eql 3 (tp 39) (tp 40) 3) 4])
    (.cond (tp 41) (.seq (.reg [] [
      rq 8 (.assign (kb true)) 4])
     (.ret))
    (.skip)))
    (.seq (.seq (.reg [] [
      rq 42 (.move (tp 2)) 3,
      rq 43 (.move (tp 1)) 3,
      rq 44 (.binOp .sub 3 (tp 42) (tp 43) 3) 3,
      rq 45 (.binOp .lss 3 (tp 44) (ki 50) 3) 4])
    (.cond (tp 45) (.seq (.reg [] [
      rq 8 (.assign (kb false)) 4])
     (.ret))
    (.skip)))
    (.seq (.reg [0, 1, 2, 3, 4, 5, 6, 7, 8, 9, 10, 11, 12, 13, 14, 15, 16, 17] [
      rq 46 (.move (tp 0)) 30,
      rq 47 (.move (tp 9)) 3,
      rq 48 (.move (tp 0)) 30,
      rq 49 (.move (tp 9)) 3,
      rq 50 (.binOp .sub 3 (tp 49) (ki 1) 3) 3,
      rq 51 (.move (tp 0)) 30,
      rq 52 (.move (tp 9)) 3,
      rq 53 (.binOp .sub 3 (tp 52) (ki 1) 3) 3,
      rq 54 (.indexAddr 30 (tp 51) (tp 53)) 0,
      rq 55 (.load 23 (tp 54)) 23,
      rq 56 (.move (tp 0)) 30,
      rq 57 (.move (tp 9)) 3,
      rq 58 (.indexAddr 30 (tp 56) (tp 57)) 0,
      rq 59 (.load 23 (tp 58)) 23,
      rq 60 (.indexAddr 30 (tp 46) (tp 47)) 0,
      rn (.store 23 (tp 60) (tp 55)) 0,
      rq 61 (.indexAddr 30 (tp 48) (tp 50)) 0,
      rn (.store 23 (tp 61) (tp 59)) 0])
    (.seq (.seq (.reg [] [
      rq 62 (.move (tp 9)) 3,
      rq 63 (.move (tp 1)) 3,
      rq 64 (.binOp .sub 3 (tp 62) (tp 63) 3) 3,
      rq 65 (.binOp .geq 3 (tp 64) (ki 2) 3) 4])
    (.cond (tp 65) (.seq (.reg [] [
      rq 66 (.move (tp 9)) 3,
      rq 67 (.binOp .sub 3 (tp 66) (ki 1) 3) 3,
      rq 11 (.assign (tp 67)) 3])
     (.block 4 (.loop (.seq (.seq (.reg [] [
       rq 68 (.move (tp 11)) 3,
       rq 69 (.binOp .geq 3 (tp 68) (ki 1) 3) 4])
       (.cond (tp 69) (.skip)
       (.exit 4)))
       (.seq (.block 5 (.seq (.seq (.reg [0, 1, 2, 3, 4, 5, 6, 7, 8, 9, 10, 11, 12] [
         rq 72 (.move (tp 3)) 63,
         rq 73 (.move (tp 0)) 30,
         rq 74 (.move (tp 11)) 3,
         rq 75 (.indexAddr 30 (tp 73) (tp 74)) 0,
         rq 76 (.load 23 (tp 75)) 23,
         rq 77 (.move (tp 0)) 30,
         rq 78 (.move (tp 11)) 3,
         rq 79 (.binOp .sub 3 (tp 78) (ki 1) 3) 3,
         rq 80 (.indexAddr 30 (tp 77) (tp 79)) 0,
         rq 81 (.load 23 (tp 80)) 23,
         rq 82 (.call ⟨.value (tp 72),#[(tp 76),(tp 81)],#[23,23]⟩) 3,
         rq 83 (.binOp .lss 3 (tp 82) (ki 0) 3) 4,
         rq 84 (.unOp .not 4 (tp 83)) 4])
        (.cond (tp 84) (.exit 4)
        (.skip)))
        (.reg [0, 1, 2, 3, 4, 5, 6, 7, 8, 9, 10, 11, 12, 13, 14, 15, 16, 17] [
          rq 85 (.move (tp 0)) 30,
          rq 86 (.move (tp 11)) 3,
          rq 87 (.move (tp 0)) 30,
          rq 88 (.move (tp 11)) 3,
          rq 89 (.binOp .sub 3 (tp 88) (ki 1) 3) 3,
          rq 90 (.move (tp 0)) 30,
          rq 91 (.move (tp 11)) 3,
          rq 92 (.binOp .sub 3 (tp 91) (ki 1) 3) 3,
          rq 93 (.indexAddr 30 (tp 90) (tp 92)) 0,
          rq 94 (.load 23 (tp 93)) 23,
          rq 95 (.move (tp 0)) 30,
          rq 96 (.move (tp 11)) 3,
          rq 97 (.indexAddr 30 (tp 95) (tp 96)) 0,
          rq 98 (.load 23 (tp 97)) 23,
          rq 99 (.indexAddr 30 (tp 85) (tp 86)) 0,
          rn (.store 23 (tp 99) (tp 94)) 0,
          rq 100 (.indexAddr 30 (tp 87) (tp 89)) 0,
          rn (.store 23 (tp 100) (tp 98)) 0])))
       (.reg [] [
         rq 70 (.move (tp 11)) 3,
         rq 71 (.binOp .sub 3 (tp 70) (ki 1) 3) 3,
         rq 11 (.assign (tp 71)) 3]))))))
    (.skip)))
    (.seq (.reg [] [
      rq 101 (.move (tp 2)) 3,
      rq 102 (.move (tp 9)) 3,
      rq 103 (.binOp .sub 3 (tp 101) (tp 102) 3) 3,
      rq 104 (.binOp .geq 3 (tp 103) (ki 2) 3) 4])
    (.cond (tp 104) (.seq (.reg [] [
      rq 105 (.move (tp 9)) 3,
      rq 106 (.binOp .add 3 (tp 105) (ki 1) 3) 3,
      rq 12 (.assign (tp 106)) 3])
     (.block 6 (.loop (.seq (.seq (.reg [] [
       rq 107 (.move (tp 12)) 3,
       rq 108 (.move (tp 2)) 3,
       rq 109 (.binOp .lss 3 (tp 107) (tp 108) 3) 4])
       (.cond (tp 109) (.skip)
       (.exit 6)))
       (.seq (.block 7 (.seq (.seq (.reg [0, 1, 2, 3, 4, 5, 6, 7, 8, 9, 10, 11, 12] [
         rq 112 (.move (tp 3)) 63,
         rq 113 (.move (tp 0)) 30,
         rq 114 (.move (tp 12)) 3,
         rq 115 (.indexAddr 30 (tp 113) (tp 114)) 0,
         rq 116 (.load 23 (tp 115)) 23,
         rq 117 (.move (tp 0)) 30,
         rq 118 (.move (tp 12)) 3,
         rq 119 (.binOp .sub 3 (tp 118) (ki 1) 3) 3,
         rq 120 (.indexAddr 30 (tp 117) (tp 119)) 0,
         rq 121 (.load 23 (tp 120)) 23,
         rq 122 (.call ⟨.value (tp 112),#[(tp 116),(tp 121)],#[23,23]⟩) 3,
         rq 123 (.binOp .lss 3 (tp 122) (ki 0) 3) 4,
         rq 124 (.unOp .not 4 (tp 123)) 4])
        (.cond (tp 124) (.exit 6)
        (.skip)))
        (.reg [0, 1, 2, 3, 4, 5, 6, 7, 8, 9, 10, 11, 12, 13, 14, 15, 16, 17] [
          rq 125 (.move (tp 0)) 30,
          rq 126 (.move (tp 12)) 3,
          rq 127 (.move (tp 0)) 30,
          rq 128 (.move (tp 12)) 3,
          rq 129 (.binOp .sub 3 (tp 128) (ki 1) 3) 3,
          rq 130 (.move (tp 0)) 30,
          rq 131 (.move (tp 12)) 3,
          rq 132 (.binOp .sub 3 (tp 131) (ki 1) 3) 3,
          rq 133 (.indexAddr 30 (tp 130) (tp 132)) 0,
          rq 134 (.load 23 (tp 133)) 23,
          rq 135 (.move (tp 0)) 30,
          rq 136 (.move (tp 12)) 3,
          rq 137 (.indexAddr 30 (tp 135) (tp 136)) 0,
          rq 138 (.load 23 (tp 137)) 23,
          rq 139 (.indexAddr 30 (tp 125) (tp 126)) 0,
          rn (.store 23 (tp 139) (tp 134)) 0,
          rq 140 (.indexAddr 30 (tp 127) (tp 129)) 0,
          rn (.store 23 (tp 140) (tp 138)) 0])))
       (.reg [] [
         rq 110 (.move (tp 12)) 3,
         rq 111 (.binOp .add 3 (tp 110) (ki 1) 3) 3,
         rq 12 (.assign (tp 111)) 3]))))))
    (.skip)))))))))
   (.reg [] [
     rq 17 (.move (tp 10)) 3,
     rq 18 (.binOp .add 3 (tp 17) (ki 1) 3) 3,
     rq 10 (.assign (tp 18)) 3]))))))
 (.seq (.reg [] [
   rq 8 (.assign (kb false)) 4])
 (.ret))))
def c76:RC:=
 .seq (.reg [] [
  rq 10 (.assign (ki 0)) 3])
 (.seq (.reg [0, 1, 2, 3, 4, 5, 6, 7, 8, 9, 10, 11, 12, 13, 14, 15] [
   rq 13 (.move (tp 0)) 30,rq 14 (.move (tp 1)) 3,rq 15 (.move (tp 0)) 30,rq 16 (.move (tp 3)) 3,rq 17 (.move (tp 0)) 30,rq 18 (.move (tp 3)) 3,rq 19 (.indexAddr 30 (tp 17) (tp 18)) 0,rq 20 (.load 23 (tp 19)) 23,rq 21 (.move (tp 0)) 30,rq 22 (.move (tp 1)) 3,rq 23 (.indexAddr 30 (tp 21) (tp 22)) 0,rq 24 (.load 23 (tp 23)) 23,rq 25 (.indexAddr 30 (tp 13) (tp 14)) 0,rn (.store 23 (tp 25) (tp 20)) 0,rq 26 (.indexAddr 30 (tp 15) (tp 16)) 0,rn (.store 23 (tp 26) (tp 24)) 0])
 (.seq (.reg [] [
   rq 27 (.move (tp 1)) 3,rq 28 (.binOp .add 3 (tp 27) (ki 1) 3) 3,rq 29 (.move (tp 2)) 3,rq 30 (.binOp .sub 3 (tp 29) (ki 1) 3) 3,rq 11 (.assign (tp 28)) 3,rq 12 (.assign (tp 30)) 3])
 (.seq (.block 0 (.loop (.block 1 (.seq (.block 2 (.loop (.seq (.seq (.reg [0, 1, 2, 3, 4, 5, 6, 7, 8, 9, 10, 11, 12, 13, 14, 15, 16] [
        rq 31 (.move (tp 11)) 3,
        rq 32 (.move (tp 12)) 3,
        rq 33 (.binOp .leq 3 (tp 31) (tp 32) 3) 4,
        rq 34 (.move (tp 33)) 4,
        rg 35 (.move (tp 4)) 63 34 true,
        rg 36 (.move (tp 0)) 30 34 true,
        rg 37 (.move (tp 1)) 3 34 true,
        rg 38 (.indexAddr 30 (tp 36) (tp 37)) 0 34 true,
        rg 39 (.load 23 (tp 38)) 23 34 true,
        rg 40 (.move (tp 0)) 30 34 true,
        rg 41 (.move (tp 11)) 3 34 true,
        rg 42 (.indexAddr 30 (tp 40) (tp 41)) 0 34 true,
        rg 43 (.load 23 (tp 42)) 23 34 true,
        rg 44 (.call ⟨.value (tp 35),#[(tp 39),(tp 43)],#[23,23]⟩) 3 34 true,
        rg 45 (.binOp .lss 3 (tp 44) (ki 0) 3) 4 34 true,
        rg 46 (.unOp .not 4 (tp 45)) 4 34 true,
        rq 47 (.pick (tp 34) (tp 46) (kb false)) 4])
   (.cond (tp 47) (.skip)
   (.exit 2)))
   (.block 3 (.reg [] [
     rq 48 (.move (tp 11)) 3,
     rq 49 (.binOp .add 3 (tp 48) (ki 1) 3) 3,
     rq 11 (.assign (tp 49)) 3])))))
   (.seq (.block 4 (.loop (.seq (.seq (.reg [0, 1, 2, 3, 4, 5, 6, 7, 8, 9, 10, 11, 12, 13, 14, 15] [
     rq 50 (.move (tp 11)) 3,
     rq 51 (.move (tp 12)) 3,
     rq 52 (.binOp .leq 3 (tp 50) (tp 51) 3) 4,
     rq 53 (.move (tp 52)) 4,
     rg 54 (.move (tp 4)) 63 53 true,
     rg 55 (.move (tp 0)) 30 53 true,
     rg 56 (.move (tp 1)) 3 53 true,
     rg 57 (.indexAddr 30 (tp 55) (tp 56)) 0 53 true,
     rg 58 (.load 23 (tp 57)) 23 53 true,
     rg 59 (.move (tp 0)) 30 53 true,
     rg 60 (.move (tp 12)) 3 53 true,
     rg 61 (.indexAddr 30 (tp 59) (tp 60)) 0 53 true,
     rg 62 (.load 23 (tp 61)) 23 53 true,
     rg 63 (.call ⟨.value (tp 54),#[(tp 58),(tp 62)],#[23,23]⟩) 3 53 true,
     rg 64 (.binOp .lss 3 (tp 63) (ki 0) 3) 4 53 true,
     rq 65 (.pick (tp 53) (tp 64) (kb false)) 4])
     (.cond (tp 65) (.skip)
     (.exit 4)))
     (.block 5 (.reg [] [
       rq 66 (.move (tp 12)) 3,
       rq 67 (.binOp .sub 3 (tp 66) (ki 1) 3) 3,
       rq 12 (.assign (tp 67)) 3])))))
   (.seq (.seq (.reg [] [
     rq 68 (.move (tp 11)) 3,
     rq 69 (.move (tp 12)) 3,
     rq 70 (.binOp .gtr 3 (tp 68) (tp 69) 3) 4])
   (.cond (tp 70) (.exit 0)
   (.skip)))
   (.seq (.reg [0, 1, 2, 3, 4, 5, 6, 7, 8, 9, 10, 11, 12, 13, 14, 15] [
     rq 71 (.move (tp 0)) 30,
     rq 72 (.move (tp 11)) 3,
     rq 73 (.move (tp 0)) 30,
     rq 74 (.move (tp 12)) 3,
     rq 75 (.move (tp 0)) 30,
     rq 76 (.move (tp 12)) 3,
     rq 77 (.indexAddr 30 (tp 75) (tp 76)) 0,
     rq 78 (.load 23 (tp 77)) 23,
     rq 79 (.move (tp 0)) 30,
     rq 80 (.move (tp 11)) 3,
     rq 81 (.indexAddr 30 (tp 79) (tp 80)) 0,
     rq 82 (.load 23 (tp 81)) 23,
     rq 83 (.indexAddr 30 (tp 71) (tp 72)) 0,
     rn (.store 23 (tp 83) (tp 78)) 0,
     rq 84 (.indexAddr 30 (tp 73) (tp 74)) 0,
     rn (.store 23 (tp 84) (tp 82)) 0])
   (.seq (.reg [] [
     rq 85 (.move (tp 11)) 3,
     rq 86 (.binOp .add 3 (tp 85) (ki 1) 3) 3,
     rq 11 (.assign (tp 86)) 3])
   (.reg [] [
     rq 87 (.move (tp 12)) 3,
     rq 88 (.binOp .sub 3 (tp 87) (ki 1) 3) 3,
     rq 12 (.assign (tp 88)) 3])))))))))
 (.seq (.reg [] [
   rq 89 (.move (tp 11)) 3,rq 10 (.assign (tp 89)) 3])
 (.ret)))))
def c77:RC:=
 .seq (.reg [] [
  rq 10 (.assign (ki 0)) 3,rq 11 (.assign (kb false)) 4])
 (.seq (.reg [0, 1, 2, 3, 4, 5, 6, 7, 8, 9, 10, 11, 12, 13, 14, 15] [
   rq 14 (.move (tp 0)) 30,rq 15 (.move (tp 1)) 3,rq 16 (.move (tp 0)) 30,rq 17 (.move (tp 3)) 3,rq 18 (.move (tp 0)) 30,rq 19 (.move (tp 3)) 3,rq 20 (.indexAddr 30 (tp 18) (tp 19)) 0,rq 21 (.load 23 (tp 20)) 23,rq 22 (.move (tp 0)) 30,rq 23 (.move (tp 1)) 3,rq 24 (.indexAddr 30 (tp 22) (tp 23)) 0,rq 25 (.load 23 (tp 24)) 23,rq 26 (.indexAddr 30 (tp 14) (tp 15)) 0,rn (.store 23 (tp 26) (tp 21)) 0,rq 27 (.indexAddr 30 (tp 16) (tp 17)) 0,rn (.store 23 (tp 27) (tp 25)) 0])
 (.seq (.reg [] [
   rq 28 (.move (tp 1)) 3,rq 29 (.binOp .add 3 (tp 28) (ki 1) 3) 3,rq 30 (.move (tp 2)) 3,rq 31 (.binOp .sub 3 (tp 30) (ki 1) 3) 3,rq 12 (.assign (tp 29)) 3,rq 13 (.assign (tp 31)) 3])
 (.seq (.block 0 (.loop (.seq (.seq (.reg [0, 1, 2, 3, 4, 5, 6, 7, 8, 9, 10, 11, 12, 13, 14, 15] [
   rq 32 (.move (tp 12)) 3,
   rq 33 (.move (tp 13)) 3,
   rq 34 (.binOp .leq 3 (tp 32) (tp 33) 3) 4,
   rq 35 (.move (tp 34)) 4,
   rg 36 (.move (tp 4)) 63 35 true,
   rg 37 (.move (tp 0)) 30 35 true,
   rg 38 (.move (tp 12)) 3 35 true,
   rg 39 (.indexAddr 30 (tp 37) (tp 38)) 0 35 true,
   rg 40 (.load 23 (tp 39)) 23 35 true,
   rg 41 (.move (tp 0)) 30 35 true,
   rg 42 (.move (tp 1)) 3 35 true,
   rg 43 (.indexAddr 30 (tp 41) (tp 42)) 0 35 true,
   rg 44 (.load 23 (tp 43)) 23 35 true,
   rg 45 (.call ⟨.value (tp 36),#[(tp 40),(tp 44)],#[23,23]⟩) 3 35 true,
   rg 46 (.binOp .lss 3 (tp 45) (ki 0) 3) 4 35 true,
   rq 47 (.pick (tp 35) (tp 46) (kb false)) 4])
   (.cond (tp 47) (.skip)
   (.exit 0)))
   (.block 1 (.reg [] [
     rq 48 (.move (tp 12)) 3,
     rq 49 (.binOp .add 3 (tp 48) (ki 1) 3) 3,
     rq 12 (.assign (tp 49)) 3])))))
 (.seq (.block 2 (.loop (.seq (.seq (.reg [0, 1, 2, 3, 4, 5, 6, 7, 8, 9, 10, 11, 12, 13, 14, 15, 16] [
   rq 50 (.move (tp 12)) 3,
   rq 51 (.move (tp 13)) 3,
   rq 52 (.binOp .leq 3 (tp 50) (tp 51) 3) 4,
   rq 53 (.move (tp 52)) 4,
   rg 54 (.move (tp 4)) 63 53 true,
   rg 55 (.move (tp 0)) 30 53 true,
   rg 56 (.move (tp 13)) 3 53 true,
   rg 57 (.indexAddr 30 (tp 55) (tp 56)) 0 53 true,
   rg 58 (.load 23 (tp 57)) 23 53 true,
   rg 59 (.move (tp 0)) 30 53 true,
   rg 60 (.move (tp 1)) 3 53 true,
   rg 61 (.indexAddr 30 (tp 59) (tp 60)) 0 53 true,
   rg 62 (.load 23 (tp 61)) 23 53 true,
   rg 63 (.call ⟨.value (tp 54),#[(tp 58),(tp 62)],#[23,23]⟩) 3 53 true,
   rg 64 (.binOp .lss 3 (tp 63) (ki 0) 3) 4 53 true,
   rg 65 (.unOp .not 4 (tp 64)) 4 53 true,
   rq 66 (.pick (tp 53) (tp 65) (kb false)) 4])
   (.cond (tp 66) (.skip)
   (.exit 2)))
   (.block 3 (.reg [] [
     rq 67 (.move (tp 13)) 3,
     rq 68 (.binOp .sub 3 (tp 67) (ki 1) 3) 3,
     rq 13 (.assign (tp 68)) 3])))))
 (.seq (.seq (.reg [] [
   rq 69 (.move (tp 12)) 3,rq 70 (.move (tp 13)) 3,rq 71 (.binOp .gtr 3 (tp 69) (tp 70) 3) 4])
 (.cond (tp 71) (.seq (.reg [0, 1, 2, 3, 4, 5, 6, 7, 8, 9, 10, 11, 12, 13, 14, 15] [
   rq 72 (.move (tp 0)) 30,
   rq 73 (.move (tp 13)) 3,
   rq 74 (.move (tp 0)) 30,
   rq 75 (.move (tp 1)) 3,
   rq 76 (.move (tp 0)) 30,
   rq 77 (.move (tp 1)) 3,
   rq 78 (.indexAddr 30 (tp 76) (tp 77)) 0,
   rq 79 (.load 23 (tp 78)) 23,
   rq 80 (.move (tp 0)) 30,
   rq 81 (.move (tp 13)) 3,
   rq 82 (.indexAddr 30 (tp 80) (tp 81)) 0,
   rq 83 (.load 23 (tp 82)) 23,
   rq 84 (.indexAddr 30 (tp 72) (tp 73)) 0,
   rn (.store 23 (tp 84) (tp 79)) 0,
   rq 85 (.indexAddr 30 (tp 74) (tp 75)) 0,
   rn (.store 23 (tp 85) (tp 83)) 0])
  (.seq (.reg [] [
    rq 86 (.move (tp 13)) 3,
    rq 10 (.assign (tp 86)) 3,
    rq 11 (.assign (kb true)) 4])
  (.ret)))
 (.skip)))
 (.seq (.reg [0, 1, 2, 3, 4, 5, 6, 7, 8, 9, 10, 11, 12, 13, 14, 15] [
   rq 87 (.move (tp 0)) 30,rq 88 (.move (tp 12)) 3,rq 89 (.move (tp 0)) 30,rq 90 (.move (tp 13)) 3,rq 91 (.move (tp 0)) 30,rq 92 (.move (tp 13)) 3,rq 93 (.indexAddr 30 (tp 91) (tp 92)) 0,rq 94 (.load 23 (tp 93)) 23,rq 95 (.move (tp 0)) 30,rq 96 (.move (tp 12)) 3,rq 97 (.indexAddr 30 (tp 95) (tp 96)) 0,rq 98 (.load 23 (tp 97)) 23,rq 99 (.indexAddr 30 (tp 87) (tp 88)) 0,rn (.store 23 (tp 99) (tp 94)) 0,rq 100 (.indexAddr 30 (tp 89) (tp 90)) 0,rn (.store 23 (tp 100) (tp 98)) 0])
 (.seq (.reg [] [
   rq 101 (.move (tp 12)) 3,rq 102 (.binOp .add 3 (tp 101) (ki 1) 3) 3,rq 12 (.assign (tp 102)) 3])
 (.seq (.reg [] [
   rq 103 (.move (tp 13)) 3,rq 104 (.binOp .sub 3 (tp 103) (ki 1) 3) 3,rq 13 (.assign (tp 104)) 3])
 (.seq (.block 4 (.loop (.block 5 (.seq (.block 6 (.loop (.seq (.seq (.reg [0, 1, 2, 3, 4, 5, 6, 7, 8, 9, 10, 11, 12, 13, 14, 15] [
        rq 105 (.move (tp 12)) 3,
        rq 106 (.move (tp 13)) 3,
        rq 107 (.binOp .leq 3 (tp 105) (tp 106) 3) 4,
        rq 108 (.move (tp 107)) 4,
        rg 109 (.move (tp 4)) 63 108 true,
        rg 110 (.move (tp 0)) 30 108 true,
        rg 111 (.move (tp 12)) 3 108 true,
        rg 112 (.indexAddr 30 (tp 110) (tp 111)) 0 108 true,
        rg 113 (.load 23 (tp 112)) 23 108 true,
        rg 114 (.move (tp 0)) 30 108 true,
        rg 115 (.move (tp 1)) 3 108 true,
        rg 116 (.indexAddr 30 (tp 114) (tp 115)) 0 108 true,
        rg 117 (.load 23 (tp 116)) 23 108 true,
        rg 118 (.call ⟨.value (tp 109),#[(tp 113),(tp 117)],#[23,23]⟩) 3 108 true,
        rg 119 (.binOp .lss 3 (tp 118) (ki 0) 3) 4 108 true,
        rq 120 (.pick (tp 108) (tp 119) (kb false)) 4])
   (.cond (tp 120) (.skip)
   (.exit 6)))
   (.block 7 (.reg [] [
     rq 121 (.move (tp 12)) 3,
     rq 122 (.binOp .add 3 (tp 121) (ki 1) 3) 3,
     rq 12 (.assign (tp 122)) 3])))))
   (.seq (.block 8 (.loop (.seq (.seq (.reg [0, 1, 2, 3, 4, 5, 6, 7, 8, 9, 10, 11, 12, 13, 14, 15, 16] [
     rq 123 (.move (tp 12)) 3,
     rq 124 (.move (tp 13)) 3,
     rq 125 (.binOp .leq 3 (tp 123) (tp 124) 3) 4,
     rq 126 (.move (tp 125)) 4,
     rg 127 (.move (tp 4)) 63 126 true,
     rg 128 (.move (tp 0)) 30 126 true,
     rg 129 (.move (tp 13)) 3 126 true,
     rg 130 (.indexAddr 30 (tp 128) (tp 129)) 0 126 true,
     rg 131 (.load 23 (tp 130)) 23 126 true,
     rg 132 (.move (tp 0)) 30 126 true,
     rg 133 (.move (tp 1)) 3 126 true,
     rg 134 (.indexAddr 30 (tp 132) (tp 133)) 0 126 true,
     rg 135 (.load 23 (tp 134)) 23 126 true,
     rg 136 (.call ⟨.value (tp 127),#[(tp 131),(tp 135)],#[23,23]⟩) 3 126 true,
     rg 137 (.binOp .lss 3 (tp 136) (ki 0) 3) 4 126 true,
     rg 138 (.unOp .not 4 (tp 137)) 4 126 true,
     rq 139 (.pick (tp 126) (tp 138) (kb false)) 4])
     (.cond (tp 139) (.skip)
     (.exit 8)))
     (.block 9 (.reg [] [
       rq 140 (.move (tp 13)) 3,
       rq 141 (.binOp .sub 3 (tp 140) (ki 1) 3) 3,
       rq 13 (.assign (tp 141)) 3])))))
   (.seq (.seq (.reg [] [
     rq 142 (.move (tp 12)) 3,
     rq 143 (.move (tp 13)) 3,
     rq 144 (.binOp .gtr 3 (tp 142) (tp 143) 3) 4])
   (.cond (tp 144) (.exit 4)
   (.skip)))
   (.seq (.reg [0, 1, 2, 3, 4, 5, 6, 7, 8, 9, 10, 11, 12, 13, 14, 15] [
     rq 145 (.move (tp 0)) 30,
     rq 146 (.move (tp 12)) 3,
     rq 147 (.move (tp 0)) 30,
     rq 148 (.move (tp 13)) 3,
     rq 149 (.move (tp 0)) 30,
     rq 150 (.move (tp 13)) 3,
     rq 151 (.indexAddr 30 (tp 149) (tp 150)) 0,
     rq 152 (.load 23 (tp 151)) 23,
     rq 153 (.move (tp 0)) 30,
     rq 154 (.move (tp 12)) 3,
     rq 155 (.indexAddr 30 (tp 153) (tp 154)) 0,
     rq 156 (.load 23 (tp 155)) 23,
     rq 157 (.indexAddr 30 (tp 145) (tp 146)) 0,
     rn (.store 23 (tp 157) (tp 152)) 0,
     rq 158 (.indexAddr 30 (tp 147) (tp 148)) 0,
     rn (.store 23 (tp 158) (tp 156)) 0])
   (.seq (.reg [] [
     rq 159 (.move (tp 12)) 3,
     rq 160 (.binOp .add 3 (tp 159) (ki 1) 3) 3,
     rq 12 (.assign (tp 160)) 3])
   (.reg [] [
     rq 161 (.move (tp 13)) 3,
     rq 162 (.binOp .sub 3 (tp 161) (ki 1) 3) 3,
     rq 13 (.assign (tp 162)) 3])))))))))
 (.seq (.reg [0, 1, 2, 3, 4, 5, 6, 7, 8, 9, 10, 11, 12, 13, 14, 15] [
   rq 163 (.move (tp 0)) 30,rq 164 (.move (tp 13)) 3,rq 165 (.move (tp 0)) 30,rq 166 (.move (tp 1)) 3,rq 167 (.move (tp 0)) 30,rq 168 (.move (tp 1)) 3,rq 169 (.indexAddr 30 (tp 167) (tp 168)) 0,rq 170 (.load 23 (tp 169)) 23,rq 171 (.move (tp 0)) 30,rq 172 (.move (tp 13)) 3,rq 173 (.indexAddr 30 (tp 171) (tp 172)) 0,rq 174 (.load 23 (tp 173)) 23,rq 175 (.indexAddr 30 (tp 163) (tp 164)) 0,rn (.store 23 (tp 175) (tp 170)) 0,rq 176 (.indexAddr 30 (tp 165) (tp 166)) 0,rn (.store 23 (tp 176) (tp 174)) 0])
 (.seq (.reg [] [
   rq 177 (.move (tp 13)) 3,rq 10 (.assign (tp 177)) 3,rq 11 (.assign (kb false)) 4])
 (.ret))))))))))))
def c78:RC:=
 .seq (.reg [] [
  rq 2 (.assign (ki 0)) 3])
 (.seq (.seq (.reg [] [
   rq 3 (.move (tp 0)) 97,rq 4 (.binOp .geq 97 (tp 3) (.const (.int .u32 65536)) 97) 4])
 (.cond (tp 4) (.seq (.reg [] [
   rq 5 (.move (tp 0)) 97,
   rq 6 (.binOp .shr 97 (tp 5) (.const (.int .u64 16)) 83) 97,
   rq 0 (.assign (tp 6)) 97])
  (.reg [] [
    rq 2 (.assign (ki 16)) 3]))
 (.skip)))
 (.seq (.seq (.reg [] [
   rq 7 (.move (tp 0)) 97,rq 8 (.binOp .geq 97 (tp 7) (.const (.int .u32 256)) 97) 4])
 (.cond (tp 8) (.seq (.reg [] [
   rq 9 (.move (tp 0)) 97,
   rq 10 (.binOp .shr 97 (tp 9) (.const (.int .u64 8)) 83) 97,
   rq 0 (.assign (tp 10)) 97])
  (.reg [] [
    rq 11 (.move (tp 2)) 3,
    rq 12 (.binOp .add 3 (tp 11) (ki 8) 3) 3,
    rq 2 (.assign (tp 12)) 3]))
 (.skip)))
 (.seq (.reg [] [
   rq 13 (.move (tp 2)) 3,rq 14 (.move (tp 0)) 97,rq 15 (.convert 97 5 (tp 14)) 5,rq 16 (.index 9 (.const (.string ⟨#[0,1,2,2,3,3,3,3,4,4,4,4,4,4,4,4,5,5,5,5,5,5,5,5,5,5,5,5,5,5,5,5,6,6,6,6,6,6,6,6,6,6,6,6,6,6,6,6,6,6,6,6,6,6,6,6,6,6,6,6,6,6,6,6,7,7,7,7,7,7,7,7,7,7,7,7,7,7,7,7,7,7,7,7,7,7,7,7,7,7,7,7,7,7,7,7,7,7,7,7,7,7,7,7,7,7,7,7,7,7,7,7,7,7,7,7,7,7,7,7,7,7,7,7,7,7,7,7,8,8,8,8,8,8,8,8,8,8,8,8,8,8,8,8,8,8,8,8,8,8,8,8,8,8,8,8,8,8,8,8,8,8,8,8,8,8,8,8,8,8,8,8,8,8,8,8,8,8,8,8,8,8,8,8,8,8,8,8,8,8,8,8,8,8,8,8,8,8,8,8,8,8,8,8,8,8,8,8,8,8,8,8,8,8,8,8,8,8,8,8,8,8,8,8,8,8,8,8,8,8,8,8,8,8,8,8,8,8,8,8,8,8,8,8,8,8,8,8,8,8,8,8,8,8,8,8]⟩)) (tp 15)) 5,rq 17 (.convert 5 3 (tp 16)) 3,rq 18 (.binOp .add 3 (tp 13) (tp 17) 3) 3,rq 2 (.assign (tp 18)) 3])
 (.ret))))
def c79:RC:=
 .seq (.reg [] [
  rq 2 (.assign (ki 0)) 3])
 (.seq (.seq (.reg [] [
   rq 3 (.move (tp 0)) 99,rq 4 (.binOp .geq 99 (tp 3) (.const (.int .u64 4294967296)) 99) 4])
 (.cond (tp 4) (.seq (.reg [] [
   rq 5 (.move (tp 0)) 99,
   rq 6 (.binOp .shr 99 (tp 5) (.const (.int .u64 32)) 83) 99,
   rq 0 (.assign (tp 6)) 99])
  (.reg [] [
    rq 2 (.assign (ki 32)) 3]))
 (.skip)))
 (.seq (.seq (.reg [] [
   rq 7 (.move (tp 0)) 99,rq 8 (.binOp .geq 99 (tp 7) (.const (.int .u64 65536)) 99) 4])
 (.cond (tp 8) (.seq (.reg [] [
   rq 9 (.move (tp 0)) 99,
   rq 10 (.binOp .shr 99 (tp 9) (.const (.int .u64 16)) 83) 99,
   rq 0 (.assign (tp 10)) 99])
  (.reg [] [
    rq 11 (.move (tp 2)) 3,
    rq 12 (.binOp .add 3 (tp 11) (ki 16) 3) 3,
    rq 2 (.assign (tp 12)) 3]))
 (.skip)))
 (.seq (.seq (.reg [] [
   rq 13 (.move (tp 0)) 99,rq 14 (.binOp .geq 99 (tp 13) (.const (.int .u64 256)) 99) 4])
 (.cond (tp 14) (.seq (.reg [] [
   rq 15 (.move (tp 0)) 99,
   rq 16 (.binOp .shr 99 (tp 15) (.const (.int .u64 8)) 83) 99,
   rq 0 (.assign (tp 16)) 99])
  (.reg [] [
    rq 17 (.move (tp 2)) 3,
    rq 18 (.binOp .add 3 (tp 17) (ki 8) 3) 3,
    rq 2 (.assign (tp 18)) 3]))
 (.skip)))
 (.seq (.reg [] [
   rq 19 (.move (tp 2)) 3,rq 20 (.move (tp 0)) 99,rq 21 (.convert 99 5 (tp 20)) 5,rq 22 (.index 9 (.const (.string ⟨#[0,1,2,2,3,3,3,3,4,4,4,4,4,4,4,4,5,5,5,5,5,5,5,5,5,5,5,5,5,5,5,5,6,6,6,6,6,6,6,6,6,6,6,6,6,6,6,6,6,6,6,6,6,6,6,6,6,6,6,6,6,6,6,6,7,7,7,7,7,7,7,7,7,7,7,7,7,7,7,7,7,7,7,7,7,7,7,7,7,7,7,7,7,7,7,7,7,7,7,7,7,7,7,7,7,7,7,7,7,7,7,7,7,7,7,7,7,7,7,7,7,7,7,7,7,7,7,7,8,8,8,8,8,8,8,8,8,8,8,8,8,8,8,8,8,8,8,8,8,8,8,8,8,8,8,8,8,8,8,8,8,8,8,8,8,8,8,8,8,8,8,8,8,8,8,8,8,8,8,8,8,8,8,8,8,8,8,8,8,8,8,8,8,8,8,8,8,8,8,8,8,8,8,8,8,8,8,8,8,8,8,8,8,8,8,8,8,8,8,8,8,8,8,8,8,8,8,8,8,8,8,8,8,8,8,8,8,8,8,8,8,8,8,8,8,8,8,8,8,8,8,8,8,8,8,8]⟩)) (tp 21)) 5,rq 23 (.convert 5 3 (tp 22)) 3,rq 24 (.binOp .add 3 (tp 19) (tp 23) 3) 3,rq 2 (.assign (tp 24)) 3])
 (.ret)))))
def c80:RC:=
 .seq (.reg [] [
  rq 8 (.move (tp 1)) 3,rq 9 (.binOp .add 3 (tp 8) (ki 1) 3) 3,rq 6 (.assign (tp 9)) 3])
 (.block 0 (.loop (.seq (.seq (.reg [] [
   rq 10 (.move (tp 6)) 3,
   rq 11 (.move (tp 2)) 3,
   rq 12 (.binOp .lss 3 (tp 10) (tp 11) 3) 4])
   (.cond (tp 12) (.skip)
   (.exit 0)))
   (.seq (.block 1 (.seq (.reg [] [
     rq 15 (.move (tp 6)) 3,
     rq 7 (.assign (tp 15)) 3])
    (.block 2 (.loop (.seq (.seq (.reg [0, 1, 2, 3, 4, 5, 6, 7, 8, 9, 10, 11, 12, 13, 14] [
      rq 16 (.move (tp 7)) 3,
      rq 17 (.move (tp 1)) 3,
      rq 18 (.binOp .gtr 3 (tp 16) (tp 17) 3) 4,
      rq 19 (.move (tp 18)) 4,
      rg 20 (.move (tp 0)) 25 19 true,
      rg 21 (.move (tp 7)) 3 19 true,
      rg 22 (.indexAddr 25 (tp 20) (tp 21)) 0 19 true,
      rg 23 (.load 3 (tp 22)) 3 19 true,
      rg 24 (.move (tp 0)) 25 19 true,
      rg 25 (.move (tp 7)) 3 19 true,
      rg 26 (.binOp .sub 3 (tp 25) (ki 1) 3) 3 19 true,
      rg 27 (.indexAddr 25 (tp 24) (tp 26)) 0 19 true,
      rg 28 (.load 3 (tp 27)) 3 19 true,
      rg 29 (cf 86 #[(tp 23),(tp 28)] #[3,3]) 4 19 true,
      rq 30 (.pick (tp 19) (tp 29) (kb false)) 4])
      (.cond (tp 30) (.skip)
      (.exit 2)))
      (.seq (.block 3 (.reg [0, 1, 2, 3, 4, 5, 6, 7, 8, 9, 10, 11, 12, 13, 14, 15, 16, 17] [
        rq 33 (.move (tp 0)) 25,
        rq 34 (.move (tp 7)) 3,
        rq 35 (.move (tp 0)) 25,
        rq 36 (.move (tp 7)) 3,
        rq 37 (.binOp .sub 3 (tp 36) (ki 1) 3) 3,
        rq 38 (.move (tp 0)) 25,
        rq 39 (.move (tp 7)) 3,
        rq 40 (.binOp .sub 3 (tp 39) (ki 1) 3) 3,
        rq 41 (.indexAddr 25 (tp 38) (tp 40)) 0,
        rq 42 (.load 3 (tp 41)) 3,
        rq 43 (.move (tp 0)) 25,
        rq 44 (.move (tp 7)) 3,
        rq 45 (.indexAddr 25 (tp 43) (tp 44)) 0,
        rq 46 (.load 3 (tp 45)) 3,
        rq 47 (.indexAddr 25 (tp 33) (tp 34)) 0,
        rn (.store 3 (tp 47) (tp 42)) 0,
        rq 48 (.indexAddr 25 (tp 35) (tp 37)) 0,
        rn (.store 3 (tp 48) (tp 46)) 0]))
      (.reg [] [
        rq 31 (.move (tp 7)) 3,
        rq 32 (.binOp .sub 3 (tp 31) (ki 1) 3) 3,
        rq 7 (.assign (tp 32)) 3])))))))
   (.reg [] [
     rq 13 (.move (tp 6)) 3,
     rq 14 (.binOp .add 3 (tp 13) (ki 1) 3) 3,
     rq 6 (.assign (tp 14)) 3])))))
def c81:RC:=
 .seq (.reg [] [
  rq 11 (.move (tp 1)) 3,rq 6 (.assign (tp 11)) 3])
 (.seq (.reg [] [
   rq 7 (.assign (ki 0)) 3])
 (.seq (.reg [] [
   rq 12 (.move (tp 2)) 3,rq 13 (.move (tp 1)) 3,rq 14 (.binOp .sub 3 (tp 12) (tp 13) 3) 3,rq 8 (.assign (tp 14)) 3])
 (.seq (.seq (.reg [] [
   rq 15 (.move (tp 8)) 3,rq 16 (.binOp .sub 3 (tp 15) (ki 1) 3) 3,rq 17 (.binOp .quo 3 (tp 16) (ki 2) 3) 3,rq 9 (.assign (tp 17)) 3])
 (.block 0 (.loop (.seq (.seq (.reg [] [
   rq 18 (.move (tp 9)) 3,
   rq 19 (.binOp .geq 3 (tp 18) (ki 0) 3) 4])
   (.cond (tp 19) (.skip)
   (.exit 0)))
   (.seq (.block 1 (.reg [] [
     rq 22 (.move (tp 0)) 25,
     rq 23 (.move (tp 9)) 3,
     rq 24 (.move (tp 8)) 3,
     rq 25 (.move (tp 6)) 3,
     rq 26 (cf 96 #[(tp 22),(tp 23),(tp 24),(tp 25)] #[25,3,3,3]) 0]))
   (.reg [] [
     rq 20 (.move (tp 9)) 3,
     rq 21 (.binOp .sub 3 (tp 20) (ki 1) 3) 3,
     rq 9 (.assign (tp 21)) 3]))))))
 (.seq (.reg [] [
   rq 27 (.move (tp 8)) 3,rq 28 (.binOp .sub 3 (tp 27) (ki 1) 3) 3,rq 10 (.assign (tp 28)) 3])
 (.block 2 (.loop (.seq (.seq (.reg [] [
   rq 29 (.move (tp 10)) 3,
   rq 30 (.binOp .geq 3 (tp 29) (ki 0) 3) 4])
   (.cond (tp 30) (.skip)
   (.exit 2)))
   (.seq (.block 3 (.seq (.reg [0, 1, 2, 3, 4, 5, 6, 7, 8, 9, 10, 11, 12, 13, 14, 15, 16, 17, 18, 19] [
     rq 33 (.move (tp 0)) 25,
     rq 34 (.move (tp 6)) 3,
     rq 35 (.move (tp 0)) 25,
     rq 36 (.move (tp 6)) 3,
     rq 37 (.move (tp 10)) 3,
     rq 38 (.binOp .add 3 (tp 36) (tp 37) 3) 3,
     rq 39 (.move (tp 0)) 25,
     rq 40 (.move (tp 6)) 3,
     rq 41 (.move (tp 10)) 3,
     rq 42 (.binOp .add 3 (tp 40) (tp 41) 3) 3,
     rq 43 (.indexAddr 25 (tp 39) (tp 42)) 0,
     rq 44 (.load 3 (tp 43)) 3,
     rq 45 (.move (tp 0)) 25,
     rq 46 (.move (tp 6)) 3,
     rq 47 (.indexAddr 25 (tp 45) (tp 46)) 0,
     rq 48 (.load 3 (tp 47)) 3,
     rq 49 (.indexAddr 25 (tp 33) (tp 34)) 0,
     rn (.store 3 (tp 49) (tp 44)) 0,
     rq 50 (.indexAddr 25 (tp 35) (tp 38)) 0,
     rn (.store 3 (tp 50) (tp 48)) 0])
    (.reg [] [
      rq 51 (.move (tp 0)) 25,
      rq 52 (.move (tp 7)) 3,
      rq 53 (.move (tp 10)) 3,
      rq 54 (.move (tp 6)) 3,
      rq 55 (cf 96 #[(tp 51),(tp 52),(tp 53),(tp 54)] #[25,3,3,3]) 0])))
   (.reg [] [
     rq 31 (.move (tp 10)) 3,
     rq 32 (.binOp .sub 3 (tp 31) (ki 1) 3) 3,
     rq 10 (.assign (tp 32)) 3])))))))))
def c82:RC:=
 .seq (.reg [] [
  rq 11 (.move (tp 2)) 3,rq 12 (.move (tp 1)) 3,rq 13 (.binOp .sub 3 (tp 11) (tp 12) 3) 3,rq 6 (.assign (tp 13)) 3])
 (.seq (.reg [] [
   rq 14 (.move (tp 6)) 3,rq 15 (.binOp .geq 3 (tp 14) (ki 8) 3) 4])
 (.cond (tp 15) (.seq (.reg [] [
   rq 16 (.move (tp 6)) 3,
   rq 17 (.convert 3 108 (tp 16)) 108,
   rq 7 (.alloc 108) 0,
   rn (.store 108 (tp 7) (tp 17)) 0])
  (.seq (.reg [] [
    rq 18 (.move (tp 6)) 3,
    rq 19 (cf 92 #[(tp 18)] #[3]) 83,
    rq 8 (.assign (tp 19)) 83])
  (.seq (.reg [] [
    rq 20 (.move (tp 1)) 3,
    rq 21 (.move (tp 6)) 3,
    rq 22 (.binOp .quo 3 (tp 21) (ki 4) 3) 3,
    rq 23 (.binOp .mul 3 (tp 22) (ki 2) 3) 3,
    rq 24 (.binOp .add 3 (tp 20) (tp 23) 3) 3,
    rq 25 (.binOp .sub 3 (tp 24) (ki 1) 3) 3,
    rq 9 (.assign (tp 25)) 3])
  (.block 0 (.loop (.seq (.seq (.reg [] [
    rq 26 (.move (tp 9)) 3,
    rq 27 (.move (tp 1)) 3,
    rq 28 (.move (tp 6)) 3,
    rq 29 (.binOp .quo 3 (tp 28) (ki 4) 3) 3,
    rq 30 (.binOp .mul 3 (tp 29) (ki 2) 3) 3,
    rq 31 (.binOp .add 3 (tp 27) (tp 30) 3) 3,
    rq 32 (.binOp .add 3 (tp 31) (ki 1) 3) 3,
    rq 33 (.binOp .leq 3 (tp 26) (tp 32) 3) 4])
    (.cond (tp 33) (.skip)
    (.exit 0)))
    (.seq (.block 1 (.seq (.reg [] [
      rq 36 (cf 93 #[(tp 7)] #[108]) 99,
      rq 37 (.move (tp 8)) 83,
      rq 38 (.binOp .sub 83 (tp 37) (.const (.int .u64 1)) 83) 83,
      rq 39 (.binOp .and 83 (tp 36) (tp 38) 83) 83,
      rq 40 (.convert 83 3 (tp 39)) 3,
      rq 10 (.assign (tp 40)) 3])
     (.seq (.seq (.reg [] [
       rq 41 (.move (tp 10)) 3,
       rq 42 (.move (tp 6)) 3,
       rq 43 (.binOp .geq 3 (tp 41) (tp 42) 3) 4])
     (.cond (tp 43) (.reg [] [
       rq 44 (.move (tp 10)) 3,
       rq 45 (.move (tp 6)) 3,
       rq 46 (.binOp .sub 3 (tp 44) (tp 45) 3) 3,
       rq 10 (.assign (tp 46)) 3])
     (.skip)))
     (.reg [0, 1, 2, 3, 4, 5, 6, 7, 8, 9, 10, 11, 12, 13, 14, 15, 16, 17, 18, 19] [
       rq 47 (.move (tp 0)) 25,
       rq 48 (.move (tp 9)) 3,
       rq 49 (.move (tp 0)) 25,
       rq 50 (.move (tp 1)) 3,
       rq 51 (.move (tp 10)) 3,
       rq 52 (.binOp .add 3 (tp 50) (tp 51) 3) 3,
       rq 53 (.move (tp 0)) 25,
       rq 54 (.move (tp 1)) 3,
       rq 55 (.move (tp 10)) 3,
       rq 56 (.binOp .add 3 (tp 54) (tp 55) 3) 3,
       rq 57 (.indexAddr 25 (tp 53) (tp 56)) 0,
       rq 58 (.load 3 (tp 57)) 3,
       rq 59 (.move (tp 0)) 25,
       rq 60 (.move (tp 9)) 3,
       rq 61 (.indexAddr 25 (tp 59) (tp 60)) 0,
       rq 62 (.load 3 (tp 61)) 3,
       rq 63 (.indexAddr 25 (tp 47) (tp 48)) 0,
       rn (.store 3 (tp 63) (tp 58)) 0,
       rq 64 (.indexAddr 25 (tp 49) (tp 52)) 0,
       rn (.store 3 (tp 64) (tp 62)) 0]))))
    (.reg [] [
      rq 34 (.move (tp 9)) 3,
      rq 35 (.binOp .add 3 (tp 34) (ki 1) 3) 3,
      rq 9 (.assign (tp 35)) 3]))))))))
 (.skip)))
def c83:RC:=
 .seq (.reg [] [
  rq 6 (.assign (ki 0)) 3,rq 7 (.assign (ki 0)) 89])
 (.seq (.reg [] [
   rq 13 (.move (tp 2)) 3,rq 14 (.move (tp 1)) 3,rq 15 (.binOp .sub 3 (tp 13) (tp 14) 3) 3,rq 8 (.assign (tp 15)) 3])
 (.seq (.reg [] [
   rq 9 (.alloc 3) 0])
 (.seq (.reg [] [
   rq 16 (.move (tp 1)) 3,rq 17 (.move (tp 8)) 3,rq 18 (.binOp .quo 3 (tp 17) (ki 4) 3) 3,rq 19 (.binOp .mul 3 (tp 18) (ki 1) 3) 3,rq 20 (.binOp .add 3 (tp 16) (tp 19) 3) 3,rq 10 (.assign (tp 20)) 3])
 (.seq (.reg [] [
   rq 21 (.move (tp 1)) 3,rq 22 (.move (tp 8)) 3,rq 23 (.binOp .quo 3 (tp 22) (ki 4) 3) 3,rq 24 (.binOp .mul 3 (tp 23) (ki 2) 3) 3,rq 25 (.binOp .add 3 (tp 21) (tp 24) 3) 3,rq 11 (.assign (tp 25)) 3])
 (.seq (.reg [] [
   rq 26 (.move (tp 1)) 3,rq 27 (.move (tp 8)) 3,rq 28 (.binOp .quo 3 (tp 27) (ki 4) 3) 3,rq 29 (.binOp .mul 3 (tp 28) (ki 3) 3) 3,rq 30 (.binOp .add 3 (tp 26) (tp 29) 3) 3,rq 12 (.assign (tp 30)) 3])
 (.seq (.seq (.reg [] [
   rq 31 (.move (tp 8)) 3,rq 32 (.binOp .geq 3 (tp 31) (ki 8) 3) 4])
 (.cond (tp 32) (.seq (.seq (.reg [] [
   rq 33 (.move (tp 8)) 3,
   rq 34 (.binOp .geq 3 (tp 33) (ki 50) 3) 4])
  (.cond (tp 34) (.seq (.reg [] [
    rq 35 (.move (tp 0)) 25,
    rq 36 (.move (tp 10)) 3,
    rq 37 (cf 97 #[(tp 35),(tp 36),(tp 9)] #[25,3,112]) 3,
    rq 10 (.assign (tp 37)) 3])
   (.seq (.reg [] [
     rq 38 (.move (tp 0)) 25,
     rq 39 (.move (tp 11)) 3,
     rq 40 (cf 97 #[(tp 38),(tp 39),(tp 9)] #[25,3,112]) 3,
     rq 11 (.assign (tp 40)) 3])
   (.reg [] [
     rq 41 (.move (tp 0)) 25,
     rq 42 (.move (tp 12)) 3,
     rq 43 (cf 97 #[(tp 41),(tp 42),(tp 9)] #[25,3,112]) 3,
     rq 12 (.assign (tp 43)) 3])))
  (.skip)))
  (.reg [] [
    rq 44 (.move (tp 0)) 25,
    rq 45 (.move (tp 10)) 3,
    rq 46 (.move (tp 11)) 3,
    rq 47 (.move (tp 12)) 3,
    rq 48 (cf 98 #[(tp 44),(tp 45),(tp 46),(tp 47),(tp 9)] #[25,3,3,3,112]) 3,
    rq 11 (.assign (tp 48)) 3]))
 (.skip)))
 (.seq (.reg [] [
   rq 49 (.load 3 (tp 9)) 3])
 (.block 0 (.seq (.reg [] [
   rq 52 (.binOp .eql 3 (tp 49) (ki 0) 3) 4,
   rq 51 (.assign (tp 52)) 4])
  (.cond (tp 51) (.seq (.reg [] [
    rq 53 (.move (tp 11)) 3,
    rq 6 (.assign (tp 53)) 3,
    rq 7 (.assign (ki 1)) 89])
   (.ret))
  (.seq (.reg [] [
    rq 55 (.binOp .eql 3 (tp 49) (ki 12) 3) 4,
    rq 54 (.assign (tp 55)) 4])
   (.cond (tp 54) (.seq (.reg [] [
     rq 56 (.move (tp 11)) 3,
     rq 6 (.assign (tp 56)) 3,
     rq 7 (.assign (ki 2)) 89])
    (.ret))
   (.seq (.reg [] [
     rq 50 (.move (tp 11)) 3,
     rq 6 (.assign (tp 50)) 3,
     rq 7 (.assign (ki 0)) 89])
    (.ret))))))))))))))
def c84:RC:=
 .seq (.reg [] [
  rq 8 (.move (tp 1)) 3,rq 6 (.assign (tp 8)) 3])
 (.seq (.reg [] [
   rq 9 (.move (tp 2)) 3,rq 10 (.binOp .sub 3 (tp 9) (ki 1) 3) 3,rq 7 (.assign (tp 10)) 3])
 (.block 0 (.loop (.seq (.seq (.reg [] [
   rq 11 (.move (tp 6)) 3,
   rq 12 (.move (tp 7)) 3,
   rq 13 (.binOp .lss 3 (tp 11) (tp 12) 3) 4])
   (.cond (tp 13) (.skip)
   (.exit 0)))
   (.block 1 (.seq (.reg [0, 1, 2, 3, 4, 5, 6, 7, 8, 9, 10, 11, 12, 13, 14, 15] [
     rq 14 (.move (tp 0)) 25,
     rq 15 (.move (tp 6)) 3,
     rq 16 (.move (tp 0)) 25,
     rq 17 (.move (tp 7)) 3,
     rq 18 (.move (tp 0)) 25,
     rq 19 (.move (tp 7)) 3,
     rq 20 (.indexAddr 25 (tp 18) (tp 19)) 0,
     rq 21 (.load 3 (tp 20)) 3,
     rq 22 (.move (tp 0)) 25,
     rq 23 (.move (tp 6)) 3,
     rq 24 (.indexAddr 25 (tp 22) (tp 23)) 0,
     rq 25 (.load 3 (tp 24)) 3,
     rq 26 (.indexAddr 25 (tp 14) (tp 15)) 0,
     rn (.store 3 (tp 26) (tp 21)) 0,
     rq 27 (.indexAddr 25 (tp 16) (tp 17)) 0,
     rn (.store 3 (tp 27) (tp 25)) 0])
    (.seq (.reg [] [
      rq 28 (.move (tp 6)) 3,
      rq 29 (.binOp .add 3 (tp 28) (ki 1) 3) 3,
      rq 6 (.assign (tp 29)) 3])
    (.reg [] [
      rq 30 (.move (tp 7)) 3,
      rq 31 (.binOp .sub 3 (tp 30) (ki 1) 3) 3,
      rq 7 (.assign (tp 31)) 3]))))))))
def c85:RC:=
 .seq (.reg [] [
  rq 6 (.assign (kb false)) 4])
 (.seq (.reg [] [
   rq 11 (.move (tp 1)) 3,rq 12 (.binOp .add 3 (tp 11) (ki 1) 3) 3,rq 7 (.assign (tp 12)) 3])
 (.seq (.seq (.reg [] [
   rq 8 (.assign (ki 0)) 3])
 (.block 0 (.loop (.seq (.seq (.reg [] [
   rq 13 (.move (tp 8)) 3,
   rq 14 (.binOp .lss 3 (tp 13) (ki 5) 3) 4])
   (.cond (tp 14) (.skip)
   (.exit 0)))
   (.seq (.block 1 (.seq (.block 2 (.loop (.seq (.seq (.reg [0, 1, 2, 3, 4, 5, 6, 7, 8, 9, 10, 11, 12, 13, 14, 15] [
     rq 17 (.move (tp 7)) 3,
     rq 18 (.move (tp 2)) 3,
     rq 19 (.binOp .lss 3 (tp 17) (tp 18) 3) 4,
     rq 20 (.move (tp 19)) 4,
     rg 21 (.move (tp 0)) 25 20 true,
     rg 22 (.move (tp 7)) 3 20 true,
     rg 23 (.indexAddr 25 (tp 21) (tp 22)) 0 20 true,
     rg 24 (.load 3 (tp 23)) 3 20 true,
     rg 25 (.move (tp 0)) 25 20 true,
     rg 26 (.move (tp 7)) 3 20 true,
     rg 27 (.binOp .sub 3 (tp 26) (ki 1) 3) 3 20 true,
     rg 28 (.indexAddr 25 (tp 25) (tp 27)) 0 20 true,
     rg 29 (.load 3 (tp 28)) 3 20 true,
     rg 30 (cf 86 #[(tp 24),(tp 29)] #[3,3]) 4 20 true,
     rg 31 (.unOp .not 4 (tp 30)) 4 20 true,
     rq 32 (.pick (tp 20) (tp 31) (kb false)) 4])
     (.cond (tp 32) (.skip)
     (.exit 2)))
     (.block 3 (.reg [] [
       rq 33 (.move (tp 7)) 3,
       rq 34 (.binOp .add 3 (tp 33) (ki 1) 3) 3,
       rq 7 (.assign (tp 34)) 3])))))
    (.seq (.seq (.reg [] [
      rq 35 (.move (tp 7)) 3,
      rq 36 (.move (tp 2)) 3,
      rq 37 (.binOp .eql 3 (tp 35) (tp 36) 3) 4])
    (.cond (tp 37) (.seq (.reg [] [
      rq 6 (.assign (kb true)) 4])
     (.ret))
    (.skip)))
    (.seq (.seq (.reg [] [
      rq 38 (.move (tp 2)) 3,
      rq 39 (.move (tp 1)) 3,
      rq 40 (.binOp .sub 3 (tp 38) (tp 39) 3) 3,
      rq 41 (.binOp .lss 3 (tp 40) (ki 50) 3) 4])
    (.cond (tp 41) (.seq (.reg [] [
      rq 6 (.assign (kb false)) 4])
     (.ret))
    (.skip)))
    (.seq (.reg [0, 1, 2, 3, 4, 5, 6, 7, 8, 9, 10, 11, 12, 13, 14, 15, 16, 17] [
      rq 42 (.move (tp 0)) 25,
      rq 43 (.move (tp 7)) 3,
      rq 44 (.move (tp 0)) 25,
      rq 45 (.move (tp 7)) 3,
      rq 46 (.binOp .sub 3 (tp 45) (ki 1) 3) 3,
      rq 47 (.move (tp 0)) 25,
      rq 48 (.move (tp 7)) 3,
      rq 49 (.binOp .sub 3 (tp 48) (ki 1) 3) 3,
      rq 50 (.indexAddr 25 (tp 47) (tp 49)) 0,
      rq 51 (.load 3 (tp 50)) 3,
      rq 52 (.move (tp 0)) 25,
      rq 53 (.move (tp 7)) 3,
      rq 54 (.indexAddr 25 (tp 52) (tp 53)) 0,
      rq 55 (.load 3 (tp 54)) 3,
      rq 56 (.indexAddr 25 (tp 42) (tp 43)) 0,
      rn (.store 3 (tp 56) (tp 51)) 0,
      rq 57 (.indexAddr 25 (tp 44) (tp 46)) 0,
      rn (.store 3 (tp 57) (tp 55)) 0])
    (.seq (.seq (.reg [] [
      rq 58 (.move (tp 7)) 3,
      rq 59 (.move (tp 1)) 3,
      rq 60 (.binOp .sub 3 (tp 58) (tp 59) 3) 3,
      rq 61 (.binOp .geq 3 (tp 60) (ki 2) 3) 4])
    (.cond (tp 61) (.seq (.reg [] [
      rq 62 (.move (tp 7)) 3,
      rq 63 (.binOp .sub 3 (tp 62) (ki 1) 3) 3,
      rq 9 (.assign (tp 63)) 3])
     (.block 4 (.loop (.seq (.seq (.reg [] [
       rq 64 (.move (tp 9)) 3,
       rq 65 (.binOp .geq 3 (tp 64) (ki 1) 3) 4])
       (.cond (tp 65) (.skip)
       (.exit 4)))
       (.seq (.block 5 (.seq (.seq (.reg [0, 1, 2, 3, 4, 5, 6, 7, 8, 9, 10] [
         rq 68 (.move (tp 0)) 25,
         rq 69 (.move (tp 9)) 3,
         rq 70 (.indexAddr 25 (tp 68) (tp 69)) 0,
         rq 71 (.load 3 (tp 70)) 3,
         rq 72 (.move (tp 0)) 25,
         rq 73 (.move (tp 9)) 3,
         rq 74 (.binOp .sub 3 (tp 73) (ki 1) 3) 3,
         rq 75 (.indexAddr 25 (tp 72) (tp 74)) 0,
         rq 76 (.load 3 (tp 75)) 3,
         rq 77 (cf 86 #[(tp 71),(tp 76)] #[3,3]) 4,
         rq 78 (.unOp .not 4 (tp 77)) 4])
        (.cond (tp 78) (.exit 4)
        (.skip)))
        (.reg [0, 1, 2, 3, 4, 5, 6, 7, 8, 9, 10, 11, 12, 13, 14, 15, 16, 17] [
          rq 79 (.move (tp 0)) 25,
          rq 80 (.move (tp 9)) 3,
          rq 81 (.move (tp 0)) 25,
          rq 82 (.move (tp 9)) 3,
          rq 83 (.binOp .sub 3 (tp 82) (ki 1) 3) 3,
          rq 84 (.move (tp 0)) 25,
          rq 85 (.move (tp 9)) 3,
          rq 86 (.binOp .sub 3 (tp 85) (ki 1) 3) 3,
          rq 87 (.indexAddr 25 (tp 84) (tp 86)) 0,
          rq 88 (.load 3 (tp 87)) 3,
          rq 89 (.move (tp 0)) 25,
          rq 90 (.move (tp 9)) 3,
          rq 91 (.indexAddr 25 (tp 89) (tp 90)) 0,
          rq 92 (.load 3 (tp 91)) 3,
          rq 93 (.indexAddr 25 (tp 79) (tp 80)) 0,
          rn (.store 3 (tp 93) (tp 88)) 0,
          rq 94 (.indexAddr 25 (tp 81) (tp 83)) 0,
          rn (.store 3 (tp 94) (tp 92)) 0])))
       (.reg [] [
         rq 66 (.move (tp 9)) 3,
         rq 67 (.binOp .sub 3 (tp 66) (ki 1) 3) 3,
         rq 9 (.assign (tp 67)) 3]))))))
    (.skip)))
    (.seq (.reg [] [
      rq 95 (.move (tp 2)) 3,
      rq 96 (.move (tp 7)) 3,
      rq 97 (.binOp .sub 3 (tp 95) (tp 96) 3) 3,
      rq 98 (.binOp .geq 3 (tp 97) (ki 2) 3) 4])
    (.cond (tp 98) (.seq (.reg [] [
      rq 99 (.move (tp 7)) 3,
      rq 100 (.binOp .add 3 (tp 99) (ki 1) 3) 3,
      rq 10 (.assign (tp 100)) 3])
     (.block 6 (.loop (.seq (.seq (.reg [] [
       rq 101 (.move (tp 10)) 3,
       rq 102 (.move (tp 2)) 3,
       rq 103 (.binOp .lss 3 (tp 101) (tp 102) 3) 4])
       (.cond (tp 103) (.skip)
       (.exit 6)))
       (.seq (.block 7 (.seq (.seq (.reg [0, 1, 2, 3, 4, 5, 6, 7, 8, 9, 10] [
         rq 106 (.move (tp 0)) 25,
         rq 107 (.move (tp 10)) 3,
         rq 108 (.indexAddr 25 (tp 106) (tp 107)) 0,
         rq 109 (.load 3 (tp 108)) 3,
         rq 110 (.move (tp 0)) 25,
         rq 111 (.move (tp 10)) 3,
         rq 112 (.binOp .sub 3 (tp 111) (ki 1) 3) 3,
         rq 113 (.indexAddr 25 (tp 110) (tp 112)) 0,
         rq 114 (.load 3 (tp 113)) 3,
         rq 115 (cf 86 #[(tp 109),(tp 114)] #[3,3]) 4,
         rq 116 (.unOp .not 4 (tp 115)) 4])
        (.cond (tp 116) (.exit 6)
        (.skip)))
        (.reg [0, 1, 2, 3, 4, 5, 6, 7, 8, 9, 10, 11, 12, 13, 14, 15, 16, 17] [
          rq 117 (.move (tp 0)) 25,
          rq 118 (.move (tp 10)) 3,
          rq 119 (.move (tp 0)) 25,
          rq 120 (.move (tp 10)) 3,
          rq 121 (.binOp .sub 3 (tp 120) (ki 1) 3) 3,
          rq 122 (.move (tp 0)) 25,
          rq 123 (.move (tp 10)) 3,
          rq 124 (.binOp .sub 3 (tp 123) (ki 1) 3) 3,
          rq 125 (.indexAddr 25 (tp 122) (tp 124)) 0,
          rq 126 (.load 3 (tp 125)) 3,
          rq 127 (.move (tp 0)) 25,
          rq 128 (.move (tp 10)) 3,
          rq 129 (.indexAddr 25 (tp 127) (tp 128)) 0,
          rq 130 (.load 3 (tp 129)) 3,
          rq 131 (.indexAddr 25 (tp 117) (tp 118)) 0,
          rn (.store 3 (tp 131) (tp 126)) 0,
          rq 132 (.indexAddr 25 (tp 119) (tp 121)) 0,
          rn (.store 3 (tp 132) (tp 130)) 0])))
       (.reg [] [
         rq 104 (.move (tp 10)) 3,
         rq 105 (.binOp .add 3 (tp 104) (ki 1) 3) 3,
         rq 10 (.assign (tp 105)) 3]))))))
    (.skip)))))))))
   (.reg [] [
     rq 15 (.move (tp 8)) 3,
     rq 16 (.binOp .add 3 (tp 15) (ki 1) 3) 3,
     rq 8 (.assign (tp 16)) 3]))))))
 (.seq (.reg [] [
   rq 6 (.assign (kb false)) 4])
 (.ret))))
def c86:RC:=
 .seq (.reg [] [
  rq 4 (.assign (kb false)) 4])
 (.seq (.reg [] [
   rq 5 (.move (tp 0)) 3,rq 6 (cf 63 #[(tp 5)] #[3]) 4,rq 7 (.move (tp 6)) 4,rg 8 (.move (tp 1)) 3 7 true,rg 9 (cf 63 #[(tp 8)] #[3]) 4 7 true,rg 10 (.unOp .not 4 (tp 9)) 4 7 true,rq 11 (.pick (tp 7) (tp 10) (kb false)) 4,rq 12 (.move (tp 11)) 4,rg 13 (.move (tp 0)) 3 12 false,rg 14 (.move (tp 1)) 3 12 false,rg 15 (.binOp .lss 3 (tp 13) (tp 14) 3) 4 12 false,rq 16 (.pick (tp 12) (kb true) (tp 15)) 4,rq 4 (.assign (tp 16)) 4])
 (.ret))
def c87:RC:=
 .seq (.reg [] [
  rq 8 (.assign (ki 0)) 3])
 (.seq (.reg [0, 1, 2, 3, 4, 5, 6, 7, 8, 9, 10, 11, 12, 13, 14, 15] [
   rq 11 (.move (tp 0)) 25,rq 12 (.move (tp 1)) 3,rq 13 (.move (tp 0)) 25,rq 14 (.move (tp 3)) 3,rq 15 (.move (tp 0)) 25,rq 16 (.move (tp 3)) 3,rq 17 (.indexAddr 25 (tp 15) (tp 16)) 0,rq 18 (.load 3 (tp 17)) 3,rq 19 (.move (tp 0)) 25,rq 20 (.move (tp 1)) 3,rq 21 (.indexAddr 25 (tp 19) (tp 20)) 0,rq 22 (.load 3 (tp 21)) 3,rq 23 (.indexAddr 25 (tp 11) (tp 12)) 0,rn (.store 3 (tp 23) (tp 18)) 0,rq 24 (.indexAddr 25 (tp 13) (tp 14)) 0,rn (.store 3 (tp 24) (tp 22)) 0])
 (.seq (.reg [] [
   rq 25 (.move (tp 1)) 3,rq 26 (.binOp .add 3 (tp 25) (ki 1) 3) 3,rq 27 (.move (tp 2)) 3,rq 28 (.binOp .sub 3 (tp 27) (ki 1) 3) 3,rq 9 (.assign (tp 26)) 3,rq 10 (.assign (tp 28)) 3])
 (.seq (.block 0 (.loop (.block 1 (.seq (.block 2 (.loop (.seq (.seq (.reg [0, 1, 2, 3, 4, 5, 6, 7, 8, 9, 10, 11, 12, 13, 14] [
        rq 29 (.move (tp 9)) 3,
        rq 30 (.move (tp 10)) 3,
        rq 31 (.binOp .leq 3 (tp 29) (tp 30) 3) 4,
        rq 32 (.move (tp 31)) 4,
        rg 33 (.move (tp 0)) 25 32 true,
        rg 34 (.move (tp 1)) 3 32 true,
        rg 35 (.indexAddr 25 (tp 33) (tp 34)) 0 32 true,
        rg 36 (.load 3 (tp 35)) 3 32 true,
        rg 37 (.move (tp 0)) 25 32 true,
        rg 38 (.move (tp 9)) 3 32 true,
        rg 39 (.indexAddr 25 (tp 37) (tp 38)) 0 32 true,
        rg 40 (.load 3 (tp 39)) 3 32 true,
        rg 41 (cf 86 #[(tp 36),(tp 40)] #[3,3]) 4 32 true,
        rg 42 (.unOp .not 4 (tp 41)) 4 32 true,
        rq 43 (.pick (tp 32) (tp 42) (kb false)) 4])
   (.cond (tp 43) (.skip)
   (.exit 2)))
   (.block 3 (.reg [] [
     rq 44 (.move (tp 9)) 3,
     rq 45 (.binOp .add 3 (tp 44) (ki 1) 3) 3,
     rq 9 (.assign (tp 45)) 3])))))
   (.seq (.block 4 (.loop (.seq (.seq (.reg [0, 1, 2, 3, 4, 5, 6, 7, 8, 9, 10, 11, 12, 13] [
     rq 46 (.move (tp 9)) 3,
     rq 47 (.move (tp 10)) 3,
     rq 48 (.binOp .leq 3 (tp 46) (tp 47) 3) 4,
     rq 49 (.move (tp 48)) 4,
     rg 50 (.move (tp 0)) 25 49 true,
     rg 51 (.move (tp 1)) 3 49 true,
     rg 52 (.indexAddr 25 (tp 50) (tp 51)) 0 49 true,
     rg 53 (.load 3 (tp 52)) 3 49 true,
     rg 54 (.move (tp 0)) 25 49 true,
     rg 55 (.move (tp 10)) 3 49 true,
     rg 56 (.indexAddr 25 (tp 54) (tp 55)) 0 49 true,
     rg 57 (.load 3 (tp 56)) 3 49 true,
     rg 58 (cf 86 #[(tp 53),(tp 57)] #[3,3]) 4 49 true,
     rq 59 (.pick (tp 49) (tp 58) (kb false)) 4])
     (.cond (tp 59) (.skip)
     (.exit 4)))
     (.block 5 (.reg [] [
       rq 60 (.move (tp 10)) 3,
       rq 61 (.binOp .sub 3 (tp 60) (ki 1) 3) 3,
       rq 10 (.assign (tp 61)) 3])))))
   (.seq (.seq (.reg [] [
     rq 62 (.move (tp 9)) 3,
     rq 63 (.move (tp 10)) 3,
     rq 64 (.binOp .gtr 3 (tp 62) (tp 63) 3) 4])
   (.cond (tp 64) (.exit 0)
   (.skip)))
   (.seq (.reg [0, 1, 2, 3, 4, 5, 6, 7, 8, 9, 10, 11, 12, 13, 14, 15] [
     rq 65 (.move (tp 0)) 25,
     rq 66 (.move (tp 9)) 3,
     rq 67 (.move (tp 0)) 25,
     rq 68 (.move (tp 10)) 3,
     rq 69 (.move (tp 0)) 25,
     rq 70 (.move (tp 10)) 3,
     rq 71 (.indexAddr 25 (tp 69) (tp 70)) 0,
     rq 72 (.load 3 (tp 71)) 3,
     rq 73 (.move (tp 0)) 25,
     rq 74 (.move (tp 9)) 3,
     rq 75 (.indexAddr 25 (tp 73) (tp 74)) 0,
     rq 76 (.load 3 (tp 75)) 3,
     rq 77 (.indexAddr 25 (tp 65) (tp 66)) 0,
     rn (.store 3 (tp 77) (tp 72)) 0,
     rq 78 (.indexAddr 25 (tp 67) (tp 68)) 0,
     rn (.store 3 (tp 78) (tp 76)) 0])
   (.seq (.reg [] [
     rq 79 (.move (tp 9)) 3,
     rq 80 (.binOp .add 3 (tp 79) (ki 1) 3) 3,
     rq 9 (.assign (tp 80)) 3])
   (.reg [] [
     rq 81 (.move (tp 10)) 3,
     rq 82 (.binOp .sub 3 (tp 81) (ki 1) 3) 3,
     rq 10 (.assign (tp 82)) 3])))))))))
 (.seq (.reg [] [
   rq 83 (.move (tp 9)) 3,rq 8 (.assign (tp 83)) 3])
 (.ret)))))
def c88:RC:=
 .seq (.reg [] [
  rq 8 (.assign (ki 0)) 3,rq 9 (.assign (kb false)) 4])
 (.seq (.reg [0, 1, 2, 3, 4, 5, 6, 7, 8, 9, 10, 11, 12, 13, 14, 15] [
   rq 12 (.move (tp 0)) 25,rq 13 (.move (tp 1)) 3,rq 14 (.move (tp 0)) 25,rq 15 (.move (tp 3)) 3,rq 16 (.move (tp 0)) 25,rq 17 (.move (tp 3)) 3,rq 18 (.indexAddr 25 (tp 16) (tp 17)) 0,rq 19 (.load 3 (tp 18)) 3,rq 20 (.move (tp 0)) 25,rq 21 (.move (tp 1)) 3,rq 22 (.indexAddr 25 (tp 20) (tp 21)) 0,rq 23 (.load 3 (tp 22)) 3,rq 24 (.indexAddr 25 (tp 12) (tp 13)) 0,rn (.store 3 (tp 24) (tp 19)) 0,rq 25 (.indexAddr 25 (tp 14) (tp 15)) 0,rn (.store 3 (tp 25) (tp 23)) 0])
 (.seq (.reg [] [
   rq 26 (.move (tp 1)) 3,rq 27 (.binOp .add 3 (tp 26) (ki 1) 3) 3,rq 28 (.move (tp 2)) 3,rq 29 (.binOp .sub 3 (tp 28) (ki 1) 3) 3,rq 10 (.assign (tp 27)) 3,rq 11 (.assign (tp 29)) 3])
 (.seq (.block 0 (.loop (.seq (.seq (.reg [0, 1, 2, 3, 4, 5, 6, 7, 8, 9, 10, 11, 12, 13] [
   rq 30 (.move (tp 10)) 3,
   rq 31 (.move (tp 11)) 3,
   rq 32 (.binOp .leq 3 (tp 30) (tp 31) 3) 4,
   rq 33 (.move (tp 32)) 4,
   rg 34 (.move (tp 0)) 25 33 true,
   rg 35 (.move (tp 10)) 3 33 true,
   rg 36 (.indexAddr 25 (tp 34) (tp 35)) 0 33 true,
   rg 37 (.load 3 (tp 36)) 3 33 true,
   rg 38 (.move (tp 0)) 25 33 true,
   rg 39 (.move (tp 1)) 3 33 true,
   rg 40 (.indexAddr 25 (tp 38) (tp 39)) 0 33 true,
   rg 41 (.load 3 (tp 40)) 3 33 true,
   rg 42 (cf 86 #[(tp 37),(tp 41)] #[3,3]) 4 33 true,
   rq 43 (.pick (tp 33) (tp 42) (kb false)) 4])
   (.cond (tp 43) (.skip)
   (.exit 0)))
   (.block 1 (.reg [] [
     rq 44 (.move (tp 10)) 3,
     rq 45 (.binOp .add 3 (tp 44) (ki 1) 3) 3,
     rq 10 (.assign (tp 45)) 3])))))
 (.seq (.block 2 (.loop (.seq (.seq (.reg [0, 1, 2, 3, 4, 5, 6, 7, 8, 9, 10, 11, 12, 13, 14] [
   rq 46 (.move (tp 10)) 3,
   rq 47 (.move (tp 11)) 3,
   rq 48 (.binOp .leq 3 (tp 46) (tp 47) 3) 4,
   rq 49 (.move (tp 48)) 4,
   rg 50 (.move (tp 0)) 25 49 true,
   rg 51 (.move (tp 11)) 3 49 true,
   rg 52 (.indexAddr 25 (tp 50) (tp 51)) 0 49 true,
   rg 53 (.load 3 (tp 52)) 3 49 true,
   rg 54 (.move (tp 0)) 25 49 true,
   rg 55 (.move (tp 1)) 3 49 true,
   rg 56 (.indexAddr 25 (tp 54) (tp 55)) 0 49 true,
   rg 57 (.load 3 (tp 56)) 3 49 true,
   rg 58 (cf 86 #[(tp 53),(tp 57)] #[3,3]) 4 49 true,
   rg 59 (.unOp .not 4 (tp 58)) 4 49 true,
   rq 60 (.pick (tp 49) (tp 59) (kb false)) 4])
   (.cond (tp 60) (.skip)
   (.exit 2)))
   (.block 3 (.reg [] [
     rq 61 (.move (tp 11)) 3,
     rq 62 (.binOp .sub 3 (tp 61) (ki 1) 3) 3,
     rq 11 (.assign (tp 62)) 3])))))
 (.seq (.seq (.reg [] [
   rq 63 (.move (tp 10)) 3,rq 64 (.move (tp 11)) 3,rq 65 (.binOp .gtr 3 (tp 63) (tp 64) 3) 4])
 (.cond (tp 65) (.seq (.reg [0, 1, 2, 3, 4, 5, 6, 7, 8, 9, 10, 11, 12, 13, 14, 15] [
   rq 66 (.move (tp 0)) 25,
   rq 67 (.move (tp 11)) 3,
   rq 68 (.move (tp 0)) 25,
   rq 69 (.move (tp 1)) 3,
   rq 70 (.move (tp 0)) 25,
   rq 71 (.move (tp 1)) 3,
   rq 72 (.indexAddr 25 (tp 70) (tp 71)) 0,
   rq 73 (.load 3 (tp 72)) 3,
   rq 74 (.move (tp 0)) 25,
   rq 75 (.move (tp 11)) 3,
   rq 76 (.indexAddr 25 (tp 74) (tp 75)) 0,
   rq 77 (.load 3 (tp 76)) 3,
   rq 78 (.indexAddr 25 (tp 66) (tp 67)) 0,
   rn (.store 3 (tp 78) (tp 73)) 0,
   rq 79 (.indexAddr 25 (tp 68) (tp 69)) 0,
   rn (.store 3 (tp 79) (tp 77)) 0])
  (.seq (.reg [] [
    rq 80 (.move (tp 11)) 3,
    rq 8 (.assign (tp 80)) 3,
    rq 9 (.assign (kb true)) 4])
  (.ret)))
 (.skip)))
 (.seq (.reg [0, 1, 2, 3, 4, 5, 6, 7, 8, 9, 10, 11, 12, 13, 14, 15] [
   rq 81 (.move (tp 0)) 25,rq 82 (.move (tp 10)) 3,rq 83 (.move (tp 0)) 25,rq 84 (.move (tp 11)) 3,rq 85 (.move (tp 0)) 25,rq 86 (.move (tp 11)) 3,rq 87 (.indexAddr 25 (tp 85) (tp 86)) 0,rq 88 (.load 3 (tp 87)) 3,rq 89 (.move (tp 0)) 25,rq 90 (.move (tp 10)) 3,rq 91 (.indexAddr 25 (tp 89) (tp 90)) 0,rq 92 (.load 3 (tp 91)) 3,rq 93 (.indexAddr 25 (tp 81) (tp 82)) 0,rn (.store 3 (tp 93) (tp 88)) 0,rq 94 (.indexAddr 25 (tp 83) (tp 84)) 0,rn (.store 3 (tp 94) (tp 92)) 0])
 (.seq (.reg [] [
   rq 95 (.move (tp 10)) 3,rq 96 (.binOp .add 3 (tp 95) (ki 1) 3) 3,rq 10 (.assign (tp 96)) 3])
 (.seq (.reg [] [
   rq 97 (.move (tp 11)) 3,rq 98 (.binOp .sub 3 (tp 97) (ki 1) 3) 3,rq 11 (.assign (tp 98)) 3])
 (.seq (.block 4 (.loop (.block 5 (.seq (.block 6 (.loop (.seq (.seq (.reg [0, 1, 2, 3, 4, 5, 6, 7, 8, 9, 10, 11, 12, 13] [
        rq 99 (.move (tp 10)) 3,
        rq 100 (.move (tp 11)) 3,
        rq 101 (.binOp .leq 3 (tp 99) (tp 100) 3) 4,
        rq 102 (.move (tp 101)) 4,
        rg 103 (.move (tp 0)) 25 102 true,
        rg 104 (.move (tp 10)) 3 102 true,
        rg 105 (.indexAddr 25 (tp 103) (tp 104)) 0 102 true,
        rg 106 (.load 3 (tp 105)) 3 102 true,
        rg 107 (.move (tp 0)) 25 102 true,
        rg 108 (.move (tp 1)) 3 102 true,
        rg 109 (.indexAddr 25 (tp 107) (tp 108)) 0 102 true,
        rg 110 (.load 3 (tp 109)) 3 102 true,
        rg 111 (cf 86 #[(tp 106),(tp 110)] #[3,3]) 4 102 true,
        rq 112 (.pick (tp 102) (tp 111) (kb false)) 4])
   (.cond (tp 112) (.skip)
   (.exit 6)))
   (.block 7 (.reg [] [
     rq 113 (.move (tp 10)) 3,
     rq 114 (.binOp .add 3 (tp 113) (ki 1) 3) 3,
     rq 10 (.assign (tp 114)) 3])))))
   (.seq (.block 8 (.loop (.seq (.seq (.reg [0, 1, 2, 3, 4, 5, 6, 7, 8, 9, 10, 11, 12, 13, 14] [
     rq 115 (.move (tp 10)) 3,
     rq 116 (.move (tp 11)) 3,
     rq 117 (.binOp .leq 3 (tp 115) (tp 116) 3) 4,
     rq 118 (.move (tp 117)) 4,
     rg 119 (.move (tp 0)) 25 118 true,
     rg 120 (.move (tp 11)) 3 118 true,
     rg 121 (.indexAddr 25 (tp 119) (tp 120)) 0 118 true,
     rg 122 (.load 3 (tp 121)) 3 118 true,
     rg 123 (.move (tp 0)) 25 118 true,
     rg 124 (.move (tp 1)) 3 118 true,
     rg 125 (.indexAddr 25 (tp 123) (tp 124)) 0 118 true,
     rg 126 (.load 3 (tp 125)) 3 118 true,
     rg 127 (cf 86 #[(tp 122),(tp 126)] #[3,3]) 4 118 true,
     rg 128 (.unOp .not 4 (tp 127)) 4 118 true,
     rq 129 (.pick (tp 118) (tp 128) (kb false)) 4])
     (.cond (tp 129) (.skip)
     (.exit 8)))
     (.block 9 (.reg [] [
       rq 130 (.move (tp 11)) 3,
       rq 131 (.binOp .sub 3 (tp 130) (ki 1) 3) 3,
       rq 11 (.assign (tp 131)) 3])))))
   (.seq (.seq (.reg [] [
     rq 132 (.move (tp 10)) 3,
     rq 133 (.move (tp 11)) 3,
     rq 134 (.binOp .gtr 3 (tp 132) (tp 133) 3) 4])
   (.cond (tp 134) (.exit 4)
   (.skip)))
   (.seq (.reg [0, 1, 2, 3, 4, 5, 6, 7, 8, 9, 10, 11, 12, 13, 14, 15] [
     rq 135 (.move (tp 0)) 25,
     rq 136 (.move (tp 10)) 3,
     rq 137 (.move (tp 0)) 25,
     rq 138 (.move (tp 11)) 3,
     rq 139 (.move (tp 0)) 25,
     rq 140 (.move (tp 11)) 3,
     rq 141 (.indexAddr 25 (tp 139) (tp 140)) 0,
     rq 142 (.load 3 (tp 141)) 3,
     rq 143 (.move (tp 0)) 25,
     rq 144 (.move (tp 10)) 3,
     rq 145 (.indexAddr 25 (tp 143) (tp 144)) 0,
     rq 146 (.load 3 (tp 145)) 3,
     rq 147 (.indexAddr 25 (tp 135) (tp 136)) 0,
     rn (.store 3 (tp 147) (tp 142)) 0,
     rq 148 (.indexAddr 25 (tp 137) (tp 138)) 0,
     rn (.store 3 (tp 148) (tp 146)) 0])
   (.seq (.reg [] [
     rq 149 (.move (tp 10)) 3,
     rq 150 (.binOp .add 3 (tp 149) (ki 1) 3) 3,
     rq 10 (.assign (tp 150)) 3])
   (.reg [] [
     rq 151 (.move (tp 11)) 3,
     rq 152 (.binOp .sub 3 (tp 151) (ki 1) 3) 3,
     rq 11 (.assign (tp 152)) 3])))))))))
 (.seq (.reg [0, 1, 2, 3, 4, 5, 6, 7, 8, 9, 10, 11, 12, 13, 14, 15] [
   rq 153 (.move (tp 0)) 25,rq 154 (.move (tp 11)) 3,rq 155 (.move (tp 0)) 25,rq 156 (.move (tp 1)) 3,rq 157 (.move (tp 0)) 25,rq 158 (.move (tp 1)) 3,rq 159 (.indexAddr 25 (tp 157) (tp 158)) 0,rq 160 (.load 3 (tp 159)) 3,rq 161 (.move (tp 0)) 25,rq 162 (.move (tp 11)) 3,rq 163 (.indexAddr 25 (tp 161) (tp 162)) 0,rq 164 (.load 3 (tp 163)) 3,rq 165 (.indexAddr 25 (tp 153) (tp 154)) 0,rn (.store 3 (tp 165) (tp 160)) 0,rq 166 (.indexAddr 25 (tp 155) (tp 156)) 0,rn (.store 3 (tp 166) (tp 164)) 0])
 (.seq (.reg [] [
   rq 167 (.move (tp 11)) 3,rq 8 (.assign (tp 167)) 3,rq 9 (.assign (kb false)) 4])
 (.ret))))))))))))
def c89:RC:=
 .seq (.reg [] [
  rq 10 (.assign (kb true)) 4])
 (.seq (.reg [] [
   rq 11 (.assign (kb true)) 4])
 (.block 0 (.loop (.block 1 (.seq (.reg [] [
   rq 21 (.move (tp 2)) 3,
   rq 22 (.move (tp 1)) 3,
   rq 23 (.binOp .sub 3 (tp 21) (tp 22) 3) 3,
   rq 12 (.assign (tp 23)) 3])
   (.seq (.seq (.reg [] [
     rq 24 (.move (tp 12)) 3,
     rq 25 (.binOp .leq 3 (tp 24) (ki 12) 3) 4])
   (.cond (tp 25) (.seq (.reg [] [
     rq 26 (.move (tp 0)) 23,
     rq 27 (.move (tp 1)) 3,
     rq 28 (.move (tp 2)) 3,
     rq 29 (.move (tp 4)) 33,
     rq 30 (cf 99 #[(tp 26),(tp 27),(tp 28),(tp 29)] #[23,3,3,33]) 0])
    (.ret))
   (.skip)))
   (.seq (.seq (.reg [] [
     rq 31 (.move (tp 3)) 3,
     rq 32 (.binOp .eql 3 (tp 31) (ki 0) 3) 4])
   (.cond (tp 32) (.seq (.reg [] [
     rq 33 (.move (tp 0)) 23,
     rq 34 (.move (tp 1)) 3,
     rq 35 (.move (tp 2)) 3,
     rq 36 (.move (tp 4)) 33,
     rq 37 (cf 100 #[(tp 33),(tp 34),(tp 35),(tp 36)] #[23,3,3,33]) 0])
    (.ret))
   (.skip)))
   (.seq (.seq (.reg [] [
     rq 38 (.move (tp 10)) 4,
     rq 39 (.unOp .not 4 (tp 38)) 4])
   (.cond (tp 39) (.seq (.reg [] [
     rq 40 (.move (tp 0)) 23,
     rq 41 (.move (tp 1)) 3,
     rq 42 (.move (tp 2)) 3,
     rq 43 (.move (tp 4)) 33,
     rq 44 (cf 101 #[(tp 40),(tp 41),(tp 42),(tp 43)] #[23,3,3,33]) 0])
    (.reg [] [
      rq 45 (.move (tp 3)) 3,
      rq 46 (.binOp .sub 3 (tp 45) (ki 1) 3) 3,
      rq 3 (.assign (tp 46)) 3]))
   (.skip)))
   (.seq (.reg [] [
     rq 48 (.move (tp 0)) 23,
     rq 49 (.move (tp 1)) 3,
     rq 50 (.move (tp 2)) 3,
     rq 51 (.move (tp 4)) 33,
     rq 52 (cf 102 #[(tp 48),(tp 49),(tp 50),(tp 51)] #[23,3,3,33]) 90,
     rq 47 (.move (tp 52)) 90,
     rq 53 (.extract (tp 47) 0) 3,
     rq 54 (.extract (tp 47) 1) 89,
     rq 13 (.assign (tp 53)) 3,
     rq 14 (.assign (tp 54)) 89])
   (.seq (.seq (.reg [] [
     rq 55 (.move (tp 14)) 89,
     rq 56 (.binOp .eql 89 (tp 55) (ki 2) 89) 4])
   (.cond (tp 56) (.seq (.reg [] [
     rq 57 (.move (tp 0)) 23,
     rq 58 (.move (tp 1)) 3,
     rq 59 (.move (tp 2)) 3,
     rq 60 (.move (tp 4)) 33,
     rq 61 (cf 103 #[(tp 57),(tp 58),(tp 59),(tp 60)] #[23,3,3,33]) 0])
    (.seq (.reg [] [
      rq 62 (.move (tp 2)) 3,
      rq 63 (.binOp .sub 3 (tp 62) (ki 1) 3) 3,
      rq 64 (.move (tp 13)) 3,
      rq 65 (.move (tp 1)) 3,
      rq 66 (.binOp .sub 3 (tp 64) (tp 65) 3) 3,
      rq 67 (.binOp .sub 3 (tp 63) (tp 66) 3) 3,
      rq 13 (.assign (tp 67)) 3])
    (.reg [] [
      rq 14 (.assign (ki 1)) 89])))
   (.skip)))
   (.seq (.seq (.reg [] [
     rq 68 (.move (tp 10)) 4,
     rq 69 (.move (tp 68)) 4,
     rg 70 (.move (tp 11)) 4 69 true,
     rq 71 (.pick (tp 69) (tp 70) (kb false)) 4,
     rq 72 (.move (tp 71)) 4,
     rg 73 (.move (tp 14)) 89 72 true,
     rg 74 (.binOp .eql 89 (tp 73) (ki 1) 89) 4 72 true,
     rq 75 (.pick (tp 72) (tp 74) (kb false)) 4])
   (.cond (tp 75) (.seq (.reg [] [
     rq 76 (.move (tp 0)) 23,
     rq 77 (.move (tp 1)) 3,
     rq 78 (.move (tp 2)) 3,
     rq 79 (.move (tp 4)) 33,
     rq 80 (cf 104 #[(tp 76),(tp 77),(tp 78),(tp 79)] #[23,3,3,33]) 4])
    (.cond (tp 80) (.ret)
    (.skip)))
   (.skip)))
   (.seq (.seq (.reg [0, 1, 2, 3, 4, 5, 6, 7, 8, 9, 10, 11, 12, 13, 14, 15, 16] [
     rq 81 (.move (tp 1)) 3,
     rq 82 (.binOp .gtr 3 (tp 81) (ki 0) 3) 4,
     rq 83 (.move (tp 82)) 4,
     rg 84 (.move (tp 4)) 33 83 true,
     rg 85 (.move (tp 0)) 23 83 true,
     rg 86 (.move (tp 1)) 3 83 true,
     rg 87 (.binOp .sub 3 (tp 86) (ki 1) 3) 3 83 true,
     rg 88 (.indexAddr 23 (tp 85) (tp 87)) 0 83 true,
     rg 89 (.load 25 (tp 88)) 25 83 true,
     rg 90 (.move (tp 0)) 23 83 true,
     rg 91 (.move (tp 13)) 3 83 true,
     rg 92 (.indexAddr 23 (tp 90) (tp 91)) 0 83 true,
     rg 93 (.load 25 (tp 92)) 25 83 true,
     rg 94 (.call ⟨.value (tp 84),#[(tp 89),(tp 93)],#[25,25]⟩) 3 83 true,
     rg 95 (.binOp .lss 3 (tp 94) (ki 0) 3) 4 83 true,
     rg 96 (.unOp .not 4 (tp 95)) 4 83 true,
     rq 97 (.pick (tp 83) (tp 96) (kb false)) 4])
   (.cond (tp 97) (.seq (.reg [] [
     rq 98 (.move (tp 0)) 23,
     rq 99 (.move (tp 1)) 3,
     rq 100 (.move (tp 2)) 3,
     rq 101 (.move (tp 13)) 3,
     rq 102 (.move (tp 4)) 33,
     rq 103 (cf 105 #[(tp 98),(tp 99),(tp 100),(tp 101),(tp 102)] #[23,3,3,3,33]) 3,
     rq 15 (.assign (tp 103)) 3])
    (.seq (.reg [] [
      rq 104 (.move (tp 15)) 3,
      rq 1 (.assign (tp 104)) 3])
    (.exit 1)))
   (.skip)))
   (.seq (.reg [] [
     rq 106 (.move (tp 0)) 23,
     rq 107 (.move (tp 1)) 3,
     rq 108 (.move (tp 2)) 3,
     rq 109 (.move (tp 13)) 3,
     rq 110 (.move (tp 4)) 33,
     rq 111 (cf 106 #[(tp 106),(tp 107),(tp 108),(tp 109),(tp 110)] #[23,3,3,3,33]) 94,
     rq 105 (.move (tp 111)) 94,
     rq 112 (.extract (tp 105) 0) 3,
     rq 113 (.extract (tp 105) 1) 4,
     rq 16 (.assign (tp 112)) 3,
     rq 17 (.assign (tp 113)) 4])
   (.seq (.reg [] [
     rq 114 (.move (tp 17)) 4,
     rq 11 (.assign (tp 114)) 4])
   (.seq (.reg [] [
     rq 115 (.move (tp 16)) 3,
     rq 116 (.move (tp 1)) 3,
     rq 117 (.binOp .sub 3 (tp 115) (tp 116) 3) 3,
     rq 118 (.move (tp 2)) 3,
     rq 119 (.move (tp 16)) 3,
     rq 120 (.binOp .sub 3 (tp 118) (tp 119) 3) 3,
     rq 18 (.assign (tp 117)) 3,
     rq 19 (.assign (tp 120)) 3])
   (.seq (.reg [] [
     rq 121 (.move (tp 12)) 3,
     rq 122 (.binOp .quo 3 (tp 121) (ki 8) 3) 3,
     rq 20 (.assign (tp 122)) 3])
   (.seq (.reg [] [
     rq 123 (.move (tp 18)) 3,
     rq 124 (.move (tp 19)) 3,
     rq 125 (.binOp .lss 3 (tp 123) (tp 124) 3) 4])
   (.cond (tp 125) (.seq (.reg [] [
     rq 126 (.move (tp 18)) 3,
     rq 127 (.move (tp 20)) 3,
     rq 128 (.binOp .geq 3 (tp 126) (tp 127) 3) 4,
     rq 10 (.assign (tp 128)) 4])
    (.seq (.reg [] [
      rq 129 (.move (tp 0)) 23,
      rq 130 (.move (tp 1)) 3,
      rq 131 (.move (tp 16)) 3,
      rq 132 (.move (tp 3)) 3,
      rq 133 (.move (tp 4)) 33,
      rq 134 (cf 89 #[(tp 129),(tp 130),(tp 131),(tp 132),(tp 133)] #[23,3,3,3,33]) 0])
    (.reg [] [
      rq 135 (.move (tp 16)) 3,
      rq 136 (.binOp .add 3 (tp 135) (ki 1) 3) 3,
      rq 1 (.assign (tp 136)) 3])))
   (.seq (.reg [] [
     rq 137 (.move (tp 19)) 3,
     rq 138 (.move (tp 20)) 3,
     rq 139 (.binOp .geq 3 (tp 137) (tp 138) 3) 4,
     rq 10 (.assign (tp 139)) 4])
    (.seq (.reg [] [
      rq 140 (.move (tp 0)) 23,
      rq 141 (.move (tp 16)) 3,
      rq 142 (.binOp .add 3 (tp 141) (ki 1) 3) 3,
      rq 143 (.move (tp 2)) 3,
      rq 144 (.move (tp 3)) 3,
      rq 145 (.move (tp 4)) 33,
      rq 146 (cf 89 #[(tp 140),(tp 142),(tp 143),(tp 144),(tp 145)] #[23,3,3,3,33]) 0])
    (.reg [] [
      rq 147 (.move (tp 16)) 3,
      rq 2 (.assign (tp 147)) 3])))))))))))))))))))))
def c90:RC:=
 .seq (.reg [] [
  rq 4 (.assign (.const (.int .u64 0))) 83,rq 5 (.assign (.const (.int .u64 0))) 83])
 (.seq (.cond (kb false) (.seq (.reg [] [
   rq 11 (.move (tp 0)) 83,
   rq 12 (.convert 83 97 (tp 11)) 97,
   rq 13 (.move (tp 1)) 83,
   rq 14 (.convert 83 97 (tp 13)) 97,
   rq 15 (cf 107 #[(tp 12),(tp 14)] #[97,97]) 121,
   rq 10 (.move (tp 15)) 121,
   rq 16 (.extract (tp 10) 0) 97,
   rq 17 (.extract (tp 10) 1) 97,
   rq 6 (.assign (tp 16)) 97,
   rq 7 (.assign (tp 17)) 97])
  (.seq (.reg [] [
    rq 18 (.move (tp 6)) 97,
    rq 19 (.convert 97 83 (tp 18)) 83,
    rq 20 (.move (tp 7)) 97,
    rq 21 (.convert 97 83 (tp 20)) 83,
    rq 4 (.assign (tp 19)) 83,
    rq 5 (.assign (tp 21)) 83])
  (.ret)))
 (.skip))
 (.seq (.reg [] [
   rq 23 (.move (tp 0)) 83,rq 24 (.move (tp 1)) 83,rq 25 (cf 108 #[(tp 23),(tp 24)] #[99,99]) 123,rq 22 (.move (tp 25)) 123,rq 26 (.extract (tp 22) 0) 99,rq 27 (.extract (tp 22) 1) 99,rq 8 (.assign (tp 26)) 99,rq 9 (.assign (tp 27)) 99])
 (.seq (.reg [] [
   rq 28 (.move (tp 8)) 99,rq 29 (.move (tp 9)) 99,rq 4 (.assign (tp 28)) 83,rq 5 (.assign (tp 29)) 83])
 (.ret))))
def c91:RC:=
 .seq (.reg [] [
  rq 12 (.move (tp 1)) 3,rq 10 (.assign (tp 12)) 3])
 (.block 0 (.loop (.block 1 (.seq (.reg [] [
   rq 13 (.move (tp 10)) 3,
   rq 14 (.binOp .mul 3 (ki 2) (tp 13) 3) 3,
   rq 15 (.binOp .add 3 (tp 14) (ki 1) 3) 3,
   rq 11 (.assign (tp 15)) 3])
   (.seq (.seq (.reg [] [
     rq 16 (.move (tp 11)) 3,
     rq 17 (.move (tp 2)) 3,
     rq 18 (.binOp .geq 3 (tp 16) (tp 17) 3) 4])
   (.cond (tp 18) (.exit 0)
   (.skip)))
   (.seq (.seq (.reg [0, 1, 2, 3, 4, 5, 6, 7, 8, 9, 10, 11, 12, 13, 14, 15, 16, 17, 18, 19, 20, 21] [
     rq 19 (.move (tp 11)) 3,
     rq 20 (.binOp .add 3 (tp 19) (ki 1) 3) 3,
     rq 21 (.move (tp 2)) 3,
     rq 22 (.binOp .lss 3 (tp 20) (tp 21) 3) 4,
     rq 23 (.move (tp 22)) 4,
     rg 24 (.move (tp 4)) 63 23 true,
     rg 25 (.move (tp 0)) 30 23 true,
     rg 26 (.move (tp 3)) 3 23 true,
     rg 27 (.move (tp 11)) 3 23 true,
     rg 28 (.binOp .add 3 (tp 26) (tp 27) 3) 3 23 true,
     rg 29 (.indexAddr 30 (tp 25) (tp 28)) 0 23 true,
     rg 30 (.load 23 (tp 29)) 23 23 true,
     rg 31 (.move (tp 0)) 30 23 true,
     rg 32 (.move (tp 3)) 3 23 true,
     rg 33 (.move (tp 11)) 3 23 true,
     rg 34 (.binOp .add 3 (tp 32) (tp 33) 3) 3 23 true,
     rg 35 (.binOp .add 3 (tp 34) (ki 1) 3) 3 23 true,
     rg 36 (.indexAddr 30 (tp 31) (tp 35)) 0 23 true,
     rg 37 (.load 23 (tp 36)) 23 23 true,
     rg 38 (.call ⟨.value (tp 24),#[(tp 30),(tp 37)],#[23,23]⟩) 3 23 true,
     rg 39 (.binOp .lss 3 (tp 38) (ki 0) 3) 4 23 true,
     rq 40 (.pick (tp 23) (tp 39) (kb false)) 4])
   (.cond (tp 40) (.reg [] [
     rq 41 (.move (tp 11)) 3,
     rq 42 (.binOp .add 3 (tp 41) (ki 1) 3) 3,
     rq 11 (.assign (tp 42)) 3])
   (.skip)))
   (.seq (.seq (.reg [0, 1, 2, 3, 4, 5, 6, 7, 8, 9, 10, 11, 12, 13, 14, 15] [
     rq 43 (.move (tp 4)) 63,
     rq 44 (.move (tp 0)) 30,
     rq 45 (.move (tp 3)) 3,
     rq 46 (.move (tp 10)) 3,
     rq 47 (.binOp .add 3 (tp 45) (tp 46) 3) 3,
     rq 48 (.indexAddr 30 (tp 44) (tp 47)) 0,
     rq 49 (.load 23 (tp 48)) 23,
     rq 50 (.move (tp 0)) 30,
     rq 51 (.move (tp 3)) 3,
     rq 52 (.move (tp 11)) 3,
     rq 53 (.binOp .add 3 (tp 51) (tp 52) 3) 3,
     rq 54 (.indexAddr 30 (tp 50) (tp 53)) 0,
     rq 55 (.load 23 (tp 54)) 23,
     rq 56 (.call ⟨.value (tp 43),#[(tp 49),(tp 55)],#[23,23]⟩) 3,
     rq 57 (.binOp .lss 3 (tp 56) (ki 0) 3) 4,
     rq 58 (.unOp .not 4 (tp 57)) 4])
   (.cond (tp 58) (.ret)
   (.skip)))
   (.seq (.reg [0, 1, 2, 3, 4, 5, 6, 7, 8, 9, 10, 11, 12, 13, 14, 15, 16, 17, 18, 19, 20, 21, 22, 23] [
     rq 59 (.move (tp 0)) 30,
     rq 60 (.move (tp 3)) 3,
     rq 61 (.move (tp 10)) 3,
     rq 62 (.binOp .add 3 (tp 60) (tp 61) 3) 3,
     rq 63 (.move (tp 0)) 30,
     rq 64 (.move (tp 3)) 3,
     rq 65 (.move (tp 11)) 3,
     rq 66 (.binOp .add 3 (tp 64) (tp 65) 3) 3,
     rq 67 (.move (tp 0)) 30,
     rq 68 (.move (tp 3)) 3,
     rq 69 (.move (tp 11)) 3,
     rq 70 (.binOp .add 3 (tp 68) (tp 69) 3) 3,
     rq 71 (.indexAddr 30 (tp 67) (tp 70)) 0,
     rq 72 (.load 23 (tp 71)) 23,
     rq 73 (.move (tp 0)) 30,
     rq 74 (.move (tp 3)) 3,
     rq 75 (.move (tp 10)) 3,
     rq 76 (.binOp .add 3 (tp 74) (tp 75) 3) 3,
     rq 77 (.indexAddr 30 (tp 73) (tp 76)) 0,
     rq 78 (.load 23 (tp 77)) 23,
     rq 79 (.indexAddr 30 (tp 59) (tp 62)) 0,
     rn (.store 23 (tp 79) (tp 72)) 0,
     rq 80 (.indexAddr 30 (tp 63) (tp 66)) 0,
     rn (.store 23 (tp 80) (tp 78)) 0])
   (.reg [] [
     rq 81 (.move (tp 11)) 3,
     rq 10 (.assign (tp 81)) 3])))))))))
def c92:RC:=
 .seq (.reg [] [
  rq 2 (.assign (.const (.int .u64 0))) 83])
 (.seq (.reg [] [
   rq 3 (.move (tp 0)) 3,rq 4 (.convert 3 83 (tp 3)) 83,rq 5 (cf 62 #[(tp 4)] #[83]) 3,rq 6 (.binOp .shl 83 (.const (.int .u64 1)) (tp 5) 3) 83,rq 2 (.assign (tp 6)) 83])
 (.ret))
def c93:RC:=
 .seq (.reg [] [
  rq 2 (.assign (.const (.int .u64 0))) 99])
 (.seq (.reg [0, 1, 2, 3, 4, 5, 6, 7, 8, 9] [
   rq 3 (.move (tp 0)) 125,rq 4 (.nilCheck (tp 3)) 0,rq 5 (.load 108 (tp 4)) 108,rq 6 (.move (tp 0)) 125,rq 7 (.nilCheck (tp 6)) 0,rq 8 (.load 108 (tp 7)) 108,rq 9 (.binOp .shl 108 (tp 8) (.const (.int .u64 13)) 83) 108,rq 10 (.binOp .xor 108 (tp 5) (tp 9) 108) 108,rq 11 (.nilCheck (tp 3)) 0,rn (.store 108 (tp 11) (tp 10)) 0])
 (.seq (.reg [0, 1, 2, 3, 4, 5, 6, 7, 8, 9] [
   rq 12 (.move (tp 0)) 125,rq 13 (.nilCheck (tp 12)) 0,rq 14 (.load 108 (tp 13)) 108,rq 15 (.move (tp 0)) 125,rq 16 (.nilCheck (tp 15)) 0,rq 17 (.load 108 (tp 16)) 108,rq 18 (.binOp .shr 108 (tp 17) (.const (.int .u64 7)) 83) 108,rq 19 (.binOp .xor 108 (tp 14) (tp 18) 108) 108,rq 20 (.nilCheck (tp 12)) 0,rn (.store 108 (tp 20) (tp 19)) 0])
 (.seq (.reg [0, 1, 2, 3, 4, 5, 6, 7, 8, 9] [
   rq 21 (.move (tp 0)) 125,rq 22 (.nilCheck (tp 21)) 0,rq 23 (.load 108 (tp 22)) 108,rq 24 (.move (tp 0)) 125,rq 25 (.nilCheck (tp 24)) 0,rq 26 (.load 108 (tp 25)) 108,rq 27 (.binOp .shl 108 (tp 26) (.const (.int .u64 17)) 83) 108,rq 28 (.binOp .xor 108 (tp 23) (tp 27) 108) 108,rq 29 (.nilCheck (tp 21)) 0,rn (.store 108 (tp 29) (tp 28)) 0])
 (.seq (.reg [] [
   rq 30 (.move (tp 0)) 125,rq 31 (.nilCheck (tp 30)) 0,rq 32 (.load 108 (tp 31)) 108,rq 2 (.assign (tp 32)) 99])
 (.ret)))))
def c94:RC:=
 .seq (.reg [] [
  rq 8 (.assign (ki 0)) 3])
 (.seq (.reg [] [
   rq 9 (.move (tp 0)) 30,rq 10 (.move (tp 1)) 3,rq 11 (.binOp .sub 3 (tp 10) (ki 1) 3) 3,rq 12 (.move (tp 1)) 3,rq 13 (.move (tp 1)) 3,rq 14 (.binOp .add 3 (tp 13) (ki 1) 3) 3,rq 15 (.move (tp 2)) 112,rq 16 (.move (tp 3)) 63,rq 17 (cf 95 #[(tp 9),(tp 11),(tp 12),(tp 14),(tp 15),(tp 16)] #[30,3,3,3,112,63]) 3,rq 8 (.assign (tp 17)) 3])
 (.ret))
def c95:RC:=
 .seq (.reg [] [
  rq 12 (.assign (ki 0)) 3])
 (.seq (.reg [] [
   rq 14 (.move (tp 0)) 30,rq 15 (.move (tp 1)) 3,rq 16 (.move (tp 2)) 3,rq 17 (.move (tp 4)) 112,rq 18 (.move (tp 5)) 63,rq 19 (cf 109 #[(tp 14),(tp 15),(tp 16),(tp 17),(tp 18)] #[30,3,3,112,63]) 57,rq 13 (.move (tp 19)) 57,rq 20 (.extract (tp 13) 0) 3,rq 21 (.extract (tp 13) 1) 3,rq 1 (.assign (tp 20)) 3,rq 2 (.assign (tp 21)) 3])
 (.seq (.reg [] [
   rq 23 (.move (tp 0)) 30,rq 24 (.move (tp 2)) 3,rq 25 (.move (tp 3)) 3,rq 26 (.move (tp 4)) 112,rq 27 (.move (tp 5)) 63,rq 28 (cf 109 #[(tp 23),(tp 24),(tp 25),(tp 26),(tp 27)] #[30,3,3,112,63]) 57,rq 22 (.move (tp 28)) 57,rq 29 (.extract (tp 22) 0) 3,rq 30 (.extract (tp 22) 1) 3,rq 2 (.assign (tp 29)) 3,rq 3 (.assign (tp 30)) 3])
 (.seq (.reg [] [
   rq 32 (.move (tp 0)) 30,rq 33 (.move (tp 1)) 3,rq 34 (.move (tp 2)) 3,rq 35 (.move (tp 4)) 112,rq 36 (.move (tp 5)) 63,rq 37 (cf 109 #[(tp 32),(tp 33),(tp 34),(tp 35),(tp 36)] #[30,3,3,112,63]) 57,rq 31 (.move (tp 37)) 57,rq 38 (.extract (tp 31) 0) 3,rq 39 (.extract (tp 31) 1) 3,rq 1 (.assign (tp 38)) 3,rq 2 (.assign (tp 39)) 3])
 (.seq (.reg [] [
   rq 40 (.move (tp 2)) 3,rq 12 (.assign (tp 40)) 3])
 (.ret)))))
def c96:RC:=
 .seq (.reg [] [
  rq 10 (.move (tp 1)) 3,rq 8 (.assign (tp 10)) 3])
 (.block 0 (.loop (.block 1 (.seq (.reg [] [
   rq 11 (.move (tp 8)) 3,
   rq 12 (.binOp .mul 3 (ki 2) (tp 11) 3) 3,
   rq 13 (.binOp .add 3 (tp 12) (ki 1) 3) 3,
   rq 9 (.assign (tp 13)) 3])
   (.seq (.seq (.reg [] [
     rq 14 (.move (tp 9)) 3,
     rq 15 (.move (tp 2)) 3,
     rq 16 (.binOp .geq 3 (tp 14) (tp 15) 3) 4])
   (.cond (tp 16) (.exit 0)
   (.skip)))
   (.seq (.seq (.reg [0, 1, 2, 3, 4, 5, 6, 7, 8, 9, 10, 11, 12, 13, 14, 15, 16, 17, 18, 19] [
     rq 17 (.move (tp 9)) 3,
     rq 18 (.binOp .add 3 (tp 17) (ki 1) 3) 3,
     rq 19 (.move (tp 2)) 3,
     rq 20 (.binOp .lss 3 (tp 18) (tp 19) 3) 4,
     rq 21 (.move (tp 20)) 4,
     rg 22 (.move (tp 0)) 25 21 true,
     rg 23 (.move (tp 3)) 3 21 true,
     rg 24 (.move (tp 9)) 3 21 true,
     rg 25 (.binOp .add 3 (tp 23) (tp 24) 3) 3 21 true,
     rg 26 (.indexAddr 25 (tp 22) (tp 25)) 0 21 true,
     rg 27 (.load 3 (tp 26)) 3 21 true,
     rg 28 (.move (tp 0)) 25 21 true,
     rg 29 (.move (tp 3)) 3 21 true,
     rg 30 (.move (tp 9)) 3 21 true,
     rg 31 (.binOp .add 3 (tp 29) (tp 30) 3) 3 21 true,
     rg 32 (.binOp .add 3 (tp 31) (ki 1) 3) 3 21 true,
     rg 33 (.indexAddr 25 (tp 28) (tp 32)) 0 21 true,
     rg 34 (.load 3 (tp 33)) 3 21 true,
     rg 35 (cf 86 #[(tp 27),(tp 34)] #[3,3]) 4 21 true,
     rq 36 (.pick (tp 21) (tp 35) (kb false)) 4])
   (.cond (tp 36) (.reg [] [
     rq 37 (.move (tp 9)) 3,
     rq 38 (.binOp .add 3 (tp 37) (ki 1) 3) 3,
     rq 9 (.assign (tp 38)) 3])
   (.skip)))
   (.seq (.seq (.reg [0, 1, 2, 3, 4, 5, 6, 7, 8, 9, 10, 11, 12, 13] [
     rq 39 (.move (tp 0)) 25,
     rq 40 (.move (tp 3)) 3,
     rq 41 (.move (tp 8)) 3,
     rq 42 (.binOp .add 3 (tp 40) (tp 41) 3) 3,
     rq 43 (.indexAddr 25 (tp 39) (tp 42)) 0,
     rq 44 (.load 3 (tp 43)) 3,
     rq 45 (.move (tp 0)) 25,
     rq 46 (.move (tp 3)) 3,
     rq 47 (.move (tp 9)) 3,
     rq 48 (.binOp .add 3 (tp 46) (tp 47) 3) 3,
     rq 49 (.indexAddr 25 (tp 45) (tp 48)) 0,
     rq 50 (.load 3 (tp 49)) 3,
     rq 51 (cf 86 #[(tp 44),(tp 50)] #[3,3]) 4,
     rq 52 (.unOp .not 4 (tp 51)) 4])
   (.cond (tp 52) (.ret)
   (.skip)))
   (.seq (.reg [0, 1, 2, 3, 4, 5, 6, 7, 8, 9, 10, 11, 12, 13, 14, 15, 16, 17, 18, 19, 20, 21, 22, 23] [
     rq 53 (.move (tp 0)) 25,
     rq 54 (.move (tp 3)) 3,
     rq 55 (.move (tp 8)) 3,
     rq 56 (.binOp .add 3 (tp 54) (tp 55) 3) 3,
     rq 57 (.move (tp 0)) 25,
     rq 58 (.move (tp 3)) 3,
     rq 59 (.move (tp 9)) 3,
     rq 60 (.binOp .add 3 (tp 58) (tp 59) 3) 3,
     rq 61 (.move (tp 0)) 25,
     rq 62 (.move (tp 3)) 3,
     rq 63 (.move (tp 9)) 3,
     rq 64 (.binOp .add 3 (tp 62) (tp 63) 3) 3,
     rq 65 (.indexAddr 25 (tp 61) (tp 64)) 0,
     rq 66 (.load 3 (tp 65)) 3,
     rq 67 (.move (tp 0)) 25,
     rq 68 (.move (tp 3)) 3,
     rq 69 (.move (tp 8)) 3,
     rq 70 (.binOp .add 3 (tp 68) (tp 69) 3) 3,
     rq 71 (.indexAddr 25 (tp 67) (tp 70)) 0,
     rq 72 (.load 3 (tp 71)) 3,
     rq 73 (.indexAddr 25 (tp 53) (tp 56)) 0,
     rn (.store 3 (tp 73) (tp 66)) 0,
     rq 74 (.indexAddr 25 (tp 57) (tp 60)) 0,
     rn (.store 3 (tp 74) (tp 72)) 0])
   (.reg [] [
     rq 75 (.move (tp 9)) 3,
     rq 8 (.assign (tp 75)) 3])))))))))
def c97:RC:=
 .seq (.reg [] [
  rq 6 (.assign (ki 0)) 3])
 (.seq (.reg [] [
   rq 7 (.move (tp 0)) 25,rq 8 (.move (tp 1)) 3,rq 9 (.binOp .sub 3 (tp 8) (ki 1) 3) 3,rq 10 (.move (tp 1)) 3,rq 11 (.move (tp 1)) 3,rq 12 (.binOp .add 3 (tp 11) (ki 1) 3) 3,rq 13 (.move (tp 2)) 112,rq 14 (cf 98 #[(tp 7),(tp 9),(tp 10),(tp 12),(tp 13)] #[25,3,3,3,112]) 3,rq 6 (.assign (tp 14)) 3])
 (.ret))
def c98:RC:=
 .seq (.reg [] [
  rq 10 (.assign (ki 0)) 3])
 (.seq (.reg [] [
   rq 12 (.move (tp 0)) 25,rq 13 (.move (tp 1)) 3,rq 14 (.move (tp 2)) 3,rq 15 (.move (tp 4)) 112,rq 16 (cf 110 #[(tp 12),(tp 13),(tp 14),(tp 15)] #[25,3,3,112]) 57,rq 11 (.move (tp 16)) 57,rq 17 (.extract (tp 11) 0) 3,rq 18 (.extract (tp 11) 1) 3,rq 1 (.assign (tp 17)) 3,rq 2 (.assign (tp 18)) 3])
 (.seq (.reg [] [
   rq 20 (.move (tp 0)) 25,rq 21 (.move (tp 2)) 3,rq 22 (.move (tp 3)) 3,rq 23 (.move (tp 4)) 112,rq 24 (cf 110 #[(tp 20),(tp 21),(tp 22),(tp 23)] #[25,3,3,112]) 57,rq 19 (.move (tp 24)) 57,rq 25 (.extract (tp 19) 0) 3,rq 26 (.extract (tp 19) 1) 3,rq 2 (.assign (tp 25)) 3,rq 3 (.assign (tp 26)) 3])
 (.seq (.reg [] [
   rq 28 (.move (tp 0)) 25,rq 29 (.move (tp 1)) 3,rq 30 (.move (tp 2)) 3,rq 31 (.move (tp 4)) 112,rq 32 (cf 110 #[(tp 28),(tp 29),(tp 30),(tp 31)] #[25,3,3,112]) 57,rq 27 (.move (tp 32)) 57,rq 33 (.extract (tp 27) 0) 3,rq 34 (.extract (tp 27) 1) 3,rq 1 (.assign (tp 33)) 3,rq 2 (.assign (tp 34)) 3])
 (.seq (.reg [] [
   rq 35 (.move (tp 2)) 3,rq 10 (.assign (tp 35)) 3])
 (.ret)))))
def c99:RC:=
 .seq (.reg [] [
  rq 10 (.move (tp 1)) 3,rq 11 (.binOp .add 3 (tp 10) (ki 1) 3) 3,rq 8 (.assign (tp 11)) 3])
 (.block 0 (.loop (.seq (.seq (.reg [] [
   rq 12 (.move (tp 8)) 3,
   rq 13 (.move (tp 2)) 3,
   rq 14 (.binOp .lss 3 (tp 12) (tp 13) 3) 4])
   (.cond (tp 14) (.skip)
   (.exit 0)))
   (.seq (.block 1 (.seq (.reg [] [
     rq 17 (.move (tp 8)) 3,
     rq 9 (.assign (tp 17)) 3])
    (.block 2 (.loop (.seq (.seq (.reg [0, 1, 2, 3, 4, 5, 6, 7, 8, 9, 10, 11, 12, 13, 14, 15, 16] [
      rq 18 (.move (tp 9)) 3,
      rq 19 (.move (tp 1)) 3,
      rq 20 (.binOp .gtr 3 (tp 18) (tp 19) 3) 4,
      rq 21 (.move (tp 20)) 4,
      rg 22 (.move (tp 3)) 33 21 true,
      rg 23 (.move (tp 0)) 23 21 true,
      rg 24 (.move (tp 9)) 3 21 true,
      rg 25 (.indexAddr 23 (tp 23) (tp 24)) 0 21 true,
      rg 26 (.load 25 (tp 25)) 25 21 true,
      rg 27 (.move (tp 0)) 23 21 true,
      rg 28 (.move (tp 9)) 3 21 true,
      rg 29 (.binOp .sub 3 (tp 28) (ki 1) 3) 3 21 true,
      rg 30 (.indexAddr 23 (tp 27) (tp 29)) 0 21 true,
      rg 31 (.load 25 (tp 30)) 25 21 true,
      rg 32 (.call ⟨.value (tp 22),#[(tp 26),(tp 31)],#[25,25]⟩) 3 21 true,
      rg 33 (.binOp .lss 3 (tp 32) (ki 0) 3) 4 21 true,
      rq 34 (.pick (tp 21) (tp 33) (kb false)) 4])
      (.cond (tp 34) (.skip)
      (.exit 2)))
      (.seq (.block 3 (.reg [0, 1, 2, 3, 4, 5, 6, 7, 8, 9, 10, 11, 12, 13, 14, 15, 16, 17] [
        rq 37 (.move (tp 0)) 23,
        rq 38 (.move (tp 9)) 3,
        rq 39 (.move (tp 0)) 23,
        rq 40 (.move (tp 9)) 3,
        rq 41 (.binOp .sub 3 (tp 40) (ki 1) 3) 3,
        rq 42 (.move (tp 0)) 23,
        rq 43 (.move (tp 9)) 3,
        rq 44 (.binOp .sub 3 (tp 43) (ki 1) 3) 3,
        rq 45 (.indexAddr 23 (tp 42) (tp 44)) 0,
        rq 46 (.load 25 (tp 45)) 25,
        rq 47 (.move (tp 0)) 23,
        rq 48 (.move (tp 9)) 3,
        rq 49 (.indexAddr 23 (tp 47) (tp 48)) 0,
        rq 50 (.load 25 (tp 49)) 25,
        rq 51 (.indexAddr 23 (tp 37) (tp 38)) 0,
        rn (.store 25 (tp 51) (tp 46)) 0,
        rq 52 (.indexAddr 23 (tp 39) (tp 41)) 0,
        rn (.store 25 (tp 52) (tp 50)) 0]))
      (.reg [] [
        rq 35 (.move (tp 9)) 3,
        rq 36 (.binOp .sub 3 (tp 35) (ki 1) 3) 3,
        rq 9 (.assign (tp 36)) 3])))))))
   (.reg [] [
     rq 15 (.move (tp 8)) 3,
     rq 16 (.binOp .add 3 (tp 15) (ki 1) 3) 3,
     rq 8 (.assign (tp 16)) 3])))))
def c100:RC:=
 .seq (.reg [] [
  rq 13 (.move (tp 1)) 3,rq 8 (.assign (tp 13)) 3])
 (.seq (.reg [] [
   rq 9 (.assign (ki 0)) 3])
 (.seq (.reg [] [
   rq 14 (.move (tp 2)) 3,rq 15 (.move (tp 1)) 3,rq 16 (.binOp .sub 3 (tp 14) (tp 15) 3) 3,rq 10 (.assign (tp 16)) 3])
 (.seq (.seq (.reg [] [
   rq 17 (.move (tp 10)) 3,rq 18 (.binOp .sub 3 (tp 17) (ki 1) 3) 3,rq 19 (.binOp .quo 3 (tp 18) (ki 2) 3) 3,rq 11 (.assign (tp 19)) 3])
 (.block 0 (.loop (.seq (.seq (.reg [] [
   rq 20 (.move (tp 11)) 3,
   rq 21 (.binOp .geq 3 (tp 20) (ki 0) 3) 4])
   (.cond (tp 21) (.skip)
   (.exit 0)))
   (.seq (.block 1 (.reg [] [
     rq 24 (.move (tp 0)) 23,
     rq 25 (.move (tp 11)) 3,
     rq 26 (.move (tp 10)) 3,
     rq 27 (.move (tp 8)) 3,
     rq 28 (.move (tp 3)) 33,
     rq 29 (cf 111 #[(tp 24),(tp 25),(tp 26),(tp 27),(tp 28)] #[23,3,3,3,33]) 0]))
   (.reg [] [
     rq 22 (.move (tp 11)) 3,
     rq 23 (.binOp .sub 3 (tp 22) (ki 1) 3) 3,
     rq 11 (.assign (tp 23)) 3]))))))
 (.seq (.reg [] [
   rq 30 (.move (tp 10)) 3,rq 31 (.binOp .sub 3 (tp 30) (ki 1) 3) 3,rq 12 (.assign (tp 31)) 3])
 (.block 2 (.loop (.seq (.seq (.reg [] [
   rq 32 (.move (tp 12)) 3,
   rq 33 (.binOp .geq 3 (tp 32) (ki 0) 3) 4])
   (.cond (tp 33) (.skip)
   (.exit 2)))
   (.seq (.block 3 (.seq (.reg [0, 1, 2, 3, 4, 5, 6, 7, 8, 9, 10, 11, 12, 13, 14, 15, 16, 17, 18, 19] [
     rq 36 (.move (tp 0)) 23,
     rq 37 (.move (tp 8)) 3,
     rq 38 (.move (tp 0)) 23,
     rq 39 (.move (tp 8)) 3,
     rq 40 (.move (tp 12)) 3,
     rq 41 (.binOp .add 3 (tp 39) (tp 40) 3) 3,
     rq 42 (.move (tp 0)) 23,
     rq 43 (.move (tp 8)) 3,
     rq 44 (.move (tp 12)) 3,
     rq 45 (.binOp .add 3 (tp 43) (tp 44) 3) 3,
     rq 46 (.indexAddr 23 (tp 42) (tp 45)) 0,
     rq 47 (.load 25 (tp 46)) 25,
     rq 48 (.move (tp 0)) 23,
     rq 49 (.move (tp 8)) 3,
     rq 50 (.indexAddr 23 (tp 48) (tp 49)) 0,
     rq 51 (.load 25 (tp 50)) 25,
     rq 52 (.indexAddr 23 (tp 36) (tp 37)) 0,
     rn (.store 25 (tp 52) (tp 47)) 0,
     rq 53 (.indexAddr 23 (tp 38) (tp 41)) 0,
     rn (.store 25 (tp 53) (tp 51)) 0])
    (.reg [] [
      rq 54 (.move (tp 0)) 23,
      rq 55 (.move (tp 9)) 3,
      rq 56 (.move (tp 12)) 3,
      rq 57 (.move (tp 8)) 3,
      rq 58 (.move (tp 3)) 33,
      rq 59 (cf 111 #[(tp 54),(tp 55),(tp 56),(tp 57),(tp 58)] #[23,3,3,3,33]) 0])))
   (.reg [] [
     rq 34 (.move (tp 12)) 3,
     rq 35 (.binOp .sub 3 (tp 34) (ki 1) 3) 3,
     rq 12 (.assign (tp 35)) 3])))))))))
def c101:RC:=
 .seq (.reg [] [
  rq 13 (.move (tp 2)) 3,rq 14 (.move (tp 1)) 3,rq 15 (.binOp .sub 3 (tp 13) (tp 14) 3) 3,rq 8 (.assign (tp 15)) 3])
 (.seq (.reg [] [
   rq 16 (.move (tp 8)) 3,rq 17 (.binOp .geq 3 (tp 16) (ki 8) 3) 4])
 (.cond (tp 17) (.seq (.reg [] [
   rq 18 (.move (tp 8)) 3,
   rq 19 (.convert 3 108 (tp 18)) 108,
   rq 9 (.alloc 108) 0,
   rn (.store 108 (tp 9) (tp 19)) 0])
  (.seq (.reg [] [
    rq 20 (.move (tp 8)) 3,
    rq 21 (cf 92 #[(tp 20)] #[3]) 83,
    rq 10 (.assign (tp 21)) 83])
  (.seq (.reg [] [
    rq 22 (.move (tp 1)) 3,
    rq 23 (.move (tp 8)) 3,
    rq 24 (.binOp .quo 3 (tp 23) (ki 4) 3) 3,
    rq 25 (.binOp .mul 3 (tp 24) (ki 2) 3) 3,
    rq 26 (.binOp .add 3 (tp 22) (tp 25) 3) 3,
    rq 27 (.binOp .sub 3 (tp 26) (ki 1) 3) 3,
    rq 11 (.assign (tp 27)) 3])
  (.block 0 (.loop (.seq (.seq (.reg [] [
    rq 28 (.move (tp 11)) 3,
    rq 29 (.move (tp 1)) 3,
    rq 30 (.move (tp 8)) 3,
    rq 31 (.binOp .quo 3 (tp 30) (ki 4) 3) 3,
    rq 32 (.binOp .mul 3 (tp 31) (ki 2) 3) 3,
    rq 33 (.binOp .add 3 (tp 29) (tp 32) 3) 3,
    rq 34 (.binOp .add 3 (tp 33) (ki 1) 3) 3,
    rq 35 (.binOp .leq 3 (tp 28) (tp 34) 3) 4])
    (.cond (tp 35) (.skip)
    (.exit 0)))
    (.seq (.block 1 (.seq (.reg [] [
      rq 38 (cf 93 #[(tp 9)] #[108]) 99,
      rq 39 (.move (tp 10)) 83,
      rq 40 (.binOp .sub 83 (tp 39) (.const (.int .u64 1)) 83) 83,
      rq 41 (.binOp .and 83 (tp 38) (tp 40) 83) 83,
      rq 42 (.convert 83 3 (tp 41)) 3,
      rq 12 (.assign (tp 42)) 3])
     (.seq (.seq (.reg [] [
       rq 43 (.move (tp 12)) 3,
       rq 44 (.move (tp 8)) 3,
       rq 45 (.binOp .geq 3 (tp 43) (tp 44) 3) 4])
     (.cond (tp 45) (.reg [] [
       rq 46 (.move (tp 12)) 3,
       rq 47 (.move (tp 8)) 3,
       rq 48 (.binOp .sub 3 (tp 46) (tp 47) 3) 3,
       rq 12 (.assign (tp 48)) 3])
     (.skip)))
     (.reg [0, 1, 2, 3, 4, 5, 6, 7, 8, 9, 10, 11, 12, 13, 14, 15, 16, 17, 18, 19] [
       rq 49 (.move (tp 0)) 23,
       rq 50 (.move (tp 11)) 3,
       rq 51 (.move (tp 0)) 23,
       rq 52 (.move (tp 1)) 3,
       rq 53 (.move (tp 12)) 3,
       rq 54 (.binOp .add 3 (tp 52) (tp 53) 3) 3,
       rq 55 (.move (tp 0)) 23,
       rq 56 (.move (tp 1)) 3,
       rq 57 (.move (tp 12)) 3,
       rq 58 (.binOp .add 3 (tp 56) (tp 57) 3) 3,
       rq 59 (.indexAddr 23 (tp 55) (tp 58)) 0,
       rq 60 (.load 25 (tp 59)) 25,
       rq 61 (.move (tp 0)) 23,
       rq 62 (.move (tp 11)) 3,
       rq 63 (.indexAddr 23 (tp 61) (tp 62)) 0,
       rq 64 (.load 25 (tp 63)) 25,
       rq 65 (.indexAddr 23 (tp 49) (tp 50)) 0,
       rn (.store 25 (tp 65) (tp 60)) 0,
       rq 66 (.indexAddr 23 (tp 51) (tp 54)) 0,
       rn (.store 25 (tp 66) (tp 64)) 0]))))
    (.reg [] [
      rq 36 (.move (tp 11)) 3,
      rq 37 (.binOp .add 3 (tp 36) (ki 1) 3) 3,
      rq 11 (.assign (tp 37)) 3]))))))))
 (.skip)))
def c102:RC:=
 .seq (.reg [] [
  rq 8 (.assign (ki 0)) 3,rq 9 (.assign (ki 0)) 89])
 (.seq (.reg [] [
   rq 15 (.move (tp 2)) 3,rq 16 (.move (tp 1)) 3,rq 17 (.binOp .sub 3 (tp 15) (tp 16) 3) 3,rq 10 (.assign (tp 17)) 3])
 (.seq (.reg [] [
   rq 11 (.alloc 3) 0])
 (.seq (.reg [] [
   rq 18 (.move (tp 1)) 3,rq 19 (.move (tp 10)) 3,rq 20 (.binOp .quo 3 (tp 19) (ki 4) 3) 3,rq 21 (.binOp .mul 3 (tp 20) (ki 1) 3) 3,rq 22 (.binOp .add 3 (tp 18) (tp 21) 3) 3,rq 12 (.assign (tp 22)) 3])
 (.seq (.reg [] [
   rq 23 (.move (tp 1)) 3,rq 24 (.move (tp 10)) 3,rq 25 (.binOp .quo 3 (tp 24) (ki 4) 3) 3,rq 26 (.binOp .mul 3 (tp 25) (ki 2) 3) 3,rq 27 (.binOp .add 3 (tp 23) (tp 26) 3) 3,rq 13 (.assign (tp 27)) 3])
 (.seq (.reg [] [
   rq 28 (.move (tp 1)) 3,rq 29 (.move (tp 10)) 3,rq 30 (.binOp .quo 3 (tp 29) (ki 4) 3) 3,rq 31 (.binOp .mul 3 (tp 30) (ki 3) 3) 3,rq 32 (.binOp .add 3 (tp 28) (tp 31) 3) 3,rq 14 (.assign (tp 32)) 3])
 (.seq (.seq (.reg [] [
   rq 33 (.move (tp 10)) 3,rq 34 (.binOp .geq 3 (tp 33) (ki 8) 3) 4])
 (.cond (tp 34) (.seq (.seq (.reg [] [
   rq 35 (.move (tp 10)) 3,
   rq 36 (.binOp .geq 3 (tp 35) (ki 50) 3) 4])
  (.cond (tp 36) (.seq (.reg [] [
    rq 37 (.move (tp 0)) 23,
    rq 38 (.move (tp 12)) 3,
    rq 39 (.move (tp 3)) 33,
    rq 40 (cf 112 #[(tp 37),(tp 38),(tp 11),(tp 39)] #[23,3,112,33]) 3,
    rq 12 (.assign (tp 40)) 3])
   (.seq (.reg [] [
     rq 41 (.move (tp 0)) 23,
     rq 42 (.move (tp 13)) 3,
     rq 43 (.move (tp 3)) 33,
     rq 44 (cf 112 #[(tp 41),(tp 42),(tp 11),(tp 43)] #[23,3,112,33]) 3,
     rq 13 (.assign (tp 44)) 3])
   (.reg [] [
     rq 45 (.move (tp 0)) 23,
     rq 46 (.move (tp 14)) 3,
     rq 47 (.move (tp 3)) 33,
     rq 48 (cf 112 #[(tp 45),(tp 46),(tp 11),(tp 47)] #[23,3,112,33]) 3,
     rq 14 (.assign (tp 48)) 3])))
  (.skip)))
  (.reg [] [
    rq 49 (.move (tp 0)) 23,
    rq 50 (.move (tp 12)) 3,
    rq 51 (.move (tp 13)) 3,
    rq 52 (.move (tp 14)) 3,
    rq 53 (.move (tp 3)) 33,
    rq 54 (cf 113 #[(tp 49),(tp 50),(tp 51),(tp 52),(tp 11),(tp 53)] #[23,3,3,3,112,33]) 3,
    rq 13 (.assign (tp 54)) 3]))
 (.skip)))
 (.seq (.reg [] [
   rq 55 (.load 3 (tp 11)) 3])
 (.block 0 (.seq (.reg [] [
   rq 58 (.binOp .eql 3 (tp 55) (ki 0) 3) 4,
   rq 57 (.assign (tp 58)) 4])
  (.cond (tp 57) (.seq (.reg [] [
    rq 59 (.move (tp 13)) 3,
    rq 8 (.assign (tp 59)) 3,
    rq 9 (.assign (ki 1)) 89])
   (.ret))
  (.seq (.reg [] [
    rq 61 (.binOp .eql 3 (tp 55) (ki 12) 3) 4,
    rq 60 (.assign (tp 61)) 4])
   (.cond (tp 60) (.seq (.reg [] [
     rq 62 (.move (tp 13)) 3,
     rq 8 (.assign (tp 62)) 3,
     rq 9 (.assign (ki 2)) 89])
    (.ret))
   (.seq (.reg [] [
     rq 56 (.move (tp 13)) 3,
     rq 8 (.assign (tp 56)) 3,
     rq 9 (.assign (ki 0)) 89])
    (.ret))))))))))))))
def c103:RC:=
 .seq (.reg [] [
  rq 10 (.move (tp 1)) 3,rq 8 (.assign (tp 10)) 3])
 (.seq (.reg [] [
   rq 11 (.move (tp 2)) 3,rq 12 (.binOp .sub 3 (tp 11) (ki 1) 3) 3,rq 9 (.assign (tp 12)) 3])
 (.block 0 (.loop (.seq (.seq (.reg [] [
   rq 13 (.move (tp 8)) 3,
   rq 14 (.move (tp 9)) 3,
   rq 15 (.binOp .lss 3 (tp 13) (tp 14) 3) 4])
   (.cond (tp 15) (.skip)
   (.exit 0)))
   (.block 1 (.seq (.reg [0, 1, 2, 3, 4, 5, 6, 7, 8, 9, 10, 11, 12, 13, 14, 15] [
     rq 16 (.move (tp 0)) 23,
     rq 17 (.move (tp 8)) 3,
     rq 18 (.move (tp 0)) 23,
     rq 19 (.move (tp 9)) 3,
     rq 20 (.move (tp 0)) 23,
     rq 21 (.move (tp 9)) 3,
     rq 22 (.indexAddr 23 (tp 20) (tp 21)) 0,
     rq 23 (.load 25 (tp 22)) 25,
     rq 24 (.move (tp 0)) 23,
     rq 25 (.move (tp 8)) 3,
     rq 26 (.indexAddr 23 (tp 24) (tp 25)) 0,
     rq 27 (.load 25 (tp 26)) 25,
     rq 28 (.indexAddr 23 (tp 16) (tp 17)) 0,
     rn (.store 25 (tp 28) (tp 23)) 0,
     rq 29 (.indexAddr 23 (tp 18) (tp 19)) 0,
     rn (.store 25 (tp 29) (tp 27)) 0])
    (.seq (.reg [] [
      rq 30 (.move (tp 8)) 3,
      rq 31 (.binOp .add 3 (tp 30) (ki 1) 3) 3,
      rq 8 (.assign (tp 31)) 3])
    (.reg [] [
      rq 32 (.move (tp 9)) 3,
      rq 33 (.binOp .sub 3 (tp 32) (ki 1) 3) 3,
      rq 9 (.assign (tp 33)) 3]))))))))
def c104:RC:=
 .seq (.reg [] [
  rq 8 (.assign (kb false)) 4])
 (.seq (.reg [] [
   rq 13 (.move (tp 1)) 3,rq 14 (.binOp .add 3 (tp 13) (ki 1) 3) 3,rq 9 (.assign (tp 14)) 3])
 (.seq (.seq (.reg [] [
   rq 10 (.assign (ki 0)) 3])
 (.block 0 (.loop (.seq (.seq (.reg [] [
   rq 15 (.move (tp 10)) 3,
   rq 16 (.binOp .lss 3 (tp 15) (ki 5) 3) 4])
   (.cond (tp 16) (.skip)
   (.exit 0)))
   (.seq (.block 1 (.seq (.block 2 (.loop (.seq (.seq (.reg [0, 1, 2, 3, 4, 5, 6, 7, 8, 9, 10, 11, 12, 13, 14, 15, 16, 17] [
     rq 19 (.move (tp 9)) 3,
     rq 20 (.move (tp 2)) 3,
     rq 21 (.binOp .lss 3 (tp 19) (tp 20) 3) 4,
     rq 22 (.move (tp 21)) 4,
     rg 23 (.move (tp 3)) 33 22 true,
     rg 24 (.move (tp 0)) 23 22 true,
     rg 25 (.move (tp 9)) 3 22 true,
     rg 26 (.indexAddr 23 (tp 24) (tp 25)) 0 22 true,
     rg 27 (.load 25 (tp 26)) 25 22 true,
     rg 28 (.move (tp 0)) 23 22 true,
     rg 29 (.move (tp 9)) 3 22 true,
     rg 30 (.binOp .sub 3 (tp 29) (ki 1) 3) 3 22 true,
     rg 31 (.indexAddr 23 (tp 28) (tp 30)) 0 22 true,
     rg 32 (.load 25 (tp 31)) 25 22 true,
     rg 33 (.call ⟨.value (tp 23),#[(tp 27),(tp 32)],#[25,25]⟩) 3 22 true,
     rg 34 (.binOp .lss 3 (tp 33) (ki 0) 3) 4 22 true,
     rg 35 (.unOp .not 4 (tp 34)) 4 22 true,
     rq 36 (.pick (tp 22) (tp 35) (kb false)) 4])
     (.cond (tp 36) (.skip)
     (.exit 2)))
     (.block 3 (.reg [] [
       rq 37 (.move (tp 9)) 3,
       rq 38 (.binOp .add 3 (tp 37) (ki 1) 3) 3,
       rq 9 (.assign (tp 38)) 3])))))
    (.seq (.seq (.reg [] [
      rq 39 (.move (tp 9)) 3,
      rq 40 (.move (tp 2)) 3,
      rq 41 (.binOp .eql 3 (tp 39) (tp 40) 3) 4])
    (.cond (tp 41) (.seq (.reg [] [
      rq 8 (.assign (kb true)) 4])
     (.ret))
    (.skip)))
    (.seq (.seq (.reg [] [
      rq 42 (.move (tp 2)) 3,
      rq 43 (.move (tp 1)) 3,
      rq 44 (.binOp .sub 3 (tp 42) (tp 43) 3) 3,
      rq 45 (.binOp .lss 3 (tp 44) (ki 50) 3) 4])
    (.cond (tp 45) (.seq (.reg [] [
      rq 8 (.assign (kb false)) 4])
     (.ret))
    (.skip)))
    (.seq (.reg [0, 1, 2, 3, 4, 5, 6, 7, 8, 9, 10, 11, 12, 13, 14, 15, 16, 17] [
      rq 46 (.move (tp 0)) 23,
      rq 47 (.move (tp 9)) 3,
      rq 48 (.move (tp 0)) 23,
      rq 49 (.move (tp 9)) 3,
      rq 50 (.binOp .sub 3 (tp 49) (ki 1) 3) 3,
      rq 51 (.move (tp 0)) 23,
      rq 52 (.move (tp 9)) 3,
      rq 53 (.binOp .sub 3 (tp 52) (ki 1) 3) 3,
      rq 54 (.indexAddr 23 (tp 51) (tp 53)) 0,
      rq 55 (.load 25 (tp 54)) 25,
      rq 56 (.move (tp 0)) 23,
      rq 57 (.move (tp 9)) 3,
      rq 58 (.indexAddr 23 (tp 56) (tp 57)) 0,
      rq 59 (.load 25 (tp 58)) 25,
      rq 60 (.indexAddr 23 (tp 46) (tp 47)) 0,
      rn (.store 25 (tp 60) (tp 55)) 0,
      rq 61 (.indexAddr 23 (tp 48) (tp 50)) 0,
      rn (.store 25 (tp 61) (tp 59)) 0])
    (.seq (.seq (.reg [] [
      rq 62 (.move (tp 9)) 3,
      rq 63 (.move (tp 1)) 3,
      rq 64 (.binOp .sub 3 (tp 62) (tp 63) 3) 3,
      rq 65 (.binOp .geq 3 (tp 64) (ki 2) 3) 4])
    (.cond (tp 65) (.seq (.reg [] [
      rq 66 (.move (tp 9)) 3,
      rq 67 (.binOp .sub 3 (tp 66) (ki 1) 3) 3,
      rq 11 (.assign (tp 67)) 3])
     (.block 4 (.loop (.seq (.seq (.reg [] [
       rq 68 (.move (tp 11)) 3,
       rq 69 (.binOp .geq 3 (tp 68) (ki 1) 3) 4])
       (.cond (tp 69) (.skip)
       (.exit 4)))
       (.seq (.block 5 (.seq (.seq (.reg [0, 1, 2, 3, 4, 5, 6, 7, 8, 9, 10, 11, 12] [
         rq 72 (.move (tp 3)) 33,
         rq 73 (.move (tp 0)) 23,
         rq 74 (.move (tp 11)) 3,
         rq 75 (.indexAddr 23 (tp 73) (tp 74)) 0,
         rq 76 (.load 25 (tp 75)) 25,
         rq 77 (.move (tp 0)) 23,
         rq 78 (.move (tp 11)) 3,
         rq 79 (.binOp .sub 3 (tp 78) (ki 1) 3) 3,
         rq 80 (.indexAddr 23 (tp 77) (tp 79)) 0,
         rq 81 (.load 25 (tp 80)) 25,
         rq 82 (.call ⟨.value (tp 72),#[(tp 76),(tp 81)],#[25,25]⟩) 3,
         rq 83 (.binOp .lss 3 (tp 82) (ki 0) 3) 4,
         rq 84 (.unOp .not 4 (tp 83)) 4])
        (.cond (tp 84) (.exit 4)
        (.skip)))
        (.reg [0, 1, 2, 3, 4, 5, 6, 7, 8, 9, 10, 11, 12, 13, 14, 15, 16, 17] [
          rq 85 (.move (tp 0)) 23,
          rq 86 (.move (tp 11)) 3,
          rq 87 (.move (tp 0)) 23,
          rq 88 (.move (tp 11)) 3,
          rq 89 (.binOp .sub 3 (tp 88) (ki 1) 3) 3,
          rq 90 (.move (tp 0)) 23,
          rq 91 (.move (tp 11)) 3,
          rq 92 (.binOp .sub 3 (tp 91) (ki 1) 3) 3,
          rq 93 (.indexAddr 23 (tp 90) (tp 92)) 0,
          rq 94 (.load 25 (tp 93)) 25,
          rq 95 (.move (tp 0)) 23,
          rq 96 (.move (tp 11)) 3,
          rq 97 (.indexAddr 23 (tp 95) (tp 96)) 0,
          rq 98 (.load 25 (tp 97)) 25,
          rq 99 (.indexAddr 23 (tp 85) (tp 86)) 0,
          rn (.store 25 (tp 99) (tp 94)) 0,
          rq 100 (.indexAddr 23 (tp 87) (tp 89)) 0,
          rn (.store 25 (tp 100) (tp 98)) 0])))
       (.reg [] [
         rq 70 (.move (tp 11)) 3,
         rq 71 (.binOp .sub 3 (tp 70) (ki 1) 3) 3,
         rq 11 (.assign (tp 71)) 3]))))))
    (.skip)))
    (.seq (.reg [] [
      rq 101 (.move (tp 2)) 3,
      rq 102 (.move (tp 9)) 3,
      rq 103 (.binOp .sub 3 (tp 101) (tp 102) 3) 3,
      rq 104 (.binOp .geq 3 (tp 103) (ki 2) 3) 4])
    (.cond (tp 104) (.seq (.reg [] [
      rq 105 (.move (tp 9)) 3,
      rq 106 (.binOp .add 3 (tp 105) (ki 1) 3) 3,
      rq 12 (.assign (tp 106)) 3])
     (.block 6 (.loop (.seq (.seq (.reg [] [
       rq 107 (.move (tp 12)) 3,
       rq 108 (.move (tp 2)) 3,
       rq 109 (.binOp .lss 3 (tp 107) (tp 108) 3) 4])
       (.cond (tp 109) (.skip)
       (.exit 6)))
       (.seq (.block 7 (.seq (.seq (.reg [0, 1, 2, 3, 4, 5, 6, 7, 8, 9, 10, 11, 12] [
         rq 112 (.move (tp 3)) 33,
         rq 113 (.move (tp 0)) 23,
         rq 114 (.move (tp 12)) 3,
         rq 115 (.indexAddr 23 (tp 113) (tp 114)) 0,
         rq 116 (.load 25 (tp 115)) 25,
         rq 117 (.move (tp 0)) 23,
         rq 118 (.move (tp 12)) 3,
         rq 119 (.binOp .sub 3 (tp 118) (ki 1) 3) 3,
         rq 120 (.indexAddr 23 (tp 117) (tp 119)) 0,
         rq 121 (.load 25 (tp 120)) 25,
         rq 122 (.call ⟨.value (tp 112),#[(tp 116),(tp 121)],#[25,25]⟩) 3,
         rq 123 (.binOp .lss 3 (tp 122) (ki 0) 3) 4,
         rq 124 (.unOp .not 4 (tp 123)) 4])
        (.cond (tp 124) (.exit 6)
        (.skip)))
        (.reg [0, 1, 2, 3, 4, 5, 6, 7, 8, 9, 10, 11, 12, 13, 14, 15, 16, 17] [
          rq 125 (.move (tp 0)) 23,
          rq 126 (.move (tp 12)) 3,
          rq 127 (.move (tp 0)) 23,
          rq 128 (.move (tp 12)) 3,
          rq 129 (.binOp .sub 3 (tp 128) (ki 1) 3) 3,
          rq 130 (.move (tp 0)) 23,
          rq 131 (.move (tp 12)) 3,
          rq 132 (.binOp .sub 3 (tp 131) (ki 1) 3) 3,
          rq 133 (.indexAddr 23 (tp 130) (tp 132)) 0,
          rq 134 (.load 25 (tp 133)) 25,
          rq 135 (.move (tp 0)) 23,
          rq 136 (.move (tp 12)) 3,
          rq 137 (.indexAddr 23 (tp 135) (tp 136)) 0,
          rq 138 (.load 25 (tp 137)) 25,
          rq 139 (.indexAddr 23 (tp 125) (tp 126)) 0,
          rn (.store 25 (tp 139) (tp 134)) 0,
          rq 140 (.indexAddr 23 (tp 127) (tp 129)) 0,
          rn (.store 25 (tp 140) (tp 138)) 0])))
       (.reg [] [
         rq 110 (.move (tp 12)) 3,
         rq 111 (.binOp .add 3 (tp 110) (ki 1) 3) 3,
         rq 12 (.assign (tp 111)) 3]))))))
    (.skip)))))))))
   (.reg [] [
     rq 17 (.move (tp 10)) 3,
     rq 18 (.binOp .add 3 (tp 17) (ki 1) 3) 3,
     rq 10 (.assign (tp 18)) 3]))))))
 (.seq (.reg [] [
   rq 8 (.assign (kb false)) 4])
 (.ret))))
def c105:RC:=
 .seq (.reg [] [
  rq 10 (.assign (ki 0)) 3])
 (.seq (.reg [0, 1, 2, 3, 4, 5, 6, 7, 8, 9, 10, 11, 12, 13, 14, 15] [
   rq 13 (.move (tp 0)) 23,rq 14 (.move (tp 1)) 3,rq 15 (.move (tp 0)) 23,rq 16 (.move (tp 3)) 3,rq 17 (.move (tp 0)) 23,rq 18 (.move (tp 3)) 3,rq 19 (.indexAddr 23 (tp 17) (tp 18)) 0,rq 20 (.load 25 (tp 19)) 25,rq 21 (.move (tp 0)) 23,rq 22 (.move (tp 1)) 3,rq 23 (.indexAddr 23 (tp 21) (tp 22)) 0,rq 24 (.load 25 (tp 23)) 25,rq 25 (.indexAddr 23 (tp 13) (tp 14)) 0,rn (.store 25 (tp 25) (tp 20)) 0,rq 26 (.indexAddr 23 (tp 15) (tp 16)) 0,rn (.store 25 (tp 26) (tp 24)) 0])
 (.seq (.reg [] [
   rq 27 (.move (tp 1)) 3,rq 28 (.binOp .add 3 (tp 27) (ki 1) 3) 3,rq 29 (.move (tp 2)) 3,rq 30 (.binOp .sub 3 (tp 29) (ki 1) 3) 3,rq 11 (.assign (tp 28)) 3,rq 12 (.assign (tp 30)) 3])
 (.seq (.block 0 (.loop (.block 1 (.seq (.block 2 (.loop (.seq (.seq (.reg [0, 1, 2, 3, 4, 5, 6, 7, 8, 9, 10, 11, 12, 13, 14, 15, 16] [
        rq 31 (.move (tp 11)) 3,
        rq 32 (.move (tp 12)) 3,
        rq 33 (.binOp .leq 3 (tp 31) (tp 32) 3) 4,
        rq 34 (.move (tp 33)) 4,
        rg 35 (.move (tp 4)) 33 34 true,
        rg 36 (.move (tp 0)) 23 34 true,
        rg 37 (.move (tp 1)) 3 34 true,
        rg 38 (.indexAddr 23 (tp 36) (tp 37)) 0 34 true,
        rg 39 (.load 25 (tp 38)) 25 34 true,
        rg 40 (.move (tp 0)) 23 34 true,
        rg 41 (.move (tp 11)) 3 34 true,
        rg 42 (.indexAddr 23 (tp 40) (tp 41)) 0 34 true,
        rg 43 (.load 25 (tp 42)) 25 34 true,
        rg 44 (.call ⟨.value (tp 35),#[(tp 39),(tp 43)],#[25,25]⟩) 3 34 true,
        rg 45 (.binOp .lss 3 (tp 44) (ki 0) 3) 4 34 true,
        rg 46 (.unOp .not 4 (tp 45)) 4 34 true,
        rq 47 (.pick (tp 34) (tp 46) (kb false)) 4])
   (.cond (tp 47) (.skip)
   (.exit 2)))
   (.block 3 (.reg [] [
     rq 48 (.move (tp 11)) 3,
     rq 49 (.binOp .add 3 (tp 48) (ki 1) 3) 3,
     rq 11 (.assign (tp 49)) 3])))))
   (.seq (.block 4 (.loop (.seq (.seq (.reg [0, 1, 2, 3, 4, 5, 6, 7, 8, 9, 10, 11, 12, 13, 14, 15] [
     rq 50 (.move (tp 11)) 3,
     rq 51 (.move (tp 12)) 3,
     rq 52 (.binOp .leq 3 (tp 50) (tp 51) 3) 4,
     rq 53 (.move (tp 52)) 4,
     rg 54 (.move (tp 4)) 33 53 true,
     rg 55 (.move (tp 0)) 23 53 true,
     rg 56 (.move (tp 1)) 3 53 true,
     rg 57 (.indexAddr 23 (tp 55) (tp 56)) 0 53 true,
     rg 58 (.load 25 (tp 57)) 25 53 true,
     rg 59 (.move (tp 0)) 23 53 true,
     rg 60 (.move (tp 12)) 3 53 true,
     rg 61 (.indexAddr 23 (tp 59) (tp 60)) 0 53 true,
     rg 62 (.load 25 (tp 61)) 25 53 true,
     rg 63 (.call ⟨.value (tp 54),#[(tp 58),(tp 62)],#[25,25]⟩) 3 53 true,
     rg 64 (.binOp .lss 3 (tp 63) (ki 0) 3) 4 53 true,
     rq 65 (.pick (tp 53) (tp 64) (kb false)) 4])
     (.cond (tp 65) (.skip)
     (.exit 4)))
     (.block 5 (.reg [] [
       rq 66 (.move (tp 12)) 3,
       rq 67 (.binOp .sub 3 (tp 66) (ki 1) 3) 3,
       rq 12 (.assign (tp 67)) 3])))))
   (.seq (.seq (.reg [] [
     rq 68 (.move (tp 11)) 3,
     rq 69 (.move (tp 12)) 3,
     rq 70 (.binOp .gtr 3 (tp 68) (tp 69) 3) 4])
   (.cond (tp 70) (.exit 0)
   (.skip)))
   (.seq (.reg [0, 1, 2, 3, 4, 5, 6, 7, 8, 9, 10, 11, 12, 13, 14, 15] [
     rq 71 (.move (tp 0)) 23,
     rq 72 (.move (tp 11)) 3,
     rq 73 (.move (tp 0)) 23,
     rq 74 (.move (tp 12)) 3,
     rq 75 (.move (tp 0)) 23,
     rq 76 (.move (tp 12)) 3,
     rq 77 (.indexAddr 23 (tp 75) (tp 76)) 0,
     rq 78 (.load 25 (tp 77)) 25,
     rq 79 (.move (tp 0)) 23,
     rq 80 (.move (tp 11)) 3,
     rq 81 (.indexAddr 23 (tp 79) (tp 80)) 0,
     rq 82 (.load 25 (tp 81)) 25,
     rq 83 (.indexAddr 23 (tp 71) (tp 72)) 0,
     rn (.store 25 (tp 83) (tp 78)) 0,
     rq 84 (.indexAddr 23 (tp 73) (tp 74)) 0,
     rn (.store 25 (tp 84) (tp 82)) 0])
   (.seq (.reg [] [
     rq 85 (.move (tp 11)) 3,
     rq 86 (.binOp .add 3 (tp 85) (ki 1) 3) 3,
     rq 11 (.assign (tp 86)) 3])
   (.reg [] [
     rq 87 (.move (tp 12)) 3,
     rq 88 (.binOp .sub 3 (tp 87) (ki 1) 3) 3,
     rq 12 (.assign (tp 88)) 3])))))))))
 (.seq (.reg [] [
   rq 89 (.move (tp 11)) 3,rq 10 (.assign (tp 89)) 3])
 (.ret)))))
def c106:RC:=
 .seq (.reg [] [
  rq 10 (.assign (ki 0)) 3,rq 11 (.assign (kb false)) 4])
 (.seq (.reg [0, 1, 2, 3, 4, 5, 6, 7, 8, 9, 10, 11, 12, 13, 14, 15] [
   rq 14 (.move (tp 0)) 23,rq 15 (.move (tp 1)) 3,rq 16 (.move (tp 0)) 23,rq 17 (.move (tp 3)) 3,rq 18 (.move (tp 0)) 23,rq 19 (.move (tp 3)) 3,rq 20 (.indexAddr 23 (tp 18) (tp 19)) 0,rq 21 (.load 25 (tp 20)) 25,rq 22 (.move (tp 0)) 23,rq 23 (.move (tp 1)) 3,rq 24 (.indexAddr 23 (tp 22) (tp 23)) 0,rq 25 (.load 25 (tp 24)) 25,rq 26 (.indexAddr 23 (tp 14) (tp 15)) 0,rn (.store 25 (tp 26) (tp 21)) 0,rq 27 (.indexAddr 23 (tp 16) (tp 17)) 0,rn (.store 25 (tp 27) (tp 25)) 0])
 (.seq (.reg [] [
   rq 28 (.move (tp 1)) 3,rq 29 (.binOp .add 3 (tp 28) (ki 1) 3) 3,rq 30 (.move (tp 2)) 3,rq 31 (.binOp .sub 3 (tp 30) (ki 1) 3) 3,rq 12 (.assign (tp 29)) 3,rq 13 (.assign (tp 31)) 3])
 (.seq (.block 0 (.loop (.seq (.seq (.reg [0, 1, 2, 3, 4, 5, 6, 7, 8, 9, 10, 11, 12, 13, 14, 15] [
   rq 32 (.move (tp 12)) 3,
   rq 33 (.move (tp 13)) 3,
   rq 34 (.binOp .leq 3 (tp 32) (tp 33) 3) 4,
   rq 35 (.move (tp 34)) 4,
   rg 36 (.move (tp 4)) 33 35 true,
   rg 37 (.move (tp 0)) 23 35 true,
   rg 38 (.move (tp 12)) 3 35 true,
   rg 39 (.indexAddr 23 (tp 37) (tp 38)) 0 35 true,
   rg 40 (.load 25 (tp 39)) 25 35 true,
   rg 41 (.move (tp 0)) 23 35 true,
   rg 42 (.move (tp 1)) 3 35 true,
   rg 43 (.indexAddr 23 (tp 41) (tp 42)) 0 35 true,
   rg 44 (.load 25 (tp 43)) 25 35 true,
   rg 45 (.call ⟨.value (tp 36),#[(tp 40),(tp 44)],#[25,25]⟩) 3 35 true,
   rg 46 (.binOp .lss 3 (tp 45) (ki 0) 3) 4 35 true,
   rq 47 (.pick (tp 35) (tp 46) (kb false)) 4])
   (.cond (tp 47) (.skip)
   (.exit 0)))
   (.block 1 (.reg [] [
     rq 48 (.move (tp 12)) 3,
     rq 49 (.binOp .add 3 (tp 48) (ki 1) 3) 3,
     rq 12 (.assign (tp 49)) 3])))))
 (.seq (.block 2 (.loop (.seq (.seq (.reg [0, 1, 2, 3, 4, 5, 6, 7, 8, 9, 10, 11, 12, 13, 14, 15, 16] [
   rq 50 (.move (tp 12)) 3,
   rq 51 (.move (tp 13)) 3,
   rq 52 (.binOp .leq 3 (tp 50) (tp 51) 3) 4,
   rq 53 (.move (tp 52)) 4,
   rg 54 (.move (tp 4)) 33 53 true,
   rg 55 (.move (tp 0)) 23 53 true,
   rg 56 (.move (tp 13)) 3 53 true,
   rg 57 (.indexAddr 23 (tp 55) (tp 56)) 0 53 true,
   rg 58 (.load 25 (tp 57)) 25 53 true,
   rg 59 (.move (tp 0)) 23 53 true,
   rg 60 (.move (tp 1)) 3 53 true,
   rg 61 (.indexAddr 23 (tp 59) (tp 60)) 0 53 true,
   rg 62 (.load 25 (tp 61)) 25 53 true,
   rg 63 (.call ⟨.value (tp 54),#[(tp 58),(tp 62)],#[25,25]⟩) 3 53 true,
   rg 64 (.binOp .lss 3 (tp 63) (ki 0) 3) 4 53 true,
   rg 65 (.unOp .not 4 (tp 64)) 4 53 true,
   rq 66 (.pick (tp 53) (tp 65) (kb false)) 4])
   (.cond (tp 66) (.skip)
   (.exit 2)))
   (.block 3 (.reg [] [
     rq 67 (.move (tp 13)) 3,
     rq 68 (.binOp .sub 3 (tp 67) (ki 1) 3) 3,
     rq 13 (.assign (tp 68)) 3])))))
 (.seq (.seq (.reg [] [
   rq 69 (.move (tp 12)) 3,rq 70 (.move (tp 13)) 3,rq 71 (.binOp .gtr 3 (tp 69) (tp 70) 3) 4])
 (.cond (tp 71) (.seq (.reg [0, 1, 2, 3, 4, 5, 6, 7, 8, 9, 10, 11, 12, 13, 14, 15] [
   rq 72 (.move (tp 0)) 23,
   rq 73 (.move (tp 13)) 3,
   rq 74 (.move (tp 0)) 23,
   rq 75 (.move (tp 1)) 3,
   rq 76 (.move (tp 0)) 23,
   rq 77 (.move (tp 1)) 3,
   rq 78 (.indexAddr 23 (tp 76) (tp 77)) 0,
   rq 79 (.load 25 (tp 78)) 25,
   rq 80 (.move (tp 0)) 23,
   rq 81 (.move (tp 13)) 3,
   rq 82 (.indexAddr 23 (tp 80) (tp 81)) 0,
   rq 83 (.load 25 (tp 82)) 25,
   rq 84 (.indexAddr 23 (tp 72) (tp 73)) 0,
   rn (.store 25 (tp 84) (tp 79)) 0,
   rq 85 (.indexAddr 23 (tp 74) (tp 75)) 0,
   rn (.store 25 (tp 85) (tp 83)) 0])
  (.seq (.reg [] [
    rq 86 (.move (tp 13)) 3,
    rq 10 (.assign (tp 86)) 3,
    rq 11 (.assign (kb true)) 4])
  (.ret)))
 (.skip)))
 (.seq (.reg [0, 1, 2, 3, 4, 5, 6, 7, 8, 9, 10, 11, 12, 13, 14, 15] [
   rq 87 (.move (tp 0)) 23,rq 88 (.move (tp 12)) 3,rq 89 (.move (tp 0)) 23,rq 90 (.move (tp 13)) 3,rq 91 (.move (tp 0)) 23,rq 92 (.move (tp 13)) 3,rq 93 (.indexAddr 23 (tp 91) (tp 92)) 0,rq 94 (.load 25 (tp 93)) 25,rq 95 (.move (tp 0)) 23,rq 96 (.move (tp 12)) 3,rq 97 (.indexAddr 23 (tp 95) (tp 96)) 0,rq 98 (.load 25 (tp 97)) 25,rq 99 (.indexAddr 23 (tp 87) (tp 88)) 0,rn (.store 25 (tp 99) (tp 94)) 0,rq 100 (.indexAddr 23 (tp 89) (tp 90)) 0,rn (.store 25 (tp 100) (tp 98)) 0])
 (.seq (.reg [] [
   rq 101 (.move (tp 12)) 3,rq 102 (.binOp .add 3 (tp 101) (ki 1) 3) 3,rq 12 (.assign (tp 102)) 3])
 (.seq (.reg [] [
   rq 103 (.move (tp 13)) 3,rq 104 (.binOp .sub 3 (tp 103) (ki 1) 3) 3,rq 13 (.assign (tp 104)) 3])
 (.seq (.block 4 (.loop (.block 5 (.seq (.block 6 (.loop (.seq (.seq (.reg [0, 1, 2, 3, 4, 5, 6, 7, 8, 9, 10, 11, 12, 13, 14, 15] [
        rq 105 (.move (tp 12)) 3,
        rq 106 (.move (tp 13)) 3,
        rq 107 (.binOp .leq 3 (tp 105) (tp 106) 3) 4,
        rq 108 (.move (tp 107)) 4,
        rg 109 (.move (tp 4)) 33 108 true,
        rg 110 (.move (tp 0)) 23 108 true,
        rg 111 (.move (tp 12)) 3 108 true,
        rg 112 (.indexAddr 23 (tp 110) (tp 111)) 0 108 true,
        rg 113 (.load 25 (tp 112)) 25 108 true,
        rg 114 (.move (tp 0)) 23 108 true,
        rg 115 (.move (tp 1)) 3 108 true,
        rg 116 (.indexAddr 23 (tp 114) (tp 115)) 0 108 true,
        rg 117 (.load 25 (tp 116)) 25 108 true,
        rg 118 (.call ⟨.value (tp 109),#[(tp 113),(tp 117)],#[25,25]⟩) 3 108 true,
        rg 119 (.binOp .lss 3 (tp 118) (ki 0) 3) 4 108 true,
        rq 120 (.pick (tp 108) (tp 119) (kb false)) 4])
   (.cond (tp 120) (.skip)
   (.exit 6)))
   (.block 7 (.reg [] [
     rq 121 (.move (tp 12)) 3,
     rq 122 (.binOp .add 3 (tp 121) (ki 1) 3) 3,
     rq 12 (.assign (tp 122)) 3])))))
   (.seq (.block 8 (.loop (.seq (.seq (.reg [0, 1, 2, 3, 4, 5, 6, 7, 8, 9, 10, 11, 12, 13, 14, 15, 16] [
     rq 123 (.move (tp 12)) 3,
     rq 124 (.move (tp 13)) 3,
     rq 125 (.binOp .leq 3 (tp 123) (tp 124) 3) 4,
     rq 126 (.move (tp 125)) 4,
     rg 127 (.move (tp 4)) 33 126 true,
     rg 128 (.move (tp 0)) 23 126 true,
     rg 129 (.move (tp 13)) 3 126 true,
     rg 130 (.indexAddr 23 (tp 128) (tp 129)) 0 126 true,
     rg 131 (.load 25 (tp 130)) 25 126 true,
     rg 132 (.move (tp 0)) 23 126 true,
     rg 133 (.move (tp 1)) 3 126 true,
     rg 134 (.indexAddr 23 (tp 132) (tp 133)) 0 126 true,
     rg 135 (.load 25 (tp 134)) 25 126 true,
     rg 136 (.call ⟨.value (tp 127),#[(tp 131),(tp 135)],#[25,25]⟩) 3 126 true,
     rg 137 (.binOp .lss 3 (tp 136) (ki 0) 3) 4 126 true,
     rg 138 (.unOp .not 4 (tp 137)) 4 126 true,
     rq 139 (.pick (tp 126) (tp 138) (kb false)) 4])
     (.cond (tp 139) (.skip)
     (.exit 8)))
     (.block 9 (.reg [] [
       rq 140 (.move (tp 13)) 3,
       rq 141 (.binOp .sub 3 (tp 140) (ki 1) 3) 3,
       rq 13 (.assign (tp 141)) 3])))))
   (.seq (.seq (.reg [] [
     rq 142 (.move (tp 12)) 3,
     rq 143 (.move (tp 13)) 3,
     rq 144 (.binOp .gtr 3 (tp 142) (tp 143) 3) 4])
   (.cond (tp 144) (.exit 4)
   (.skip)))
   (.seq (.reg [0, 1, 2, 3, 4, 5, 6, 7, 8, 9, 10, 11, 12, 13, 14, 15] [
     rq 145 (.move (tp 0)) 23,
     rq 146 (.move (tp 12)) 3,
     rq 147 (.move (tp 0)) 23,
     rq 148 (.move (tp 13)) 3,
     rq 149 (.move (tp 0)) 23,
     rq 150 (.move (tp 13)) 3,
     rq 151 (.indexAddr 23 (tp 149) (tp 150)) 0,
     rq 152 (.load 25 (tp 151)) 25,
     rq 153 (.move (tp 0)) 23,
     rq 154 (.move (tp 12)) 3,
     rq 155 (.indexAddr 23 (tp 153) (tp 154)) 0,
     rq 156 (.load 25 (tp 155)) 25,
     rq 157 (.indexAddr 23 (tp 145) (tp 146)) 0,
     rn (.store 25 (tp 157) (tp 152)) 0,
     rq 158 (.indexAddr 23 (tp 147) (tp 148)) 0,
     rn (.store 25 (tp 158) (tp 156)) 0])
   (.seq (.reg [] [
     rq 159 (.move (tp 12)) 3,
     rq 160 (.binOp .add 3 (tp 159) (ki 1) 3) 3,
     rq 12 (.assign (tp 160)) 3])
   (.reg [] [
     rq 161 (.move (tp 13)) 3,
     rq 162 (.binOp .sub 3 (tp 161) (ki 1) 3) 3,
     rq 13 (.assign (tp 162)) 3])))))))))
 (.seq (.reg [0, 1, 2, 3, 4, 5, 6, 7, 8, 9, 10, 11, 12, 13, 14, 15] [
   rq 163 (.move (tp 0)) 23,rq 164 (.move (tp 13)) 3,rq 165 (.move (tp 0)) 23,rq 166 (.move (tp 1)) 3,rq 167 (.move (tp 0)) 23,rq 168 (.move (tp 1)) 3,rq 169 (.indexAddr 23 (tp 167) (tp 168)) 0,rq 170 (.load 25 (tp 169)) 25,rq 171 (.move (tp 0)) 23,rq 172 (.move (tp 13)) 3,rq 173 (.indexAddr 23 (tp 171) (tp 172)) 0,rq 174 (.load 25 (tp 173)) 25,rq 175 (.indexAddr 23 (tp 163) (tp 164)) 0,rn (.store 25 (tp 175) (tp 170)) 0,rq 176 (.indexAddr 23 (tp 165) (tp 166)) 0,rn (.store 25 (tp 176) (tp 174)) 0])
 (.seq (.reg [] [
   rq 177 (.move (tp 13)) 3,rq 10 (.assign (tp 177)) 3,rq 11 (.assign (kb false)) 4])
 (.ret))))))))))))
def c107:RC:=
 .seq (.reg [] [
  rq 4 (.assign (.const (.int .u32 0))) 97,rq 5 (.assign (.const (.int .u32 0))) 97])
 (.seq (.reg [] [
   rq 7 (.move (tp 0)) 97,rq 8 (.convert 97 99 (tp 7)) 99,rq 9 (.move (tp 1)) 97,rq 10 (.convert 97 99 (tp 9)) 99,rq 11 (.binOp .mul 99 (tp 8) (tp 10) 99) 99,rq 6 (.assign (tp 11)) 99])
 (.seq (.reg [] [
   rq 12 (.move (tp 6)) 99,rq 13 (.binOp .shr 99 (tp 12) (.const (.int .u64 32)) 83) 99,rq 14 (.convert 99 97 (tp 13)) 97,rq 15 (.move (tp 6)) 99,rq 16 (.convert 99 97 (tp 15)) 97,rq 4 (.assign (tp 14)) 97,rq 5 (.assign (tp 16)) 97])
 (.ret)))
def c108:RC:=
 .seq (.reg [] [
  rq 4 (.assign (.const (.int .u64 0))) 99,rq 5 (.assign (.const (.int .u64 0))) 99])
 (.seq (.reg [] [
   rq 14 (.move (tp 0)) 99,rq 15 (.binOp .and 99 (tp 14) (.const (.int .u64 4294967295)) 99) 99,rq 6 (.assign (tp 15)) 99])
 (.seq (.reg [] [
   rq 16 (.move (tp 0)) 99,rq 17 (.binOp .shr 99 (tp 16) (.const (.int .u64 32)) 83) 99,rq 7 (.assign (tp 17)) 99])
 (.seq (.reg [] [
   rq 18 (.move (tp 1)) 99,rq 19 (.binOp .and 99 (tp 18) (.const (.int .u64 4294967295)) 99) 99,rq 8 (.assign (tp 19)) 99])
 (.seq (.reg [] [
   rq 20 (.move (tp 1)) 99,rq 21 (.binOp .shr 99 (tp 20) (.const (.int .u64 32)) 83) 99,rq 9 (.assign (tp 21)) 99])
 (.seq (.reg [] [
   rq 22 (.move (tp 6)) 99,rq 23 (.move (tp 8)) 99,rq 24 (.binOp .mul 99 (tp 22) (tp 23) 99) 99,rq 10 (.assign (tp 24)) 99])
 (.seq (.reg [] [
   rq 25 (.move (tp 7)) 99,rq 26 (.move (tp 8)) 99,rq 27 (.binOp .mul 99 (tp 25) (tp 26) 99) 99,rq 28 (.move (tp 10)) 99,rq 29 (.binOp .shr 99 (tp 28) (.const (.int .u64 32)) 83) 99,rq 30 (.binOp .add 99 (tp 27) (tp 29) 99) 99,rq 11 (.assign (tp 30)) 99])
 (.seq (.reg [] [
   rq 31 (.move (tp 11)) 99,rq 32 (.binOp .and 99 (tp 31) (.const (.int .u64 4294967295)) 99) 99,rq 12 (.assign (tp 32)) 99])
 (.seq (.reg [] [
   rq 33 (.move (tp 11)) 99,rq 34 (.binOp .shr 99 (tp 33) (.const (.int .u64 32)) 83) 99,rq 13 (.assign (tp 34)) 99])
 (.seq (.reg [] [
   rq 35 (.move (tp 12)) 99,rq 36 (.move (tp 6)) 99,rq 37 (.move (tp 9)) 99,rq 38 (.binOp .mul 99 (tp 36) (tp 37) 99) 99,rq 39 (.binOp .add 99 (tp 35) (tp 38) 99) 99,rq 12 (.assign (tp 39)) 99])
 (.seq (.reg [] [
   rq 40 (.move (tp 7)) 99,rq 41 (.move (tp 9)) 99,rq 42 (.binOp .mul 99 (tp 40) (tp 41) 99) 99,rq 43 (.move (tp 13)) 99,rq 44 (.binOp .add 99 (tp 42) (tp 43) 99) 99,rq 45 (.move (tp 12)) 99,rq 46 (.binOp .shr 99 (tp 45) (.const (.int .u64 32)) 83) 99,rq 47 (.binOp .add 99 (tp 44) (tp 46) 99) 99,rq 4 (.assign (tp 47)) 99])
 (.seq (.reg [] [
   rq 48 (.move (tp 0)) 99,rq 49 (.move (tp 1)) 99,rq 50 (.binOp .mul 99 (tp 48) (tp 49) 99) 99,rq 5 (.assign (tp 50)) 99])
 (.ret))))))))))))
def c109:RC:=
 .seq (.reg [] [
  rq 10 (.assign (ki 0)) 3,rq 11 (.assign (ki 0)) 3])
 (.seq (.seq (.reg [0, 1, 2, 3, 4, 5, 6, 7, 8, 9, 10] [
   rq 12 (.move (tp 4)) 63,rq 13 (.move (tp 0)) 30,rq 14 (.move (tp 2)) 3,rq 15 (.indexAddr 30 (tp 13) (tp 14)) 0,rq 16 (.load 23 (tp 15)) 23,rq 17 (.move (tp 0)) 30,rq 18 (.move (tp 1)) 3,rq 19 (.indexAddr 30 (tp 17) (tp 18)) 0,rq 20 (.load 23 (tp 19)) 23,rq 21 (.call ⟨.value (tp 12),#[(tp 16),(tp 20)],#[23,23]⟩) 3,rq 22 (.binOp .lss 3 (tp 21) (ki 0) 3) 4])
 (.cond (tp 22) (.seq (.reg [] [
   rq 23 (.move (tp 3)) 112,
   rq 24 (.nilCheck (tp 23)) 0,
   rq 25 (.load 3 (tp 24)) 3,
   rq 26 (.binOp .add 3 (tp 25) (ki 1) 3) 3,
   rq 27 (.nilCheck (tp 23)) 0,
   rn (.store 3 (tp 27) (tp 26)) 0])
  (.seq (.reg [] [
    rq 28 (.move (tp 2)) 3,
    rq 29 (.move (tp 1)) 3,
    rq 10 (.assign (tp 28)) 3,
    rq 11 (.assign (tp 29)) 3])
  (.ret)))
 (.skip)))
 (.seq (.reg [] [
   rq 30 (.move (tp 1)) 3,rq 31 (.move (tp 2)) 3,rq 10 (.assign (tp 30)) 3,rq 11 (.assign (tp 31)) 3])
 (.ret)))
def c110:RC:=
 .seq (.reg [] [
  rq 8 (.assign (ki 0)) 3,rq 9 (.assign (ki 0)) 3])
 (.seq (.seq (.reg [0, 1, 2, 3, 4, 5, 6, 7, 8] [
   rq 10 (.move (tp 0)) 25,rq 11 (.move (tp 2)) 3,rq 12 (.indexAddr 25 (tp 10) (tp 11)) 0,rq 13 (.load 3 (tp 12)) 3,rq 14 (.move (tp 0)) 25,rq 15 (.move (tp 1)) 3,rq 16 (.indexAddr 25 (tp 14) (tp 15)) 0,rq 17 (.load 3 (tp 16)) 3,rq 18 (cf 86 #[(tp 13),(tp 17)] #[3,3]) 4])
 (.cond (tp 18) (.seq (.reg [] [
   rq 19 (.move (tp 3)) 112,
   rq 20 (.nilCheck (tp 19)) 0,
   rq 21 (.load 3 (tp 20)) 3,
   rq 22 (.binOp .add 3 (tp 21) (ki 1) 3) 3,
   rq 23 (.nilCheck (tp 19)) 0,
   rn (.store 3 (tp 23) (tp 22)) 0])
  (.seq (.reg [] [
    rq 24 (.move (tp 2)) 3,
    rq 25 (.move (tp 1)) 3,
    rq 8 (.assign (tp 24)) 3,
    rq 9 (.assign (tp 25)) 3])
  (.ret)))
 (.skip)))
 (.seq (.reg [] [
   rq 26 (.move (tp 1)) 3,rq 27 (.move (tp 2)) 3,rq 8 (.assign (tp 26)) 3,rq 9 (.assign (tp 27)) 3])
 (.ret)))
def c111:RC:=
 .seq (.reg [] [
  rq 12 (.move (tp 1)) 3,rq 10 (.assign (tp 12)) 3])
 (.block 0 (.loop (.block 1 (.seq (.reg [] [
   rq 13 (.move (tp 10)) 3,
   rq 14 (.binOp .mul 3 (ki 2) (tp 13) 3) 3,
   rq 15 (.binOp .add 3 (tp 14) (ki 1) 3) 3,
   rq 11 (.assign (tp 15)) 3])
   (.seq (.seq (.reg [] [
     rq 16 (.move (tp 11)) 3,
     rq 17 (.move (tp 2)) 3,
     rq 18 (.binOp .geq 3 (tp 16) (tp 17) 3) 4])
   (.cond (tp 18) (.exit 0)
   (.skip)))
   (.seq (.seq (.reg [0, 1, 2, 3, 4, 5, 6, 7, 8, 9, 10, 11, 12, 13, 14, 15, 16, 17, 18, 19, 20, 21] [
     rq 19 (.move (tp 11)) 3,
     rq 20 (.binOp .add 3 (tp 19) (ki 1) 3) 3,
     rq 21 (.move (tp 2)) 3,
     rq 22 (.binOp .lss 3 (tp 20) (tp 21) 3) 4,
     rq 23 (.move (tp 22)) 4,
     rg 24 (.move (tp 4)) 33 23 true,
     rg 25 (.move (tp 0)) 23 23 true,
     rg 26 (.move (tp 3)) 3 23 true,
     rg 27 (.move (tp 11)) 3 23 true,
     rg 28 (.binOp .add 3 (tp 26) (tp 27) 3) 3 23 true,
     rg 29 (.indexAddr 23 (tp 25) (tp 28)) 0 23 true,
     rg 30 (.load 25 (tp 29)) 25 23 true,
     rg 31 (.move (tp 0)) 23 23 true,
     rg 32 (.move (tp 3)) 3 23 true,
     rg 33 (.move (tp 11)) 3 23 true,
     rg 34 (.binOp .add 3 (tp 32) (tp 33) 3) 3 23 true,
     rg 35 (.binOp .add 3 (tp 34) (ki 1) 3) 3 23 true,
     rg 36 (.indexAddr 23 (tp 31) (tp 35)) 0 23 true,
     rg 37 (.load 25 (tp 36)) 25 23 true,
     rg 38 (.call ⟨.value (tp 24),#[(tp 30),(tp 37)],#[25,25]⟩) 3 23 true,
     rg 39 (.binOp .lss 3 (tp 38) (ki 0) 3) 4 23 true,
     rq 40 (.pick (tp 23) (tp 39) (kb false)) 4])
   (.cond (tp 40) (.reg [] [
     rq 41 (.move (tp 11)) 3,
     rq 42 (.binOp .add 3 (tp 41) (ki 1) 3) 3,
     rq 11 (.assign (tp 42)) 3])
   (.skip)))
   (.seq (.seq (.reg [0, 1, 2, 3, 4, 5, 6, 7, 8, 9, 10, 11, 12, 13, 14, 15] [
     rq 43 (.move (tp 4)) 33,
     rq 44 (.move (tp 0)) 23,
     rq 45 (.move (tp 3)) 3,
     rq 46 (.move (tp 10)) 3,
     rq 47 (.binOp .add 3 (tp 45) (tp 46) 3) 3,
     rq 48 (.indexAddr 23 (tp 44) (tp 47)) 0,
     rq 49 (.load 25 (tp 48)) 25,
     rq 50 (.move (tp 0)) 23,
     rq 51 (.move (tp 3)) 3,
     rq 52 (.move (tp 11)) 3,
     rq 53 (.binOp .add 3 (tp 51) (tp 52) 3) 3,
     rq 54 (.indexAddr 23 (tp 50) (tp 53)) 0,
     rq 55 (.load 25 (tp 54)) 25,
     rq 56 (.call ⟨.value (tp 43),#[(tp 49),(tp 55)],#[25,25]⟩) 3,
     rq 57 (.binOp .lss 3 (tp 56) (ki 0) 3) 4,
     rq 58 (.unOp .not 4 (tp 57)) 4])
   (.cond (tp 58) (.ret)
   (.skip)))
   (.seq (.reg [0, 1, 2, 3, 4, 5, 6, 7, 8, 9, 10, 11, 12, 13, 14, 15, 16, 17, 18, 19, 20, 21, 22, 23] [
     rq 59 (.move (tp 0)) 23,
     rq 60 (.move (tp 3)) 3,
     rq 61 (.move (tp 10)) 3,
     rq 62 (.binOp .add 3 (tp 60) (tp 61) 3) 3,
     rq 63 (.move (tp 0)) 23,
     rq 64 (.move (tp 3)) 3,
     rq 65 (.move (tp 11)) 3,
     rq 66 (.binOp .add 3 (tp 64) (tp 65) 3) 3,
     rq 67 (.move (tp 0)) 23,
     rq 68 (.move (tp 3)) 3,
     rq 69 (.move (tp 11)) 3,
     rq 70 (.binOp .add 3 (tp 68) (tp 69) 3) 3,
     rq 71 (.indexAddr 23 (tp 67) (tp 70)) 0,
     rq 72 (.load 25 (tp 71)) 25,
     rq 73 (.move (tp 0)) 23,
     rq 74 (.move (tp 3)) 3,
     rq 75 (.move (tp 10)) 3,
     rq 76 (.binOp .add 3 (tp 74) (tp 75) 3) 3,
     rq 77 (.indexAddr 23 (tp 73) (tp 76)) 0,
     rq 78 (.load 25 (tp 77)) 25,
     rq 79 (.indexAddr 23 (tp 59) (tp 62)) 0,
     rn (.store 25 (tp 79) (tp 72)) 0,
     rq 80 (.indexAddr 23 (tp 63) (tp 66)) 0,
     rn (.store 25 (tp 80) (tp 78)) 0])
   (.reg [] [
     rq 81 (.move (tp 11)) 3,
     rq 10 (.assign (tp 81)) 3])))))))))
def c112:RC:=
 .seq (.reg [] [
  rq 8 (.assign (ki 0)) 3])
 (.seq (.reg [] [
   rq 9 (.move (tp 0)) 23,rq 10 (.move (tp 1)) 3,rq 11 (.binOp .sub 3 (tp 10) (ki 1) 3) 3,rq 12 (.move (tp 1)) 3,rq 13 (.move (tp 1)) 3,rq 14 (.binOp .add 3 (tp 13) (ki 1) 3) 3,rq 15 (.move (tp 2)) 112,rq 16 (.move (tp 3)) 33,rq 17 (cf 113 #[(tp 9),(tp 11),(tp 12),(tp 14),(tp 15),(tp 16)] #[23,3,3,3,112,33]) 3,rq 8 (.assign (tp 17)) 3])
 (.ret))
def c113:RC:=
 .seq (.reg [] [
  rq 12 (.assign (ki 0)) 3])
 (.seq (.reg [] [
   rq 14 (.move (tp 0)) 23,rq 15 (.move (tp 1)) 3,rq 16 (.move (tp 2)) 3,rq 17 (.move (tp 4)) 112,rq 18 (.move (tp 5)) 33,rq 19 (cf 114 #[(tp 14),(tp 15),(tp 16),(tp 17),(tp 18)] #[23,3,3,112,33]) 57,rq 13 (.move (tp 19)) 57,rq 20 (.extract (tp 13) 0) 3,rq 21 (.extract (tp 13) 1) 3,rq 1 (.assign (tp 20)) 3,rq 2 (.assign (tp 21)) 3])
 (.seq (.reg [] [
   rq 23 (.move (tp 0)) 23,rq 24 (.move (tp 2)) 3,rq 25 (.move (tp 3)) 3,rq 26 (.move (tp 4)) 112,rq 27 (.move (tp 5)) 33,rq 28 (cf 114 #[(tp 23),(tp 24),(tp 25),(tp 26),(tp 27)] #[23,3,3,112,33]) 57,rq 22 (.move (tp 28)) 57,rq 29 (.extract (tp 22) 0) 3,rq 30 (.extract (tp 22) 1) 3,rq 2 (.assign (tp 29)) 3,rq 3 (.assign (tp 30)) 3])
 (.seq (.reg [] [
   rq 32 (.move (tp 0)) 23,rq 33 (.move (tp 1)) 3,rq 34 (.move (tp 2)) 3,rq 35 (.move (tp 4)) 112,rq 36 (.move (tp 5)) 33,rq 37 (cf 114 #[(tp 32),(tp 33),(tp 34),(tp 35),(tp 36)] #[23,3,3,112,33]) 57,rq 31 (.move (tp 37)) 57,rq 38 (.extract (tp 31) 0) 3,rq 39 (.extract (tp 31) 1) 3,rq 1 (.assign (tp 38)) 3,rq 2 (.assign (tp 39)) 3])
 (.seq (.reg [] [
   rq 40 (.move (tp 2)) 3,rq 12 (.assign (tp 40)) 3])
 (.ret)))))
def c114:RC:=
 .seq (.reg [] [
  rq 10 (.assign (ki 0)) 3,rq 11 (.assign (ki 0)) 3])
 (.seq (.seq (.reg [0, 1, 2, 3, 4, 5, 6, 7, 8, 9, 10] [
   rq 12 (.move (tp 4)) 33,rq 13 (.move (tp 0)) 23,rq 14 (.move (tp 2)) 3,rq 15 (.indexAddr 23 (tp 13) (tp 14)) 0,rq 16 (.load 25 (tp 15)) 25,rq 17 (.move (tp 0)) 23,rq 18 (.move (tp 1)) 3,rq 19 (.indexAddr 23 (tp 17) (tp 18)) 0,rq 20 (.load 25 (tp 19)) 25,rq 21 (.call ⟨.value (tp 12),#[(tp 16),(tp 20)],#[25,25]⟩) 3,rq 22 (.binOp .lss 3 (tp 21) (ki 0) 3) 4])
 (.cond (tp 22) (.seq (.reg [] [
   rq 23 (.move (tp 3)) 112,
   rq 24 (.nilCheck (tp 23)) 0,
   rq 25 (.load 3 (tp 24)) 3,
   rq 26 (.binOp .add 3 (tp 25) (ki 1) 3) 3,
   rq 27 (.nilCheck (tp 23)) 0,
   rn (.store 3 (tp 27) (tp 26)) 0])
  (.seq (.reg [] [
    rq 28 (.move (tp 2)) 3,
    rq 29 (.move (tp 1)) 3,
    rq 10 (.assign (tp 28)) 3,
    rq 11 (.assign (tp 29)) 3])
  (.ret)))
 (.skip)))
 (.seq (.reg [] [
   rq 30 (.move (tp 1)) 3,rq 31 (.move (tp 2)) 3,rq 10 (.assign (tp 30)) 3,rq 11 (.assign (tp 31)) 3])
 (.ret)))
def ti3:TI:=⟨.int .i64,1,8,(some (.int .i64 0)),false⟩
def ti4:TI:=⟨.bool,1,1,(some (.bool false)),false⟩
def ti5:TI:=⟨.int .u8,1,1,(some (.int .u8 0)),false⟩
def ti9:TI:=⟨.string,1,16,(some (.string ⟨#[]⟩)),false⟩
def ti23:TI:=⟨.slice 25,1,24,(some (.slice none 0 0)),false⟩
def ti25:TI:=⟨.slice 3,1,24,(some (.slice none 0 0)),false⟩
def ti26:TI:=⟨.int .i64,1,8,(some (.int .i64 0)),false⟩
def ti30:TI:=⟨.slice 23,1,24,(some (.slice none 0 0)),false⟩
def ti33:TI:=⟨.func #[25,25] #[3] false,1,8,(some .nilFunc),false⟩
def ti39:TI:=⟨.slice 5,1,24,(some (.slice none 0 0)),false⟩
def ti51:TI:=⟨.func #[25,3,3] #[] false,1,8,(some .nilFunc),false⟩
def ti54:TI:=⟨.array 22 3,22,176,(some (.agg #[(.int .i64 0),(.int .i64 0),(.int .i64 0),(.int .i64 0),(.int .i64 0),(.int .i64 0),(.int .i64 0),(.int .i64 0),(.int .i64 0),(.int .i64 0),(.int .i64 0),(.int .i64 0),(.int .i64 0),(.int .i64 0),(.int .i64 0),(.int .i64 0),(.int .i64 0),(.int .i64 0),(.int .i64 0),(.int .i64 0),(.int .i64 0),(.int .i64 0)])),true⟩
def ti60:TI:=⟨.func #[3] #[4] false,1,8,(some .nilFunc),false⟩
def ti63:TI:=⟨.func #[23,23] #[3] false,1,8,(some .nilFunc),false⟩
def ti66:TI:=⟨.func #[25] #[] false,1,8,(some .nilFunc),false⟩
def ti72:TI:=⟨.map 54 4,1,8,(some (.map none)),false⟩
def ti73:TI:=⟨.slice 54,1,24,(some (.slice none 0 0)),false⟩
def ti83:TI:=⟨.int .u64,1,8,(some (.int .u64 0)),false⟩
def ti89:TI:=⟨.int .i64,1,8,(some (.int .i64 0)),false⟩
def ti97:TI:=⟨.int .u32,1,4,(some (.int .u32 0)),false⟩
def ti99:TI:=⟨.int .u64,1,8,(some (.int .u64 0)),false⟩
def ti108:TI:=⟨.int .u64,1,8,(some (.int .u64 0)),false⟩
def ti112:TI:=⟨.pointer 3,1,8,(some (.pointer none)),false⟩
def ttTr:Tr TI:=(.node none (.node none (.node (some ti3) (.node none (.node none (.node none (.node (some ti63) .nil .nil) .nil) .nil) (.node (some ti23) (.node (some ti39) .nil .nil) .nil)) (.node none (.node none (.node none .nil (.node (some ti99) .nil .nil)) (.node (some ti51) (.node (some ti83) .nil .nil) .nil)) .nil)) (.node (some ti5) (.node (some ti9) (.node none (.node (some ti33) .nil (.node (some ti97) .nil .nil)) .nil) (.node (some ti25) (.node none (.node (some ti73) .nil .nil) .nil) (.node none (.node (some ti89) .nil .nil) .nil))) .nil)) (.node none (.node (some ti4) (.node none (.node none .nil (.node none .nil (.node (some ti112) .nil .nil))) (.node none (.node none (.node (some ti72) .nil .nil) .nil) .nil)) (.node none .nil (.node none (.node none .nil (.node (some ti108) .nil .nil)) (.node (some ti60) .nil .nil)))) (.node none (.node none (.node none (.node none (.node (some ti66) .nil .nil) .nil) .nil) (.node (some ti26) .nil .nil)) (.node none (.node none .nil (.node (some ti54) .nil .nil)) (.node (some ti30) .nil .nil)))))
noncomputable def tt:TT:=ttTr.get
def fnTr:Tr RFn:=(.node none (.node none (.node none (.node none (.node (some ⟨29,c15,[.tmp 2]⟩) (.node (some ⟨15,c31,[.tmp 2,.tmp 3]⟩) (.node (some ⟨6,c63,[.tmp 2]⟩) .nil .nil) (.node (some ⟨41,c95,[.tmp 12]⟩) .nil .nil)) (.node (some ⟨19,c47,[.tmp 2,.tmp 3]⟩) (.node (some ⟨25,c79,[.tmp 2]⟩) .nil .nil) (.node (some ⟨82,c111,[]⟩) .nil .nil))) (.node (some ⟨65,c23,[.tmp 2,.tmp 3]⟩) (.node (some ⟨14,c39,[]⟩) (.node (some ⟨60,c71,[]⟩) .nil .nil) (.node (some ⟨34,c103,[]⟩) .nil .nil)) (.node (some ⟨14,c55,[.tmp 2,.cell 3 54]⟩) (.node (some ⟨84,c87,[.tmp 8]⟩) .nil .nil) .nil))) (.node (some ⟨23,c11,[.tmp 2,.tmp 3]⟩) (.node (some ⟨13,c19,[.tmp 2,.tmp 3]⟩) (.node (some ⟨5,c35,[.tmp 2]⟩) (.node (some ⟨32,c67,[]⟩) .nil .nil) (.node (some ⟨53,c99,[]⟩) .nil .nil)) (.node (some ⟨42,c51,[.tmp 2]⟩) (.node (some ⟨57,c83,[.tmp 6,.tmp 7]⟩) .nil .nil) .nil)) (.node (some ⟨32,c27,[.tmp 2]⟩) (.node (some ⟨11,c43,[]⟩) (.node (some ⟨141,c75,[.tmp 8]⟩) .nil .nil) (.node (some ⟨17,c107,[.tmp 4,.tmp 5]⟩) .nil .nil)) (.node (some ⟨15,c59,[.cell 2 54]⟩) (.node (some ⟨82,c91,[]⟩) .nil .nil) .nil)))) (.node (some ⟨91,c5,[.tmp 2]⟩) (.node (some ⟨13,c9,[.tmp 2,.tmp 3]⟩) (.node (some ⟨42,c17,[.tmp 4]⟩) (.node (some ⟨42,c33,[.tmp 4]⟩) (.node (some ⟨17,c65,[.tmp 2]⟩) .nil .nil) (.node (some ⟨15,c97,[.tmp 6]⟩) .nil .nil)) (.node (some ⟨37,c49,[.tmp 2,.tmp 3]⟩) (.node (some ⟨56,c81,[]⟩) .nil .nil) (.node (some ⟨41,c113,[.tmp 12]⟩) .nil .nil))) (.node (some ⟨15,c25,[.tmp 2,.tmp 3,.tmp 4]⟩) (.node (some ⟨20,c41,[.tmp 4]⟩) (.node (some ⟨63,c73,[.tmp 8,.tmp 9]⟩) .nil .nil) (.node (some ⟨90,c105,[.tmp 10]⟩) .nil .nil)) (.node (some ⟨18,c57,[.tmp 2]⟩) (.node (some ⟨148,c89,[]⟩) .nil .nil) .nil))) (.node (some ⟨17,c13,[.tmp 2]⟩) (.node (some ⟨27,c21,[.tmp 4]⟩) (.node (some ⟨26,c37,[.tmp 4]⟩) (.node (some ⟨27,c69,[.tmp 4]⟩) .nil .nil) (.node (some ⟨67,c101,[]⟩) .nil .nil)) (.node (some ⟨10,c53,[]⟩) (.node (some ⟨133,c85,[.tmp 6]⟩) .nil .nil) .nil)) (.node (some ⟨45,c29,[.tmp 2]⟩) (.node (some ⟨14,c45,[.tmp 2,.tmp 3]⟩) (.node (some ⟨178,c77,[.tmp 10,.tmp 11]⟩) .nil .nil) (.node (some ⟨32,c109,[.tmp 10,.tmp 11]⟩) .nil .nil)) (.node (some ⟨148,c61,[]⟩) (.node (some ⟨33,c93,[.tmp 2]⟩) .nil .nil) .nil))))) (.node none (.node none (.node (some ⟨11,c8,[.tmp 2]⟩) (.node (some ⟨234,c16,[.tmp 0]⟩) (.node (some ⟨58,c32,[]⟩) (.node (some ⟨134,c64,[]⟩) .nil .nil) (.node (some ⟨76,c96,[]⟩) .nil .nil)) (.node (some ⟨13,c48,[.tmp 2,.tmp 3]⟩) (.node (some ⟨49,c80,[]⟩) .nil .nil) (.node (some ⟨18,c112,[.tmp 8]⟩) .nil .nil))) (.node none (.node (some ⟨12,c40,[.tmp 4]⟩) (.node (some ⟨67,c72,[]⟩) .nil .nil) (.node (some ⟨141,c104,[.tmp 8]⟩) .nil .nil)) (.node (some ⟨18,c56,[.tmp 2]⟩) (.node (some ⟨168,c88,[.tmp 8,.tmp 9]⟩) .nil .nil) .nil))) (.node (some ⟨36,c12,[.tmp 4]⟩) (.node (some ⟨12,c20,[.tmp 2,.tmp 3]⟩) (.node (some ⟨51,c36,[.tmp 2]⟩) (.node (some ⟨48,c68,[.tmp 4]⟩) .nil .nil) (.node (some ⟨60,c100,[]⟩) .nil .nil)) (.node (some ⟨10,c52,[]⟩) (.node (some ⟨32,c84,[]⟩) .nil .nil) .nil)) (.node (some ⟨19,c28,[.cell 2 54]⟩) (.node (some ⟨28,c44,[]⟩) (.node (some ⟨90,c76,[.tmp 10]⟩) .nil .nil) (.node (some ⟨51,c108,[.tmp 4,.tmp 5]⟩) .nil .nil)) (.node (some ⟨36,c60,[.tmp 2]⟩) (.node (some ⟨7,c92,[.tmp 2]⟩) .nil .nil) .nil)))) (.node none (.node none (.node none (.node (some ⟨8,c34,[.tmp 2]⟩) (.node (some ⟨14,c66,[]⟩) .nil .nil) (.node (some ⟨36,c98,[.tmp 10]⟩) .nil .nil)) (.node (some ⟨4,c50,[.tmp 2]⟩) (.node (some ⟨65,c82,[]⟩) .nil .nil) (.node (some ⟨32,c114,[.tmp 10,.tmp 11]⟩) .nil .nil))) (.node (some ⟨37,c26,[]⟩) (.node (some ⟨4,c42,[.tmp 2]⟩) (.node (some ⟨34,c74,[]⟩) .nil .nil) (.node (some ⟨178,c106,[.tmp 10,.tmp 11]⟩) .nil .nil)) (.node (some ⟨19,c58,[.tmp 4]⟩) (.node (some ⟨30,c90,[.tmp 4,.tmp 5]⟩) .nil .nil) .nil))) (.node (some ⟨26,c14,[.tmp 4]⟩) (.node (some ⟨21,c22,[.tmp 2]⟩) (.node (some ⟨9,c38,[.tmp 2]⟩) (.node (some ⟨53,c70,[]⟩) .nil .nil) (.node (some ⟨63,c102,[.tmp 8,.tmp 9]⟩) .nil .nil)) (.node (some ⟨17,c54,[]⟩) (.node (some ⟨17,c86,[.tmp 4]⟩) .nil .nil) .nil)) (.node (some ⟨15,c30,[.tmp 6]⟩) (.node (some ⟨44,c46,[.tmp 4,.tmp 5]⟩) (.node (some ⟨19,c78,[.tmp 2]⟩) .nil .nil) (.node (some ⟨28,c110,[.tmp 8,.tmp 9]⟩) .nil .nil)) (.node (some ⟨8,c62,[.tmp 2]⟩) (.node (some ⟨18,c94,[.tmp 8]⟩) .nil .nil) .nil))))))
noncomputable def fns:FuncId→Option RFn:=fnTr.get
end Go.HzS
