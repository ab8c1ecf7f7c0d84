/- Made from wip. -/
import Derived.Test.YtenlanbdolnhhaaSpFramex
import Derived.Test.YtenlanbdolnhhaaRgINodes
import Derived.Test.YtenlanbdolnhhaaSpPurlx
import Derived.KernelRfl

set_option maxRecDepth 100000
namespace Go.RgI
open Go.Sp
def c11:RC:=c11_146
def c14:RC:=
 .seq (.reg [] [
  rq 0 (.assign (kb false)) 4])
 (.seq (.reg [] [
   rq 29 (.buildSlice 22 3 #[(0,(ki 0)),(1,(ki 1)),(2,(ki 3))]) 22,rq 30 (cf 54 #[(ki 7),(tp 29)] #[3,22]) 24,rq 31 (cf 15 #[(tp 30)] #[24]) 28,rq 28 (.move (tp 31)) 28,rq 32 (.extract (tp 28) 0) 22,rq 33 (.extract (tp 28) 1) 27,rq 1 (.assign (tp 32)) 22,rq 2 (.assign (tp 33)) 27])
 (.seq (.reg [] [
   rq 35 (.buildSlice 22 3 #[(0,(ki 0)),(1,(ki 1)),(2,(ki 3))]) 22,rq 36 (cf 54 #[(ki 7),(tp 35)] #[3,22]) 24,rq 37 (cf 27 #[(tp 36)] #[24]) 28,rq 34 (.move (tp 37)) 28,rq 38 (.extract (tp 34) 0) 22,rq 39 (.extract (tp 34) 1) 27,rq 3 (.assign (tp 38)) 22,rq 4 (.assign (tp 39)) 27])
 (.seq (.reg [] [
   rq 41 (.buildSlice 22 3 #[(0,(ki 0)),(1,(ki 1)),(2,(ki 3))]) 22,rq 42 (cf 54 #[(ki 7),(tp 41)] #[3,22]) 24,rq 43 (cf 17 #[(tp 42),(ki (-1))] #[24,3]) 31,rq 40 (.move (tp 43)) 31,rq 44 (.extract (tp 40) 0) 24,rq 45 (.extract (tp 40) 1) 27,rq 5 (.alloc 24) 0,rn (.store 24 (tp 5) (tp 44)) 0,rq 6 (.assign (tp 45)) 27])
 (.seq (.reg [] [
   rq 47 (.buildSlice 22 3 #[(0,(ki 2)),(1,(ki 4)),(2,(ki 5))]) 22,rq 48 (cf 54 #[(ki 7),(tp 47)] #[3,22]) 24,rq 49 (cf 19 #[(tp 48)] #[24]) 31,rq 46 (.move (tp 49)) 31,rq 50 (.extract (tp 46) 0) 24,rq 51 (.extract (tp 46) 1) 27,rq 7 (.alloc 24) 0,rn (.store 24 (tp 7) (tp 50)) 0,rq 8 (.assign (tp 51)) 27])
 (.seq (.reg [] [
   rq 53 (.buildSlice 22 3 #[(0,(ki 0)),(1,(ki 1)),(2,(ki 3))]) 22,rq 54 (cf 54 #[(ki 7),(tp 53)] #[3,22]) 24,rq 55 (.buildSlice 22 3 #[(0,(ki 0)),(1,(ki 2)),(2,(ki 3))]) 22,rq 56 (cf 54 #[(ki 7),(tp 55)] #[3,22]) 24,rq 57 (cf 21 #[(tp 54),(tp 56)] #[24,24]) 37,rq 52 (.move (tp 57)) 37,rq 58 (.extract (tp 52) 0) 3,rq 59 (.extract (tp 52) 1) 4,rq 60 (.extract (tp 52) 2) 27,rq 9 (.assign (tp 58)) 3,rq 10 (.assign (tp 59)) 4,rq 11 (.assign (tp 60)) 27])
 (.seq (.reg [] [
   rq 62 (.buildSlice 22 3 #[(0,(ki 0)),(1,(ki 1)),(2,(ki 3))]) 22,rq 63 (cf 54 #[(ki 7),(tp 62)] #[3,22]) 24,rq 64 (.buildSlice 22 1 #[(0,(ki 1))]) 22,rq 65 (cf 33 #[(tp 63),(tp 64)] #[24,22]) 28,rq 61 (.move (tp 65)) 28,rq 66 (.extract (tp 61) 0) 22,rq 67 (.extract (tp 61) 1) 27,rq 12 (.assign (tp 66)) 22,rq 13 (.assign (tp 67)) 27])
 (.seq (.reg [] [
   rq 69 (.buildSlice 22 2 #[(0,(ki 0)),(1,(ki 4))]) 22,rq 70 (cf 54 #[(ki 8),(tp 69)] #[3,22]) 24,rq 71 (cf 29 #[(tp 70)] #[24]) 45,rq 68 (.move (tp 71)) 45,rq 72 (.extract (tp 68) 0) 3,rq 73 (.extract (tp 68) 1) 27,rq 14 (.assign (tp 72)) 3,rq 15 (.assign (tp 73)) 27])
 (.seq (.reg [] [
   rq 75 (.buildSlice 22 3 #[(0,(ki 0)),(1,(ki 1)),(2,(ki 3))]) 22,rq 76 (cf 54 #[(ki 7),(tp 75)] #[3,22]) 24,rq 77 (cf 31 #[(tp 76)] #[24]) 48,rq 74 (.move (tp 77)) 48,rq 78 (.extract (tp 74) 0) 4,rq 79 (.extract (tp 74) 1) 27,rq 16 (.assign (tp 78)) 4,rq 17 (.assign (tp 79)) 27])
 (.seq (.reg [] [
   rq 81 (cf 35 #[(ki 13),(ki 4)] #[3,3]) 31,rq 80 (.move (tp 81)) 31,rq 82 (.extract (tp 80) 0) 24,rq 83 (.extract (tp 80) 1) 27,rq 18 (.alloc 24) 0,rn (.store 24 (tp 18) (tp 82)) 0,rq 19 (.assign (tp 83)) 27])
 (.seq (.reg [] [
   rq 85 (.buildSlice 22 6 #[(0,(ki 1)),(1,(ki 1)),(2,(ki 1)),(3,(ki 1)),(4,(ki 1)),(5,(ki 1))]) 22,rq 86 (cf 55 #[(tp 85)] #[22]) 22,rq 87 (cf 37 #[(ki 7),(tp 86)] #[3,22]) 57,rq 84 (.move (tp 87)) 57,rq 88 (.extract (tp 84) 0) 56,rq 89 (.extract (tp 84) 1) 27,rq 20 (.assign (tp 88)) 56,rq 21 (.assign (tp 89)) 27])
 (.seq (.reg [] [
   rq 91 (.buildSlice 22 3 #[(0,(ki 0)),(1,(ki 1)),(2,(ki 3))]) 22,rq 92 (cf 54 #[(ki 7),(tp 91)] #[3,22]) 24,rq 93 (cf 40 #[(tp 92),(ki 3)] #[24,3]) 31,rq 90 (.move (tp 93)) 31,rq 94 (.extract (tp 90) 0) 24,rq 95 (.extract (tp 90) 1) 27,rq 22 (.alloc 24) 0,rn (.store 24 (tp 22) (tp 94)) 0,rq 23 (.assign (tp 95)) 27])
 (.seq (.reg [] [
   rq 97 (.buildSlice 22 3 #[(0,(ki 0)),(1,(ki 1)),(2,(ki 3))]) 22,rq 98 (cf 54 #[(ki 7),(tp 97)] #[3,22]) 24,rq 99 (cf 42 #[(tp 98)] #[24]) 28,rq 96 (.move (tp 99)) 28,rq 100 (.extract (tp 96) 0) 22,rq 101 (.extract (tp 96) 1) 27,rq 24 (.assign (tp 100)) 22,rq 25 (.assign (tp 101)) 27])
 (.seq (.reg [] [
   rq 103 (.buildSlice 22 2 #[(0,(ki 0)),(1,(ki 1))]) 22,rq 104 (cf 54 #[(ki 8),(tp 103)] #[3,22]) 24,rq 105 (cf 44 #[(tp 104)] #[24]) 28,rq 102 (.move (tp 105)) 28,rq 106 (.extract (tp 102) 0) 22,rq 107 (.extract (tp 102) 1) 27,rq 26 (.assign (tp 106)) 22,rq 27 (.assign (tp 107)) 27])
 (.seq (.seq (.reg [] [
   rq 108 (.move (tp 2)) 27,rq 109 (.binOp .neq 27 (tp 108) (ki 0) 27) 4,rq 110 (.move (tp 109)) 4,rg 111 (.move (tp 4)) 27 110 false,rg 112 (.binOp .neq 27 (tp 111) (ki 0) 27) 4 110 false,rq 113 (.pick (tp 110) (kb true) (tp 112)) 4,rq 114 (.move (tp 113)) 4,rg 115 (.move (tp 6)) 27 114 false,rg 116 (.binOp .neq 27 (tp 115) (ki 0) 27) 4 114 false,rq 117 (.pick (tp 114) (kb true) (tp 116)) 4,rq 118 (.move (tp 117)) 4,rg 119 (.move (tp 8)) 27 118 false,rg 120 (.binOp .neq 27 (tp 119) (ki 0) 27) 4 118 false,rq 121 (.pick (tp 118) (kb true) (tp 120)) 4,rq 122 (.move (tp 121)) 4,rg 123 (.move (tp 11)) 27 122 false,rg 124 (.binOp .neq 27 (tp 123) (ki 0) 27) 4 122 false,rq 125 (.pick (tp 122) (kb true) (tp 124)) 4,rq 126 (.move (tp 125)) 4,rg 127 (.move (tp 13)) 27 126 false,rg 128 (.binOp .neq 27 (tp 127) (ki 0) 27) 4 126 false,rq 129 (.pick (tp 126) (kb true) (tp 128)) 4,rq 130 (.move (tp 129)) 4,rg 131 (.move (tp 15)) 27 130 false,rg 132 (.binOp .neq 27 (tp 131) (ki 13) 27) 4 130 false,rq 133 (.pick (tp 130) (kb true) (tp 132)) 4,rq 134 (.move (tp 133)) 4,rg 135 (.move (tp 17)) 27 134 false,rg 136 (.binOp .neq 27 (tp 135) (ki 0) 27) 4 134 false,rq 137 (.pick (tp 134) (kb true) (tp 136)) 4,rq 138 (.move (tp 137)) 4,rg 139 (.move (tp 19)) 27 138 false,rg 140 (.binOp .neq 27 (tp 139) (ki 0) 27) 4 138 false,rq 141 (.pick (tp 138) (kb true) (tp 140)) 4,rq 142 (.move (tp 141)) 4,rg 143 (.move (tp 21)) 27 142 false,rg 144 (.binOp .neq 27 (tp 143) (ki 0) 27) 4 142 false,rq 145 (.pick (tp 142) (kb true) (tp 144)) 4,rq 146 (.move (tp 145)) 4,rg 147 (.move (tp 23)) 27 146 false,rg 148 (.binOp .neq 27 (tp 147) (ki 0) 27) 4 146 false,rq 149 (.pick (tp 146) (kb true) (tp 148)) 4,rq 150 (.move (tp 149)) 4,rg 151 (.move (tp 25)) 27 150 false,rg 152 (.binOp .neq 27 (tp 151) (ki 0) 27) 4 150 false,rq 153 (.pick (tp 150) (kb true) (tp 152)) 4,rq 154 (.move (tp 153)) 4,rg 155 (.move (tp 27)) 27 154 false,rg 156 (.binOp .neq 27 (tp 155) (ki 0) 27) 4 154 false,rq 157 (.pick (tp 154) (kb true) (tp 156)) 4])
 (.cond (tp 157) (.seq (.reg [] [
   rq 0 (.assign (kb false)) 4])
  (.ret))
 (.skip)))
 (.seq (.reg [] [
   rq 159 (.buildSlice 22 3 #[(0,(ki 0)),(1,(ki 1)),(2,(ki 3))]) 22,rq 160 (cf 54 #[(ki 7),(tp 159)] #[3,22]) 24,rq 161 (.buildSlice 22 3 #[(0,(ki 0)),(1,(ki 1)),(2,(ki 2))]) 22,rq 162 (cf 54 #[(ki 7),(tp 161)] #[3,22]) 24,rq 163 (cf 21 #[(tp 160),(tp 162)] #[24,24]) 37,rq 158 (.move (tp 163)) 37,rq 164 (.extract (tp 158) 0) 3,rq 165 (.extract (tp 158) 1) 4,rq 166 (.extract (tp 158) 2) 27,rq 2 (.assign (tp 166)) 27])
 (.seq (.reg [] [
   rq 168 (cf 35 #[(ki 7),(ki 2)] #[3,3]) 31,rq 167 (.move (tp 168)) 31,rq 169 (.extract (tp 167) 0) 24,rq 170 (.extract (tp 167) 1) 27,rq 4 (.assign (tp 170)) 27])
 (.seq (.reg [] [
   rq 172 (.buildSlice 22 3 #[(0,(ki 0)),(1,(ki 1)),(2,(ki 3))]) 22,rq 173 (cf 54 #[(ki 7),(tp 172)] #[3,22]) 24,rq 174 (cf 40 #[(tp 173),(ki 7)] #[24,3]) 31,rq 171 (.move (tp 174)) 31,rq 175 (.extract (tp 171) 0) 24,rq 176 (.extract (tp 171) 1) 27,rq 6 (.assign (tp 176)) 27])
 (.seq (.reg [] [
   rq 177 (.move (tp 2)) 27,rq 178 (.binOp .eql 27 (tp 177) (ki 12) 27) 4,rq 179 (.move (tp 178)) 4,rg 180 (.move (tp 4)) 27 179 true,rg 181 (.binOp .eql 27 (tp 180) (ki 12) 27) 4 179 true,rq 182 (.pick (tp 179) (tp 181) (kb false)) 4,rq 183 (.move (tp 182)) 4,rg 184 (.move (tp 6)) 27 183 true,rg 185 (.binOp .eql 27 (tp 184) (ki 13) 27) 4 183 true,rq 186 (.pick (tp 183) (tp 185) (kb false)) 4,rq 187 (.move (tp 186)) 4,rg 188 (.move (tp 1)) 22 187 true,rg 189 (.buildSlice 22 3 #[(0,(ki 1)),(1,(ki 2)),(2,(ki 4))]) 22 187 true,rg 190 (cf 55 #[(tp 189)] #[22]) 22 187 true,rg 191 (cf 23 #[(tp 188),(tp 190)] #[22,22]) 4 187 true,rq 192 (.pick (tp 187) (tp 191) (kb false)) 4,rq 193 (.move (tp 192)) 4,rg 194 (.move (tp 3)) 22 193 true,rg 195 (.buildSlice 22 6 #[(0,(ki 1)),(1,(ki 1)),(2,(ki 1)),(3,(ki 1)),(4,(ki 1)),(5,(ki 1))]) 22 193 true,rg 196 (cf 55 #[(tp 195)] #[22]) 22 193 true,rg 197 (cf 23 #[(tp 194),(tp 196)] #[22,22]) 4 193 true,rq 198 (.pick (tp 193) (tp 197) (kb false)) 4,rq 199 (.move (tp 198)) 4,rg 200 (.load 24 (tp 5)) 24 199 true,rg 201 (.buildSlice 22 3 #[(0,(ki 0)),(1,(ki 2)),(2,(ki 6))]) 22 199 true,rg 202 (cf 56 #[(tp 200),(ki 7),(tp 201)] #[24,3,22]) 4 199 true,rq 203 (.pick (tp 199) (tp 202) (kb false)) 4,rq 204 (.move (tp 203)) 4,rg 205 (.load 24 (tp 7)) 24 204 true,rg 206 (.buildSlice 22 3 #[(0,(ki 0)),(1,(ki 1)),(2,(ki 5))]) 22 204 true,rg 207 (cf 56 #[(tp 205),(ki 7),(tp 206)] #[24,3,22]) 4 204 true,rq 208 (.pick (tp 204) (tp 207) (kb false)) 4,rq 209 (.move (tp 208)) 4,rg 210 (.move (tp 9)) 3 209 true,rg 211 (.binOp .eql 3 (tp 210) (ki 3) 3) 4 209 true,rq 212 (.pick (tp 209) (tp 211) (kb false)) 4,rq 213 (.move (tp 212)) 4,rg 214 (.move (tp 10)) 4 213 true,rq 215 (.pick (tp 213) (tp 214) (kb false)) 4,rq 216 (.move (tp 215)) 4,rg 217 (.move (tp 12)) 22 216 true,rg 218 (.buildSlice 22 1 #[(0,(ki 1))]) 22 216 true,rg 219 (cf 55 #[(tp 218)] #[22]) 22 216 true,rg 220 (cf 23 #[(tp 217),(tp 219)] #[22,22]) 4 216 true,rq 221 (.pick (tp 216) (tp 220) (kb false)) 4,rq 222 (.move (tp 221)) 4,rg 223 (.move (tp 14)) 3 222 true,rg 224 (.binOp .eql 3 (tp 223) (ki 4) 3) 4 222 true,rq 225 (.pick (tp 222) (tp 224) (kb false)) 4,rq 226 (.move (tp 225)) 4,rg 227 (.move (tp 16)) 4 226 true,rq 228 (.pick (tp 226) (tp 227) (kb false)) 4,rq 229 (.move (tp 228)) 4,rg 230 (.load 24 (tp 18)) 24 229 true,rg 231 (.buildSlice 22 4 #[(0,(ki 0)),(1,(ki 1)),(2,(ki 3)),(3,(ki 9))]) 22 229 true,rg 232 (cf 56 #[(tp 230),(ki 13),(tp 231)] #[24,3,22]) 4 229 true,rq 233 (.pick (tp 229) (tp 232) (kb false)) 4,rq 234 (.move (tp 233)) 4,rg 235 (.move (tp 20)) 56 234 true,rg 236 (.buildSlice 22 3 #[(0,(ki 0)),(1,(ki 1)),(2,(ki 3))]) 22 234 true,rg 237 (cf 55 #[(tp 236)] #[22]) 22 234 true,rg 238 (.build 26 #[(0,(ki 7)),(1,(tp 237))]) 26 234 true,rg 239 (.buildSlice 22 3 #[(0,(ki 0)),(1,(ki 1)),(2,(ki 5))]) 22 234 true,rg 240 (cf 55 #[(tp 239)] #[22]) 22 234 true,rg 241 (.build 26 #[(0,(ki 7)),(1,(tp 240))]) 26 234 true,rg 242 (.buildSlice 59 2 #[(0,(tp 238)),(1,(tp 241))]) 59 234 true,rg 243 (cf 39 #[(tp 235),(tp 242)] #[56,59]) 4 234 true,rq 244 (.pick (tp 234) (tp 243) (kb false)) 4,rq 245 (.move (tp 244)) 4,rg 246 (.load 24 (tp 22)) 24 245 true,rg 247 (.buildSlice 22 3 #[(0,(ki 0)),(1,(ki 2)),(2,(ki 3))]) 22 245 true,rg 248 (cf 56 #[(tp 246),(ki 7),(tp 247)] #[24,3,22]) 4 245 true,rq 249 (.pick (tp 245) (tp 248) (kb false)) 4,rq 250 (.move (tp 249)) 4,rg 251 (.move (tp 24)) 22 250 true,rg 252 (.buildSlice 22 3 #[(0,(ki 1)),(1,(ki 2)),(2,(ki 4))]) 22 250 true,rg 253 (cf 55 #[(tp 252)] #[22]) 22 250 true,rg 254 (cf 23 #[(tp 251),(tp 253)] #[22,22]) 4 250 true,rq 255 (.pick (tp 250) (tp 254) (kb false)) 4,rq 256 (.move (tp 255)) 4,rg 257 (.move (tp 26)) 22 256 true,rg 258 (.buildSlice 22 2 #[(0,(ki 3)),(1,(ki 6))]) 22 256 true,rg 259 (cf 55 #[(tp 258)] #[22]) 22 256 true,rg 260 (cf 23 #[(tp 257),(tp 259)] #[22,22]) 4 256 true,rq 261 (.pick (tp 256) (tp 260) (kb false)) 4,rq 0 (.assign (tp 261)) 4])
 (.ret)))))))))))))))))))
def c15:RC:=c15_36
def c17:RC:=
 .seq (.reg [] [
  rq 2 (.box 24 (tp 0)) 0,rq 4 (.alloc 24) 0,rq 5 (.assign (ki 0)) 27])
 (.seq (.reg [] [
   rq 9 (.load 24 (tp 2)) 24,rq 10 (cf 61 #[(tp 9)] #[24]) 93,rq 8 (.move (tp 10)) 93,rq 11 (.extract (tp 8) 0) 92,rq 12 (.extract (tp 8) 1) 27,rq 6 (.alloc 92) 0,rn (.store 92 (tp 6) (tp 11)) 0,rq 7 (.assign (tp 12)) 27])
 (.seq (.seq (.reg [] [
   rq 13 (.move (tp 7)) 27,rq 14 (.binOp .neq 27 (tp 13) (ki 0) 27) 4])
 (.cond (tp 14) (.seq (.reg [] [
   rq 15 (.build 24 #[]) 24,
   rq 16 (.move (tp 7)) 27,
   rn (.store 24 (tp 4) (tp 15)) 0,
   rq 5 (.assign (tp 16)) 27])
  (.ret))
 (.skip)))
 (.seq (.reg [0, 1, 2, 3, 4, 5, 6, 7] [
   rq 17 (.load 92 (tp 6)) 92,rq 18 (.load 92 (tp 6)) 92,rq 19 (.move (tp 1)) 3,
   ⟨(some 20),cf 62 #[(tp 18),(tp 19)] #[92,3],3,none,[(tp 6)]⟩,rq 21 (cf 65 #[(tp 17),(tp 20)] #[92,3]) 92,rq 22 (cf 66 #[(tp 21)] #[92]) 24,rn (.store 24 (tp 4) (tp 22)) 0,rq 5 (.assign (ki 0)) 27])
 (.ret))))
def c19:RC:=
 .seq (.reg [] [
  rq 1 (.box 24 (tp 0)) 0,rq 2 (.alloc 24) 0,rq 3 (.assign (ki 0)) 27])
 (.seq (.reg [] [
   rq 7 (.load 24 (tp 1)) 24,rq 8 (cf 61 #[(tp 7)] #[24]) 93,rq 6 (.move (tp 8)) 93,rq 9 (.extract (tp 6) 0) 92,rq 10 (.extract (tp 6) 1) 27,rq 4 (.alloc 92) 0,rn (.store 92 (tp 4) (tp 9)) 0,rq 5 (.assign (tp 10)) 27])
 (.seq (.seq (.reg [] [
   rq 11 (.move (tp 5)) 27,rq 12 (.binOp .neq 27 (tp 11) (ki 0) 27) 4])
 (.cond (tp 12) (.seq (.reg [] [
   rq 13 (.build 24 #[]) 24,
   rq 14 (.move (tp 5)) 27,
   rn (.store 24 (tp 2) (tp 13)) 0,
   rq 3 (.assign (tp 14)) 27])
  (.ret))
 (.skip)))
 (.seq (.reg [] [
   rq 15 (.load 92 (tp 4)) 92,rq 16 (cf 68 #[(tp 15)] #[92]) 92,rq 17 (cf 66 #[(tp 16)] #[92]) 24,rn (.store 24 (tp 2) (tp 17)) 0,rq 3 (.assign (ki 0)) 27])
 (.ret))))
def c21:RC:=c21_41
def c23:RC:=c23_26
def c24:RC:=
 .seq (.reg [] [
  rq 2 (.box 24 (tp 0)) 0,rq 3 (.box 26 (tp 1)) 0,rq 4 (.assign (kb false)) 4])
 (.seq (.reg [] [
   rq 5 (.fieldAddr 24 (tp 2) 0) 0,rq 6 (.load 3 (tp 5)) 3,rq 7 (.fieldAddr 26 (tp 3) 0) 0,rq 8 (.load 3 (tp 7)) 3,rq 9 (.binOp .eql 3 (tp 6) (tp 8) 3) 4,rq 10 (.move (tp 9)) 4,rg 11 (.fieldAddr 24 (tp 2) 1) 0 10 true,rg 12 (.load 22 (tp 11)) 22 10 true,rg 13 (.fieldAddr 26 (tp 3) 1) 0 10 true,rg 14 (.load 22 (tp 13)) 22 10 true,rg 15 (cf 23 #[(tp 12),(tp 14)] #[22,22]) 4 10 true,rq 16 (.pick (tp 10) (tp 15) (kb false)) 4,rq 4 (.assign (tp 16)) 4])
 (.ret))
def c25:RC:=c25_44
def c27:RC:=
 .seq (.reg [] [
  rq 1 (.box 24 (tp 0)) 0,rq 2 (.assign (.const (.slice none 0 0))) 22,rq 3 (.assign (ki 0)) 27])
 (.seq (.reg [] [
   rq 7 (.load 24 (tp 1)) 24,rq 8 (cf 61 #[(tp 7)] #[24]) 93,rq 6 (.move (tp 8)) 93,rq 9 (.extract (tp 6) 0) 92,rq 10 (.extract (tp 6) 1) 27,rq 4 (.alloc 92) 0,rn (.store 92 (tp 4) (tp 9)) 0,rq 5 (.assign (tp 10)) 27])
 (.seq (.seq (.reg [] [
   rq 11 (.move (tp 5)) 27,rq 12 (.binOp .neq 27 (tp 11) (ki 0) 27) 4])
 (.cond (tp 12) (.seq (.reg [] [
   rq 13 (.move (tp 5)) 27,
   rq 2 (.assign (.const (.slice none 0 0))) 22,
   rq 3 (.assign (tp 13)) 27])
  (.ret))
 (.skip)))
 (.seq (.reg [] [
   rq 14 (.load 92 (tp 4)) 92,rq 15 (cf 74 #[(tp 14)] #[92]) 22,rq 2 (.assign (tp 15)) 22,rq 3 (.assign (ki 0)) 27])
 (.ret))))
def c29:RC:=
 .seq (.reg [] [
  rq 1 (.box 24 (tp 0)) 0,rq 2 (.assign (ki 0)) 3,rq 3 (.assign (ki 0)) 27])
 (.seq (.reg [] [
   rq 7 (.load 24 (tp 1)) 24,rq 8 (cf 61 #[(tp 7)] #[24]) 93,rq 6 (.move (tp 8)) 93,rq 9 (.extract (tp 6) 0) 92,rq 10 (.extract (tp 6) 1) 27,rq 4 (.alloc 92) 0,rn (.store 92 (tp 4) (tp 9)) 0,rq 3 (.assign (tp 10)) 27])
 (.seq (.seq (.reg [] [
   rq 11 (.move (tp 3)) 27,rq 12 (.binOp .neq 27 (tp 11) (ki 0) 27) 4])
 (.cond (tp 12) (.seq (.reg [] [
   rq 13 (.move (tp 3)) 27,
   rq 2 (.assign (ki 0)) 3,
   rq 3 (.assign (tp 13)) 27])
  (.ret))
 (.skip)))
 (.seq (.seq (.reg [] [
   rq 14 (.load 92 (tp 4)) 92,rq 15 (cf 76 #[(tp 14)] #[92]) 3,rq 5 (.assign (tp 15)) 3])
 (.seq (.reg [] [
   rq 16 (.move (tp 5)) 3,rq 17 (.binOp .gtr 3 (tp 16) (ki 0) 3) 4])
 (.cond (tp 17) (.seq (.reg [] [
   rq 18 (.move (tp 5)) 3,
   rq 2 (.assign (tp 18)) 3,
   rq 3 (.assign (ki 13)) 27])
  (.ret))
 (.skip))))
 (.seq (.reg [] [
   rq 2 (.assign (ki 0)) 3,rq 3 (.assign (ki 0)) 27])
 (.ret)))))
def c31:RC:=
 .seq (.reg [] [
  rq 1 (.box 24 (tp 0)) 0,rq 2 (.assign (kb false)) 4,rq 3 (.assign (ki 0)) 27])
 (.seq (.reg [] [
   rq 7 (.load 24 (tp 1)) 24,rq 8 (cf 61 #[(tp 7)] #[24]) 93,rq 6 (.move (tp 8)) 93,rq 9 (.extract (tp 6) 0) 92,rq 10 (.extract (tp 6) 1) 27,rq 4 (.alloc 92) 0,rn (.store 92 (tp 4) (tp 9)) 0,rq 5 (.assign (tp 10)) 27])
 (.seq (.seq (.reg [] [
   rq 11 (.move (tp 5)) 27,rq 12 (.binOp .neq 27 (tp 11) (ki 0) 27) 4])
 (.cond (tp 12) (.seq (.reg [] [
   rq 13 (.move (tp 5)) 27,
   rq 2 (.assign (kb false)) 4,
   rq 3 (.assign (tp 13)) 27])
  (.ret))
 (.skip)))
 (.seq (.reg [] [
   rq 14 (.load 92 (tp 4)) 92,rq 15 (cf 78 #[(tp 14)] #[92]) 4,rq 2 (.assign (tp 15)) 4,rq 3 (.assign (ki 0)) 27])
 (.ret))))
def c33:RC:=
 .seq (.reg [] [
  rq 2 (.box 24 (tp 0)) 0,rq 4 (.assign (.const (.slice none 0 0))) 22,rq 5 (.assign (ki 0)) 27])
 (.seq (.reg [] [
   rq 12 (.load 24 (tp 2)) 24,rq 13 (cf 61 #[(tp 12)] #[24]) 93,rq 11 (.move (tp 13)) 93,rq 14 (.extract (tp 11) 0) 92,rq 15 (.extract (tp 11) 1) 27,rq 6 (.alloc 92) 0,rn (.store 92 (tp 6) (tp 14)) 0,rq 7 (.assign (tp 15)) 27])
 (.seq (.seq (.reg [] [
   rq 16 (.move (tp 7)) 27,rq 17 (.binOp .neq 27 (tp 16) (ki 0) 27) 4])
 (.cond (tp 17) (.seq (.reg [] [
   rq 18 (.move (tp 7)) 27,
   rq 4 (.assign (.const (.slice none 0 0))) 22,
   rq 5 (.assign (tp 18)) 27])
  (.ret))
 (.skip)))
 (.seq (.reg [] [
   rq 19 (.load 92 (tp 6)) 92,rq 8 (.alloc 92) 0,rn (.store 92 (tp 8) (tp 19)) 0])
 (.seq (.seq (.reg [] [
   rq 20 (.move (tp 1)) 22,rq 21 (cb .len #[(tp 20)] #[22]) 3,rq 22 (.move (ki 0)) 3])
 (.block 0 (.loop (.seq (.reg [] [
   rq 23 (.binOp .lss 3 (tp 22) (tp 21) 3) 0])
   (.seq (.cond (tp 23) (.skip)
   (.exit 0))
   (.seq (.block 1 (.seq (.reg [] [
     rq 24 (.indexAddr 22 (tp 20) (tp 22)) 0,
     rq 25 (.load 3 (tp 24)) 3,
     rq 10 (.assign (tp 25)) 3])
    (.reg [0, 1, 2, 3, 4, 5, 6, 7, 8, 9, 10] [
      rq 26 (.fieldAddr 92 (tp 8) 1) 0,
      rq 27 (.load 65 (tp 26)) 65,
      rq 28 (.load 92 (tp 6)) 92,
      rq 29 (.load 92 (tp 6)) 92,
      rq 30 (.move (tp 10)) 3,
      ⟨(some 31),cf 62 #[(tp 29),(tp 30)] #[92,3],3,none,[(tp 6),(tp 26)]⟩,
      ⟨(some 32),cf 65 #[(tp 28),(tp 31)] #[92,3],92,none,[(tp 26)]⟩,
      rq 33 (.field 92 (tp 32) 1) 65,
      rq 34 (.binOp .and 65 (tp 27) (tp 33) 65) 65,
      rq 35 (.fieldAddr 92 (tp 8) 1) 0,
      rn (.store 65 (tp 35) (tp 34)) 0])))
   (.reg [] [
     rq 36 (.binOp .add 3 (tp 22) (ki 1) 3) 3,
     rq 22 (.move (tp 36)) 3])))))))
 (.seq (.reg [] [
   rq 37 (.load 92 (tp 8)) 92,rq 38 (cf 80 #[(tp 37)] #[92]) 22,rq 4 (.assign (tp 38)) 22,rq 5 (.assign (ki 0)) 27])
 (.ret))))))
def c35:RC:=
 .seq (.reg [] [
  rq 4 (.alloc 24) 0,rq 5 (.assign (ki 0)) 27])
 (.seq (.seq (.reg [] [
   rq 8 (.move (tp 0)) 3,rq 9 (.binOp .lss 3 (tp 8) (ki 1) 3) 4,rq 10 (.move (tp 9)) 4,rg 11 (.move (tp 0)) 3 10 false,rg 12 (.binOp .gtr 3 (tp 11) (ki 21) 3) 4 10 false,rq 13 (.pick (tp 10) (kb true) (tp 12)) 4,rq 14 (.move (tp 13)) 4,rg 15 (.move (tp 1)) 3 14 false,rg 16 (.binOp .lss 3 (tp 15) (ki 0) 3) 4 14 false,rq 17 (.pick (tp 14) (kb true) (tp 16)) 4,rq 18 (.move (tp 17)) 4,rg 19 (.move (tp 1)) 3 18 false,rg 20 (.binOp .gtr 3 (tp 19) (ki 6) 3) 4 18 false,rq 21 (.pick (tp 18) (kb true) (tp 20)) 4])
 (.cond (tp 21) (.seq (.reg [] [
   rq 22 (.build 24 #[]) 24,
   rn (.store 24 (tp 4) (tp 22)) 0,
   rq 5 (.assign (ki 1)) 27])
  (.ret))
 (.skip)))
 (.seq (.reg [] [
   rq 23 (.build 24 #[]) 24,rq 6 (.alloc 24) 0,rq 7 (.alloc 27) 0,rn (.store 24 (tp 6) (tp 23)) 0,rn (.store 27 (tp 7) (ki 12)) 0])
 (.seq (.seq (.reg [] [
   rq 24 (.move (tp 1)) 3,rq 25 (.move (tp 1)) 3,rq 26 (.binOp .sub 3 (tp 25) (ki 1) 3) 3,rq 27 (.binOp .mul 3 (tp 24) (tp 26) 3) 3,rq 28 (.move (tp 0)) 3,rq 29 (.binOp .sub 3 (tp 28) (ki 1) 3) 3,rq 30 (.binOp .neq 3 (tp 27) (tp 29) 3) 4])
 (.cond (tp 30) (.seq (.reg [0, 1, 2, 3] [
   rq 31 (.load 24 (tp 6)) 24,
   rq 32 (.load 27 (tp 7)) 27,
   ⟨none,.store 24 (tp 4) (tp 31),0,none,[(tp 7)]⟩,
   rq 5 (.assign (tp 32)) 27])
  (.ret))
 (.skip)))
 (.seq (.reg [] [
   rq 33 (.move (tp 0)) 3,rq 34 (.build 92 #[(0,(tp 33))]) 92,rq 35 (.move (tp 1)) 3,rq 36 (.makeFunc (.func 83) #[] #[(tp 6),(tp 7)]) 112,rq 37 (cf 81 #[(tp 34),(ki 0),(tp 35),(.func 82),(tp 36)] #[92,3,3,112,112]) 4])
 (.seq (.reg [0, 1, 2, 3] [
   rq 38 (.load 24 (tp 6)) 24,rq 39 (.load 27 (tp 7)) 27,⟨none,.store 24 (tp 4) (tp 38),0,none,[(tp 7)]⟩,rq 5 (.assign (tp 39)) 27])
 (.ret))))))
def c37:RC:=
 .seq (.reg [] [
  rq 3 (.box 22 (tp 1)) 0,rq 4 (.assign (.const (.slice none 0 0))) 56,rq 5 (.assign (ki 0)) 27])
 (.seq (.block 0 (.seq (.reg [] [
   rq 13 (.move (tp 0)) 3,
   rq 14 (.binOp .lss 3 (tp 13) (ki 1) 3) 4,
   rq 15 (.move (tp 14)) 4,
   rg 16 (.move (tp 0)) 3 15 false,
   rg 17 (.binOp .gtr 3 (tp 16) (ki 21) 3) 4 15 false,
   rq 18 (.pick (tp 15) (kb true) (tp 17)) 4,
   rq 12 (.assign (tp 18)) 4])
  (.cond (tp 12) (.seq (.reg [] [
    rq 4 (.assign (.const (.slice none 0 0))) 56,
    rq 5 (.assign (ki 1)) 27])
   (.ret))
  (.seq (.reg [] [
    rq 20 (.load 22 (tp 3)) 22,
    rq 21 (cb .len #[(tp 20)] #[22]) 3,
    rq 22 (.move (tp 0)) 3,
    rq 23 (.binOp .sub 3 (tp 22) (ki 1) 3) 3,
    rq 24 (.binOp .neq 3 (tp 21) (tp 23) 3) 4,
    rq 19 (.assign (tp 24)) 4])
   (.cond (tp 19) (.seq (.reg [] [
     rq 4 (.assign (.const (.slice none 0 0))) 56,
     rq 5 (.assign (ki 5)) 27])
    (.ret))
   (.skip))))))
 (.seq (.reg [] [
   rq 6 (.assign (ki 0)) 3])
 (.seq (.seq (.reg [] [
   rq 25 (.load 22 (tp 3)) 22,rq 26 (cb .len #[(tp 25)] #[22]) 3,rq 27 (.move (ki 0)) 3])
 (.block 1 (.loop (.seq (.reg [] [
   rq 28 (.binOp .lss 3 (tp 27) (tp 26) 3) 0])
   (.seq (.cond (tp 28) (.skip)
   (.exit 1))
   (.seq (.block 2 (.seq (.reg [] [
     rq 29 (.indexAddr 22 (tp 25) (tp 27)) 0,
     rq 30 (.load 3 (tp 29)) 3,
     rq 8 (.assign (tp 30)) 3])
    (.seq (.seq (.reg [] [
      rq 31 (.move (tp 8)) 3,
      rq 32 (.binOp .lss 3 (tp 31) (ki 0) 3) 4,
      rq 33 (.move (tp 32)) 4,
      rg 34 (.move (tp 8)) 3 33 false,
      rg 35 (.binOp .gtr 3 (tp 34) (ki 6) 3) 4 33 false,
      rq 36 (.pick (tp 33) (kb true) (tp 35)) 4])
    (.cond (tp 36) (.seq (.reg [] [
      rq 4 (.assign (.const (.slice none 0 0))) 56,
      rq 5 (.assign (ki 1)) 27])
     (.ret))
    (.skip)))
    (.reg [] [
      rq 37 (.move (tp 6)) 3,
      rq 38 (.move (tp 8)) 3,
      rq 39 (.binOp .add 3 (tp 37) (tp 38) 3) 3,
      rq 6 (.assign (tp 39)) 3]))))
   (.reg [] [
     rq 40 (.binOp .add 3 (tp 27) (ki 1) 3) 3,
     rq 27 (.move (tp 40)) 3])))))))
 (.seq (.reg [] [
   rq 41 (.makeFunc (.func 85) #[] #[(tp 3)]) 112,rq 9 (.assign (tp 41)) 112])
 (.seq (.reg [] [
   rq 10 (.alloc 56) 0])
 (.seq (.seq (.reg [] [
   rq 42 (.move (tp 0)) 3,rq 43 (cb .min #[(ki 6),(tp 42)] #[3,3]) 3,rq 44 (.binOp .add 3 (tp 43) (ki 1) 3) 3,rq 45 (.move (ki 0)) 3])
 (.block 3 (.loop (.seq (.reg [] [
   rq 46 (.binOp .lss 3 (tp 45) (tp 44) 3) 4])
   (.seq (.cond (tp 46) (.skip)
   (.exit 3))
   (.seq (.block 4 (.seq (.reg [] [
     rq 47 (.move (tp 45)) 3,
     rq 11 (.assign (tp 47)) 3])
    (.seq (.reg [] [
      rq 48 (.move (tp 11)) 3,
      rq 49 (.move (tp 11)) 3,
      rq 50 (.binOp .sub 3 (tp 49) (ki 1) 3) 3,
      rq 51 (.binOp .mul 3 (tp 48) (tp 50) 3) 3,
      rq 52 (.move (tp 6)) 3,
      rq 53 (.binOp .eql 3 (tp 51) (tp 52) 3) 4])
    (.cond (tp 53) (.reg [] [
      rq 54 (.move (tp 0)) 3,
      rq 55 (.build 92 #[(0,(tp 54))]) 92,
      rq 56 (.move (tp 11)) 3,
      rq 57 (.move (tp 9)) 112,
      rq 58 (.makeFunc (.func 87) #[] #[(tp 3),(tp 10)]) 112,
      rq 59 (cf 81 #[(tp 55),(ki 0),(tp 56),(tp 57),(tp 58)] #[92,3,3,112,112]) 4])
    (.skip)))))
   (.reg [] [
     rq 60 (.binOp .add 3 (tp 45) (ki 1) 3) 3,
     rq 45 (.move (tp 60)) 3])))))))
 (.seq (.reg [] [
   rq 61 (.load 56 (tp 10)) 56,rq 4 (.assign (tp 61)) 56,rq 5 (.assign (ki 0)) 27])
 (.ret))))))))
def c39:RC:=
 .seq (.reg [] [
  rq 4 (.assign (kb false)) 4])
 (.seq (.seq (.reg [] [
   rq 6 (.move (tp 0)) 56,rq 7 (cb .len #[(tp 6)] #[56]) 3,rq 8 (.move (tp 1)) 59,rq 9 (cb .len #[(tp 8)] #[59]) 3,rq 10 (.binOp .neq 3 (tp 7) (tp 9) 3) 4])
 (.cond (tp 10) (.seq (.reg [] [
   rq 4 (.assign (kb false)) 4])
  (.ret))
 (.skip)))
 (.seq (.seq (.reg [] [
   rq 5 (.assign (ki 0)) 3])
 (.block 0 (.loop (.seq (.seq (.reg [] [
   rq 11 (.move (tp 5)) 3,
   rq 12 (.move (tp 0)) 56,
   rq 13 (cb .len #[(tp 12)] #[56]) 3,
   rq 14 (.binOp .lss 3 (tp 11) (tp 13) 3) 4])
   (.cond (tp 14) (.skip)
   (.exit 0)))
   (.seq (.block 1 (.seq (.reg [0, 1, 2, 3, 4, 5, 6, 7, 8, 9] [
     rq 17 (.move (tp 0)) 56,
     rq 18 (.move (tp 5)) 3,
     rq 19 (.indexAddr 56 (tp 17) (tp 18)) 0,
     rq 20 (.load 24 (tp 19)) 24,
     rq 21 (.move (tp 1)) 59,
     rq 22 (.move (tp 5)) 3,
     rq 23 (.indexAddr 59 (tp 21) (tp 22)) 0,
     rq 24 (.load 26 (tp 23)) 26,
     rq 25 (cf 24 #[(tp 20),(tp 24)] #[24,26]) 4,
     rq 26 (.unOp .not 4 (tp 25)) 4])
    (.cond (tp 26) (.seq (.reg [] [
      rq 4 (.assign (kb false)) 4])
     (.ret))
    (.skip))))
   (.reg [] [
     rq 15 (.move (tp 5)) 3,
     rq 16 (.binOp .add 3 (tp 15) (ki 1) 3) 3,
     rq 5 (.assign (tp 16)) 3]))))))
 (.seq (.reg [] [
   rq 4 (.assign (kb true)) 4])
 (.ret))))
def c40:RC:=
 .seq (.reg [] [
  rq 2 (.box 24 (tp 0)) 0,rq 4 (.alloc 24) 0,rq 5 (.assign (ki 0)) 27])
 (.seq (.reg [] [
   rq 9 (.load 24 (tp 2)) 24,rq 10 (cf 61 #[(tp 9)] #[24]) 93,rq 8 (.move (tp 10)) 93,rq 11 (.extract (tp 8) 0) 92,rq 12 (.extract (tp 8) 1) 27,rq 6 (.alloc 92) 0,rn (.store 92 (tp 6) (tp 11)) 0,rq 7 (.assign (tp 12)) 27])
 (.seq (.block 0 (.seq (.reg [] [
   rq 14 (.move (tp 7)) 27,
   rq 15 (.binOp .neq 27 (tp 14) (ki 0) 27) 4,
   rq 13 (.assign (tp 15)) 4])
  (.cond (tp 13) (.seq (.reg [] [
    rq 16 (.build 24 #[]) 24,
    rq 17 (.move (tp 7)) 27,
    rn (.store 24 (tp 4) (tp 16)) 0,
    rq 5 (.assign (tp 17)) 27])
   (.ret))
  (.seq (.reg [] [
    rq 19 (.move (tp 1)) 3,
    rq 20 (.binOp .lss 3 (tp 19) (ki 1) 3) 4,
    rq 21 (.move (tp 20)) 4,
    rg 22 (.move (tp 1)) 3 21 false,
    rg 23 (.fieldAddr 24 (tp 2) 0) 0 21 false,
    rg 24 (.load 3 (tp 23)) 3 21 false,
    rg 25 (.binOp .gtr 3 (tp 22) (tp 24) 3) 4 21 false,
    rq 26 (.pick (tp 21) (kb true) (tp 25)) 4,
    rq 18 (.assign (tp 26)) 4])
   (.cond (tp 18) (.seq (.reg [] [
     rq 27 (.build 24 #[]) 24,
     rn (.store 24 (tp 4) (tp 27)) 0,
     rq 5 (.assign (ki 1)) 27])
    (.ret))
   (.seq (.reg [] [
     rq 29 (.move (tp 1)) 3,
     rq 30 (.fieldAddr 24 (tp 2) 0) 0,
     rq 31 (.load 3 (tp 30)) 3,
     rq 32 (cf 89 #[(tp 29),(tp 31)] #[3,3]) 4,
     rq 33 (.unOp .not 4 (tp 32)) 4,
     rq 28 (.assign (tp 33)) 4])
    (.cond (tp 28) (.seq (.reg [] [
      rq 34 (.build 24 #[]) 24,
      rn (.store 24 (tp 4) (tp 34)) 0,
      rq 5 (.assign (ki 13)) 27])
     (.ret))
    (.skip))))))))
 (.seq (.reg [] [
   rq 35 (.load 92 (tp 6)) 92,rq 36 (.move (tp 1)) 3,rq 37 (cf 71 #[(tp 35),(tp 36)] #[92,3]) 92,rq 38 (cf 66 #[(tp 37)] #[92]) 24,rn (.store 24 (tp 4) (tp 38)) 0,rq 5 (.assign (ki 0)) 27])
 (.ret))))
def c42:RC:=
 .seq (.reg [] [
  rq 1 (.box 24 (tp 0)) 0,rq 2 (.assign (.const (.slice none 0 0))) 22,rq 3 (.assign (ki 0)) 27])
 (.seq (.reg [] [
   rq 11 (.load 24 (tp 1)) 24,rq 12 (cf 61 #[(tp 11)] #[24]) 93,rq 10 (.move (tp 12)) 93,rq 13 (.extract (tp 10) 0) 92,rq 14 (.extract (tp 10) 1) 27,rq 4 (.alloc 92) 0,rn (.store 92 (tp 4) (tp 13)) 0,rq 5 (.assign (tp 14)) 27])
 (.seq (.seq (.reg [] [
   rq 15 (.move (tp 5)) 27,rq 16 (.binOp .neq 27 (tp 15) (ki 0) 27) 4])
 (.cond (tp 16) (.seq (.reg [] [
   rq 17 (.move (tp 5)) 27,
   rq 2 (.assign (.const (.slice none 0 0))) 22,
   rq 3 (.assign (tp 17)) 27])
  (.ret))
 (.skip)))
 (.seq (.reg [] [
   rq 6 (.assign (.const (.slice none 0 0))) 22])
 (.seq (.seq (.reg [] [
   rq 7 (.assign (ki 1)) 3])
 (.block 0 (.loop (.seq (.seq (.reg [] [
   rq 18 (.move (tp 7)) 3,
   rq 19 (.fieldAddr 24 (tp 1) 0) 0,
   rq 20 (.load 3 (tp 19)) 3,
   rq 21 (.binOp .leq 3 (tp 18) (tp 20) 3) 4])
   (.cond (tp 21) (.skip)
   (.exit 0)))
   (.seq (.block 1 (.seq (.seq (.reg [] [
     rq 24 (.move (tp 7)) 3,
     rq 25 (.fieldAddr 24 (tp 1) 0) 0,
     rq 26 (.load 3 (tp 25)) 3,
     rq 27 (cf 89 #[(tp 24),(tp 26)] #[3,3]) 4,
     rq 28 (.unOp .not 4 (tp 27)) 4])
    (.cond (tp 28) (.exit 1)
    (.skip)))
    (.seq (.reg [0, 1, 3, 2, 4, 5, 6, 7, 8, 9] [
      rq 30 (.load 92 (tp 4)) 92,
      rq 31 (.move (tp 7)) 3,
      rq 33 (.load 92 (tp 4)) 92,
      ⟨(some 32),cf 71 #[(tp 30),(tp 31)] #[92,3],92,none,[(tp 4)]⟩,
      rq 34 (cf 70 #[(tp 32),(tp 33)] #[92,92]) 103,
      rq 29 (.move (tp 34)) 103,
      rq 35 (.extract (tp 29) 0) 3,
      rq 36 (.extract (tp 29) 1) 4,
      rq 8 (.assign (tp 35)) 3,
      rq 9 (.assign (tp 36)) 4])
    (.seq (.reg [] [
      rq 37 (.move (tp 9)) 4])
    (.cond (tp 37) (.reg [] [
      rq 38 (.move (tp 6)) 22,
      rq 39 (.move (tp 7)) 3,
      rq 40 (.buildSlice 22 1 #[(0,(tp 39))]) 22,
      rq 41 (cb .append #[(tp 38),(tp 40)] #[22,22]) 22,
      rq 6 (.assign (tp 41)) 22])
    (.skip))))))
   (.reg [] [
     rq 22 (.move (tp 7)) 3,
     rq 23 (.binOp .add 3 (tp 22) (ki 1) 3) 3,
     rq 7 (.assign (tp 23)) 3]))))))
 (.seq (.reg [] [
   rq 42 (.move (tp 6)) 22,rq 2 (.assign (tp 42)) 22,rq 3 (.assign (ki 0)) 27])
 (.ret))))))
def c44:RC:=
 .seq (.reg [] [
  rq 1 (.box 24 (tp 0)) 0,rq 2 (.assign (.const (.slice none 0 0))) 22,rq 3 (.assign (ki 0)) 27])
 (.seq (.reg [] [
   rq 10 (.load 24 (tp 1)) 24,rq 11 (cf 61 #[(tp 10)] #[24]) 93,rq 9 (.move (tp 11)) 93,rq 12 (.extract (tp 9) 0) 92,rq 13 (.extract (tp 9) 1) 27,rq 4 (.alloc 92) 0,rn (.store 92 (tp 4) (tp 12)) 0,rq 5 (.assign (tp 13)) 27])
 (.seq (.block 0 (.seq (.reg [] [
   rq 15 (.move (tp 5)) 27,
   rq 16 (.binOp .neq 27 (tp 15) (ki 0) 27) 4,
   rq 14 (.assign (tp 16)) 4])
  (.cond (tp 14) (.seq (.reg [] [
    rq 17 (.move (tp 5)) 27,
    rq 2 (.assign (.const (.slice none 0 0))) 22,
    rq 3 (.assign (tp 17)) 27])
   (.ret))
  (.seq (.reg [] [
    rq 19 (.fieldAddr 92 (tp 4) 1) 0,
    rq 20 (.load 65 (tp 19)) 65,
    rq 21 (cf 50 #[(tp 20)] #[65]) 3,
    rq 22 (.binOp .eql 3 (tp 21) (ki 6) 3) 4,
    rq 18 (.assign (tp 22)) 4])
   (.cond (tp 18) (.seq (.reg [] [
     rq 2 (.assign (.const (.slice none 0 0))) 22,
     rq 3 (.assign (ki 3)) 27])
    (.ret))
   (.seq (.reg [] [
     rq 24 (.load 92 (tp 4)) 92,
     rq 25 (cf 76 #[(tp 24)] #[92]) 3,
     rq 26 (.binOp .gtr 3 (tp 25) (ki 0) 3) 4,
     rq 23 (.assign (tp 26)) 4])
    (.cond (tp 23) (.seq (.reg [] [
      rq 2 (.assign (.const (.slice none 0 0))) 22,
      rq 3 (.assign (ki 14)) 27])
     (.ret))
    (.skip))))))))
 (.seq (.reg [] [
   rq 6 (.assign (.const (.slice none 0 0))) 22])
 (.seq (.seq (.reg [] [
   rq 27 (.fieldAddr 92 (tp 4) 0) 0,rq 28 (.load 3 (tp 27)) 3,rq 29 (.move (ki 0)) 3])
 (.block 1 (.loop (.seq (.reg [] [
   rq 30 (.binOp .lss 3 (tp 29) (tp 28) 3) 4])
   (.seq (.cond (tp 30) (.skip)
   (.exit 1))
   (.seq (.block 2 (.seq (.reg [] [
     rq 31 (.move (tp 29)) 3,
     rq 7 (.assign (tp 31)) 3])
    (.seq (.reg [] [
      rq 32 (.load 92 (tp 4)) 92,
      rq 8 (.alloc 92) 0,
      rn (.store 92 (tp 8) (tp 32)) 0])
    (.seq (.reg [0, 1, 2, 3, 4, 5, 6] [
      rq 33 (.fieldAddr 92 (tp 8) 1) 0,
      rq 34 (.load 65 (tp 33)) 65,
      rq 35 (.move (tp 7)) 3,
      rq 36 (.binOp .shl 65 (.const (.int .u32 1)) (tp 35) 3) 65,
      rq 37 (.binOp .or 65 (tp 34) (tp 36) 65) 65,
      rq 38 (.fieldAddr 92 (tp 8) 1) 0,
      rn (.store 65 (tp 38) (tp 37)) 0])
    (.seq (.reg [] [
      rq 39 (.load 92 (tp 4)) 92,
      rq 40 (.move (tp 7)) 3,
      rq 41 (cf 91 #[(tp 39),(tp 40)] #[92,3]) 4,
      rq 42 (.unOp .not 4 (tp 41)) 4,
      rq 43 (.move (tp 42)) 4,
      rg 44 (.load 92 (tp 8)) 92 43 true,
      rg 45 (cf 76 #[(tp 44)] #[92]) 3 43 true,
      rg 46 (.binOp .eql 3 (tp 45) (ki 0) 3) 4 43 true,
      rq 47 (.pick (tp 43) (tp 46) (kb false)) 4])
    (.cond (tp 47) (.reg [] [
      rq 48 (.move (tp 6)) 22,
      rq 49 (.move (tp 7)) 3,
      rq 50 (.buildSlice 22 1 #[(0,(tp 49))]) 22,
      rq 51 (cb .append #[(tp 48),(tp 50)] #[22,22]) 22,
      rq 6 (.assign (tp 51)) 22])
    (.skip)))))))
   (.reg [] [
     rq 52 (.binOp .add 3 (tp 29) (ki 1) 3) 3,
     rq 29 (.move (tp 52)) 3])))))))
 (.seq (.reg [] [
   rq 53 (.move (tp 6)) 22,rq 2 (.assign (tp 53)) 22,rq 3 (.assign (ki 0)) 27])
 (.ret))))))
def c46:RC:=c46_16
def c47:RC:=c47_3
def c48:RC:=c48_23
def c49:RC:=c49_20
def c50:RC:=c50_3
def c52:RC:=
 .seq (.reg [] [
  rq 4 (.assign (ki 0)) 3])
 (.seq (.seq (.reg [] [
   rq 9 (.move (tp 0)) 22,rq 10 (cb .len #[(tp 9)] #[22]) 3,rq 11 (.move (ki 0)) 3])
 (.block 0 (.loop (.seq (.reg [] [
   rq 12 (.binOp .lss 3 (tp 11) (tp 10) 3) 0])
   (.seq (.cond (tp 12) (.skip)
   (.exit 0))
   (.seq (.block 1 (.seq (.reg [] [
     rq 13 (.move (tp 11)) 3,
     rq 14 (.indexAddr 22 (tp 9) (tp 11)) 0,
     rq 15 (.load 3 (tp 14)) 3,
     rq 5 (.assign (tp 13)) 3,
     rq 6 (.assign (tp 15)) 3])
    (.seq (.seq (.reg [] [
      rq 16 (.move (tp 5)) 3,
      rq 17 (.move (tp 1)) 22,
      rq 18 (cb .len #[(tp 17)] #[22]) 3,
      rq 19 (.binOp .geq 3 (tp 16) (tp 18) 3) 4])
    (.cond (tp 19) (.seq (.reg [] [
      rq 4 (.assign (ki 1)) 3])
     (.ret))
    (.skip)))
    (.seq (.reg [] [
      rq 20 (.move (tp 1)) 22,
      rq 21 (.move (tp 5)) 3,
      rq 22 (.indexAddr 22 (tp 20) (tp 21)) 0,
      rq 23 (.load 3 (tp 22)) 3,
      rq 7 (.assign (tp 23)) 3])
    (.seq (.reg [] [
      rq 24 (.move (tp 6)) 3,
      rq 25 (.move (tp 7)) 3,
      rq 26 (cf 92 #[(tp 24),(tp 25)] #[3,3]) 3,
      rq 8 (.assign (tp 26)) 3])
    (.seq (.reg [] [
      rq 27 (.move (tp 8)) 3,
      rq 28 (.binOp .neq 3 (tp 27) (ki 0) 3) 4])
    (.cond (tp 28) (.seq (.reg [] [
      rq 29 (.move (tp 8)) 3,
      rq 4 (.assign (tp 29)) 3])
     (.ret))
    (.skip))))))))
   (.reg [] [
     rq 30 (.binOp .add 3 (tp 11) (ki 1) 3) 3,
     rq 11 (.move (tp 30)) 3])))))))
 (.seq (.seq (.reg [] [
   rq 31 (.move (tp 0)) 22,rq 32 (cb .len #[(tp 31)] #[22]) 3,rq 33 (.move (tp 1)) 22,rq 34 (cb .len #[(tp 33)] #[22]) 3,rq 35 (.binOp .lss 3 (tp 32) (tp 34) 3) 4])
 (.cond (tp 35) (.seq (.reg [] [
   rq 4 (.assign (ki (-1))) 3])
  (.ret))
 (.skip)))
 (.seq (.reg [] [
   rq 4 (.assign (ki 0)) 3])
 (.ret))))
def c54:RC:=
 .seq (.reg [] [
  rq 4 (.alloc 24) 0])
 (.seq (.reg [] [
   rq 5 (.move (tp 0)) 3,rq 6 (.move (tp 1)) 22,rq 7 (.build 24 #[(0,(tp 5)),(1,(tp 6))]) 24,rn (.store 24 (tp 4) (tp 7)) 0])
 (.ret))
def c55:RC:=c55_3
def c56:RC:=
 .seq (.reg [] [
  rq 3 (.box 24 (tp 0)) 0,rq 6 (.assign (kb false)) 4])
 (.seq (.reg [] [
   rq 7 (.fieldAddr 24 (tp 3) 0) 0,rq 8 (.load 3 (tp 7)) 3,rq 9 (.move (tp 1)) 3,rq 10 (.binOp .eql 3 (tp 8) (tp 9) 3) 4,rq 11 (.move (tp 10)) 4,rg 12 (.fieldAddr 24 (tp 3) 1) 0 11 true,rg 13 (.load 22 (tp 12)) 22 11 true,rg 14 (.move (tp 2)) 22 11 true,rg 15 (cf 23 #[(tp 13),(tp 14)] #[22,22]) 4 11 true,rq 16 (.pick (tp 11) (tp 15) (kb false)) 4,rq 6 (.assign (tp 16)) 4])
 (.ret))
def c57:RC:=
 .seq (.reg [] [
  rq 2 (.assign (.const (.slice none 0 0))) 22])
 (.seq (.seq (.reg [] [
   rq 3 (.move (tp 0)) 22,rq 4 (.binOp .eql 22 (tp 3) (.const (.slice none 0 0)) 22) 4])
 (.cond (tp 4) (.seq (.reg [] [
   rq 2 (.assign (.const (.slice none 0 0))) 22])
  (.ret))
 (.skip)))
 (.seq (.reg [] [
   rq 5 (.buildSlice 22 0 #[]) 22,rq 6 (.move (tp 0)) 22,rq 7 (cb .append #[(tp 5),(tp 6)] #[22,22]) 22,rq 2 (.assign (tp 7)) 22])
 (.ret)))
def c61:RC:=c61_11
def c62:RC:=c62_3
def c65:RC:=c65_7
def c66:RC:=c66_3
def c68:RC:=
 .seq (.reg [] [
  rq 1 (.box 92 (tp 0)) 0,rq 2 (.alloc 92) 0])
 (.seq (.reg [] [
   rq 7 (.load 92 (tp 1)) 92,rq 3 (.alloc 92) 0,rn (.store 92 (tp 3) (tp 7)) 0])
 (.seq (.seq (.reg [] [
   rq 8 (.load 92 (tp 1)) 92,rq 9 (cf 80 #[(tp 8)] #[92]) 22,rq 10 (cb .len #[(tp 9)] #[22]) 3,rq 11 (.move (ki 0)) 3])
 (.block 0 (.loop (.seq (.reg [] [
   rq 12 (.binOp .lss 3 (tp 11) (tp 10) 3) 0])
   (.seq (.cond (tp 12) (.skip)
   (.exit 0))
   (.seq (.block 1 (.seq (.reg [] [
     rq 13 (.indexAddr 22 (tp 9) (tp 11)) 0,
     rq 14 (.load 3 (tp 13)) 3,
     rq 5 (.assign (tp 14)) 3])
    (.seq (.reg [0, 1, 2, 3, 6, 4, 5, 7] [
      rq 15 (.load 92 (tp 1)) 92,
      rq 16 (.load 92 (tp 1)) 92,
      rq 17 (.move (tp 5)) 3,
      rq 18 (.unOp .neg 3 (tp 17)) 3,
      rq 6 (.alloc 92) 0,
      ⟨(some 19),cf 62 #[(tp 16),(tp 18)] #[92,3],3,none,[(tp 1)]⟩,
      rq 20 (cf 65 #[(tp 15),(tp 19)] #[92,3]) 92,
      rn (.store 92 (tp 6) (tp 20)) 0])
    (.seq (.reg [0, 1, 2, 3, 4, 5, 7, 6, 8, 9, 10, 11] [
      rq 21 (.fieldAddr 92 (tp 3) 1) 0,
      rq 22 (.load 65 (tp 21)) 65,
      rq 23 (.binOp .and 65 (tp 22) (.const (.int .u32 1)) 65) 65,
      rq 24 (.binOp .eql 65 (tp 23) (.const (.int .u32 0)) 65) 4,
      rq 25 (.move (tp 24)) 4,
      rg 26 (.load 92 (tp 6)) 92 25 false,
      rg 28 (.load 92 (tp 3)) 92 25 false,
      ⟨(some 27),cf 80 #[(tp 26)] #[92],22,(some ((some 25),false)),[(tp 3)]⟩,
      rg 29 (cf 80 #[(tp 28)] #[92]) 22 25 false,
      rg 30 (cf 52 #[(tp 27),(tp 29)] #[22,22]) 3 25 false,
      rg 31 (.binOp .lss 3 (tp 30) (ki 0) 3) 4 25 false,
      rq 32 (.pick (tp 25) (kb true) (tp 31)) 4])
    (.cond (tp 32) (.reg [] [
      rq 33 (.load 92 (tp 6)) 92,
      rn (.store 92 (tp 3) (tp 33)) 0])
    (.skip))))))
   (.reg [] [
     rq 34 (.binOp .add 3 (tp 11) (ki 1) 3) 3,
     rq 11 (.move (tp 34)) 3])))))))
 (.seq (.reg [] [
   rq 35 (.load 92 (tp 3)) 92,rn (.store 92 (tp 2) (tp 35)) 0])
 (.ret))))
def c70:RC:=c70_22
def c71:RC:=c71_20
def c74:RC:=c74_18
def c76:RC:=c76_21
def c78:RC:=c78_3
def c80:RC:=c80_23
def c81:RC:=
 .seq (.reg [] [
  rq 5 (.box 92 (tp 0)) 0,rq 10 (.assign (kb false)) 4])
 (.seq (.seq (.reg [] [
   rq 13 (.move (tp 2)) 3,rq 14 (.binOp .eql 3 (tp 13) (ki 0) 3) 4])
 (.cond (tp 14) (.seq (.reg [] [
   rq 15 (.move (tp 4)) 112,
   rq 16 (.load 92 (tp 5)) 92,
   rq 17 (.call ⟨.value (tp 15),#[(tp 16)],#[92]⟩) 4,
   rq 10 (.assign (tp 17)) 4])
  (.ret))
 (.skip)))
 (.seq (.seq (.reg [] [
   rq 18 (.move (tp 1)) 3,rq 11 (.assign (tp 18)) 3])
 (.block 0 (.loop (.seq (.seq (.reg [] [
   rq 19 (.move (tp 11)) 3,
   rq 20 (.move (tp 2)) 3,
   rq 21 (.binOp .add 3 (tp 19) (tp 20) 3) 3,
   rq 22 (.fieldAddr 92 (tp 5) 0) 0,
   rq 23 (.load 3 (tp 22)) 3,
   rq 24 (.binOp .leq 3 (tp 21) (tp 23) 3) 4])
   (.cond (tp 24) (.skip)
   (.exit 0)))
   (.seq (.block 1 (.seq (.reg [] [
     rq 27 (.load 92 (tp 5)) 92,
     rq 12 (.alloc 92) 0,
     rn (.store 92 (tp 12) (tp 27)) 0])
    (.seq (.reg [0, 1, 2, 3, 4, 5, 6] [
      rq 28 (.fieldAddr 92 (tp 12) 1) 0,
      rq 29 (.load 65 (tp 28)) 65,
      rq 30 (.move (tp 11)) 3,
      rq 31 (.binOp .shl 65 (.const (.int .u32 1)) (tp 30) 3) 65,
      rq 32 (.binOp .or 65 (tp 29) (tp 31) 65) 65,
      rq 33 (.fieldAddr 92 (tp 12) 1) 0,
      rn (.store 65 (tp 33) (tp 32)) 0])
    (.seq (.reg [] [
      rq 34 (.move (tp 3)) 112,
      rq 35 (.load 92 (tp 12)) 92,
      rq 36 (.call ⟨.value (tp 34),#[(tp 35)],#[92]⟩) 4,
      rq 37 (.move (tp 36)) 4,
      rg 38 (.load 92 (tp 12)) 92 37 true,
      rg 39 (.move (tp 11)) 3 37 true,
      rg 40 (.binOp .add 3 (tp 39) (ki 1) 3) 3 37 true,
      rg 41 (.move (tp 2)) 3 37 true,
      rg 42 (.binOp .sub 3 (tp 41) (ki 1) 3) 3 37 true,
      rg 43 (.move (tp 3)) 112 37 true,
      rg 44 (.move (tp 4)) 112 37 true,
      rg 45 (cf 81 #[(tp 38),(tp 40),(tp 42),(tp 43),(tp 44)] #[92,3,3,112,112]) 4 37 true,
      rg 46 (.unOp .not 4 (tp 45)) 4 37 true,
      rq 47 (.pick (tp 37) (tp 46) (kb false)) 4])
    (.cond (tp 47) (.seq (.reg [] [
      rq 10 (.assign (kb false)) 4])
     (.ret))
    (.skip))))))
   (.reg [] [
     rq 25 (.move (tp 11)) 3,
     rq 26 (.binOp .add 3 (tp 25) (ki 1) 3) 3,
     rq 11 (.assign (tp 26)) 3]))))))
 (.seq (.reg [] [
   rq 10 (.assign (kb true)) 4])
 (.ret))))
def c82:RC:=
 .seq (.reg [] [
  rq 1 (.box 92 (tp 0)) 0,rq 2 (.assign (kb false)) 4])
 (.seq (.reg [] [
   rq 3 (.load 92 (tp 1)) 92,rq 4 (cf 76 #[(tp 3)] #[92]) 3,rq 5 (.binOp .eql 3 (tp 4) (ki 0) 3) 4,rq 2 (.assign (tp 5)) 4])
 (.ret))
def c83:RC:=
 .seq (.reg [] [
  rq 3 (.box 92 (tp 0)) 0,rq 4 (.assign (kb false)) 4])
 (.seq (.seq (.reg [] [
   rq 5 (.load 92 (tp 3)) 92,rq 6 (cf 78 #[(tp 5)] #[92]) 4])
 (.cond (tp 6) (.reg [] [
   rq 7 (.load 92 (tp 3)) 92,
   rq 8 (cf 66 #[(tp 7)] #[92]) 24,
   rn (.store 24 (tp 1) (tp 8)) 0,
   rn (.store 27 (tp 2) (ki 0)) 0])
 (.skip)))
 (.seq (.reg [] [
   rq 9 (.load 27 (tp 2)) 27,rq 10 (.binOp .neq 27 (tp 9) (ki 0) 27) 4,rq 4 (.assign (tp 10)) 4])
 (.ret)))
def c85:RC:=c85_20
def c86:RC:=c86_38
def c87:RC:=
 .seq (.reg [] [
  rq 3 (.box 92 (tp 0)) 0,rq 4 (.assign (kb false)) 4])
 (.seq (.seq (.reg [0, 2, 1, 3, 4, 5, 7, 6, 8, 9] [
   rq 5 (.load 92 (tp 3)) 92,rq 7 (.load 92 (tp 3)) 92,
   ⟨(some 6),cf 68 #[(tp 5)] #[92],92,none,[(tp 3)]⟩,rq 8 (.binOp .eql 92 (tp 6) (tp 7) 92) 4,rq 9 (.move (tp 8)) 4,rg 10 (.load 92 (tp 3)) 92 9 true,rg 12 (.load 22 (tp 1)) 22 9 true,
   ⟨(some 11),cf 74 #[(tp 10)] #[92],22,(some ((some 9),true)),[(tp 1)]⟩,rg 13 (cf 88 #[(tp 11),(tp 12)] #[22,22]) 4 9 true,rq 14 (.pick (tp 9) (tp 13) (kb false)) 4])
 (.cond (tp 14) (.reg [0, 1, 2, 3, 4, 5] [
   rq 15 (.load 56 (tp 2)) 56,
   rq 16 (.load 92 (tp 3)) 92,
   ⟨(some 17),cf 66 #[(tp 16)] #[92],24,none,[(tp 2)]⟩,
   rq 18 (.buildSlice 56 1 #[(0,(tp 17))]) 56,
   rq 19 (cb .append #[(tp 15),(tp 18)] #[56,56]) 56,
   rn (.store 56 (tp 2) (tp 19)) 0])
 (.skip)))
 (.seq (.reg [] [
   rq 4 (.assign (kb true)) 4])
 (.ret)))
def c88:RC:=
 .seq (.reg [] [
  rq 4 (.assign (kb false)) 4])
 (.seq (.seq (.reg [] [
   rq 6 (.move (tp 0)) 22,rq 7 (cb .len #[(tp 6)] #[22]) 3,rq 8 (.move (tp 1)) 22,rq 9 (cb .len #[(tp 8)] #[22]) 3,rq 10 (.binOp .neq 3 (tp 7) (tp 9) 3) 4])
 (.cond (tp 10) (.seq (.reg [] [
   rq 4 (.assign (kb false)) 4])
  (.ret))
 (.skip)))
 (.seq (.seq (.reg [] [
   rq 11 (.move (tp 0)) 22,rq 12 (cb .len #[(tp 11)] #[22]) 3,rq 13 (.move (ki 0)) 3])
 (.block 0 (.loop (.seq (.reg [] [
   rq 14 (.binOp .lss 3 (tp 13) (tp 12) 3) 0])
   (.seq (.cond (tp 14) (.skip)
   (.exit 0))
   (.seq (.block 1 (.seq (.reg [] [
     rq 15 (.move (tp 13)) 3,
     rq 5 (.assign (tp 15)) 3])
    (.seq (.reg [0, 1, 2, 3, 4, 5, 6, 7, 8] [
      rq 16 (.move (tp 0)) 22,
      rq 17 (.move (tp 5)) 3,
      rq 18 (.indexAddr 22 (tp 16) (tp 17)) 0,
      rq 19 (.load 3 (tp 18)) 3,
      rq 20 (.move (tp 1)) 22,
      rq 21 (.move (tp 5)) 3,
      rq 22 (.indexAddr 22 (tp 20) (tp 21)) 0,
      rq 23 (.load 3 (tp 22)) 3,
      rq 24 (.binOp .neq 3 (tp 19) (tp 23) 3) 4])
    (.cond (tp 24) (.seq (.reg [] [
      rq 4 (.assign (kb false)) 4])
     (.ret))
    (.skip)))))
   (.reg [] [
     rq 25 (.binOp .add 3 (tp 13) (ki 1) 3) 3,
     rq 13 (.move (tp 25)) 3])))))))
 (.seq (.reg [] [
   rq 4 (.assign (kb true)) 4])
 (.ret))))
def c89:RC:=
 .seq (.reg [] [
  rq 4 (.assign (kb false)) 4])
 (.seq (.seq (.reg [] [
   rq 5 (.assign (ki 2)) 3])
 (.block 0 (.loop (.seq (.seq (.reg [] [
   rq 6 (.move (tp 5)) 3,
   rq 7 (.move (tp 0)) 3,
   rq 8 (.move (tp 1)) 3,
   rq 9 (cb .min #[(tp 7),(tp 8)] #[3,3]) 3,
   rq 10 (.binOp .leq 3 (tp 6) (tp 9) 3) 4])
   (.cond (tp 10) (.skip)
   (.exit 0)))
   (.seq (.block 1 (.seq (.reg [] [
     rq 13 (.move (tp 0)) 3,
     rq 14 (.move (tp 5)) 3,
     rq 15 (.binOp .rem 3 (tp 13) (tp 14) 3) 3,
     rq 16 (.binOp .eql 3 (tp 15) (ki 0) 3) 4,
     rq 17 (.move (tp 16)) 4,
     rg 18 (.move (tp 1)) 3 17 true,
     rg 19 (.move (tp 5)) 3 17 true,
     rg 20 (.binOp .rem 3 (tp 18) (tp 19) 3) 3 17 true,
     rg 21 (.binOp .eql 3 (tp 20) (ki 0) 3) 4 17 true,
     rq 22 (.pick (tp 17) (tp 21) (kb false)) 4])
    (.cond (tp 22) (.seq (.reg [] [
      rq 4 (.assign (kb false)) 4])
     (.ret))
    (.skip))))
   (.reg [] [
     rq 11 (.move (tp 5)) 3,
     rq 12 (.binOp .add 3 (tp 11) (ki 1) 3) 3,
     rq 5 (.assign (tp 12)) 3]))))))
 (.seq (.reg [] [
   rq 4 (.assign (kb true)) 4])
 (.ret)))
def c91:RC:=c91_3
def c92:RC:=
 .seq (.reg [] [
  rq 4 (.assign (ki 0)) 3])
 (.seq (.reg [] [
   rq 7 (.move (tp 0)) 3,rq 8 (cf 98 #[(tp 7)] #[3]) 4,rq 5 (.assign (tp 8)) 4])
 (.seq (.reg [] [
   rq 9 (.move (tp 1)) 3,rq 10 (cf 98 #[(tp 9)] #[3]) 4,rq 6 (.assign (tp 10)) 4])
 (.seq (.seq (.reg [] [
   rq 11 (.move (tp 5)) 4])
 (.cond (tp 11) (.seq (.seq (.reg [] [
   rq 12 (.move (tp 6)) 4])
  (.cond (tp 12) (.seq (.reg [] [
    rq 4 (.assign (ki 0)) 3])
   (.ret))
  (.skip)))
  (.seq (.reg [] [
    rq 4 (.assign (ki (-1))) 3])
  (.ret)))
 (.skip)))
 (.seq (.seq (.reg [] [
   rq 13 (.move (tp 6)) 4])
 (.cond (tp 13) (.seq (.reg [] [
   rq 4 (.assign (ki 1)) 3])
  (.ret))
 (.skip)))
 (.seq (.seq (.reg [] [
   rq 14 (.move (tp 0)) 3,rq 15 (.move (tp 1)) 3,rq 16 (.binOp .lss 3 (tp 14) (tp 15) 3) 4])
 (.cond (tp 16) (.seq (.reg [] [
   rq 4 (.assign (ki (-1))) 3])
  (.ret))
 (.skip)))
 (.seq (.seq (.reg [] [
   rq 17 (.move (tp 0)) 3,rq 18 (.move (tp 1)) 3,rq 19 (.binOp .gtr 3 (tp 17) (tp 18) 3) 4])
 (.cond (tp 19) (.seq (.reg [] [
   rq 4 (.assign (ki 1)) 3])
  (.ret))
 (.skip)))
 (.seq (.reg [] [
   rq 4 (.assign (ki 0)) 3])
 (.ret))))))))
def c96:RC:=c96_20
def c98:RC:=
 .seq (.reg [] [
  rq 2 (.assign (kb false)) 4])
 (.seq (.reg [] [
   rq 3 (.move (tp 0)) 3,rq 4 (.move (tp 0)) 3,rq 5 (.binOp .neq 3 (tp 3) (tp 4) 3) 4,rq 2 (.assign (tp 5)) 4])
 (.ret))
def ti3:TI:=⟨.int .i64,1,8,(some (.int .i64 0)),false⟩
def ti4:TI:=⟨.bool,1,1,(some (.bool false)),false⟩
def ti5:TI:=⟨.int .u8,1,1,(some (.int .u8 0)),false⟩
def ti9:TI:=⟨.string,1,16,(some (.string ⟨#[]⟩)),false⟩
def ti22:TI:=⟨.slice 3,1,24,(some (.slice none 0 0)),false⟩
def ti24 : TI := ⟨.struct #[⟨ "Places", 3, 0, false, "", "", 0⟩, ⟨ "Marks", 22, 1, false, "", "", 8⟩], 2, 32, (some (.agg #[(.int .i64 0), (.slice none 0 0)])), false⟩
def ti26 : TI := ⟨.struct #[⟨ "Places", 3, 0, false, "", "", 0⟩, ⟨ "Marks", 22, 1, false, "", "", 8⟩], 2, 32, (some (.agg #[(.int .i64 0), (.slice none 0 0)])), false⟩
def ti27:TI:=⟨.int .i64,1,8,(some (.int .i64 0)),false⟩
def ti56:TI:=⟨.slice 24,1,24,(some (.slice none 0 0)),false⟩
def ti59:TI:=⟨.slice 26,1,24,(some (.slice none 0 0)),false⟩
def ti65:TI:=⟨.int .u32,1,4,(some (.int .u32 0)),false⟩
def ti67 : TI := ⟨.struct #[⟨ "Places", 5, 0, false, "", "", 0⟩, ⟨ "Bits", 65, 1, false, "", "", 4⟩], 2, 8, (some (.agg #[(.int .u8 0), (.int .u32 0)])), true⟩
def ti77:TI:=⟨.int .i16,1,2,(some (.int .i16 0)),false⟩
def ti92 : TI := ⟨.struct #[⟨ "places", 3, 0, false, "", "spadille/ring", 0⟩, ⟨ "set", 65, 1, false, "", "spadille/ring", 8⟩], 2, 16, (some (.agg #[(.int .i64 0), (.int .u32 0)])), true⟩
def ti112:TI:=⟨.func #[92] #[4] false,1,8,(some .nilFunc),false⟩
def ti114:TI:=⟨.map 3 3,1,8,(some (.map none)),false⟩
def ti118:TI:=⟨.int .u64,1,8,(some (.int .u64 0)),false⟩
def ttTr:Tr TI:=(.node none (.node none (.node (some ti3) .nil (.node none (.node none (.node none (.node (some ti67) .nil .nil) .nil) .nil) (.node (some ti27) .nil (.node (some ti59) .nil .nil)))) (.node (some ti5) (.node (some ti9) (.node none (.node none (.node (some ti65) .nil .nil) .nil) .nil) .nil) (.node none .nil (.node none (.node none (.node (some ti77) .nil .nil) .nil) .nil)))) (.node none (.node (some ti4) (.node none (.node none .nil (.node none .nil (.node (some ti112) .nil .nil))) (.node (some ti24) .nil (.node (some ti56) .nil .nil))) (.node none .nil (.node none .nil (.node none (.node (some ti92) .nil .nil) .nil)))) (.node none (.node none (.node none .nil (.node none .nil (.node (some ti114) .nil .nil))) (.node (some ti26) .nil .nil)) (.node none (.node (some ti22) .nil (.node none .nil (.node (some ti118) .nil .nil))) .nil))))
noncomputable def tt:TT:=ttTr.get
def fnTr:Tr RFn:=(.node none (.node none (.node none (.node none (.node (some ⟨53,c15,[.tmp 2,.tmp 3]⟩) (.node (some ⟨16,c31,[.tmp 2,.tmp 3]⟩) .nil .nil) (.node (some ⟨9,c47,[.cell 4 24]⟩) .nil .nil)) (.node (some ⟨26,c23,[.tmp 4]⟩) (.node (some ⟨27,c39,[.tmp 4]⟩) (.node (some ⟨30,c71,[.cell 4 92]⟩) .nil .nil) .nil) (.node (some ⟨4,c55,[.tmp 2]⟩) (.node (some ⟨20,c87,[.tmp 4]⟩) .nil .nil) .nil))) (.node (some ⟨244,c11,[.tmp 8]⟩) (.node (some ⟨18,c19,[.cell 2 24,.tmp 3]⟩) (.node (some ⟨40,c35,[.cell 4 24,.tmp 5]⟩) .nil .nil) (.node none (.node (some ⟨11,c83,[.tmp 4]⟩) .nil .nil) .nil)) (.node (some ⟨16,c27,[.tmp 2,.tmp 3]⟩) .nil (.node none (.node (some ⟨11,c91,[.tmp 4]⟩) .nil .nil) .nil)))) (.node none (.node none (.node (some ⟨23,c17,[.cell 4 24,.tmp 5]⟩) (.node (some ⟨39,c33,[.tmp 4,.tmp 5]⟩) (.node (some ⟨26,c65,[.cell 4 92]⟩) .nil .nil) .nil) (.node (some ⟨35,c49,[.tmp 8]⟩) (.node (some ⟨48,c81,[.tmp 10]⟩) .nil .nil) .nil)) (.node (some ⟨42,c25,[.tmp 2]⟩) .nil (.node (some ⟨8,c57,[.tmp 2]⟩) (.node (some ⟨23,c89,[.tmp 4]⟩) .nil .nil) .nil))) (.node none (.node (some ⟨62,c21,[.tmp 4,.tmp 5,.tmp 6]⟩) (.node (some ⟨62,c37,[.tmp 4,.tmp 5]⟩) .nil .nil) (.node none (.node (some ⟨25,c85,[.tmp 3]⟩) .nil .nil) .nil)) (.node (some ⟨19,c29,[.tmp 2,.tmp 3]⟩) .nil (.node (some ⟨16,c61,[.cell 2 92,.tmp 3]⟩) .nil .nil))))) (.node none (.node none (.node none (.node none (.node none .nil (.node (some ⟨24,c96,[.cell 4 92]⟩) .nil .nil)) (.node (some ⟨19,c48,[.tmp 2]⟩) (.node (some ⟨19,c80,[.tmp 2]⟩) .nil .nil) .nil)) (.node (some ⟨17,c24,[.tmp 4]⟩) (.node (some ⟨39,c40,[.cell 4 24,.tmp 5]⟩) .nil .nil) (.node (some ⟨17,c56,[.tmp 6]⟩) (.node (some ⟨26,c88,[.tmp 4]⟩) .nil .nil) .nil))) (.node none (.node none (.node none (.node (some ⟨36,c68,[.cell 2 92]⟩) .nil .nil) .nil) (.node (some ⟨36,c52,[.tmp 4]⟩) .nil .nil)) (.node none (.node (some ⟨54,c44,[.tmp 2,.tmp 3]⟩) (.node (some ⟨27,c76,[.tmp 2]⟩) .nil .nil) .nil) (.node none (.node (some ⟨20,c92,[.tmp 4]⟩) .nil .nil) .nil)))) (.node none (.node none (.node none (.node none (.node (some ⟨8,c66,[.cell 2 24]⟩) .nil .nil) (.node (some ⟨6,c98,[.tmp 2]⟩) .nil .nil)) (.node (some ⟨21,c50,[.tmp 2]⟩) (.node (some ⟨6,c82,[.tmp 2]⟩) .nil .nil) .nil)) (.node none (.node (some ⟨43,c42,[.tmp 2,.tmp 3]⟩) (.node (some ⟨24,c74,[.tmp 2]⟩) .nil .nil) .nil) .nil)) (.node (some ⟨262,c14,[.tmp 0]⟩) (.node none (.node none (.node (some ⟨19,c70,[.tmp 4,.tmp 5]⟩) .nil .nil) .nil) (.node (some ⟨8,c54,[.cell 4 24]⟩) (.node (some ⟨38,c86,[.tmp 2]⟩) .nil .nil) .nil)) (.node none (.node (some ⟨29,c46,[.tmp 4,.tmp 5]⟩) (.node (some ⟨15,c78,[.tmp 2]⟩) .nil .nil) .nil) (.node (some ⟨15,c62,[.tmp 4]⟩) .nil .nil))))))
noncomputable def fns:FuncId→Option RFn:=fnTr.get
end Go.RgI
set_option maxRecDepth 100000
namespace Go.RgIM
open Go.Sp Go.RgI
noncomputable section
def orc14:List Value→Option Value:=fun _=>none
def orc35:List Value→Option Value:=fun _=>none
def orc37:List Value→Option Value:=fun _=>none
def cloneF (sz by':Nat) (args:List Value) (H:AHeap):Option (Value×AHeap):=
 ll args none fun x r => ll r (oo (toSl sz x) none fun s => AHeap.rec (motive := fun _ => Option (Value × AHeap)) (fun k T z => bb z (bb (roomy (0 + s.n) by')
  (some (.slice (some ⟨Nat.succ k,0,some sz⟩) s.n (2 * s.n + bb false 1 0),((⟨k,T,true⟩:AHeap).push (.cells [] false false [])).push (.cells (takeL (s.n * sz) s.cs) false false []))) none) none) H) fun _ _=>none
def o57 : List ROp := [
 ⟨(some 5),.buildSlice 22 0 #[],22,none,[]⟩,
 ⟨(some 6),.move (.tmp 0),22,none,[]⟩,
 ⟨(some 7),.call ⟨.builtin .append,#[(.tmp 5),(.tmp 6)],#[22,22]⟩,22,none,[]⟩,
 ⟨(some 2),.assign (.tmp 7),22,none,[]⟩]
def H1 (k:Nat) (T:Tr AObj):AHeap:=(⟨k,T,true⟩:AHeap).push (.cells [] false false [])
def F1 (a:Value):Fr:=Fr.puts (Fr.made 8 [a]) [(2,.slice none 0 0),(3,a),(4,.bool false)]
def F2 (a:Value) (k:Nat):Fr:=Fr.puts (F1 a) [(5,.slice (some ⟨k,0,some 1⟩) 0 1)]
def F3 (a:Value) (k:Nat):Fr:=Fr.puts (F2 a k) [(6,a)]
def F4 (a:Value) (k:Nat) (v:Value):Fr:=Fr.puts (F3 a k) [(7,v)]
def F5 (a:Value) (k:Nat) (v:Value):Fr:=Fr.puts (F4 a k v) [(2,v)]
theorem H1_get (k:Nat) (T:Tr AObj):oCells ((H1 k T).get k) = some ⟨[],false,false,[]⟩:=by
 unfold H1
 rw [AHeap.get_push,if_pos rfl];rfl
theorem H1_next (k:Nat) (T:Tr AObj):(H1 k T).next = k + 1:=by
 unfold H1;rw [AHeap.next_push]
theorem cloneA (k:Nat) (T:Tr AObj):evFn tt fns 2 57 [fsV 1 0 2 []] ⟨k,T,true⟩ = some (.slice none 0 0,⟨k,T,true⟩):=by kernel_rfl
theorem ops (call : CallF) (k : Nat) (T : Tr AObj) (a v : Value) (H2 : AHeap) (s : Sl) (ha : a = s.v 1) (hD : appFs (H1 k T) 1 8 (.slice (some ⟨k, 0, some 1⟩) 0 1) s = some (v, H2)) :
 evOps tt call o57 (F1 a) ⟨k,T,true⟩ = some (F5 a k v,H2):=by
 subst ha
 refine evOps_data (some (.slice (some ⟨k,0,some 1⟩) 0 1,H1 k T)) (by kernel_rfl) rfl (by kernel_rfl) ?_
 refine evOps_data (some (s.v 1,H1 k T)) (by kernel_rfl) rfl (by kernel_rfl) ?_
 refine evOps_data (appFs (H1 k T) 1 8 (.slice (some ⟨k,0,some 1⟩) 0 1) s) (by kernel_rfl) hD (by kernel_rfl) ?_
 refine evOps_data (some (v,H2)) (by kernel_rfl) rfl (by kernel_rfl) ?_
 rfl
theorem ev (k : Nat) (T : Tr AObj) (a v : Value) (H2 : AHeap) (h1 : evC tt (evFn tt fns 1) 1 c57 (Fr.made 8 [a]) ⟨k, T, true⟩ = evC tt (evFn tt fns 1) 1 (.seq (.reg [] o57) .ret) (F1 a) ⟨k, T, true⟩)
 (h:evOps tt (evFn tt fns 1) o57 (F1 a) ⟨k,T,true⟩ = some (F5 a k v,H2)):evFn tt fns 2 57 [a] ⟨k,T,true⟩ = some (v,H2):=by
 show endFn tt [.tmp 2] (evC tt (evFn tt fns 1) 1 c57 (Fr.made 8 [a]) ⟨k,T,true⟩) = _
 rw [h1]
 show endFn tt [.tmp 2] (onNormal (regR (evOps tt (evFn tt fns 1) o57 (F1 a) ⟨k,T,true⟩)) _) = _
 rw [h]
 kernel_rfl
theorem cloneB (k:Nat) (T:Tr AObj):evFn tt fns 2 57 [fsV 1 0 3 []] ⟨k,T,true⟩ = some (.slice (some ⟨k,0,some 1⟩) 0 1,H1 k T):=
 ev k T _ _ _ (by kernel_rfl) (ops _ k T _ _ _ ⟨0,3,[]⟩ rfl (appFs_sl0 rfl))
theorem cloneC (k : Nat) (T : Tr AObj) (n : Nat) (cs : List Value) (hr : roomy (0 + (n + 1)) 8 = true) :
 evFn tt fns 2 57 [fsV 1 (n + 1) 0 cs] ⟨k,T,true⟩ = some (sliceAt (k + 1) 0 1 (0 + (n + 1)) (0 + (n + 1)) false,(H1 k T).push (.cells (takeL ((n + 1) * 1) cs) false false [])):=
 ev k T _ _ _ (by kernel_rfl) (ops _ k T _ _ _ ⟨n + 1,0,cs⟩ rfl (by rw [appFs_new rfl hr (H1_get k T),H1_next]))

theorem clone57_ok {P : Program} (hT : TOk P tt) (hf : ∀ f r, fns f = some r → FnOk P [] f r) (hm : P.follows .mixedOrders = true) {args : List Value} {H H' : AHeap} {v : Value} (h : cloneF 1 8 args H = some (v, H')) :
 (∀ (as:Array Value) (w:World),(callFunc 57 as).run P w = .ok (.enter 57 as) w) ∧
 ∀ R w args',Sim H R w→GlR [] R→VRL R args args'→Calls P 57 ⟨args'⟩ w fun e w'=>∃ u R',e = .returned u∧VR R' v u∧Post H R w H' R' w':=by
 refine ⟨((evFn_ok hT hf hm 2) 57 _ _ _ _ (cloneA 0 .nil)).1,fun R w args' hs hgl ha=>?_⟩
 obtain ⟨x,r,rfl,h⟩:=ll_uncons h
 obtain ⟨rfl,h⟩:=ll_end h
 obtain ⟨s,hsl,h⟩:=oo_inv h
 obtain rfl:=toSl_some hsl
 obtain ⟨k,T,z⟩:=H
 obtain ⟨hz,h⟩:=bb_inv (show bb z _ none = some _ from h)
 subst hz
 obtain ⟨hr,h⟩:=bb_inv h
 injection h with h;injection h with e1 e2;subst e1;subst e2
 obtain ⟨u,us,rfl,hu,hnil⟩:=ha.uncons
 obtain rfl:=hnil.unnil
 obtain ⟨n,fl,cs⟩:=s
 have run:∀ (a v1:Value) (H2:AHeap),evFn tt fns 2 57 [a] ⟨k,T,true⟩ = some (v1,H2)→VR R a u→Calls P 57 ⟨[u]⟩ w fun e w'=>∃ u' R',e = .returned u'∧VR R' v1 u'∧Post ⟨k,T,true⟩ R w H2 R' w':=fun a v1 H2 he hau=>
  ((evFn_ok hT hf hm 2) 57 _ _ _ _ he).2 R w [u] hs hgl (.one hau)
 have empty : ∀ (a : Value), VR R a u → (a = fsV 1 0 2 [] ∨ a = fsV 1 0 3 []) → ∀ o, o = AObj.cells (takeL (0 * 1) cs) false false [] → Calls P 57 ⟨[u]⟩ w fun e w' => ∃ u' R', e = .returned u' ∧ VR R' (.slice (some ⟨Nat.succ k, 0, some 1⟩) 0 (2 * 0 + bb false 1 0)) u' ∧
  Post ⟨k,T,true⟩ R w ((H1 k T).push o) R' w':=fun a hau hcase o ho=>by
  rcases hcase with rfl | rfl
  ·refine (run _ _ _ (cloneA k T) hau).mono fun e w' ⟨u', R', h1, h2, h3⟩ => ⟨u', R', h1, ?_, (h3.absPush (obj := .cells [] false false []) rfl).absPush (by rw [ho]; rfl)⟩
   rw [h2.slNil_l];exact .slN rfl
  ·refine (run _ _ _ (cloneB k T) hau).mono fun e w' ⟨u', R', h1, h2, h3⟩ => ⟨u', R', h1, ?_, h3.absPush (by rw [ho]; rfl)⟩
   cases h2 with
   | sl _ _ _ h3 _=>have:=h3 rfl;subst this;exact .slE rfl
   | slE=>exact .slE rfl
   | slN=>exact .slN rfl
 rcases hu.fs_l (f:=⟨1,n,fl,cs⟩) rfl with ⟨h1,h2,rfl⟩ | ⟨_,h1,h2,c,o,sp,rfl⟩ | ⟨c,o,cap,C,hro,rfl,hn,k1,k2,k3,hfit,hcr,hcl⟩
 ·have h1 : n = 0 := h1
  subst h1
  exact empty _ (.fsN 1 2 (by decide)) (.inl rfl) _ rfl
 ·have h1 : n = 0 := h1
  subst h1
  exact empty _ (.fsE (by decide)) (.inr rfl) _ rfl
 ·cases n with
  | zero =>
   have hc0:cs = []:=by simpa using hn
   subst hc0
   exact empty (fsV 1 0 3 []) (.mkFs hro rfl (Nat.zero_le _) (fun h=>by cases h) (by decide) hfit hcr hcl) (.inr rfl) _ rfl
  | succ n =>
   refine (run _ _ _ (cloneC k T n cs hr) (.mkFs hro hn k1 (fun h=>by cases h) (by decide) hfit hcr hcl)).mono fun e w' ⟨u',R',g1,g2,g3⟩=>⟨u',R',g1,?_,g3⟩
   rwa [Nat.zero_add] at g2
end
end Go.RgIM
set_option maxRecDepth 100000
set_option maxHeartbeats 20000000
set_option linter.unusedVariables false
namespace Go.RgIM
open Go.Sp Go.RgI
noncomputable section
def tabs:List (List Value):=[]
theorem trF {a b:Bool} (h:b = true) (e:a = b:=by kernel_rfl):a = true:=e.trans h
abbrev OV:=Option Value
abbrev LV:=List Value
def plist:List Nat:=[11,14,15,21,25,35,37,46,47,48,49,50,61,62,65,66,70,71,74,76,78,80,91,96]
def isP:FuncId→Bool:=fun g=>memN g plist
def inl (pu:PureF):CallF:=fun g args H=>bb (Nat.beq g 57) (cloneF 1 8 args H) (bb (Nat.beq g 55) (giveF tabs 1 (pu 55) args H) (bb (Nat.beq g 86) (objG tabs [[none,none]] 1 [] [false] (pu 10860) args H) (bb (Nat.beq g 23) (objG tabs [[some 1],[some 1]] 2 [] [] (pu 10230) args H) (bb (Nat.beq g 85) (objG tabs [[none,none],[none]] 2 [.tmp 1 false] [false] (pu 10850) args H) (none)))))
def str0:List UInt8:=[0,1,1,2,1,2,2,3,1,2,2,3,2,3,3,4,1,2,2,3,2,3,3,4,2,3,3,4,3,4,4,5,1,2,2,3,2,3,3,4,2,3,3,4,3,4,4,5,2,3,3,4,3,4,4,5,3,4,4,5,4,5,5,6,1,2,2,3,2,3,3,4,2,3,3,4,3,4,4,5,2,3,3,4,3,4,4,5,3,4,4,5,4,5,5,6,2,3,3,4,3,4,4,5,3,4,4,5,4,5,5,6,3,4,4,5,4,5,5,6,4,5,5,6,5,6,6,7,1,2,2,3,2,3,3,4,2,3,3,4,3,4,4,5,2,3,3,4,3,4,4,5,3,4,4,5,4,5,5,6,2,3,3,4,3,4,4,5,3,4,4,5,4,5,5,6,3,4,4,5,4,5,5,6,4,5,5,6,5,6,6,7,2,3,3,4,3,4,4,5,3,4,4,5,4,5,5,6,3,4,4,5,4,5,5,6,4,5,5,6,5,6,6,7,3,4,4,5,4,5,5,6,4,5,5,6,5,6,6,7,4,5,5,6,5,6,6,7,5,6,6,7,6,7,7,8]
end
end Go.RgIM
