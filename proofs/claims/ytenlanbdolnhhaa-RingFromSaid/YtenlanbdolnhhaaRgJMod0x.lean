/- Made from wip. -/
import Derived.Test.YtenlanbdolnhhaaSpFramex
import Derived.Test.YtenlanbdolnhhaaRgJNodes
import Derived.Test.YtenlanbdolnhhaaSpMovex
import Derived.KernelRfl

set_option maxRecDepth 100000
namespace Go.RgJ
open Go.Sp
def c13:RC:=c13_70
def c14:RC:=
 .seq (.reg [] [
  rq 0 (.assign (kb false)) 4])
 (.seq (.reg [] [
   rq 29 (.buildSlice 22 3 #[(0,(ki 0)),(1,(ki 1)),(2,(ki 3))]) 22,rq 30 (cf 54 #[(ki 7),(tp 29)] #[3,22]) 24,rq 31 (cf 15 #[(tp 30)] #[24]) 28,rqM 28 31 28,rqX 32 28 0 22,rqX 33 28 1 27,rqS 1 32 22,rqS 2 33 27])
 (.seq (.reg [] [
   rq 35 (.buildSlice 22 3 #[(0,(ki 0)),(1,(ki 1)),(2,(ki 3))]) 22,rq 36 (cf 54 #[(ki 7),(tp 35)] #[3,22]) 24,rq 37 (cf 27 #[(tp 36)] #[24]) 28,rqM 34 37 28,rqX 38 34 0 22,rqX 39 34 1 27,rqS 3 38 22,rqS 4 39 27])
 (.seq (.reg [] [
   rq 41 (.buildSlice 22 3 #[(0,(ki 0)),(1,(ki 1)),(2,(ki 3))]) 22,rq 42 (cf 54 #[(ki 7),(tp 41)] #[3,22]) 24,rq 43 (cf 17 #[(tp 42),(ki (-1))] #[24,3]) 31,rqM 40 43 31,rqX 44 40 0 24,rqX 45 40 1 27,rq 5 (.alloc 24) 0,rn (.store 24 (tp 5) (tp 44)) 0,rqS 6 45 27])
 (.seq (.reg [] [
   rq 47 (.buildSlice 22 3 #[(0,(ki 2)),(1,(ki 4)),(2,(ki 5))]) 22,rq 48 (cf 54 #[(ki 7),(tp 47)] #[3,22]) 24,rq 49 (cf 19 #[(tp 48)] #[24]) 31,rqM 46 49 31,rqX 50 46 0 24,rqX 51 46 1 27,rq 7 (.alloc 24) 0,rn (.store 24 (tp 7) (tp 50)) 0,rqS 8 51 27])
 (.seq (.reg [] [
   rq 53 (.buildSlice 22 3 #[(0,(ki 0)),(1,(ki 1)),(2,(ki 3))]) 22,rq 54 (cf 54 #[(ki 7),(tp 53)] #[3,22]) 24,rq 55 (.buildSlice 22 3 #[(0,(ki 0)),(1,(ki 2)),(2,(ki 3))]) 22,rq 56 (cf 54 #[(ki 7),(tp 55)] #[3,22]) 24,rq 57 (cf 21 #[(tp 54),(tp 56)] #[24,24]) 37,rqM 52 57 37,rqX 58 52 0 3,rqX 59 52 1 4,rqX 60 52 2 27,rqS 9 58 3,rqS 10 59 4,rqS 11 60 27])
 (.seq (.reg [] [
   rq 62 (.buildSlice 22 3 #[(0,(ki 0)),(1,(ki 1)),(2,(ki 3))]) 22,rq 63 (cf 54 #[(ki 7),(tp 62)] #[3,22]) 24,rq 64 (.buildSlice 22 1 #[(0,(ki 1))]) 22,rq 65 (cf 33 #[(tp 63),(tp 64)] #[24,22]) 28,rqM 61 65 28,rqX 66 61 0 22,rqX 67 61 1 27,rqS 12 66 22,rqS 13 67 27])
 (.seq (.reg [] [
   rq 69 (.buildSlice 22 2 #[(0,(ki 0)),(1,(ki 4))]) 22,rq 70 (cf 54 #[(ki 8),(tp 69)] #[3,22]) 24,rq 71 (cf 29 #[(tp 70)] #[24]) 45,rqM 68 71 45,rqX 72 68 0 3,rqX 73 68 1 27,rqS 14 72 3,rqS 15 73 27])
 (.seq (.reg [] [
   rq 75 (.buildSlice 22 3 #[(0,(ki 0)),(1,(ki 1)),(2,(ki 3))]) 22,rq 76 (cf 54 #[(ki 7),(tp 75)] #[3,22]) 24,rq 77 (cf 31 #[(tp 76)] #[24]) 48,rqM 74 77 48,rqX 78 74 0 4,rqX 79 74 1 27,rqS 16 78 4,rqS 17 79 27])
 (.seq (.reg [] [
   rq 81 (cf 35 #[(ki 13),(ki 4)] #[3,3]) 31,rqM 80 81 31,rqX 82 80 0 24,rqX 83 80 1 27,rq 18 (.alloc 24) 0,rn (.store 24 (tp 18) (tp 82)) 0,rqS 19 83 27])
 (.seq (.reg [] [
   rq 85 (.buildSlice 22 6 #[(0,(ki 1)),(1,(ki 1)),(2,(ki 1)),(3,(ki 1)),(4,(ki 1)),(5,(ki 1))]) 22,rq 86 (cf 55 #[(tp 85)] #[22]) 22,rq 87 (cf 37 #[(ki 7),(tp 86)] #[3,22]) 57,rqM 84 87 57,rqX 88 84 0 56,rqX 89 84 1 27,rqS 20 88 56,rqS 21 89 27])
 (.seq (.reg [] [
   rq 91 (.buildSlice 22 3 #[(0,(ki 0)),(1,(ki 1)),(2,(ki 3))]) 22,rq 92 (cf 54 #[(ki 7),(tp 91)] #[3,22]) 24,rq 93 (cf 40 #[(tp 92),(ki 3)] #[24,3]) 31,rqM 90 93 31,rqX 94 90 0 24,rqX 95 90 1 27,rq 22 (.alloc 24) 0,rn (.store 24 (tp 22) (tp 94)) 0,rqS 23 95 27])
 (.seq (.reg [] [
   rq 97 (.buildSlice 22 3 #[(0,(ki 0)),(1,(ki 1)),(2,(ki 3))]) 22,rq 98 (cf 54 #[(ki 7),(tp 97)] #[3,22]) 24,rq 99 (cf 42 #[(tp 98)] #[24]) 28,rqM 96 99 28,rqX 100 96 0 22,rqX 101 96 1 27,rqS 24 100 22,rqS 25 101 27])
 (.seq (.reg [] [
   rq 103 (.buildSlice 22 2 #[(0,(ki 0)),(1,(ki 1))]) 22,rq 104 (cf 54 #[(ki 8),(tp 103)] #[3,22]) 24,rq 105 (cf 44 #[(tp 104)] #[24]) 28,rqM 102 105 28,rqX 106 102 0 22,rqX 107 102 1 27,rqS 26 106 22,rqS 27 107 27])
 (.seq (.seq (.reg [] [
   rqM 108 2 27,rq 109 (.binOp .neq 27 (tp 108) (ki 0) 27) 4,rqM 110 109 4,rgM 111 4 27 110 false,rg 112 (.binOp .neq 27 (tp 111) (ki 0) 27) 4 110 false,rq 113 (.pick (tp 110) (kb true) (tp 112)) 4,rqM 114 113 4,rgM 115 6 27 114 false,rg 116 (.binOp .neq 27 (tp 115) (ki 0) 27) 4 114 false,rq 117 (.pick (tp 114) (kb true) (tp 116)) 4,rqM 118 117 4,rgM 119 8 27 118 false,rg 120 (.binOp .neq 27 (tp 119) (ki 0) 27) 4 118 false,rq 121 (.pick (tp 118) (kb true) (tp 120)) 4,rqM 122 121 4,rgM 123 11 27 122 false,rg 124 (.binOp .neq 27 (tp 123) (ki 0) 27) 4 122 false,rq 125 (.pick (tp 122) (kb true) (tp 124)) 4,rqM 126 125 4,rgM 127 13 27 126 false,rg 128 (.binOp .neq 27 (tp 127) (ki 0) 27) 4 126 false,rq 129 (.pick (tp 126) (kb true) (tp 128)) 4,rqM 130 129 4,rgM 131 15 27 130 false,rg 132 (.binOp .neq 27 (tp 131) (ki 13) 27) 4 130 false,rq 133 (.pick (tp 130) (kb true) (tp 132)) 4,rqM 134 133 4,rgM 135 17 27 134 false,rg 136 (.binOp .neq 27 (tp 135) (ki 0) 27) 4 134 false,rq 137 (.pick (tp 134) (kb true) (tp 136)) 4,rqM 138 137 4,rgM 139 19 27 138 false,rg 140 (.binOp .neq 27 (tp 139) (ki 0) 27) 4 138 false,rq 141 (.pick (tp 138) (kb true) (tp 140)) 4,rqM 142 141 4,rgM 143 21 27 142 false,rg 144 (.binOp .neq 27 (tp 143) (ki 0) 27) 4 142 false,rq 145 (.pick (tp 142) (kb true) (tp 144)) 4,rqM 146 145 4,rgM 147 23 27 146 false,rg 148 (.binOp .neq 27 (tp 147) (ki 0) 27) 4 146 false,rq 149 (.pick (tp 146) (kb true) (tp 148)) 4,rqM 150 149 4,rgM 151 25 27 150 false,rg 152 (.binOp .neq 27 (tp 151) (ki 0) 27) 4 150 false,rq 153 (.pick (tp 150) (kb true) (tp 152)) 4,rqM 154 153 4,rgM 155 27 27 154 false,rg 156 (.binOp .neq 27 (tp 155) (ki 0) 27) 4 154 false,rq 157 (.pick (tp 154) (kb true) (tp 156)) 4])
 (.cond (tp 157) (.seq (.reg [] [
   rq 0 (.assign (kb false)) 4])
  (.ret))
 (.skip)))
 (.seq (.reg [] [
   rq 159 (.buildSlice 22 3 #[(0,(ki 0)),(1,(ki 1)),(2,(ki 3))]) 22,rq 160 (cf 54 #[(ki 7),(tp 159)] #[3,22]) 24,rq 161 (.buildSlice 22 3 #[(0,(ki 0)),(1,(ki 1)),(2,(ki 2))]) 22,rq 162 (cf 54 #[(ki 7),(tp 161)] #[3,22]) 24,rq 163 (cf 21 #[(tp 160),(tp 162)] #[24,24]) 37,rqM 158 163 37,rqX 164 158 0 3,rqX 165 158 1 4,rqX 166 158 2 27,rqS 2 166 27])
 (.seq (.reg [] [
   rq 168 (cf 35 #[(ki 7),(ki 2)] #[3,3]) 31,rqM 167 168 31,rqX 169 167 0 24,rqX 170 167 1 27,rqS 4 170 27])
 (.seq (.reg [] [
   rq 172 (.buildSlice 22 3 #[(0,(ki 0)),(1,(ki 1)),(2,(ki 3))]) 22,rq 173 (cf 54 #[(ki 7),(tp 172)] #[3,22]) 24,rq 174 (cf 40 #[(tp 173),(ki 7)] #[24,3]) 31,rqM 171 174 31,rqX 175 171 0 24,rqX 176 171 1 27,rqS 6 176 27])
 (.seq (.reg [] [
   rqM 177 2 27,rq 178 (.binOp .eql 27 (tp 177) (ki 12) 27) 4,rqM 179 178 4,rgM 180 4 27 179 true,rg 181 (.binOp .eql 27 (tp 180) (ki 12) 27) 4 179 true,rq 182 (.pick (tp 179) (tp 181) (kb false)) 4,rqM 183 182 4,rgM 184 6 27 183 true,rg 185 (.binOp .eql 27 (tp 184) (ki 13) 27) 4 183 true,rq 186 (.pick (tp 183) (tp 185) (kb false)) 4,rqM 187 186 4,rgM 188 1 22 187 true,rg 189 (.buildSlice 22 3 #[(0,(ki 1)),(1,(ki 2)),(2,(ki 4))]) 22 187 true,rg 190 (cf 55 #[(tp 189)] #[22]) 22 187 true,rg 191 (cf 23 #[(tp 188),(tp 190)] #[22,22]) 4 187 true,rq 192 (.pick (tp 187) (tp 191) (kb false)) 4,rqM 193 192 4,rgM 194 3 22 193 true,rg 195 (.buildSlice 22 6 #[(0,(ki 1)),(1,(ki 1)),(2,(ki 1)),(3,(ki 1)),(4,(ki 1)),(5,(ki 1))]) 22 193 true,rg 196 (cf 55 #[(tp 195)] #[22]) 22 193 true,rg 197 (cf 23 #[(tp 194),(tp 196)] #[22,22]) 4 193 true,rq 198 (.pick (tp 193) (tp 197) (kb false)) 4,rqM 199 198 4,rg 200 (.load 24 (tp 5)) 24 199 true,rg 201 (.buildSlice 22 3 #[(0,(ki 0)),(1,(ki 2)),(2,(ki 6))]) 22 199 true,rg 202 (cf 56 #[(tp 200),(ki 7),(tp 201)] #[24,3,22]) 4 199 true,rq 203 (.pick (tp 199) (tp 202) (kb false)) 4,rqM 204 203 4,rg 205 (.load 24 (tp 7)) 24 204 true,rg 206 (.buildSlice 22 3 #[(0,(ki 0)),(1,(ki 1)),(2,(ki 5))]) 22 204 true,rg 207 (cf 56 #[(tp 205),(ki 7),(tp 206)] #[24,3,22]) 4 204 true,rq 208 (.pick (tp 204) (tp 207) (kb false)) 4,rqM 209 208 4,rgM 210 9 3 209 true,rg 211 (.binOp .eql 3 (tp 210) (ki 3) 3) 4 209 true,rq 212 (.pick (tp 209) (tp 211) (kb false)) 4,rqM 213 212 4,rgM 214 10 4 213 true,rq 215 (.pick (tp 213) (tp 214) (kb false)) 4,rqM 216 215 4,rgM 217 12 22 216 true,rg 218 (.buildSlice 22 1 #[(0,(ki 1))]) 22 216 true,rg 219 (cf 55 #[(tp 218)] #[22]) 22 216 true,rg 220 (cf 23 #[(tp 217),(tp 219)] #[22,22]) 4 216 true,rq 221 (.pick (tp 216) (tp 220) (kb false)) 4,rqM 222 221 4,rgM 223 14 3 222 true,rg 224 (.binOp .eql 3 (tp 223) (ki 4) 3) 4 222 true,rq 225 (.pick (tp 222) (tp 224) (kb false)) 4,rqM 226 225 4,rgM 227 16 4 226 true,rq 228 (.pick (tp 226) (tp 227) (kb false)) 4,rqM 229 228 4,rg 230 (.load 24 (tp 18)) 24 229 true,rg 231 (.buildSlice 22 4 #[(0,(ki 0)),(1,(ki 1)),(2,(ki 3)),(3,(ki 9))]) 22 229 true,rg 232 (cf 56 #[(tp 230),(ki 13),(tp 231)] #[24,3,22]) 4 229 true,rq 233 (.pick (tp 229) (tp 232) (kb false)) 4,rqM 234 233 4,rgM 235 20 56 234 true,rg 236 (.buildSlice 22 3 #[(0,(ki 0)),(1,(ki 1)),(2,(ki 3))]) 22 234 true,rg 237 (cf 55 #[(tp 236)] #[22]) 22 234 true,rg 238 (.build 26 #[(0,(ki 7)),(1,(tp 237))]) 26 234 true,rg 239 (.buildSlice 22 3 #[(0,(ki 0)),(1,(ki 1)),(2,(ki 5))]) 22 234 true,rg 240 (cf 55 #[(tp 239)] #[22]) 22 234 true,rg 241 (.build 26 #[(0,(ki 7)),(1,(tp 240))]) 26 234 true,rg 242 (.buildSlice 59 2 #[(0,(tp 238)),(1,(tp 241))]) 59 234 true,rg 243 (cf 39 #[(tp 235),(tp 242)] #[56,59]) 4 234 true,rq 244 (.pick (tp 234) (tp 243) (kb false)) 4,rqM 245 244 4,rg 246 (.load 24 (tp 22)) 24 245 true,rg 247 (.buildSlice 22 3 #[(0,(ki 0)),(1,(ki 2)),(2,(ki 3))]) 22 245 true,rg 248 (cf 56 #[(tp 246),(ki 7),(tp 247)] #[24,3,22]) 4 245 true,rq 249 (.pick (tp 245) (tp 248) (kb false)) 4,rqM 250 249 4,rgM 251 24 22 250 true,rg 252 (.buildSlice 22 3 #[(0,(ki 1)),(1,(ki 2)),(2,(ki 4))]) 22 250 true,rg 253 (cf 55 #[(tp 252)] #[22]) 22 250 true,rg 254 (cf 23 #[(tp 251),(tp 253)] #[22,22]) 4 250 true,rq 255 (.pick (tp 250) (tp 254) (kb false)) 4,rqM 256 255 4,rgM 257 26 22 256 true,rg 258 (.buildSlice 22 2 #[(0,(ki 3)),(1,(ki 6))]) 22 256 true,rg 259 (cf 55 #[(tp 258)] #[22]) 22 256 true,rg 260 (cf 23 #[(tp 257),(tp 259)] #[22,22]) 4 256 true,rq 261 (.pick (tp 256) (tp 260) (kb false)) 4,rqS 0 261 4])
 (.ret)))))))))))))))))))
def c15:RC:=
 .seq (.reg [] [
  rq 1 (.box 24 (tp 0)) 0,rq 2 (.assign (.const (.slice none 0 0))) 22,rqK 3 0 27])
 (.seq (.reg [] [
   rqL 11 1 24,rq 12 (cf 61 #[(tp 11)] #[24]) 93,rqM 10 12 93,rqX 13 10 0 92,rqX 14 10 1 27,rq 4 (.alloc 92) 0,rn (.store 92 (tp 4) (tp 13)) 0,rqS 5 14 27])
 (.seq (.block 0 (.seq (.reg [] [
   rqM 16 5 27,
   rq 17 (.binOp .neq 27 (tp 16) (ki 0) 27) 4,
   rqS 15 17 4])
  (.cond (tp 15) (.seq (.reg [] [
    rqM 18 5 27,
    rq 2 (.assign (.const (.slice none 0 0))) 22,
    rqS 3 18 27])
   (.ret))
  (.seq (.reg [] [
    rqF 20 92 4 1,
    rqL 21 20 65,
    rq 22 (.binOp .eql 65 (tp 21) (.const (.int .u32 0)) 65) 4,
    rqS 19 22 4])
   (.cond (tp 19) (.seq (.reg [] [
     rq 2 (.assign (.const (.slice none 0 0))) 22,
     rqK 3 4 27])
    (.ret))
   (.skip))))))
 (.seq (.reg [] [
   rq 6 (.assign (.const (.slice none 0 0))) 22])
 (.seq (.seq (.reg [] [
   rqF 23 24 1 1,rqL 24 23 22,rqN 25 24 22,rq 26 (.move (ki 0)) 3])
 (.block 1 (.loop (.seq (.reg [] [
   rqT 27 26 25])
   (.seq (.cond (tp 27) (.skip)
   (.exit 1))
   (.seq (.block 2 (.seq (.reg [] [
     rqM 28 26 3,
     rqI 29 22 24 26,
     rqL 30 29 3,
     rqS 7 28 3,
     rqS 8 30 3])
    (.seq (.reg [0, 1, 2, 3, 4, 5, 6, 7, 8, 9, 10] [
      rqF 31 24 1 1,
      rqL 32 31 22,
      rqM 33 7 3,
      rqA 34 33,
      rqF 35 24 1 1,
      rqL 36 35 22,
      rqN 37 36 22,
      rq 38 (.binOp .rem 3 (tp 34) (tp 37) 3) 3,
      rqI 39 22 32 38,
      rqL 40 39 3,
      rqS 9 40 3])
    (.reg [] [
      rqM 41 6 22,
      rqL 42 4 92,
      rqM 43 9 3,
      rqM 44 8 3,
      rq 45 (.binOp .sub 3 (tp 43) (tp 44) 3) 3,
      rq 46 (.binOp .sub 3 (tp 45) (ki 1) 3) 3,
      rq 47 (cf 62 #[(tp 42),(tp 46)] #[92,3]) 3,
      rqA 48 47,
      rq 49 (.buildSlice 22 1 #[(0,(tp 48))]) 22,
      rq 50 (cb .append #[(tp 41),(tp 49)] #[22,22]) 22,
      rqS 6 50 22]))))
   (.reg [] [
     rqA 51 26,
     rqM 26 51 3])))))))
 (.seq (.reg [] [
   rqM 52 6 22,rqS 2 52 22,rqK 3 0 27])
 (.ret))))))
def c17:RC:=
 .seq (.reg [] [
  rq 2 (.box 24 (tp 0)) 0,rq 4 (.alloc 24) 0,rqK 5 0 27])
 (.seq (.reg [] [
   rqL 9 2 24,rq 10 (cf 61 #[(tp 9)] #[24]) 93,rqM 8 10 93,rqX 11 8 0 92,rqX 12 8 1 27,rq 6 (.alloc 92) 0,rn (.store 92 (tp 6) (tp 11)) 0,rqS 7 12 27])
 (.seq (.seq (.reg [] [
   rqM 13 7 27,rq 14 (.binOp .neq 27 (tp 13) (ki 0) 27) 4])
 (.cond (tp 14) (.seq (.reg [] [
   rq 15 (.build 24 #[]) 24,
   rqM 16 7 27,
   rn (.store 24 (tp 4) (tp 15)) 0,
   rqS 5 16 27])
  (.ret))
 (.skip)))
 (.seq (.reg [0, 1, 2, 3, 4, 5, 6, 7] [
   rqL 17 6 92,rqL 18 6 92,rqM 19 1 3,
   ⟨(some 20),cf 62 #[(tp 18),(tp 19)] #[92,3],3,none,[(tp 6)]⟩,rq 21 (cf 65 #[(tp 17),(tp 20)] #[92,3]) 92,rq 22 (cf 66 #[(tp 21)] #[92]) 24,rn (.store 24 (tp 4) (tp 22)) 0,rqK 5 0 27])
 (.ret))))
def c19:RC:=c19_11
def c21:RC:=
 .seq (.reg [] [
  rq 2 (.box 24 (tp 0)) 0,rq 3 (.box 24 (tp 1)) 0,rqK 4 0 3,rq 5 (.assign (kb false)) 4,rqK 6 0 27])
 (.seq (.reg [] [
   rqL 14 2 24,rq 15 (cf 61 #[(tp 14)] #[24]) 93,rqM 13 15 93,rqX 16 13 0 92,rqX 17 13 1 27,rq 7 (.alloc 92) 0,rn (.store 92 (tp 7) (tp 16)) 0,rqS 6 17 27])
 (.seq (.seq (.reg [] [
   rqM 18 6 27,rq 19 (.binOp .neq 27 (tp 18) (ki 0) 27) 4])
 (.cond (tp 19) (.seq (.reg [] [
   rqM 20 6 27,
   rqK 4 0 3,
   rq 5 (.assign (kb false)) 4,
   rqS 6 20 27])
  (.ret))
 (.skip)))
 (.seq (.reg [] [
   rqL 22 3 24,rq 23 (cf 61 #[(tp 22)] #[24]) 93,rqM 21 23 93,rqX 24 21 0 92,rqX 25 21 1 27,rq 8 (.alloc 92) 0,rn (.store 92 (tp 8) (tp 24)) 0,rqS 6 25 27])
 (.seq (.block 0 (.seq (.reg [] [
   rqM 27 6 27,
   rq 28 (.binOp .neq 27 (tp 27) (ki 0) 27) 4,
   rqS 26 28 4])
  (.cond (tp 26) (.seq (.reg [] [
    rqM 29 6 27,
    rqK 4 0 3,
    rq 5 (.assign (kb false)) 4,
    rqS 6 29 27])
   (.ret))
  (.seq (.reg [] [
    rqF 31 92 7 0,
    rqL 32 31 3,
    rqF 33 92 8 0,
    rqL 34 33 3,
    rq 35 (.binOp .neq 3 (tp 32) (tp 34) 3) 4,
    rqM 36 35 4,
    rg 37 (.fieldAddr 24 (tp 2) 1) 0 36 false,
    rg 38 (.load 22 (tp 37)) 22 36 false,
    rg 39 (cb .len #[(tp 38)] #[22]) 3 36 false,
    rg 40 (.fieldAddr 24 (tp 3) 1) 0 36 false,
    rg 41 (.load 22 (tp 40)) 22 36 false,
    rg 42 (cb .len #[(tp 41)] #[22]) 3 36 false,
    rg 43 (.binOp .neq 3 (tp 39) (tp 42) 3) 4 36 false,
    rq 44 (.pick (tp 36) (kb true) (tp 43)) 4,
    rqS 30 44 4])
   (.cond (tp 30) (.seq (.reg [] [
     rqK 4 0 3,
     rq 5 (.assign (kb false)) 4,
     rqK 6 5 27])
    (.ret))
   (.skip))))))
 (.seq (.seq (.reg [] [
   rqL 46 7 92,rqL 47 8 92,rq 48 (cf 70 #[(tp 46),(tp 47)] #[92,92]) 103,rqM 45 48 103,rqX 49 45 0 3,rqX 50 45 1 4,rqS 9 49 3,rqS 10 50 4])
 (.seq (.reg [] [
   rqM 51 10 4])
 (.cond (tp 51) (.seq (.reg [] [
   rqM 52 9 3,
   rqS 4 52 3,
   rq 5 (.assign (kb false)) 4,
   rqK 6 0 27])
  (.ret))
 (.skip))))
 (.seq (.seq (.reg [0, 2, 1, 3, 4, 5, 6, 7, 8] [
   rqL 54 7 92,rqL 56 8 92,
   ⟨(some 55),cf 71 #[(tp 54),(ki (-1))] #[92,3],92,none,[(tp 8)]⟩,rq 57 (cf 70 #[(tp 55),(tp 56)] #[92,92]) 103,rqM 53 57 103,rqX 58 53 0 3,rqX 59 53 1 4,rqS 11 58 3,rqS 12 59 4])
 (.seq (.reg [] [
   rqM 60 12 4])
 (.cond (tp 60) (.seq (.reg [] [
   rqM 61 11 3,
   rqS 4 61 3,
   rq 5 (.assign (kb true)) 4,
   rqK 6 0 27])
  (.ret))
 (.skip))))
 (.seq (.reg [] [
   rqK 4 0 3,rq 5 (.assign (kb false)) 4,rqK 6 12 27])
 (.ret))))))))
def c23:RC:=c23_26
def c24:RC:=
 .seq (.reg [] [
  rq 2 (.box 24 (tp 0)) 0,rq 3 (.box 26 (tp 1)) 0,rq 4 (.assign (kb false)) 4])
 (.seq (.reg [] [
   rqF 5 24 2 0,rqL 6 5 3,rqF 7 26 3 0,rqL 8 7 3,rq 9 (.binOp .eql 3 (tp 6) (tp 8) 3) 4,rqM 10 9 4,rg 11 (.fieldAddr 24 (tp 2) 1) 0 10 true,rg 12 (.load 22 (tp 11)) 22 10 true,rg 13 (.fieldAddr 26 (tp 3) 1) 0 10 true,rg 14 (.load 22 (tp 13)) 22 10 true,rg 15 (cf 23 #[(tp 12),(tp 14)] #[22,22]) 4 10 true,rq 16 (.pick (tp 10) (tp 15) (kb false)) 4,rqS 4 16 4])
 (.ret))
def c25:RC:=c25_44
def c27:RC:=
 .seq (.reg [] [
  rq 1 (.box 24 (tp 0)) 0,rq 2 (.assign (.const (.slice none 0 0))) 22,rqK 3 0 27])
 (.seq (.reg [] [
   rqL 7 1 24,rq 8 (cf 61 #[(tp 7)] #[24]) 93,rqM 6 8 93,rqX 9 6 0 92,rqX 10 6 1 27,rq 4 (.alloc 92) 0,rn (.store 92 (tp 4) (tp 9)) 0,rqS 5 10 27])
 (.seq (.seq (.reg [] [
   rqM 11 5 27,rq 12 (.binOp .neq 27 (tp 11) (ki 0) 27) 4])
 (.cond (tp 12) (.seq (.reg [] [
   rqM 13 5 27,
   rq 2 (.assign (.const (.slice none 0 0))) 22,
   rqS 3 13 27])
  (.ret))
 (.skip)))
 (.seq (.reg [] [
   rqL 14 4 92,rq 15 (cf 74 #[(tp 14)] #[92]) 22,rqS 2 15 22,rqK 3 0 27])
 (.ret))))
def c29:RC:=
 .seq (.reg [] [
  rq 1 (.box 24 (tp 0)) 0,rqK 2 0 3,rqK 3 0 27])
 (.seq (.reg [] [
   rqL 7 1 24,rq 8 (cf 61 #[(tp 7)] #[24]) 93,rqM 6 8 93,rqX 9 6 0 92,rqX 10 6 1 27,rq 4 (.alloc 92) 0,rn (.store 92 (tp 4) (tp 9)) 0,rqS 3 10 27])
 (.seq (.seq (.reg [] [
   rqM 11 3 27,rq 12 (.binOp .neq 27 (tp 11) (ki 0) 27) 4])
 (.cond (tp 12) (.seq (.reg [] [
   rqM 13 3 27,
   rqK 2 0 3,
   rqS 3 13 27])
  (.ret))
 (.skip)))
 (.seq (.seq (.reg [] [
   rqL 14 4 92,rq 15 (cf 76 #[(tp 14)] #[92]) 3,rqS 5 15 3])
 (.seq (.reg [] [
   rqM 16 5 3,rq 17 (.binOp .gtr 3 (tp 16) (ki 0) 3) 4])
 (.cond (tp 17) (.seq (.reg [] [
   rqM 18 5 3,
   rqS 2 18 3,
   rqK 3 13 27])
  (.ret))
 (.skip))))
 (.seq (.reg [] [
   rqK 2 0 3,rqK 3 0 27])
 (.ret)))))
def c31:RC:=
 .seq (.reg [] [
  rq 1 (.box 24 (tp 0)) 0,rq 2 (.assign (kb false)) 4,rqK 3 0 27])
 (.seq (.reg [] [
   rqL 7 1 24,rq 8 (cf 61 #[(tp 7)] #[24]) 93,rqM 6 8 93,rqX 9 6 0 92,rqX 10 6 1 27,rq 4 (.alloc 92) 0,rn (.store 92 (tp 4) (tp 9)) 0,rqS 5 10 27])
 (.seq (.seq (.reg [] [
   rqM 11 5 27,rq 12 (.binOp .neq 27 (tp 11) (ki 0) 27) 4])
 (.cond (tp 12) (.seq (.reg [] [
   rqM 13 5 27,
   rq 2 (.assign (kb false)) 4,
   rqS 3 13 27])
  (.ret))
 (.skip)))
 (.seq (.reg [] [
   rqL 14 4 92,rq 15 (cf 78 #[(tp 14)] #[92]) 4,rqS 2 15 4,rqK 3 0 27])
 (.ret))))
def c33:RC:=
 .seq (.reg [] [
  rq 2 (.box 24 (tp 0)) 0,rq 4 (.assign (.const (.slice none 0 0))) 22,rqK 5 0 27])
 (.seq (.reg [] [
   rqL 12 2 24,rq 13 (cf 61 #[(tp 12)] #[24]) 93,rqM 11 13 93,rqX 14 11 0 92,rqX 15 11 1 27,rq 6 (.alloc 92) 0,rn (.store 92 (tp 6) (tp 14)) 0,rqS 7 15 27])
 (.seq (.seq (.reg [] [
   rqM 16 7 27,rq 17 (.binOp .neq 27 (tp 16) (ki 0) 27) 4])
 (.cond (tp 17) (.seq (.reg [] [
   rqM 18 7 27,
   rq 4 (.assign (.const (.slice none 0 0))) 22,
   rqS 5 18 27])
  (.ret))
 (.skip)))
 (.seq (.reg [] [
   rqL 19 6 92,rq 8 (.alloc 92) 0,rn (.store 92 (tp 8) (tp 19)) 0])
 (.seq (.seq (.reg [] [
   rqM 20 1 22,rqN 21 20 22,rq 22 (.move (ki 0)) 3])
 (.block 0 (.loop (.seq (.reg [] [
   rqT 23 22 21])
   (.seq (.cond (tp 23) (.skip)
   (.exit 0))
   (.seq (.block 1 (.seq (.reg [] [
     rqI 24 22 20 22,
     rqL 25 24 3,
     rqS 10 25 3])
    (.reg [0, 1, 2, 3, 4, 5, 6, 7, 8, 9, 10] [
      rqF 26 92 8 1,
      rqL 27 26 65,
      rqL 28 6 92,
      rqL 29 6 92,
      rqM 30 10 3,
      ⟨(some 31),cf 62 #[(tp 29),(tp 30)] #[92,3],3,none,[(tp 6),(tp 26)]⟩,
      ⟨(some 32),cf 65 #[(tp 28),(tp 31)] #[92,3],92,none,[(tp 26)]⟩,
      rq 33 (.field 92 (tp 32) 1) 65,
      rq 34 (.binOp .and 65 (tp 27) (tp 33) 65) 65,
      rqF 35 92 8 1,
      rn (.store 65 (tp 35) (tp 34)) 0])))
   (.reg [] [
     rqA 36 22,
     rqM 22 36 3])))))))
 (.seq (.reg [] [
   rqL 37 8 92,rq 38 (cf 80 #[(tp 37)] #[92]) 22,rqS 4 38 22,rqK 5 0 27])
 (.ret))))))
def c35:RC:=
 .seq (.reg [] [
  rq 4 (.alloc 24) 0,rqK 5 0 27])
 (.seq (.seq (.reg [] [
   rqM 8 0 3,rq 9 (.binOp .lss 3 (tp 8) (ki 1) 3) 4,rqM 10 9 4,rgM 11 0 3 10 false,rg 12 (.binOp .gtr 3 (tp 11) (ki 21) 3) 4 10 false,rq 13 (.pick (tp 10) (kb true) (tp 12)) 4,rqM 14 13 4,rgM 15 1 3 14 false,rg 16 (.binOp .lss 3 (tp 15) (ki 0) 3) 4 14 false,rq 17 (.pick (tp 14) (kb true) (tp 16)) 4,rqM 18 17 4,rgM 19 1 3 18 false,rg 20 (.binOp .gtr 3 (tp 19) (ki 6) 3) 4 18 false,rq 21 (.pick (tp 18) (kb true) (tp 20)) 4])
 (.cond (tp 21) (.seq (.reg [] [
   rq 22 (.build 24 #[]) 24,
   rn (.store 24 (tp 4) (tp 22)) 0,
   rqK 5 1 27])
  (.ret))
 (.skip)))
 (.seq (.reg [] [
   rq 23 (.build 24 #[]) 24,rq 6 (.alloc 24) 0,rq 7 (.alloc 27) 0,rn (.store 24 (tp 6) (tp 23)) 0,rn (.store 27 (tp 7) (ki 12)) 0])
 (.seq (.seq (.reg [] [
   rqM 24 1 3,rqM 25 1 3,rq 26 (.binOp .sub 3 (tp 25) (ki 1) 3) 3,rq 27 (.binOp .mul 3 (tp 24) (tp 26) 3) 3,rqM 28 0 3,rq 29 (.binOp .sub 3 (tp 28) (ki 1) 3) 3,rq 30 (.binOp .neq 3 (tp 27) (tp 29) 3) 4])
 (.cond (tp 30) (.seq (.reg [0, 1, 2, 3] [
   rqL 31 6 24,
   rqL 32 7 27,
   ⟨none,.store 24 (tp 4) (tp 31),0,none,[(tp 7)]⟩,
   rqS 5 32 27])
  (.ret))
 (.skip)))
 (.seq (.reg [] [
   rqM 33 0 3,rq 34 (.build 92 #[(0,(tp 33))]) 92,rqM 35 1 3,rq 36 (.makeFunc (.func 83) #[] #[(tp 6),(tp 7)]) 112,rq 37 (cf 81 #[(tp 34),(ki 0),(tp 35),(.func 82),(tp 36)] #[92,3,3,112,112]) 4])
 (.seq (.reg [0, 1, 2, 3] [
   rqL 38 6 24,rqL 39 7 27,⟨none,.store 24 (tp 4) (tp 38),0,none,[(tp 7)]⟩,rqS 5 39 27])
 (.ret))))))
def c37:RC:=c37_60
def c39:RC:=
 .seq (.reg [] [
  rq 4 (.assign (kb false)) 4])
 (.seq (.seq (.reg [] [
   rqM 6 0 56,rqN 7 6 56,rqM 8 1 59,rqN 9 8 59,rq 10 (.binOp .neq 3 (tp 7) (tp 9) 3) 4])
 (.cond (tp 10) (.seq (.reg [] [
   rq 4 (.assign (kb false)) 4])
  (.ret))
 (.skip)))
 (.seq (.seq (.reg [] [
   rqK 5 0 3])
 (.block 0 (.loop (.seq (.seq (.reg [] [
   rqM 11 5 3,
   rqM 12 0 56,
   rqN 13 12 56,
   rq 14 (.binOp .lss 3 (tp 11) (tp 13) 3) 4])
   (.cond (tp 14) (.skip)
   (.exit 0)))
   (.seq (.block 1 (.seq (.reg [0, 1, 2, 3, 4, 5, 6, 7, 8, 9] [
     rqM 17 0 56,
     rqM 18 5 3,
     rqI 19 56 17 18,
     rqL 20 19 24,
     rqM 21 1 59,
     rqM 22 5 3,
     rqI 23 59 21 22,
     rqL 24 23 26,
     rq 25 (cf 24 #[(tp 20),(tp 24)] #[24,26]) 4,
     rq 26 (.unOp .not 4 (tp 25)) 4])
    (.cond (tp 26) (.seq (.reg [] [
      rq 4 (.assign (kb false)) 4])
     (.ret))
    (.skip))))
   (.reg [] [
     rqM 15 5 3,
     rqA 16 15,
     rqS 5 16 3]))))))
 (.seq (.reg [] [
   rq 4 (.assign (kb true)) 4])
 (.ret))))
def c40:RC:=
 .seq (.reg [] [
  rq 2 (.box 24 (tp 0)) 0,rq 4 (.alloc 24) 0,rqK 5 0 27])
 (.seq (.reg [] [
   rqL 9 2 24,rq 10 (cf 61 #[(tp 9)] #[24]) 93,rqM 8 10 93,rqX 11 8 0 92,rqX 12 8 1 27,rq 6 (.alloc 92) 0,rn (.store 92 (tp 6) (tp 11)) 0,rqS 7 12 27])
 (.seq (.block 0 (.seq (.reg [] [
   rqM 14 7 27,
   rq 15 (.binOp .neq 27 (tp 14) (ki 0) 27) 4,
   rqS 13 15 4])
  (.cond (tp 13) (.seq (.reg [] [
    rq 16 (.build 24 #[]) 24,
    rqM 17 7 27,
    rn (.store 24 (tp 4) (tp 16)) 0,
    rqS 5 17 27])
   (.ret))
  (.seq (.reg [] [
    rqM 19 1 3,
    rq 20 (.binOp .lss 3 (tp 19) (ki 1) 3) 4,
    rqM 21 20 4,
    rgM 22 1 3 21 false,
    rg 23 (.fieldAddr 24 (tp 2) 0) 0 21 false,
    rg 24 (.load 3 (tp 23)) 3 21 false,
    rg 25 (.binOp .gtr 3 (tp 22) (tp 24) 3) 4 21 false,
    rq 26 (.pick (tp 21) (kb true) (tp 25)) 4,
    rqS 18 26 4])
   (.cond (tp 18) (.seq (.reg [] [
     rq 27 (.build 24 #[]) 24,
     rn (.store 24 (tp 4) (tp 27)) 0,
     rqK 5 1 27])
    (.ret))
   (.seq (.reg [] [
     rqM 29 1 3,
     rqF 30 24 2 0,
     rqL 31 30 3,
     rq 32 (cf 89 #[(tp 29),(tp 31)] #[3,3]) 4,
     rq 33 (.unOp .not 4 (tp 32)) 4,
     rqS 28 33 4])
    (.cond (tp 28) (.seq (.reg [] [
      rq 34 (.build 24 #[]) 24,
      rn (.store 24 (tp 4) (tp 34)) 0,
      rqK 5 13 27])
     (.ret))
    (.skip))))))))
 (.seq (.reg [] [
   rqL 35 6 92,rqM 36 1 3,rq 37 (cf 71 #[(tp 35),(tp 36)] #[92,3]) 92,rq 38 (cf 66 #[(tp 37)] #[92]) 24,rn (.store 24 (tp 4) (tp 38)) 0,rqK 5 0 27])
 (.ret))))
def c42:RC:=
 .seq (.reg [] [
  rq 1 (.box 24 (tp 0)) 0,rq 2 (.assign (.const (.slice none 0 0))) 22,rqK 3 0 27])
 (.seq (.reg [] [
   rqL 11 1 24,rq 12 (cf 61 #[(tp 11)] #[24]) 93,rqM 10 12 93,rqX 13 10 0 92,rqX 14 10 1 27,rq 4 (.alloc 92) 0,rn (.store 92 (tp 4) (tp 13)) 0,rqS 5 14 27])
 (.seq (.seq (.reg [] [
   rqM 15 5 27,rq 16 (.binOp .neq 27 (tp 15) (ki 0) 27) 4])
 (.cond (tp 16) (.seq (.reg [] [
   rqM 17 5 27,
   rq 2 (.assign (.const (.slice none 0 0))) 22,
   rqS 3 17 27])
  (.ret))
 (.skip)))
 (.seq (.reg [] [
   rq 6 (.assign (.const (.slice none 0 0))) 22])
 (.seq (.seq (.reg [] [
   rqK 7 1 3])
 (.block 0 (.loop (.seq (.seq (.reg [] [
   rqM 18 7 3,
   rqF 19 24 1 0,
   rqL 20 19 3,
   rq 21 (.binOp .leq 3 (tp 18) (tp 20) 3) 4])
   (.cond (tp 21) (.skip)
   (.exit 0)))
   (.seq (.block 1 (.seq (.seq (.reg [] [
     rqM 24 7 3,
     rqF 25 24 1 0,
     rqL 26 25 3,
     rq 27 (cf 89 #[(tp 24),(tp 26)] #[3,3]) 4,
     rq 28 (.unOp .not 4 (tp 27)) 4])
    (.cond (tp 28) (.exit 1)
    (.skip)))
    (.seq (.reg [0, 1, 3, 2, 4, 5, 6, 7, 8, 9] [
      rqL 30 4 92,
      rqM 31 7 3,
      rqL 33 4 92,
      ⟨(some 32),cf 71 #[(tp 30),(tp 31)] #[92,3],92,none,[(tp 4)]⟩,
      rq 34 (cf 70 #[(tp 32),(tp 33)] #[92,92]) 103,
      rqM 29 34 103,
      rqX 35 29 0 3,
      rqX 36 29 1 4,
      rqS 8 35 3,
      rqS 9 36 4])
    (.seq (.reg [] [
      rqM 37 9 4])
    (.cond (tp 37) (.reg [] [
      rqM 38 6 22,
      rqM 39 7 3,
      rq 40 (.buildSlice 22 1 #[(0,(tp 39))]) 22,
      rq 41 (cb .append #[(tp 38),(tp 40)] #[22,22]) 22,
      rqS 6 41 22])
    (.skip))))))
   (.reg [] [
     rqM 22 7 3,
     rqA 23 22,
     rqS 7 23 3]))))))
 (.seq (.reg [] [
   rqM 42 6 22,rqS 2 42 22,rqK 3 0 27])
 (.ret))))))
def c44:RC:=
 .seq (.reg [] [
  rq 1 (.box 24 (tp 0)) 0,rq 2 (.assign (.const (.slice none 0 0))) 22,rqK 3 0 27])
 (.seq (.reg [] [
   rqL 10 1 24,rq 11 (cf 61 #[(tp 10)] #[24]) 93,rqM 9 11 93,rqX 12 9 0 92,rqX 13 9 1 27,rq 4 (.alloc 92) 0,rn (.store 92 (tp 4) (tp 12)) 0,rqS 5 13 27])
 (.seq (.block 0 (.seq (.reg [] [
   rqM 15 5 27,
   rq 16 (.binOp .neq 27 (tp 15) (ki 0) 27) 4,
   rqS 14 16 4])
  (.cond (tp 14) (.seq (.reg [] [
    rqM 17 5 27,
    rq 2 (.assign (.const (.slice none 0 0))) 22,
    rqS 3 17 27])
   (.ret))
  (.seq (.reg [] [
    rqF 19 92 4 1,
    rqL 20 19 65,
    rq 21 (cf 50 #[(tp 20)] #[65]) 3,
    rq 22 (.binOp .eql 3 (tp 21) (ki 6) 3) 4,
    rqS 18 22 4])
   (.cond (tp 18) (.seq (.reg [] [
     rq 2 (.assign (.const (.slice none 0 0))) 22,
     rqK 3 3 27])
    (.ret))
   (.seq (.reg [] [
     rqL 24 4 92,
     rq 25 (cf 76 #[(tp 24)] #[92]) 3,
     rq 26 (.binOp .gtr 3 (tp 25) (ki 0) 3) 4,
     rqS 23 26 4])
    (.cond (tp 23) (.seq (.reg [] [
      rq 2 (.assign (.const (.slice none 0 0))) 22,
      rqK 3 14 27])
     (.ret))
    (.skip))))))))
 (.seq (.reg [] [
   rq 6 (.assign (.const (.slice none 0 0))) 22])
 (.seq (.seq (.reg [] [
   rqF 27 92 4 0,rqL 28 27 3,rq 29 (.move (ki 0)) 3])
 (.block 1 (.loop (.seq (.reg [] [
   rq 30 (.binOp .lss 3 (tp 29) (tp 28) 3) 4])
   (.seq (.cond (tp 30) (.skip)
   (.exit 1))
   (.seq (.block 2 (.seq (.reg [] [
     rqM 31 29 3,
     rqS 7 31 3])
    (.seq (.reg [] [
      rqL 32 4 92,
      rq 8 (.alloc 92) 0,
      rn (.store 92 (tp 8) (tp 32)) 0])
    (.seq (.reg [0, 1, 2, 3, 4, 5, 6] [
      rqF 33 92 8 1,
      rqL 34 33 65,
      rqM 35 7 3,
      rq 36 (.binOp .shl 65 (.const (.int .u32 1)) (tp 35) 3) 65,
      rq 37 (.binOp .or 65 (tp 34) (tp 36) 65) 65,
      rqF 38 92 8 1,
      rn (.store 65 (tp 38) (tp 37)) 0])
    (.seq (.reg [] [
      rqL 39 4 92,
      rqM 40 7 3,
      rq 41 (cf 91 #[(tp 39),(tp 40)] #[92,3]) 4,
      rq 42 (.unOp .not 4 (tp 41)) 4,
      rqM 43 42 4,
      rg 44 (.load 92 (tp 8)) 92 43 true,
      rg 45 (cf 76 #[(tp 44)] #[92]) 3 43 true,
      rg 46 (.binOp .eql 3 (tp 45) (ki 0) 3) 4 43 true,
      rq 47 (.pick (tp 43) (tp 46) (kb false)) 4])
    (.cond (tp 47) (.reg [] [
      rqM 48 6 22,
      rqM 49 7 3,
      rq 50 (.buildSlice 22 1 #[(0,(tp 49))]) 22,
      rq 51 (cb .append #[(tp 48),(tp 50)] #[22,22]) 22,
      rqS 6 51 22])
    (.skip)))))))
   (.reg [] [
     rqA 52 29,
     rqM 29 52 3])))))))
 (.seq (.reg [] [
   rqM 53 6 22,rqS 2 53 22,rqK 3 0 27])
 (.ret))))))
def c46:RC:=c46_16
def c47:RC:=c47_3
def c48:RC:=c48_23
def c49:RC:=c49_20
def c50:RC:=c50_3
def c51:RC:=c51_18
def c52:RC:=c52_38
def c54:RC:=
 .seq (.reg [] [
  rq 4 (.alloc 24) 0])
 (.seq (.reg [] [
   rqM 5 0 3,rqM 6 1 22,rq 7 (.build 24 #[(0,(tp 5)),(1,(tp 6))]) 24,rn (.store 24 (tp 4) (tp 7)) 0])
 (.ret))
def c55:RC:=c55_3
def c56:RC:=
 .seq (.reg [] [
  rq 3 (.box 24 (tp 0)) 0,rq 6 (.assign (kb false)) 4])
 (.seq (.reg [] [
   rqF 7 24 3 0,rqL 8 7 3,rqM 9 1 3,rq 10 (.binOp .eql 3 (tp 8) (tp 9) 3) 4,rqM 11 10 4,rg 12 (.fieldAddr 24 (tp 3) 1) 0 11 true,rg 13 (.load 22 (tp 12)) 22 11 true,rgM 14 2 22 11 true,rg 15 (cf 23 #[(tp 13),(tp 14)] #[22,22]) 4 11 true,rq 16 (.pick (tp 11) (tp 15) (kb false)) 4,rqS 6 16 4])
 (.ret))
def c58:RC:=c58_25
def c60:RC:=c60_2
def c61:RC:=c61_11
def c62:RC:=c62_3
def c65:RC:=c65_7
def c66:RC:=c66_3
def c68:RC:=c68_25
def c70:RC:=
 .seq (.reg [] [
  rq 2 (.box 92 (tp 0)) 0,rq 3 (.box 92 (tp 1)) 0,rqK 4 0 3,rq 5 (.assign (kb false)) 4])
 (.seq (.seq (.reg [] [
   rqF 7 92 2 0,rqL 8 7 3,rq 9 (.move (ki 0)) 3])
 (.block 0 (.loop (.seq (.reg [] [
   rq 10 (.binOp .lss 3 (tp 9) (tp 8) 3) 4])
   (.seq (.cond (tp 10) (.skip)
   (.exit 0))
   (.seq (.block 1 (.seq (.reg [] [
     rqM 11 9 3,
     rqS 6 11 3])
    (.seq (.reg [0, 1, 3, 2, 4] [
      rqL 12 2 92,
      rqM 13 6 3,
      rqL 15 3 92,
      ⟨(some 14),cf 65 #[(tp 12),(tp 13)] #[92,3],92,none,[(tp 3)]⟩,
      rq 16 (.binOp .eql 92 (tp 14) (tp 15) 92) 4])
    (.cond (tp 16) (.seq (.reg [] [
      rqM 17 6 3,
      rqS 4 17 3,
      rq 5 (.assign (kb true)) 4])
     (.ret))
    (.skip)))))
   (.reg [] [
     rqA 18 9,
     rqM 9 18 3])))))))
 (.seq (.reg [] [
   rqK 4 0 3,rq 5 (.assign (kb false)) 4])
 (.ret)))
def c71:RC:=
 .seq (.reg [] [
  rq 2 (.box 92 (tp 0)) 0,rq 4 (.alloc 92) 0])
 (.seq (.reg [] [
   rqF 8 92 2 0,rqL 9 8 3,rq 10 (.build 92 #[(0,(tp 9))]) 92,rq 5 (.alloc 92) 0,rn (.store 92 (tp 5) (tp 10)) 0])
 (.seq (.seq (.reg [] [
   rqL 11 2 92,rq 12 (cf 80 #[(tp 11)] #[92]) 22,rqN 13 12 22,rq 14 (.move (ki 0)) 3])
 (.block 0 (.loop (.seq (.reg [] [
   rqT 15 14 13])
   (.seq (.cond (tp 15) (.skip)
   (.exit 0))
   (.seq (.block 1 (.seq (.reg [] [
     rqI 16 22 12 14,
     rqL 17 16 3,
     rqS 7 17 3])
    (.reg [0, 1, 2, 3, 4, 5, 6, 7, 8, 9, 10] [
      rqF 18 92 5 1,
      rqL 19 18 65,
      rqL 20 2 92,
      rqM 21 7 3,
      rqM 22 1 3,
      rq 23 (.binOp .mul 3 (tp 21) (tp 22) 3) 3,
      ⟨(some 24),cf 62 #[(tp 20),(tp 23)] #[92,3],3,none,[(tp 18)]⟩,
      rq 25 (.binOp .shl 65 (.const (.int .u32 1)) (tp 24) 3) 65,
      rq 26 (.binOp .or 65 (tp 19) (tp 25) 65) 65,
      rqF 27 92 5 1,
      rn (.store 65 (tp 27) (tp 26)) 0])))
   (.reg [] [
     rqA 28 14,
     rqM 14 28 3])))))))
 (.seq (.reg [] [
   rqL 29 5 92,rn (.store 92 (tp 4) (tp 29)) 0])
 (.ret))))
def c74:RC:=c74_18
def c76:RC:=c76_21
def c78:RC:=c78_3
def c80:RC:=c80_23
def c81:RC:=c81_30
def c82:RC:=c82_3
def c83:RC:=
 .seq (.reg [] [
  rq 3 (.box 92 (tp 0)) 0,rq 4 (.assign (kb false)) 4])
 (.seq (.seq (.reg [] [
   rqL 5 3 92,rq 6 (cf 78 #[(tp 5)] #[92]) 4])
 (.cond (tp 6) (.reg [] [
   rqL 7 3 92,
   rq 8 (cf 66 #[(tp 7)] #[92]) 24,
   rn (.store 24 (tp 1) (tp 8)) 0,
   rn (.store 27 (tp 2) (ki 0)) 0])
 (.skip)))
 (.seq (.reg [] [
   rqL 9 2 27,rq 10 (.binOp .neq 27 (tp 9) (ki 0) 27) 4,rqS 4 10 4])
 (.ret)))
def c85:RC:=c85_20
def c86:RC:=c86_38
def c87:RC:=c87_8
def c88:RC:=c88_28
def c89:RC:=
 .seq (.reg [] [
  rq 4 (.assign (kb false)) 4])
 (.seq (.seq (.reg [] [
   rqK 5 2 3])
 (.block 0 (.loop (.seq (.seq (.reg [] [
   rqM 6 5 3,
   rqM 7 0 3,
   rqM 8 1 3,
   rq 9 (cb .min #[(tp 7),(tp 8)] #[3,3]) 3,
   rq 10 (.binOp .leq 3 (tp 6) (tp 9) 3) 4])
   (.cond (tp 10) (.skip)
   (.exit 0)))
   (.seq (.block 1 (.seq (.reg [] [
     rqM 13 0 3,
     rqM 14 5 3,
     rq 15 (.binOp .rem 3 (tp 13) (tp 14) 3) 3,
     rq 16 (.binOp .eql 3 (tp 15) (ki 0) 3) 4,
     rqM 17 16 4,
     rgM 18 1 3 17 true,
     rgM 19 5 3 17 true,
     rg 20 (.binOp .rem 3 (tp 18) (tp 19) 3) 3 17 true,
     rg 21 (.binOp .eql 3 (tp 20) (ki 0) 3) 4 17 true,
     rq 22 (.pick (tp 17) (tp 21) (kb false)) 4])
    (.cond (tp 22) (.seq (.reg [] [
      rq 4 (.assign (kb false)) 4])
     (.ret))
    (.skip))))
   (.reg [] [
     rqM 11 5 3,
     rqA 12 11,
     rqS 5 12 3]))))))
 (.seq (.reg [] [
   rq 4 (.assign (kb true)) 4])
 (.ret)))
def c91:RC:=c91_3
def c92:RC:=c92_37
def c94:RC:=c94_74
def c95:RC:=c95_7
def c96:RC:=c96_20
def c98:RC:=c98_3
def c99:RC:=c99_22
def c107:RC:=
 .seq (.reg [] [
  rqK 2 0 3])
 (.seq (.seq (.reg [] [
   rqM 3 0 65,rq 4 (.binOp .geq 65 (tp 3) (.const (.int .u32 65536)) 65) 4])
 (.cond (tp 4) (.seq (.reg [] [
   rqM 5 0 65,
   rq 6 (.binOp .shr 65 (tp 5) (.const (.int .u64 16)) 118) 65,
   rqS 0 6 65])
  (.reg [] [
    rqK 2 16 3]))
 (.skip)))
 (.seq (.seq (.reg [] [
   rqM 7 0 65,rq 8 (.binOp .geq 65 (tp 7) (.const (.int .u32 256)) 65) 4])
 (.cond (tp 8) (.seq (.reg [] [
   rqM 9 0 65,
   rq 10 (.binOp .shr 65 (tp 9) (.const (.int .u64 8)) 118) 65,
   rqS 0 10 65])
  (.reg [] [
    rqM 11 2 3,
    rq 12 (.binOp .add 3 (tp 11) (ki 8) 3) 3,
    rqS 2 12 3]))
 (.skip)))
 (.seq (.reg [] [
   rqM 13 2 3,rqM 14 0 65,rq 15 (.convert 65 5 (tp 14)) 5,rq 16 (.index 9 (.const (.string ⟨#[0,1,2,2,3,3,3,3,4,4,4,4,4,4,4,4,5,5,5,5,5,5,5,5,5,5,5,5,5,5,5,5,6,6,6,6,6,6,6,6,6,6,6,6,6,6,6,6,6,6,6,6,6,6,6,6,6,6,6,6,6,6,6,6,7,7,7,7,7,7,7,7,7,7,7,7,7,7,7,7,7,7,7,7,7,7,7,7,7,7,7,7,7,7,7,7,7,7,7,7,7,7,7,7,7,7,7,7,7,7,7,7,7,7,7,7,7,7,7,7,7,7,7,7,7,7,7,7,8,8,8,8,8,8,8,8,8,8,8,8,8,8,8,8,8,8,8,8,8,8,8,8,8,8,8,8,8,8,8,8,8,8,8,8,8,8,8,8,8,8,8,8,8,8,8,8,8,8,8,8,8,8,8,8,8,8,8,8,8,8,8,8,8,8,8,8,8,8,8,8,8,8,8,8,8,8,8,8,8,8,8,8,8,8,8,8,8,8,8,8,8,8,8,8,8,8,8,8,8,8,8,8,8,8,8,8,8,8,8,8,8,8,8,8,8,8,8,8,8,8,8,8,8,8,8,8]⟩)) (tp 15)) 5,rq 17 (.convert 5 3 (tp 16)) 3,rq 18 (.binOp .add 3 (tp 13) (tp 17) 3) 3,rqS 2 18 3])
 (.ret))))
def c108:RC:=c108_24
def ti3:TI:=⟨.int .i64,1,8,(some (.int .i64 0)),false⟩
def ti5:TI:=⟨.int .u8,1,1,(some (.int .u8 0)),false⟩
def ti9:TI:=⟨.string,1,16,(some (.string ⟨#[]⟩)),false⟩
def ti22:TI:=⟨.slice 3,1,24,(some (.slice none 0 0)),false⟩
def ti24 : TI := ⟨.struct #[⟨ "Places", 3, 0, false, "", "", 0⟩, ⟨ "Marks", 22, 1, false, "", "", 8⟩], 2, 32, (some (.agg #[(.int .i64 0), (.slice none 0 0)])), false⟩
def ti26 : TI := ⟨.struct #[⟨ "Places", 3, 0, false, "", "", 0⟩, ⟨ "Marks", 22, 1, false, "", "", 8⟩], 2, 32, (some (.agg #[(.int .i64 0), (.slice none 0 0)])), false⟩
def ti27:TI:=⟨.int .i64,1,8,(some (.int .i64 0)),false⟩
def ti56:TI:=⟨.slice 24,1,24,(some (.slice none 0 0)),false⟩
def ti59:TI:=⟨.slice 26,1,24,(some (.slice none 0 0)),false⟩
def ti65:TI:=⟨.int .u32,1,4,(some (.int .u32 0)),false⟩
def ti67 : TI := ⟨.struct #[⟨ "Places", 5, 0, false, "", "", 0⟩, ⟨ "Bits", 65, 1, false, "", "", 4⟩], 2, 8, (some (.agg #[(.int .u8 0), (.int .u32 0)])), true⟩
def ti75:TI:=⟨.func #[22,22] #[3] false,1,8,(some .nilFunc),false⟩
def ti88:TI:=⟨.slice 22,1,24,(some (.slice none 0 0)),false⟩
def ti92 : TI := ⟨.struct #[⟨ "places", 3, 0, false, "", "spadille/ring", 0⟩, ⟨ "set", 65, 1, false, "", "spadille/ring", 8⟩], 2, 16, (some (.agg #[(.int .i64 0), (.int .u32 0)])), true⟩
def ti112:TI:=⟨.func #[92] #[4] false,1,8,(some .nilFunc),false⟩
def ti114:TI:=⟨.map 3 3,1,8,(some (.map none)),false⟩
def ti118:TI:=⟨.int .u64,1,8,(some (.int .u64 0)),false⟩
def ti124:TI:=⟨.int .i64,1,8,(some (.int .i64 0)),false⟩
def ti131:TI:=⟨.int .u64,1,8,(some (.int .u64 0)),false⟩
def ttTr:Tr TI:=(.node none (.node none (.node (some ti3) .nil (.node none (.node none (.node none (.node (some ti67) (.node (some ti131) .nil .nil) .nil) .nil) .nil) (.node (some ti27) (.node none (.node (some ti75) .nil .nil) .nil) (.node (some ti59) .nil .nil)))) (.node (some ti5) (.node (some ti9) (.node none (.node none (.node (some ti65) .nil .nil) .nil) .nil) .nil) .nil)) (.node none (.node none (.node none (.node none .nil (.node none .nil (.node (some ti112) .nil .nil))) (.node (some ti24) .nil (.node (some ti56) (.node (some ti88) .nil .nil) .nil))) (.node none .nil (.node none .nil (.node none (.node (some ti92) .nil .nil) (.node (some ti124) .nil .nil))))) (.node none (.node none (.node none .nil (.node none .nil (.node (some ti114) .nil .nil))) (.node (some ti26) .nil .nil)) (.node none (.node (some ti22) .nil (.node none .nil (.node (some ti118) .nil .nil))) .nil))))
noncomputable def tt:TT:=ttTr.get
def fnTr:Tr RFn:=(.node none (.node none (.node none (.node none (.node (some ⟨53,c15,[.tmp 2,.tmp 3]⟩) (.node (some ⟨16,c31,[.tmp 2,.tmp 3]⟩) .nil (.node (some ⟨8,c95,[.tmp 2]⟩) .nil .nil)) (.node (some ⟨9,c47,[.cell 4 24]⟩) .nil .nil)) (.node (some ⟨26,c23,[.tmp 4]⟩) (.node (some ⟨27,c39,[.tmp 4]⟩) (.node (some ⟨30,c71,[.cell 4 92]⟩) .nil .nil) .nil) (.node (some ⟨4,c55,[.tmp 2]⟩) (.node (some ⟨20,c87,[.tmp 4]⟩) .nil .nil) .nil))) (.node none (.node (some ⟨18,c19,[.cell 2 24,.tmp 3]⟩) (.node (some ⟨40,c35,[.cell 4 24,.tmp 5]⟩) .nil (.node (some ⟨53,c99,[]⟩) .nil .nil)) (.node (some ⟨23,c51,[.tmp 4]⟩) (.node (some ⟨11,c83,[.tmp 4]⟩) .nil .nil) .nil)) (.node (some ⟨16,c27,[.tmp 2,.tmp 3]⟩) (.node none .nil (.node (some ⟨19,c107,[.tmp 2]⟩) .nil .nil)) (.node none (.node (some ⟨11,c91,[.tmp 4]⟩) .nil .nil) .nil)))) (.node none (.node none (.node (some ⟨23,c17,[.cell 4 24,.tmp 5]⟩) (.node (some ⟨39,c33,[.tmp 4,.tmp 5]⟩) (.node (some ⟨26,c65,[.cell 4 92]⟩) .nil .nil) .nil) (.node (some ⟨35,c49,[.tmp 8]⟩) (.node (some ⟨48,c81,[.tmp 10]⟩) .nil .nil) .nil)) (.node (some ⟨42,c25,[.tmp 2]⟩) .nil (.node none (.node (some ⟨23,c89,[.tmp 4]⟩) .nil .nil) .nil))) (.node (some ⟨146,c13,[.tmp 2]⟩) (.node (some ⟨62,c21,[.tmp 4,.tmp 5,.tmp 6]⟩) (.node (some ⟨62,c37,[.tmp 4,.tmp 5]⟩) .nil .nil) (.node none (.node (some ⟨25,c85,[.tmp 3]⟩) .nil .nil) .nil)) (.node (some ⟨19,c29,[.tmp 2,.tmp 3]⟩) .nil (.node (some ⟨16,c61,[.cell 2 92,.tmp 3]⟩) .nil .nil))))) (.node none (.node none (.node none (.node none (.node none .nil (.node (some ⟨24,c96,[.cell 4 92]⟩) .nil .nil)) (.node (some ⟨19,c48,[.tmp 2]⟩) (.node (some ⟨19,c80,[.tmp 2]⟩) .nil .nil) .nil)) (.node (some ⟨17,c24,[.tmp 4]⟩) (.node (some ⟨39,c40,[.cell 4 24,.tmp 5]⟩) .nil .nil) (.node (some ⟨17,c56,[.tmp 6]⟩) (.node (some ⟨26,c88,[.tmp 4]⟩) .nil .nil) .nil))) (.node none (.node none (.node none (.node (some ⟨36,c68,[.cell 2 92]⟩) .nil .nil) .nil) (.node (some ⟨36,c52,[.tmp 4]⟩) .nil .nil)) (.node none (.node (some ⟨54,c44,[.tmp 2,.tmp 3]⟩) (.node (some ⟨27,c76,[.tmp 2]⟩) .nil .nil) (.node (some ⟨25,c108,[.tmp 2]⟩) .nil .nil)) (.node (some ⟨14,c60,[]⟩) (.node (some ⟨20,c92,[.tmp 4]⟩) .nil .nil) .nil)))) (.node none (.node none (.node none (.node none (.node (some ⟨8,c66,[.cell 2 24]⟩) .nil .nil) (.node (some ⟨6,c98,[.tmp 2]⟩) .nil .nil)) (.node (some ⟨21,c50,[.tmp 2]⟩) (.node (some ⟨6,c82,[.tmp 2]⟩) .nil .nil) .nil)) (.node none (.node (some ⟨43,c42,[.tmp 2,.tmp 3]⟩) (.node (some ⟨24,c74,[.tmp 2]⟩) .nil .nil) .nil) (.node (some ⟨26,c58,[.tmp 4]⟩) .nil .nil))) (.node (some ⟨262,c14,[.tmp 0]⟩) (.node none (.node none (.node (some ⟨19,c70,[.tmp 4,.tmp 5]⟩) .nil .nil) .nil) (.node (some ⟨8,c54,[.cell 4 24]⟩) (.node (some ⟨38,c86,[.tmp 2]⟩) .nil .nil) .nil)) (.node none (.node (some ⟨29,c46,[.tmp 4,.tmp 5]⟩) (.node (some ⟨15,c78,[.tmp 2]⟩) .nil .nil) .nil) (.node (some ⟨15,c62,[.tmp 4]⟩) (.node (some ⟨148,c94,[]⟩) .nil .nil) .nil))))))
noncomputable def fns:FuncId→Option RFn:=fnTr.get
end Go.RgJ
set_option maxRecDepth 100000
namespace Go.RgJM
open Go.Sp Go.RgJ
noncomputable section
def orc14:List Value→Option Value:=fun _=>none
end
end Go.RgJM
set_option maxRecDepth 100000
set_option maxHeartbeats 20000000
set_option linter.unusedVariables false
namespace Go.RgJM
open Go.Sp Go.RgJ
noncomputable section
def tabs:List (List Value):=[]
theorem fin_rt {tt:TT} {n0:Nat} {rs:List ResultVar} {v:Value} {F:Fr} {H:AHeap} (r:Value) (hm:some r=some v) (h:aresults tt F H rs=some r:=by kernel_rfl) (hc:closedV r=true:=by kernel_rfl):Fin tt n0 rs v .ret F H:=fin_ret r h hc hm
theorem oQI {α:Type} {k:IntKind} {o:Option Value} {s:Int→Option α} {w:α} (h:oo o none (fun v=>oo (toI k v) none s)=some w):∃ x,o=some (.int k x)∧s x=some w:=by
 obtain⟨v,h1,h2⟩:=oo_inv h
 obtain⟨x,hx,h3⟩:=oo_inv h2
 obtain rfl:=toI_some hx
 exact⟨x,h1,h3⟩
theorem oQS {α:Type} {k:Nat} {o:Option Value} {s:Sl→Option α} {w:α} (h:oo o none (fun v=>oo (toSl k v) none s)=some w):∃ x,o=some (Sl.v k x)∧s x=some w:=by
 obtain⟨v,h1,h2⟩:=oo_inv h
 obtain⟨x,hx,h3⟩:=oo_inv h2
 obtain rfl:=toSl_some hx
 exact⟨x,h1,h3⟩
theorem oQB {α:Type} {o:Option Value} {s:Bool→Option α} {w:α} (h:oo o none (fun v=>oo (vBool v) none s)=some w):∃ x,o=some (.bool x)∧s x=some w:=by
 obtain⟨v,h1,h2⟩:=oo_inv h
 obtain⟨x,hx,h3⟩:=oo_inv h2
 obtain rfl:=vBool_some hx
 exact⟨x,h1,h3⟩
theorem ifTt {tt:TT} {call:CallF} {n0:Nat} {c:Operand} {a b:RC} {F:Fr} {H:AHeap} {Q:Ex→Fr→AHeap→Prop} (e:Bool) (hb:e=true) (h:Run tt call n0 a F H Q) (he:vBool (F.eval c)=some e:=by kernel_rfl):Run tt call n0 (.cond c a b) F H Q:=.ifT e he hb h
theorem ifFt {tt:TT} {call:CallF} {n0:Nat} {c:Operand} {a b:RC} {F:Fr} {H:AHeap} {Q:Ex→Fr→AHeap→Prop} (e:Bool) (hb:e=false) (h:Run tt call n0 b F H Q) (he:vBool (F.eval c)=some e:=by kernel_rfl):Run tt call n0 (.cond c a b) F H Q:=.ifF e he hb h
theorem trF {a b:Bool} (h:b=true) (e:a=b:=by kernel_rfl):a=true:=e.trans h
abbrev OV:=Option Value
abbrev LV:=List Value
def plist:List Nat:=[13,14,19,23,25,37,46,47,48,49,50,51,52,58,61,62,65,66,68,74,76,78,80,82,88,91,92,95,96,98,108]
def isP:FuncId→Bool:=fun g=>memN g plist
def inl (pu:PureF):CallF:=fun g args H=>bb (Nat.beq g 55) (giveF tabs 1 (pu 55) args H) (bb (Nat.beq g 86) (objG tabs [[none,none]] 1 [] [false] (pu 10860) args H) (bb (Nat.beq g 60) (objG tabs [[none],[none]] 2 [.tmp 0 false] [false] (pu 10600) args H) (bb (Nat.beq g 94) (objG tabs [[none],[none],[none],[none],[none]] 5 [.tmp 0 false] [false] (pu 10940) args H) (bb (Nat.beq g 99) (objG tabs [[none],[none],[none],[none]] 4 [.tmp 0 false] [false] (pu 10990) args H) (bb (Nat.beq g 81) (objG tabs [[none,none],[none],[none],[none],[none]] 5 [.cap 3 0 false,.cap 4 1 true,.cell 1 0 false] [false,true,false,false] (pu 10810) args H) (bb (Nat.beq g 87) (objG tabs [[none,none],[none],[none]] 3 [.tmp 1 false,.tmp 2 true,.cell 1 0 false] [false,true,false,false] (pu 10870) args H) (bb (Nat.beq g 85) (objG tabs [[none,none],[none]] 2 [.tmp 1 false] [false] (pu 10850) args H) (none))))))))
def str0:List UInt8:=[0,1,1,2,1,2,2,3,1,2,2,3,2,3,3,4,1,2,2,3,2,3,3,4,2,3,3,4,3,4,4,5,1,2,2,3,2,3,3,4,2,3,3,4,3,4,4,5,2,3,3,4,3,4,4,5,3,4,4,5,4,5,5,6,1,2,2,3,2,3,3,4,2,3,3,4,3,4,4,5,2,3,3,4,3,4,4,5,3,4,4,5,4,5,5,6,2,3,3,4,3,4,4,5,3,4,4,5,4,5,5,6,3,4,4,5,4,5,5,6,4,5,5,6,5,6,6,7,1,2,2,3,2,3,3,4,2,3,3,4,3,4,4,5,2,3,3,4,3,4,4,5,3,4,4,5,4,5,5,6,2,3,3,4,3,4,4,5,3,4,4,5,4,5,5,6,3,4,4,5,4,5,5,6,4,5,5,6,5,6,6,7,2,3,3,4,3,4,4,5,3,4,4,5,4,5,5,6,3,4,4,5,4,5,5,6,4,5,5,6,5,6,6,7,3,4,4,5,4,5,5,6,4,5,5,6,5,6,6,7,4,5,5,6,5,6,6,7,5,6,6,7,6,7,7,8]
def str1:List UInt8:=[0,1,2,2,3,3,3,3,4,4,4,4,4,4,4,4,5,5,5,5,5,5,5,5,5,5,5,5,5,5,5,5,6,6,6,6,6,6,6,6,6,6,6,6,6,6,6,6,6,6,6,6,6,6,6,6,6,6,6,6,6,6,6,6,7,7,7,7,7,7,7,7,7,7,7,7,7,7,7,7,7,7,7,7,7,7,7,7,7,7,7,7,7,7,7,7,7,7,7,7,7,7,7,7,7,7,7,7,7,7,7,7,7,7,7,7,7,7,7,7,7,7,7,7,7,7,7,7,8,8,8,8,8,8,8,8,8,8,8,8,8,8,8,8,8,8,8,8,8,8,8,8,8,8,8,8,8,8,8,8,8,8,8,8,8,8,8,8,8,8,8,8,8,8,8,8,8,8,8,8,8,8,8,8,8,8,8,8,8,8,8,8,8,8,8,8,8,8,8,8,8,8,8,8,8,8,8,8,8,8,8,8,8,8,8,8,8,8,8,8,8,8,8,8,8,8,8,8,8,8,8,8,8,8,8,8,8,8,8,8,8,8,8,8,8,8,8,8,8,8,8,8,8,8,8,8]
end
end Go.RgJM
