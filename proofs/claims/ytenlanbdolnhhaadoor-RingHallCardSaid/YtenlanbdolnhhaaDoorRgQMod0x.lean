/- Made from wip. -/
import Derived.Test.YtenlanbdolnhhaaDoorSpFramex
import Derived.Test.YtenlanbdolnhhaaDoorRgQNodes
import Derived.Test.YtenlanbdolnhhaaDoorSpMovex
import Derived.KernelRfl

set_option maxRecDepth 100000
namespace Go.RgQ
open Go.Sp
def c3:RC:=RX
def c4:RC:=V8
def c5:RC:=V9
def c6:RC:=Wl
def c7:RC:=Wm
def c8:RC:=eF
def c9:RC:=Wn
def c10:RC:=RY
def c11:RC:=RZ
def c12:RC:=Wo
def c13:RC:=R3
def c14:RC:=Wp
def c15:RC:=
 .seq (.reg [] [
  rq 0 (.assign (kb false)) 4])
 (.seq (.reg [] [
   rq 29 (.buildSlice 22 3 #[(0,(ki 0)),(1,(ki 1)),(2,(ki 3))]) 22,rq 30 (cf 35 #[(ki 7),(tp 29)] #[3,22]) 28,rq 31 (cf 34 #[(tp 30)] #[28]) 30,Ap 28 31 30,EM 32 28 0 22,EM 33 28 1 24,AQ 1 32 22,AQ 2 33 24])
 (.seq (.reg [] [
   rq 35 (.buildSlice 22 3 #[(0,(ki 0)),(1,(ki 1)),(2,(ki 3))]) 22,rq 36 (cf 35 #[(ki 7),(tp 35)] #[3,22]) 28,rq 37 (cf 36 #[(tp 36)] #[28]) 30,Ap 34 37 30,EM 38 34 0 22,EM 39 34 1 24,AQ 3 38 22,AQ 4 39 24])
 (.seq (.reg [] [
   rq 41 (.buildSlice 22 3 #[(0,(ki 0)),(1,(ki 1)),(2,(ki 3))]) 22,rq 42 (cf 35 #[(ki 7),(tp 41)] #[3,22]) 28,rq 43 (cf 37 #[(tp 42),(ki (-1))] #[28,3]) 35,Ap 40 43 35,EM 44 40 0 28,EM 45 40 1 24,rq 5 (.alloc 28) 0,rn (.store 28 (tp 5) (tp 44)) 0,AQ 6 45 24])
 (.seq (.reg [] [
   rq 47 (.buildSlice 22 3 #[(0,(ki 2)),(1,(ki 4)),(2,(ki 5))]) 22,rq 48 (cf 35 #[(ki 7),(tp 47)] #[3,22]) 28,rq 49 (cf 38 #[(tp 48)] #[28]) 35,Ap 46 49 35,EM 50 46 0 28,EM 51 46 1 24,rq 7 (.alloc 28) 0,rn (.store 28 (tp 7) (tp 50)) 0,AQ 8 51 24])
 (.seq (.reg [] [
   rq 53 (.buildSlice 22 3 #[(0,(ki 0)),(1,(ki 1)),(2,(ki 3))]) 22,rq 54 (cf 35 #[(ki 7),(tp 53)] #[3,22]) 28,rq 55 (.buildSlice 22 3 #[(0,(ki 0)),(1,(ki 2)),(2,(ki 3))]) 22,rq 56 (cf 35 #[(ki 7),(tp 55)] #[3,22]) 28,rq 57 (cf 39 #[(tp 54),(tp 56)] #[28,28]) 67,Ap 52 57 67,EM 58 52 0 3,EM 59 52 1 4,EM 60 52 2 24,AQ 9 58 3,AQ 10 59 4,AQ 11 60 24])
 (.seq (.reg [] [
   rq 62 (.buildSlice 22 3 #[(0,(ki 0)),(1,(ki 1)),(2,(ki 3))]) 22,rq 63 (cf 35 #[(ki 7),(tp 62)] #[3,22]) 28,rq 64 (.buildSlice 22 1 #[(0,(ki 1))]) 22,rq 65 (cf 40 #[(tp 63),(tp 64)] #[28,22]) 30,Ap 61 65 30,EM 66 61 0 22,EM 67 61 1 24,AQ 12 66 22,AQ 13 67 24])
 (.seq (.reg [] [
   rq 69 (.buildSlice 22 2 #[(0,(ki 0)),(1,(ki 4))]) 22,rq 70 (cf 35 #[(ki 8),(tp 69)] #[3,22]) 28,rq 71 (cf 41 #[(tp 70)] #[28]) 70,Ap 68 71 70,EM 72 68 0 3,EM 73 68 1 24,AQ 14 72 3,AQ 15 73 24])
 (.seq (.reg [] [
   rq 75 (.buildSlice 22 3 #[(0,(ki 0)),(1,(ki 1)),(2,(ki 3))]) 22,rq 76 (cf 35 #[(ki 7),(tp 75)] #[3,22]) 28,rq 77 (cf 10 #[(tp 76)] #[28]) 37,Ap 74 77 37,EM 78 74 0 4,EM 79 74 1 24,AQ 16 78 4,AQ 17 79 24])
 (.seq (.reg [] [
   rq 81 (cf 42 #[(ki 13),(ki 4)] #[3,3]) 35,Ap 80 81 35,EM 82 80 0 28,EM 83 80 1 24,rq 18 (.alloc 28) 0,rn (.store 28 (tp 18) (tp 82)) 0,AQ 19 83 24])
 (.seq (.reg [] [
   rq 85 (.buildSlice 22 6 #[(0,(ki 1)),(1,(ki 1)),(2,(ki 1)),(3,(ki 1)),(4,(ki 1)),(5,(ki 1))]) 22,rq 86 (cf 43 #[(tp 85)] #[22]) 22,rq 87 (cf 4 #[(ki 7),(tp 86)] #[3,22]) 25,Ap 84 87 25,EM 88 84 0 23,EM 89 84 1 24,AQ 20 88 23,AQ 21 89 24])
 (.seq (.reg [] [
   rq 91 (.buildSlice 22 3 #[(0,(ki 0)),(1,(ki 1)),(2,(ki 3))]) 22,rq 92 (cf 35 #[(ki 7),(tp 91)] #[3,22]) 28,rq 93 (cf 9 #[(tp 92),(ki 3)] #[28,3]) 35,Ap 90 93 35,EM 94 90 0 28,EM 95 90 1 24,rq 22 (.alloc 28) 0,rn (.store 28 (tp 22) (tp 94)) 0,AQ 23 95 24])
 (.seq (.reg [] [
   rq 97 (.buildSlice 22 3 #[(0,(ki 0)),(1,(ki 1)),(2,(ki 3))]) 22,rq 98 (cf 35 #[(ki 7),(tp 97)] #[3,22]) 28,rq 99 (cf 5 #[(tp 98)] #[28]) 30,Ap 96 99 30,EM 100 96 0 22,EM 101 96 1 24,AQ 24 100 22,AQ 25 101 24])
 (.seq (.reg [] [
   rq 103 (.buildSlice 22 2 #[(0,(ki 0)),(1,(ki 1))]) 22,rq 104 (cf 35 #[(ki 8),(tp 103)] #[3,22]) 28,rq 105 (cf 11 #[(tp 104)] #[28]) 30,Ap 102 105 30,EM 106 102 0 22,EM 107 102 1 24,AQ 26 106 22,AQ 27 107 24])
 (.seq (.seq (.reg [] [
   Ap 108 2 24,rq 109 (.binOp .neq 24 (tp 108) (ki 0) 24) 4,Ap 110 109 4,DD 111 4 24 110 false,rg 112 (.binOp .neq 24 (tp 111) (ki 0) 24) 4 110 false,rq 113 (.pick (tp 110) (kb true) (tp 112)) 4,Ap 114 113 4,DD 115 6 24 114 false,rg 116 (.binOp .neq 24 (tp 115) (ki 0) 24) 4 114 false,rq 117 (.pick (tp 114) (kb true) (tp 116)) 4,Ap 118 117 4,DD 119 8 24 118 false,rg 120 (.binOp .neq 24 (tp 119) (ki 0) 24) 4 118 false,rq 121 (.pick (tp 118) (kb true) (tp 120)) 4,Ap 122 121 4,DD 123 11 24 122 false,rg 124 (.binOp .neq 24 (tp 123) (ki 0) 24) 4 122 false,rq 125 (.pick (tp 122) (kb true) (tp 124)) 4,Ap 126 125 4,DD 127 13 24 126 false,rg 128 (.binOp .neq 24 (tp 127) (ki 0) 24) 4 126 false,rq 129 (.pick (tp 126) (kb true) (tp 128)) 4,Ap 130 129 4,DD 131 15 24 130 false,rg 132 (.binOp .neq 24 (tp 131) (ki 13) 24) 4 130 false,rq 133 (.pick (tp 130) (kb true) (tp 132)) 4,Ap 134 133 4,DD 135 17 24 134 false,rg 136 (.binOp .neq 24 (tp 135) (ki 0) 24) 4 134 false,rq 137 (.pick (tp 134) (kb true) (tp 136)) 4,Ap 138 137 4,DD 139 19 24 138 false,rg 140 (.binOp .neq 24 (tp 139) (ki 0) 24) 4 138 false,rq 141 (.pick (tp 138) (kb true) (tp 140)) 4,Ap 142 141 4,DD 143 21 24 142 false,rg 144 (.binOp .neq 24 (tp 143) (ki 0) 24) 4 142 false,rq 145 (.pick (tp 142) (kb true) (tp 144)) 4,Ap 146 145 4,DD 147 23 24 146 false,rg 148 (.binOp .neq 24 (tp 147) (ki 0) 24) 4 146 false,rq 149 (.pick (tp 146) (kb true) (tp 148)) 4,Ap 150 149 4,DD 151 25 24 150 false,rg 152 (.binOp .neq 24 (tp 151) (ki 0) 24) 4 150 false,rq 153 (.pick (tp 150) (kb true) (tp 152)) 4,Ap 154 153 4,DD 155 27 24 154 false,rg 156 (.binOp .neq 24 (tp 155) (ki 0) 24) 4 154 false,rq 157 (.pick (tp 154) (kb true) (tp 156)) 4])
 (.cond (tp 157) (.seq (.reg [] [
   rq 0 (.assign (kb false)) 4])
  (.ret))
 (.skip)))
 (.seq (.reg [] [
   rq 159 (.buildSlice 22 3 #[(0,(ki 0)),(1,(ki 1)),(2,(ki 3))]) 22,rq 160 (cf 35 #[(ki 7),(tp 159)] #[3,22]) 28,rq 161 (.buildSlice 22 3 #[(0,(ki 0)),(1,(ki 1)),(2,(ki 2))]) 22,rq 162 (cf 35 #[(ki 7),(tp 161)] #[3,22]) 28,rq 163 (cf 39 #[(tp 160),(tp 162)] #[28,28]) 67,Ap 158 163 67,EM 164 158 0 3,EM 165 158 1 4,EM 166 158 2 24,AQ 2 166 24])
 (.seq (.reg [] [
   rq 168 (cf 42 #[(ki 7),(ki 2)] #[3,3]) 35,Ap 167 168 35,EM 169 167 0 28,EM 170 167 1 24,AQ 4 170 24])
 (.seq (.reg [] [
   rq 172 (.buildSlice 22 3 #[(0,(ki 0)),(1,(ki 1)),(2,(ki 3))]) 22,rq 173 (cf 35 #[(ki 7),(tp 172)] #[3,22]) 28,rq 174 (cf 9 #[(tp 173),(ki 7)] #[28,3]) 35,Ap 171 174 35,EM 175 171 0 28,EM 176 171 1 24,AQ 6 176 24])
 (.seq (.reg [] [
   Ap 177 2 24,rq 178 (.binOp .eql 24 (tp 177) (ki 12) 24) 4,Ap 179 178 4,DD 180 4 24 179 true,rg 181 (.binOp .eql 24 (tp 180) (ki 12) 24) 4 179 true,rq 182 (.pick (tp 179) (tp 181) (kb false)) 4,Ap 183 182 4,DD 184 6 24 183 true,rg 185 (.binOp .eql 24 (tp 184) (ki 13) 24) 4 183 true,rq 186 (.pick (tp 183) (tp 185) (kb false)) 4,Ap 187 186 4,DD 188 1 22 187 true,rg 189 (.buildSlice 22 3 #[(0,(ki 1)),(1,(ki 2)),(2,(ki 4))]) 22 187 true,rg 190 (cf 43 #[(tp 189)] #[22]) 22 187 true,rg 191 (cf 6 #[(tp 188),(tp 190)] #[22,22]) 4 187 true,rq 192 (.pick (tp 187) (tp 191) (kb false)) 4,Ap 193 192 4,DD 194 3 22 193 true,rg 195 (.buildSlice 22 6 #[(0,(ki 1)),(1,(ki 1)),(2,(ki 1)),(3,(ki 1)),(4,(ki 1)),(5,(ki 1))]) 22 193 true,rg 196 (cf 43 #[(tp 195)] #[22]) 22 193 true,rg 197 (cf 6 #[(tp 194),(tp 196)] #[22,22]) 4 193 true,rq 198 (.pick (tp 193) (tp 197) (kb false)) 4,Ap 199 198 4,rg 200 (.load 28 (tp 5)) 28 199 true,rg 201 (.buildSlice 22 3 #[(0,(ki 0)),(1,(ki 2)),(2,(ki 6))]) 22 199 true,rg 202 (cf 44 #[(tp 200),(ki 7),(tp 201)] #[28,3,22]) 4 199 true,rq 203 (.pick (tp 199) (tp 202) (kb false)) 4,Ap 204 203 4,rg 205 (.load 28 (tp 7)) 28 204 true,rg 206 (.buildSlice 22 3 #[(0,(ki 0)),(1,(ki 1)),(2,(ki 5))]) 22 204 true,rg 207 (cf 44 #[(tp 205),(ki 7),(tp 206)] #[28,3,22]) 4 204 true,rq 208 (.pick (tp 204) (tp 207) (kb false)) 4,Ap 209 208 4,DD 210 9 3 209 true,rg 211 (.binOp .eql 3 (tp 210) (ki 3) 3) 4 209 true,rq 212 (.pick (tp 209) (tp 211) (kb false)) 4,Ap 213 212 4,DD 214 10 4 213 true,rq 215 (.pick (tp 213) (tp 214) (kb false)) 4,Ap 216 215 4,DD 217 12 22 216 true,rg 218 (.buildSlice 22 1 #[(0,(ki 1))]) 22 216 true,rg 219 (cf 43 #[(tp 218)] #[22]) 22 216 true,rg 220 (cf 6 #[(tp 217),(tp 219)] #[22,22]) 4 216 true,rq 221 (.pick (tp 216) (tp 220) (kb false)) 4,Ap 222 221 4,DD 223 14 3 222 true,rg 224 (.binOp .eql 3 (tp 223) (ki 4) 3) 4 222 true,rq 225 (.pick (tp 222) (tp 224) (kb false)) 4,Ap 226 225 4,DD 227 16 4 226 true,rq 228 (.pick (tp 226) (tp 227) (kb false)) 4,Ap 229 228 4,rg 230 (.load 28 (tp 18)) 28 229 true,rg 231 (.buildSlice 22 4 #[(0,(ki 0)),(1,(ki 1)),(2,(ki 3)),(3,(ki 9))]) 22 229 true,rg 232 (cf 44 #[(tp 230),(ki 13),(tp 231)] #[28,3,22]) 4 229 true,rq 233 (.pick (tp 229) (tp 232) (kb false)) 4,Ap 234 233 4,DD 235 20 23 234 true,rg 236 (.buildSlice 22 3 #[(0,(ki 0)),(1,(ki 1)),(2,(ki 3))]) 22 234 true,rg 237 (cf 43 #[(tp 236)] #[22]) 22 234 true,rg 238 (.build 76 #[(0,(ki 7)),(1,(tp 237))]) 76 234 true,rg 239 (.buildSlice 22 3 #[(0,(ki 0)),(1,(ki 1)),(2,(ki 5))]) 22 234 true,rg 240 (cf 43 #[(tp 239)] #[22]) 22 234 true,rg 241 (.build 76 #[(0,(ki 7)),(1,(tp 240))]) 76 234 true,rg 242 (.buildSlice 77 2 #[(0,(tp 238)),(1,(tp 241))]) 77 234 true,rg 243 (cf 45 #[(tp 235),(tp 242)] #[23,77]) 4 234 true,rq 244 (.pick (tp 234) (tp 243) (kb false)) 4,Ap 245 244 4,rg 246 (.load 28 (tp 22)) 28 245 true,rg 247 (.buildSlice 22 3 #[(0,(ki 0)),(1,(ki 2)),(2,(ki 3))]) 22 245 true,rg 248 (cf 44 #[(tp 246),(ki 7),(tp 247)] #[28,3,22]) 4 245 true,rq 249 (.pick (tp 245) (tp 248) (kb false)) 4,Ap 250 249 4,DD 251 24 22 250 true,rg 252 (.buildSlice 22 3 #[(0,(ki 1)),(1,(ki 2)),(2,(ki 4))]) 22 250 true,rg 253 (cf 43 #[(tp 252)] #[22]) 22 250 true,rg 254 (cf 6 #[(tp 251),(tp 253)] #[22,22]) 4 250 true,rq 255 (.pick (tp 250) (tp 254) (kb false)) 4,Ap 256 255 4,DD 257 26 22 256 true,rg 258 (.buildSlice 22 2 #[(0,(ki 3)),(1,(ki 6))]) 22 256 true,rg 259 (cf 43 #[(tp 258)] #[22]) 22 256 true,rg 260 (cf 6 #[(tp 257),(tp 259)] #[22,22]) 4 256 true,rq 261 (.pick (tp 256) (tp 260) (kb false)) 4,AQ 0 261 4])
 (.ret)))))))))))))))))))
def c16:RC:=OX
def c17:RC:=OU
def c18:RC:=OW
def c19:RC:=SG
def c20:RC:=R4
def c21:RC:=R5
def c22:RC:=RS
def c23:RC:=Wq
def c24:RC:=R6
def c25:RC:=R7
def c26:RC:=R8
def c27:RC:=R9
def c28:RC:=Ws
def c29:RC:=Sa
def c30:RC:=V5
def c31:RC:=RU
def c32:RC:=V4
def c33:RC:=Sb
def c34:RC:=
 .seq (.reg [] [
  rq 1 (.box 28 (tp 0)) 0,rq 2 (.assign (.const (.slice none 0 0))) 22,Cz 3 0 24])
 (.seq (.reg [] [
   Ce 11 1 28,rq 12 (cf 24 #[(tp 11)] #[28]) 53,Ap 10 12 53,EM 13 10 0 45,EM 14 10 1 24,rq 4 (.alloc 45) 0,rn (.store 45 (tp 4) (tp 13)) 0,AQ 5 14 24])
 (.seq (.block 0 (.seq (.reg [] [
   Ap 16 5 24,
   rq 17 (.binOp .neq 24 (tp 16) (ki 0) 24) 4,
   AQ 15 17 4])
  (.cond (tp 15) (.seq (.reg [] [
    Ap 18 5 24,
    rq 2 (.assign (.const (.slice none 0 0))) 22,
    AQ 3 18 24])
   (.ret))
  (.seq (.reg [] [
    DR 20 45 4 1,
    Ce 21 20 29,
    rq 22 (.binOp .eql 29 (tp 21) (.const (.int .u32 0)) 29) 4,
    AQ 19 22 4])
   (.cond (tp 19) (.seq (.reg [] [
     rq 2 (.assign (.const (.slice none 0 0))) 22,
     Cz 3 4 24])
    (.ret))
   (.skip))))))
 (.seq (.reg [] [
   rq 6 (.assign (.const (.slice none 0 0))) 22])
 (.seq (.seq (.reg [] [
   DR 23 28 1 1,Ce 24 23 22,EN 25 24 22,rq 26 (.move (ki 0)) 3])
 (.block 1 (.loop (.seq (.reg [] [
   L8 27 26 25])
   (.seq (.cond (tp 27) (.skip)
   (.exit 1))
   (.seq (.block 2 (.seq (.reg [] [
     Ap 28 26 3,
     D5 29 22 24 26,
     Ce 30 29 3,
     AQ 7 28 3,
     AQ 8 30 3])
    (.seq (.reg [0, 1, 2, 3, 4, 5, 6, 7, 8, 9, 10] [
      DR 31 28 1 1,
      Ce 32 31 22,
      Ap 33 7 3,
      FB 34 33,
      DR 35 28 1 1,
      Ce 36 35 22,
      EN 37 36 22,
      rq 38 (.binOp .rem 3 (tp 34) (tp 37) 3) 3,
      D5 39 22 32 38,
      Ce 40 39 3,
      AQ 9 40 3])
    (.reg [] [
      Ap 41 6 22,
      Ce 42 4 45,
      Ap 43 9 3,
      Ap 44 8 3,
      rq 45 (.binOp .sub 3 (tp 43) (tp 44) 3) 3,
      rq 46 (.binOp .sub 3 (tp 45) (ki 1) 3) 3,
      rq 47 (cf 47 #[(tp 42),(tp 46)] #[45,3]) 3,
      FB 48 47,
      rq 49 (.buildSlice 22 1 #[(0,(tp 48))]) 22,
      rq 50 (cb .append #[(tp 41),(tp 49)] #[22,22]) 22,
      AQ 6 50 22]))))
   (.reg [] [
     FB 51 26,
     Ap 26 51 3])))))))
 (.seq (.reg [] [
   Ap 52 6 22,AQ 2 52 22,Cz 3 0 24])
 (.ret))))))
def c35:RC:=
 .seq (.reg [] [
  rq 4 (.alloc 28) 0])
 (.seq (.reg [] [
   Ap 5 0 3,Ap 6 1 22,rq 7 (.build 28 #[(0,(tp 5)),(1,(tp 6))]) 28,rn (.store 28 (tp 4) (tp 7)) 0])
 (.ret))
def c36:RC:=
 .seq (.reg [] [
  rq 1 (.box 28 (tp 0)) 0,rq 2 (.assign (.const (.slice none 0 0))) 22,Cz 3 0 24])
 (.seq (.reg [] [
   Ce 7 1 28,rq 8 (cf 24 #[(tp 7)] #[28]) 53,Ap 6 8 53,EM 9 6 0 45,EM 10 6 1 24,rq 4 (.alloc 45) 0,rn (.store 45 (tp 4) (tp 9)) 0,AQ 5 10 24])
 (.seq (.seq (.reg [] [
   Ap 11 5 24,rq 12 (.binOp .neq 24 (tp 11) (ki 0) 24) 4])
 (.cond (tp 12) (.seq (.reg [] [
   Ap 13 5 24,
   rq 2 (.assign (.const (.slice none 0 0))) 22,
   AQ 3 13 24])
  (.ret))
 (.skip)))
 (.seq (.reg [] [
   Ce 14 4 45,rq 15 (cf 22 #[(tp 14)] #[45]) 22,AQ 2 15 22,Cz 3 0 24])
 (.ret))))
def c37:RC:=
 .seq (.reg [] [
  rq 2 (.box 28 (tp 0)) 0,rq 4 (.alloc 28) 0,Cz 5 0 24])
 (.seq (.reg [] [
   Ce 9 2 28,rq 10 (cf 24 #[(tp 9)] #[28]) 53,Ap 8 10 53,EM 11 8 0 45,EM 12 8 1 24,rq 6 (.alloc 45) 0,rn (.store 45 (tp 6) (tp 11)) 0,AQ 7 12 24])
 (.seq (.seq (.reg [] [
   Ap 13 7 24,rq 14 (.binOp .neq 24 (tp 13) (ki 0) 24) 4])
 (.cond (tp 14) (.seq (.reg [] [
   rq 15 (.build 28 #[]) 28,
   Ap 16 7 24,
   rn (.store 28 (tp 4) (tp 15)) 0,
   AQ 5 16 24])
  (.ret))
 (.skip)))
 (.seq (.reg [0, 1, 2, 3, 4, 5, 6, 7] [
   Ce 17 6 45,Ce 18 6 45,Ap 19 1 3,
   ⟨(some 20),cf 47 #[(tp 18),(tp 19)] #[45,3],3,none,[(tp 6)]⟩,rq 21 (cf 48 #[(tp 17),(tp 20)] #[45,3]) 45,rq 22 (cf 23 #[(tp 21)] #[45]) 28,rn (.store 28 (tp 4) (tp 22)) 0,Cz 5 0 24])
 (.ret))))
def c38:RC:=
 .seq (.reg [] [
  rq 1 (.box 28 (tp 0)) 0,rq 2 (.alloc 28) 0,Cz 3 0 24])
 (.seq (.reg [] [
   Ce 7 1 28,rq 8 (cf 24 #[(tp 7)] #[28]) 53,Ap 6 8 53,EM 9 6 0 45,EM 10 6 1 24,rq 4 (.alloc 45) 0,rn (.store 45 (tp 4) (tp 9)) 0,AQ 5 10 24])
 (.seq (.seq (.reg [] [
   Ap 11 5 24,rq 12 (.binOp .neq 24 (tp 11) (ki 0) 24) 4])
 (.cond (tp 12) (.seq (.reg [] [
   rq 13 (.build 28 #[]) 28,
   Ap 14 5 24,
   rn (.store 28 (tp 2) (tp 13)) 0,
   AQ 3 14 24])
  (.ret))
 (.skip)))
 (.seq (.reg [] [
   Ce 15 4 45,rq 16 (cf 20 #[(tp 15)] #[45]) 45,rq 17 (cf 23 #[(tp 16)] #[45]) 28,rn (.store 28 (tp 2) (tp 17)) 0,Cz 3 0 24])
 (.ret))))
def c39:RC:=
 .seq (.reg [] [
  rq 2 (.box 28 (tp 0)) 0,rq 3 (.box 28 (tp 1)) 0,Cz 4 0 3,rq 5 (.assign (kb false)) 4,Cz 6 0 24])
 (.seq (.reg [] [
   Ce 14 2 28,rq 15 (cf 24 #[(tp 14)] #[28]) 53,Ap 13 15 53,EM 16 13 0 45,EM 17 13 1 24,rq 7 (.alloc 45) 0,rn (.store 45 (tp 7) (tp 16)) 0,AQ 6 17 24])
 (.seq (.seq (.reg [] [
   Ap 18 6 24,rq 19 (.binOp .neq 24 (tp 18) (ki 0) 24) 4])
 (.cond (tp 19) (.seq (.reg [] [
   Ap 20 6 24,
   Cz 4 0 3,
   rq 5 (.assign (kb false)) 4,
   AQ 6 20 24])
  (.ret))
 (.skip)))
 (.seq (.reg [] [
   Ce 22 3 28,rq 23 (cf 24 #[(tp 22)] #[28]) 53,Ap 21 23 53,EM 24 21 0 45,EM 25 21 1 24,rq 8 (.alloc 45) 0,rn (.store 45 (tp 8) (tp 24)) 0,AQ 6 25 24])
 (.seq (.block 0 (.seq (.reg [] [
   Ap 27 6 24,
   rq 28 (.binOp .neq 24 (tp 27) (ki 0) 24) 4,
   AQ 26 28 4])
  (.cond (tp 26) (.seq (.reg [] [
    Ap 29 6 24,
    Cz 4 0 3,
    rq 5 (.assign (kb false)) 4,
    AQ 6 29 24])
   (.ret))
  (.seq (.reg [] [
    DR 31 45 7 0,
    Ce 32 31 3,
    DR 33 45 8 0,
    Ce 34 33 3,
    rq 35 (.binOp .neq 3 (tp 32) (tp 34) 3) 4,
    Ap 36 35 4,
    rg 37 (.fieldAddr 28 (tp 2) 1) 0 36 false,
    rg 38 (.load 22 (tp 37)) 22 36 false,
    rg 39 (cb .len #[(tp 38)] #[22]) 3 36 false,
    rg 40 (.fieldAddr 28 (tp 3) 1) 0 36 false,
    rg 41 (.load 22 (tp 40)) 22 36 false,
    rg 42 (cb .len #[(tp 41)] #[22]) 3 36 false,
    rg 43 (.binOp .neq 3 (tp 39) (tp 42) 3) 4 36 false,
    rq 44 (.pick (tp 36) (kb true) (tp 43)) 4,
    AQ 30 44 4])
   (.cond (tp 30) (.seq (.reg [] [
     Cz 4 0 3,
     rq 5 (.assign (kb false)) 4,
     Cz 6 5 24])
    (.ret))
   (.skip))))))
 (.seq (.seq (.reg [] [
   Ce 46 7 45,Ce 47 8 45,rq 48 (cf 27 #[(tp 46),(tp 47)] #[45,45]) 56,Ap 45 48 56,EM 49 45 0 3,EM 50 45 1 4,AQ 9 49 3,AQ 10 50 4])
 (.seq (.reg [] [
   Ap 51 10 4])
 (.cond (tp 51) (.seq (.reg [] [
   Ap 52 9 3,
   AQ 4 52 3,
   rq 5 (.assign (kb false)) 4,
   Cz 6 0 24])
  (.ret))
 (.skip))))
 (.seq (.seq (.reg [0, 2, 1, 3, 4, 5, 6, 7, 8] [
   Ce 54 7 45,Ce 56 8 45,
   ⟨(some 55),cf 26 #[(tp 54),(ki (-1))] #[45,3],45,none,[(tp 8)]⟩,rq 57 (cf 27 #[(tp 55),(tp 56)] #[45,45]) 56,Ap 53 57 56,EM 58 53 0 3,EM 59 53 1 4,AQ 11 58 3,AQ 12 59 4])
 (.seq (.reg [] [
   Ap 60 12 4])
 (.cond (tp 60) (.seq (.reg [] [
   Ap 61 11 3,
   AQ 4 61 3,
   rq 5 (.assign (kb true)) 4,
   Cz 6 0 24])
  (.ret))
 (.skip))))
 (.seq (.reg [] [
   Cz 4 0 3,rq 5 (.assign (kb false)) 4,Cz 6 12 24])
 (.ret))))))))
def c40:RC:=
 .seq (.reg [] [
  rq 2 (.box 28 (tp 0)) 0,rq 4 (.assign (.const (.slice none 0 0))) 22,Cz 5 0 24])
 (.seq (.reg [] [
   Ce 12 2 28,rq 13 (cf 24 #[(tp 12)] #[28]) 53,Ap 11 13 53,EM 14 11 0 45,EM 15 11 1 24,rq 6 (.alloc 45) 0,rn (.store 45 (tp 6) (tp 14)) 0,AQ 7 15 24])
 (.seq (.seq (.reg [] [
   Ap 16 7 24,rq 17 (.binOp .neq 24 (tp 16) (ki 0) 24) 4])
 (.cond (tp 17) (.seq (.reg [] [
   Ap 18 7 24,
   rq 4 (.assign (.const (.slice none 0 0))) 22,
   AQ 5 18 24])
  (.ret))
 (.skip)))
 (.seq (.reg [] [
   Ce 19 6 45,rq 8 (.alloc 45) 0,rn (.store 45 (tp 8) (tp 19)) 0])
 (.seq (.seq (.reg [] [
   Ap 20 1 22,EN 21 20 22,rq 22 (.move (ki 0)) 3])
 (.block 0 (.loop (.seq (.reg [] [
   L8 23 22 21])
   (.seq (.cond (tp 23) (.skip)
   (.exit 0))
   (.seq (.block 1 (.seq (.reg [] [
     D5 24 22 20 22,
     Ce 25 24 3,
     AQ 10 25 3])
    (.reg [0, 1, 2, 3, 4, 5, 6, 7, 8, 9, 10] [
      DR 26 45 8 1,
      Ce 27 26 29,
      Ce 28 6 45,
      Ce 29 6 45,
      Ap 30 10 3,
      ⟨(some 31),cf 47 #[(tp 29),(tp 30)] #[45,3],3,none,[(tp 6),(tp 26)]⟩,
      ⟨(some 32),cf 48 #[(tp 28),(tp 31)] #[45,3],45,none,[(tp 26)]⟩,
      rq 33 (.field 45 (tp 32) 1) 29,
      rq 34 (.binOp .and 29 (tp 27) (tp 33) 29) 29,
      DR 35 45 8 1,
      rn (.store 29 (tp 35) (tp 34)) 0])))
   (.reg [] [
     FB 36 22,
     Ap 22 36 3])))))))
 (.seq (.reg [] [
   Ce 37 8 45,rq 38 (cf 46 #[(tp 37)] #[45]) 22,AQ 4 38 22,Cz 5 0 24])
 (.ret))))))
def c41:RC:=
 .seq (.reg [] [
  rq 1 (.box 28 (tp 0)) 0,Cz 2 0 3,Cz 3 0 24])
 (.seq (.reg [] [
   Ce 7 1 28,rq 8 (cf 24 #[(tp 7)] #[28]) 53,Ap 6 8 53,EM 9 6 0 45,EM 10 6 1 24,rq 4 (.alloc 45) 0,rn (.store 45 (tp 4) (tp 9)) 0,AQ 3 10 24])
 (.seq (.seq (.reg [] [
   Ap 11 3 24,rq 12 (.binOp .neq 24 (tp 11) (ki 0) 24) 4])
 (.cond (tp 12) (.seq (.reg [] [
   Ap 13 3 24,
   Cz 2 0 3,
   AQ 3 13 24])
  (.ret))
 (.skip)))
 (.seq (.seq (.reg [] [
   Ce 14 4 45,rq 15 (cf 31 #[(tp 14)] #[45]) 3,AQ 5 15 3])
 (.seq (.reg [] [
   Ap 16 5 3,rq 17 (.binOp .gtr 3 (tp 16) (ki 0) 3) 4])
 (.cond (tp 17) (.seq (.reg [] [
   Ap 18 5 3,
   AQ 2 18 3,
   Cz 3 13 24])
  (.ret))
 (.skip))))
 (.seq (.reg [] [
   Cz 2 0 3,Cz 3 0 24])
 (.ret)))))
def c42:RC:=
 .seq (.reg [] [
  rq 4 (.alloc 28) 0,Cz 5 0 24])
 (.seq (.seq (.reg [] [
   Ap 8 0 3,rq 9 (.binOp .lss 3 (tp 8) (ki 1) 3) 4,Ap 10 9 4,DD 11 0 3 10 false,rg 12 (.binOp .gtr 3 (tp 11) (ki 21) 3) 4 10 false,rq 13 (.pick (tp 10) (kb true) (tp 12)) 4,Ap 14 13 4,DD 15 1 3 14 false,rg 16 (.binOp .lss 3 (tp 15) (ki 0) 3) 4 14 false,rq 17 (.pick (tp 14) (kb true) (tp 16)) 4,Ap 18 17 4,DD 19 1 3 18 false,rg 20 (.binOp .gtr 3 (tp 19) (ki 6) 3) 4 18 false,rq 21 (.pick (tp 18) (kb true) (tp 20)) 4])
 (.cond (tp 21) (.seq (.reg [] [
   rq 22 (.build 28 #[]) 28,
   rn (.store 28 (tp 4) (tp 22)) 0,
   Cz 5 1 24])
  (.ret))
 (.skip)))
 (.seq (.reg [] [
   rq 23 (.build 28 #[]) 28,rq 6 (.alloc 28) 0,rq 7 (.alloc 24) 0,rn (.store 28 (tp 6) (tp 23)) 0,rn (.store 24 (tp 7) (ki 12)) 0])
 (.seq (.seq (.reg [] [
   Ap 24 1 3,Ap 25 1 3,rq 26 (.binOp .sub 3 (tp 25) (ki 1) 3) 3,rq 27 (.binOp .mul 3 (tp 24) (tp 26) 3) 3,Ap 28 0 3,rq 29 (.binOp .sub 3 (tp 28) (ki 1) 3) 3,rq 30 (.binOp .neq 3 (tp 27) (tp 29) 3) 4])
 (.cond (tp 30) (.seq (.reg [0, 1, 2, 3] [
   Ce 31 6 28,
   Ce 32 7 24,
   ⟨none,.store 28 (tp 4) (tp 31),0,none,[(tp 7)]⟩,
   AQ 5 32 24])
  (.ret))
 (.skip)))
 (.seq (.reg [] [
   Ap 33 0 3,rq 34 (.build 45 #[(0,(tp 33))]) 45,Ap 35 1 3,rq 36 (.makeFunc (.func 53) #[] #[(tp 6),(tp 7)]) 48,rq 37 (cf 18 #[(tp 34),(ki 0),(tp 35),(.func 52),(tp 36)] #[45,3,3,48,48]) 4])
 (.seq (.reg [0, 1, 2, 3] [
   Ce 38 6 28,Ce 39 7 24,⟨none,.store 28 (tp 4) (tp 38),0,none,[(tp 7)]⟩,AQ 5 39 24])
 (.ret))))))
def c43:RC:=V6
def c44:RC:=
 .seq (.reg [] [
  rq 3 (.box 28 (tp 0)) 0,rq 6 (.assign (kb false)) 4])
 (.seq (.reg [] [
   DR 7 28 3 0,Ce 8 7 3,Ap 9 1 3,rq 10 (.binOp .eql 3 (tp 8) (tp 9) 3) 4,Ap 11 10 4,rg 12 (.fieldAddr 28 (tp 3) 1) 0 11 true,rg 13 (.load 22 (tp 12)) 22 11 true,DD 14 2 22 11 true,rg 15 (cf 6 #[(tp 13),(tp 14)] #[22,22]) 4 11 true,rq 16 (.pick (tp 11) (tp 15) (kb false)) 4,AQ 6 16 4])
 (.ret))
def c45:RC:=
 .seq (.reg [] [
  rq 4 (.assign (kb false)) 4])
 (.seq (.seq (.reg [] [
   Ap 6 0 23,EN 7 6 23,Ap 8 1 77,EN 9 8 77,rq 10 (.binOp .neq 3 (tp 7) (tp 9) 3) 4])
 (.cond (tp 10) (.seq (.reg [] [
   rq 4 (.assign (kb false)) 4])
  (.ret))
 (.skip)))
 (.seq (.seq (.reg [] [
   Cz 5 0 3])
 (.block 0 (.loop (.seq (.seq (.reg [] [
   Ap 11 5 3,
   Ap 12 0 23,
   EN 13 12 23,
   rq 14 (.binOp .lss 3 (tp 11) (tp 13) 3) 4])
   (.cond (tp 14) (.skip)
   (.exit 0)))
   (.seq (.block 1 (.seq (.reg [0, 1, 2, 3, 4, 5, 6, 7, 8, 9] [
     Ap 17 0 23,
     Ap 18 5 3,
     D5 19 23 17 18,
     Ce 20 19 28,
     Ap 21 1 77,
     Ap 22 5 3,
     D5 23 77 21 22,
     Ce 24 23 76,
     rq 25 (cf 54 #[(tp 20),(tp 24)] #[28,76]) 4,
     rq 26 (.unOp .not 4 (tp 25)) 4])
    (.cond (tp 26) (.seq (.reg [] [
      rq 4 (.assign (kb false)) 4])
     (.ret))
    (.skip))))
   (.reg [] [
     Ap 15 5 3,
     FB 16 15,
     AQ 5 16 3]))))))
 (.seq (.reg [] [
   rq 4 (.assign (kb true)) 4])
 (.ret))))
def c46:RC:=RQ
def c47:RC:=V3
def c48:RC:=Wt
def c49:RC:=Sc
def c50:RC:=Sd
def c51:RC:=Sg
def c52:RC:=
 .seq (.reg [] [
  rq 1 (.box 45 (tp 0)) 0,rq 2 (.assign (kb false)) 4])
 (.seq (.reg [] [
   Ce 3 1 45,rq 4 (cf 31 #[(tp 3)] #[45]) 3,rq 5 (.binOp .eql 3 (tp 4) (ki 0) 3) 4,AQ 2 5 4])
 (.ret))
def c53:RC:=
 .seq (.reg [] [
  rq 3 (.box 45 (tp 0)) 0,rq 4 (.assign (kb false)) 4])
 (.seq (.seq (.reg [] [
   Ce 5 3 45,rq 6 (cf 30 #[(tp 5)] #[45]) 4])
 (.cond (tp 6) (.reg [] [
   Ce 7 3 45,
   rq 8 (cf 23 #[(tp 7)] #[45]) 28,
   rn (.store 28 (tp 1) (tp 8)) 0,
   rn (.store 24 (tp 2) (ki 0)) 0])
 (.skip)))
 (.seq (.reg [] [
   Ce 9 2 24,rq 10 (.binOp .neq 24 (tp 9) (ki 0) 24) 4,AQ 4 10 4])
 (.ret)))
def c54:RC:=
 .seq (.reg [] [
  rq 2 (.box 28 (tp 0)) 0,rq 3 (.box 76 (tp 1)) 0,rq 4 (.assign (kb false)) 4])
 (.seq (.reg [] [
   DR 5 28 2 0,Ce 6 5 3,DR 7 76 3 0,Ce 8 7 3,rq 9 (.binOp .eql 3 (tp 6) (tp 8) 3) 4,Ap 10 9 4,rg 11 (.fieldAddr 28 (tp 2) 1) 0 10 true,rg 12 (.load 22 (tp 11)) 22 10 true,rg 13 (.fieldAddr 76 (tp 3) 1) 0 10 true,rg 14 (.load 22 (tp 13)) 22 10 true,rg 15 (cf 6 #[(tp 12),(tp 14)] #[22,22]) 4 10 true,rq 16 (.pick (tp 10) (tp 15) (kb false)) 4,AQ 4 16 4])
 (.ret))
def c55:RC:=Si
def c56:RC:=Wu
def ti3:TI:=⟨.int .i64,1,8,(some (.int .i64 0)),false⟩
def ti5:TI:=⟨.int .u8,1,1,(some (.int .u8 0)),false⟩
def ti9:TI:=⟨.string,1,16,(some (.string ⟨#[]⟩)),false⟩
def Acn:TI:=⟨.slice 3,1,24,(some (.slice none 0 0)),false⟩
def Aco:TI:=⟨.slice 28,1,24,(some (.slice none 0 0)),false⟩
def Acp:TI:=⟨.int .i64,1,8,(some (.int .i64 0)),false⟩
def Acr : TI := ⟨.struct #[⟨ "Places", 3, 0, false, "", "", 0⟩, ⟨ "Marks", 22, 1, false, "", "", 8⟩], 2, 32, (some (.agg #[(.int .i64 0), (.slice none 0 0)])), false⟩
def Acs:TI:=⟨.int .u32,1,4,(some (.int .u32 0)),false⟩
def Acu : TI := ⟨.struct #[⟨ "places", 3, 0, false, "", "spadille/ring", 0⟩, ⟨ "set", 29, 1, false, "", "spadille/ring", 8⟩], 2, 16, (some (.agg #[(.int .i64 0), (.int .u32 0)])), true⟩
def Acv:TI:=⟨.map 3 3,1,8,(some (.map none)),false⟩
def Acw:TI:=⟨.func #[45] #[4] false,1,8,(some .nilFunc),false⟩
def Acx:TI:=⟨.array 32 5,32,32,(some (.agg #[(.int .u8 0),(.int .u8 0),(.int .u8 0),(.int .u8 0),(.int .u8 0),(.int .u8 0),(.int .u8 0),(.int .u8 0),(.int .u8 0),(.int .u8 0),(.int .u8 0),(.int .u8 0),(.int .u8 0),(.int .u8 0),(.int .u8 0),(.int .u8 0),(.int .u8 0),(.int .u8 0),(.int .u8 0),(.int .u8 0),(.int .u8 0),(.int .u8 0),(.int .u8 0),(.int .u8 0),(.int .u8 0),(.int .u8 0),(.int .u8 0),(.int .u8 0),(.int .u8 0),(.int .u8 0),(.int .u8 0),(.int .u8 0)])),true⟩
def Acy:TI:=⟨.int .u64,1,8,(some (.int .u64 0)),false⟩
def Acz : TI := ⟨.struct #[⟨ "Places", 3, 0, false, "", "", 0⟩, ⟨ "Marks", 22, 1, false, "", "", 8⟩], 2, 32, (some (.agg #[(.int .i64 0), (.slice none 0 0)])), false⟩
def AcA:TI:=⟨.slice 76,1,24,(some (.slice none 0 0)),false⟩
def AcB:Tr TI:=(.node none (.node none (.node (some ti3) (.node none (.node none (.node none (.node (some Acx) .nil .nil) .nil) .nil) (.node (some Aco) .nil .nil)) .nil) (.node (some ti5) (.node (some ti9) .nil .nil) (.node none .nil (.node (some Acs) (.node (some Acu) (.node (some AcA) .nil .nil) .nil) .nil)))) (.node none (.node none (.node none (.node none (.node none (.node (some Acy) .nil .nil) .nil) (.node (some Acw) .nil .nil)) (.node (some Acp) .nil .nil)) (.node none .nil (.node (some Acr) (.node none (.node (some Acz) .nil .nil) .nil) .nil))) (.node none .nil (.node none (.node (some Acn) .nil .nil) (.node none (.node (some Acv) .nil .nil) .nil)))))
noncomputable def tt:TT:=AcB.get
def AcC:Tr Xq:=(.node none (.node none (.node (some ⟨199,c3,[.tmp 6]⟩) (.node (some ⟨23,c7,[.tmp 4]⟩) (.node (some ⟨262,c15,[.tmp 0]⟩) (.node (some ⟨27,c31,[.tmp 2]⟩) .nil .nil) (.node (some ⟨15,c47,[.tmp 4]⟩) .nil .nil)) (.node (some ⟨8,c23,[.cell 2 28]⟩) (.node (some ⟨62,c39,[.tmp 4,.tmp 5,.tmp 6]⟩) .nil .nil) (.node (some ⟨20,c55,[.tmp 4]⟩) .nil .nil))) (.node (some ⟨54,c11,[.tmp 2,.tmp 3]⟩) (.node (some ⟨20,c19,[.tmp 4]⟩) (.node (some ⟨8,c35,[.cell 4 28]⟩) .nil .nil) (.node (some ⟨24,c51,[.cell 4 45]⟩) .nil .nil)) (.node (some ⟨19,c27,[.tmp 4,.tmp 5]⟩) (.node (some ⟨4,c43,[.tmp 2]⟩) .nil .nil) .nil))) (.node (some ⟨43,c5,[.tmp 2,.tmp 3]⟩) (.node (some ⟨39,c9,[.cell 4 28,.tmp 5]⟩) (.node (some ⟨38,c17,[.tmp 2]⟩) (.node (some ⟨19,c33,[.tmp 2]⟩) .nil .nil) (.node (some ⟨36,c49,[.tmp 4]⟩) .nil .nil)) (.node (some ⟨23,c25,[.tmp 4]⟩) (.node (some ⟨19,c41,[.tmp 2,.tmp 3]⟩) .nil .nil) .nil)) (.node (some ⟨35,c13,[.tmp 8]⟩) (.node (some ⟨26,c21,[.tmp 4]⟩) (.node (some ⟨23,c37,[.cell 4 28,.tmp 5]⟩) .nil .nil) (.node (some ⟨11,c53,[.tmp 4]⟩) .nil .nil)) (.node (some ⟨19,c29,[.tmp 4]⟩) (.node (some ⟨27,c45,[.tmp 4]⟩) .nil .nil) .nil)))) (.node none (.node (some ⟨62,c4,[.tmp 4,.tmp 5]⟩) (.node (some ⟨9,c8,[.tmp 4]⟩) (.node (some ⟨25,c16,[.tmp 3]⟩) (.node (some ⟨11,c32,[.tmp 4]⟩) .nil .nil) (.node (some ⟨26,c48,[.cell 4 45]⟩) .nil .nil)) (.node (some ⟨16,c24,[.cell 2 45,.tmp 3]⟩) (.node (some ⟨39,c40,[.tmp 4,.tmp 5]⟩) .nil .nil) (.node (some ⟨6,c56,[.tmp 2]⟩) .nil .nil))) (.node (some ⟨9,c12,[.cell 4 28]⟩) (.node (some ⟨36,c20,[.cell 2 45]⟩) (.node (some ⟨16,c36,[.tmp 2,.tmp 3]⟩) .nil .nil) (.node (some ⟨6,c52,[.tmp 2]⟩) .nil .nil)) (.node (some ⟨21,c28,[.tmp 2]⟩) (.node (some ⟨17,c44,[.tmp 6]⟩) .nil .nil) .nil))) (.node (some ⟨26,c6,[.tmp 4]⟩) (.node (some ⟨16,c10,[.tmp 2,.tmp 3]⟩) (.node (some ⟨48,c18,[.tmp 10]⟩) (.node (some ⟨53,c34,[.tmp 2,.tmp 3]⟩) .nil .nil) (.node (some ⟨42,c50,[.tmp 2]⟩) .nil .nil)) (.node (some ⟨30,c26,[.cell 4 45]⟩) (.node (some ⟨40,c42,[.cell 4 28,.tmp 5]⟩) .nil .nil) .nil)) (.node (some ⟨14,c14,[.tmp 2]⟩) (.node (some ⟨24,c22,[.tmp 2]⟩) (.node (some ⟨18,c38,[.cell 2 28,.tmp 3]⟩) .nil .nil) (.node (some ⟨17,c54,[.tmp 4]⟩) .nil .nil)) (.node (some ⟨15,c30,[.tmp 2]⟩) (.node (some ⟨19,c46,[.tmp 2]⟩) .nil .nil) .nil)))))
noncomputable def Qq:FuncId→Option Xq:=AcC.get
end Go.RgQ
set_option maxRecDepth 100000
namespace Go.RgQM
open Go.Sp Go.RgQ
noncomputable section
def Wv:List Value→Option Value:=fun _=>none
end
end Go.RgQM
set_option maxRecDepth 100000
set_option maxHeartbeats 20000000
set_option linter.unusedVariables false
namespace Go.RgQM
open Go.Sp Go.RgQ
noncomputable section
def SK:List Value:=[.int .u8 0,.int .u8 1,.int .u8 28,.int .u8 2,.int .u8 29,.int .u8 14,.int .u8 24,.int .u8 3,.int .u8 30,.int .u8 22,.int .u8 20,.int .u8 15,.int .u8 25,.int .u8 17,.int .u8 4,.int .u8 8,.int .u8 31,.int .u8 27,.int .u8 13,.int .u8 23,.int .u8 21,.int .u8 19,.int .u8 16,.int .u8 7,.int .u8 26,.int .u8 12,.int .u8 18,.int .u8 6,.int .u8 11,.int .u8 5,.int .u8 10,.int .u8 9]
def tabs:List (List Value):=[SK]
theorem A7 {tt:TT} {n0:Nat} {rs:List ResultVar} {v:Value} {F:Fr} {H:Aa} (r:Value) (hm:some r=some v) (h:DV tt F H rs=some r:=by kernel_rfl) (hc:Fe r=true:=by kernel_rfl):Fin tt n0 rs v .ret F H:=kI r h hc hm
theorem K8 {α:Type} {k:IntKind} {o:Option Value} {s:Int→Option α} {w:α} (h:oo o none (fun v=>oo (Bi k v) none s)=some w):∃ x,o=some (.int k x)∧s x=some w:=by
 obtain⟨v,h1,h2⟩:=Ab h
 obtain⟨x,hx,h3⟩:=Ab h2
 obtain rfl:=Eh hx
 exact⟨x,h1,h3⟩
theorem Yy {α:Type} {k:Nat} {o:Option Value} {s:Sl→Option α} {w:α} (h:oo o none (fun v=>oo (Bj k v) none s)=some w):∃ x,o=some (Sl.v k x)∧s x=some w:=by
 obtain⟨v,h1,h2⟩:=Ab h
 obtain⟨x,hx,h3⟩:=Ab h2
 obtain rfl:=Qh hx
 exact⟨x,h1,h3⟩
theorem Yd {α:Type} {o:Option Value} {s:Bool→Option α} {w:α} (h:oo o none (fun v=>oo (Bf v) none s)=some w):∃ x,o=some (.bool x)∧s x=some w:=by
 obtain⟨v,h1,h2⟩:=Ab h
 obtain⟨x,hx,h3⟩:=Ab h2
 obtain rfl:=BV hx
 exact⟨x,h1,h3⟩
theorem DT {tt:TT} {call:A8} {n0:Nat} {c:Operand} {a b:RC} {F:Fr} {H:Aa} {Q:Ex→Fr→Aa→Prop} (e:Bool) (hb:e=true) (h:BN tt call n0 a F H Q) (he:Bf (F.eval c)=some e:=by kernel_rfl):BN tt call n0 (.cond c a b) F H Q:=.ifT e he hb h
theorem Eb {tt:TT} {call:A8} {n0:Nat} {c:Operand} {a b:RC} {F:Fr} {H:Aa} {Q:Ex→Fr→Aa→Prop} (e:Bool) (hb:e=false) (h:BN tt call n0 b F H Q) (he:Bf (F.eval c)=some e:=by kernel_rfl):BN tt call n0 (.cond c a b) F H Q:=.ifF e he hb h
abbrev AO:Aa:=hp 1 [oT SK]
abbrev hT (n:Nat) (l:List AJ):Aa:=hp n (oT SK::l)
theorem Cs {a b:Bool} (h:b=true) (e:a=b:=by kernel_rfl):a=true:=e.trans h
abbrev OV:=Option Value
abbrev LV:=List Value
def SQ:List Nat:=[3,4,5,6,7,8,9,10,11,12,13,14,15,20,21,22,23,24,25,26,27,28,29,30,31,32,33,46,47,48,49,50,51,55,56]
def isP:FuncId→Bool:=fun g=>ED g SQ
def inl (pu:Af):A8:=fun g args H=>bb (Nat.beq g 43) (Hr tabs 1 (pu 43) args H) (bb (Nat.beq g 17) (EK tabs [[none,none]] 1 [] [false] (pu 10170) args H) (bb (Nat.beq g 18) (EK tabs [[none,none],[none],[none],[none],[none]] 5 [.cap 3 0 false,.cap 4 1 true,.cell 2 0 false] [false,true,false,false] (pu 10180) args H) (bb (Nat.beq g 19) (EK tabs [[none,none],[none],[none]] 3 [.tmp 1 false,.tmp 2 true,.cell 2 0 false] [false,true,false,false] (pu 10190) args H) (bb (Nat.beq g 16) (EK tabs [[none,none],[none]] 2 [.tmp 1 false] [false] (pu 10160) args H) (none)))))
def TV:List UInt8:=[0,1,1,2,1,2,2,3,1,2,2,3,2,3,3,4,1,2,2,3,2,3,3,4,2,3,3,4,3,4,4,5,1,2,2,3,2,3,3,4,2,3,3,4,3,4,4,5,2,3,3,4,3,4,4,5,3,4,4,5,4,5,5,6,1,2,2,3,2,3,3,4,2,3,3,4,3,4,4,5,2,3,3,4,3,4,4,5,3,4,4,5,4,5,5,6,2,3,3,4,3,4,4,5,3,4,4,5,4,5,5,6,3,4,4,5,4,5,5,6,4,5,5,6,5,6,6,7,1,2,2,3,2,3,3,4,2,3,3,4,3,4,4,5,2,3,3,4,3,4,4,5,3,4,4,5,4,5,5,6,2,3,3,4,3,4,4,5,3,4,4,5,4,5,5,6,3,4,4,5,4,5,5,6,4,5,5,6,5,6,6,7,2,3,3,4,3,4,4,5,3,4,4,5,4,5,5,6,3,4,4,5,4,5,5,6,4,5,5,6,5,6,6,7,3,4,4,5,4,5,5,6,4,5,5,6,5,6,6,7,4,5,5,6,5,6,6,7,5,6,6,7,6,7,7,8]
end
end Go.RgQM
