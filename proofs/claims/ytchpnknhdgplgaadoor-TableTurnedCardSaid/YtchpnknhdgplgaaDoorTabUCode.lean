/- Slim code and types of the seat's program: MADE BY PROGRAM (wip/sp/Print.lean, gen2.lean). -/
import Derived.Test.YtchpnknhdgplgaaDoorSpFramex
import Derived.Test.YtchpnknhdgplgaaDoorTabUNodesx

set_option maxRecDepth 100000
namespace Go.TabU
open Go.Sp
def c6 : RC := c6_104
def c8 : RC :=
  .seq (.reg [] [
   rq 0 (.assign (kb false)) 4])
 (.seq (.reg [] [
   rq 23 (cf 28 #[] #[]) 24,rq 24 (.buildSlice 32 3 #[(0, (ki 9)), (1, (ki (-1))), (2, (ki 4))]) 32,rq 25 (cf 29 #[(tp 24)] #[32]) 32,rq 26 (cf 24 #[(tp 23), (tp 25)] #[24, 32]) 33,rq 22 (.move (tp 26)) 33,rq 27 (.extract (tp 22) 0) 32,rq 28 (.extract (tp 22) 1) 28,rq 1 (.assign (tp 27)) 32,rq 2 (.assign (tp 28)) 28])
 (.seq (.reg [] [
   rq 30 (cf 28 #[] #[]) 24,rq 31 (cf 9 #[(tp 30)] #[24]) 29,rq 29 (.move (tp 31)) 29,rq 32 (.extract (tp 29) 0) 4,rq 33 (.extract (tp 29) 1) 28,rq 3 (.assign (tp 32)) 4,rq 4 (.assign (tp 33)) 28])
 (.seq (.reg [] [
   rq 35 (cf 30 #[] #[]) 24,rq 36 (cf 9 #[(tp 35)] #[24]) 29,rq 34 (.move (tp 36)) 29,rq 37 (.extract (tp 34) 0) 4,rq 38 (.extract (tp 34) 1) 28,rq 5 (.assign (tp 37)) 4,rq 6 (.assign (tp 38)) 28])
 (.seq (.reg [] [
   rq 40 (cf 30 #[] #[]) 24,rq 41 (cf 11 #[(tp 40)] #[24]) 33,rq 39 (.move (tp 41)) 33,rq 42 (.extract (tp 39) 0) 32,rq 43 (.extract (tp 39) 1) 28,rq 7 (.assign (tp 42)) 32,rq 8 (.assign (tp 43)) 28])
 (.seq (.reg [] [
   rq 45 (cf 30 #[] #[]) 24,rq 46 (cf 13 #[(tp 45)] #[24]) 37,rq 44 (.move (tp 46)) 37,rq 47 (.extract (tp 44) 0) 36,rq 48 (.extract (tp 44) 1) 28,rq 9 (.assign (tp 47)) 36,rq 10 (.assign (tp 48)) 28])
 (.seq (.reg [] [
   rq 50 (cf 28 #[] #[]) 24,rq 51 (cf 17 #[(tp 50)] #[24]) 33,rq 49 (.move (tp 51)) 33,rq 52 (.extract (tp 49) 0) 32,rq 53 (.extract (tp 49) 1) 28,rq 11 (.assign (tp 52)) 32,rq 12 (.assign (tp 53)) 28])
 (.seq (.reg [] [
   rq 55 (cf 28 #[] #[]) 24,rq 56 (cf 19 #[(tp 55)] #[24]) 33,rq 54 (.move (tp 56)) 33,rq 57 (.extract (tp 54) 0) 32,rq 58 (.extract (tp 54) 1) 28,rq 13 (.assign (tp 57)) 32,rq 14 (.assign (tp 58)) 28])
 (.seq (.seq (.reg [] [
   rq 59 (.move (tp 2)) 28,rq 60 (.binOp .neq 28 (tp 59) (ki 0) 28) 4,rq 61 (.move (tp 60)) 4,rg 62 (.move (tp 4)) 28 61 false,rg 63 (.binOp .neq 28 (tp 62) (ki 0) 28) 4 61 false,rq 64 (.pick (tp 61) (kb true) (tp 63)) 4,rq 65 (.move (tp 64)) 4,rg 66 (.move (tp 6)) 28 65 false,rg 67 (.binOp .neq 28 (tp 66) (ki 0) 28) 4 65 false,rq 68 (.pick (tp 65) (kb true) (tp 67)) 4,rq 69 (.move (tp 68)) 4,rg 70 (.move (tp 8)) 28 69 false,rg 71 (.binOp .neq 28 (tp 70) (ki 0) 28) 4 69 false,rq 72 (.pick (tp 69) (kb true) (tp 71)) 4,rq 73 (.move (tp 72)) 4,rg 74 (.move (tp 10)) 28 73 false,rg 75 (.binOp .neq 28 (tp 74) (ki 0) 28) 4 73 false,rq 76 (.pick (tp 73) (kb true) (tp 75)) 4,rq 77 (.move (tp 76)) 4,rg 78 (.move (tp 12)) 28 77 false,rg 79 (.binOp .neq 28 (tp 78) (ki 0) 28) 4 77 false,rq 80 (.pick (tp 77) (kb true) (tp 79)) 4,rq 81 (.move (tp 80)) 4,rg 82 (.move (tp 14)) 28 81 false,rg 83 (.binOp .neq 28 (tp 82) (ki 0) 28) 4 81 false,rq 84 (.pick (tp 81) (kb true) (tp 83)) 4])
 (.cond (tp 84) (.seq (.reg [] [
    rq 0 (.assign (kb false)) 4])
  (.ret))
 (.skip)))
 (.seq (.reg [] [
   rq 86 (cf 30 #[] #[]) 24,rq 87 (cf 21 #[(tp 86)] #[24]) 37,rq 85 (.move (tp 87)) 37,rq 88 (.extract (tp 85) 0) 36,rq 89 (.extract (tp 85) 1) 28,rq 15 (.assign (tp 88)) 36,rq 2 (.assign (tp 89)) 28])
 (.seq (.reg [] [
   rq 91 (cf 30 #[] #[]) 24,rq 92 (cf 31 #[(tp 91), (ki 1)] #[24, 3]) 61,rq 90 (.move (tp 92)) 61,rq 93 (.extract (tp 90) 0) 3,rq 94 (.extract (tp 90) 1) 3,rq 95 (.extract (tp 90) 2) 28,rq 16 (.assign (tp 93)) 3,rq 17 (.assign (tp 94)) 3,rq 4 (.assign (tp 95)) 28])
 (.seq (.reg [] [
   rq 97 (cf 30 #[] #[]) 24,rq 98 (cf 32 #[(tp 97), (ki 2)] #[24, 3]) 29,rq 96 (.move (tp 98)) 29,rq 99 (.extract (tp 96) 0) 4,rq 100 (.extract (tp 96) 1) 28,rq 18 (.assign (tp 99)) 4,rq 6 (.assign (tp 100)) 28])
 (.seq (.reg [] [
   rq 102 (cf 30 #[] #[]) 24,rq 103 (cf 32 #[(tp 102), (ki 4)] #[24, 3]) 29,rq 101 (.move (tp 103)) 29,rq 104 (.extract (tp 101) 0) 4,rq 105 (.extract (tp 101) 1) 28,rq 19 (.assign (tp 104)) 4,rq 8 (.assign (tp 105)) 28])
 (.seq (.reg [] [
   rq 107 (cf 30 #[] #[]) 24,rq 108 (cf 33 #[(tp 107)] #[24]) 64,rq 106 (.move (tp 108)) 64,rq 109 (.extract (tp 106) 0) 22,rq 110 (.extract (tp 106) 1) 28,rq 20 (.assign (tp 109)) 22,rq 10 (.assign (tp 110)) 28])
 (.seq (.reg [] [
   rq 112 (cf 34 #[(ki 3), (.const (.slice none 0 0))] #[3, 32]) 24,rq 113 (cf 33 #[(tp 112)] #[24]) 64,rq 111 (.move (tp 113)) 64,rq 114 (.extract (tp 111) 0) 22,rq 115 (.extract (tp 111) 1) 28,rq 21 (.assign (tp 114)) 22,rq 12 (.assign (tp 115)) 28])
 (.seq (.reg [] [
   rq 117 (cf 28 #[] #[]) 24,rq 118 (cf 11 #[(tp 117)] #[24]) 33,rq 116 (.move (tp 118)) 33,rq 119 (.extract (tp 116) 0) 32,rq 120 (.extract (tp 116) 1) 28,rq 14 (.assign (tp 120)) 28])
 (.seq (.reg [] [
   rq 121 (.move (tp 2)) 28,rq 122 (.binOp .eql 28 (tp 121) (ki 0) 28) 4,rq 123 (.move (tp 122)) 4,rg 124 (.move (tp 4)) 28 123 true,rg 125 (.binOp .eql 28 (tp 124) (ki 0) 28) 4 123 true,rq 126 (.pick (tp 123) (tp 125) (kb false)) 4,rq 127 (.move (tp 126)) 4,rg 128 (.move (tp 6)) 28 127 true,rg 129 (.binOp .eql 28 (tp 128) (ki 0) 28) 4 127 true,rq 130 (.pick (tp 127) (tp 129) (kb false)) 4,rq 131 (.move (tp 130)) 4,rg 132 (.move (tp 8)) 28 131 true,rg 133 (.binOp .eql 28 (tp 132) (ki 0) 28) 4 131 true,rq 134 (.pick (tp 131) (tp 133) (kb false)) 4,rq 135 (.move (tp 134)) 4,rg 136 (.move (tp 10)) 28 135 true,rg 137 (.binOp .eql 28 (tp 136) (ki 0) 28) 4 135 true,rq 138 (.pick (tp 135) (tp 137) (kb false)) 4,rq 139 (.move (tp 138)) 4,rg 140 (.move (tp 12)) 28 139 true,rg 141 (.binOp .eql 28 (tp 140) (ki 0) 28) 4 139 true,rq 142 (.pick (tp 139) (tp 141) (kb false)) 4,rq 143 (.move (tp 142)) 4,rg 144 (.move (tp 14)) 28 143 true,rg 145 (.binOp .eql 28 (tp 144) (ki 13) 28) 4 143 true,rq 146 (.pick (tp 143) (tp 145) (kb false)) 4,rq 147 (.move (tp 146)) 4,rg 148 (.move (tp 3)) 4 147 true,rq 149 (.pick (tp 147) (tp 148) (kb false)) 4,rq 150 (.move (tp 149)) 4,rg 151 (.move (tp 5)) 4 150 true,rg 152 (.unOp .not 4 (tp 151)) 4 150 true,rq 153 (.pick (tp 150) (tp 152) (kb false)) 4,rq 154 (.move (tp 153)) 4,rg 155 (.move (tp 18)) 4 154 true,rg 156 (.unOp .not 4 (tp 155)) 4 154 true,rq 157 (.pick (tp 154) (tp 156) (kb false)) 4,rq 158 (.move (tp 157)) 4,rg 159 (.move (tp 19)) 4 158 true,rq 160 (.pick (tp 158) (tp 159) (kb false)) 4,rq 161 (.move (tp 160)) 4,rg 162 (.move (tp 16)) 3 161 true,rg 163 (.binOp .eql 3 (tp 162) (ki 1) 3) 4 161 true,rq 164 (.pick (tp 161) (tp 163) (kb false)) 4,rq 165 (.move (tp 164)) 4,rg 166 (.move (tp 17)) 3 165 true,rg 167 (.binOp .eql 3 (tp 166) (ki 2) 3) 4 165 true,rq 168 (.pick (tp 165) (tp 167) (kb false)) 4,rq 169 (.move (tp 168)) 4,rg 170 (.move (tp 9)) 36 169 true,rg 171 (cb .len #[(tp 170)] #[36]) 3 169 true,rg 172 (.binOp .eql 3 (tp 171) (ki 6) 3) 4 169 true,rq 173 (.pick (tp 169) (tp 172) (kb false)) 4,rq 174 (.move (tp 173)) 4,rg 175 (.move (tp 11)) 32 174 true,rg 176 (cb .len #[(tp 175)] #[32]) 3 174 true,rg 177 (.binOp .eql 3 (tp 176) (ki 0) 3) 4 174 true,rq 178 (.pick (tp 174) (tp 177) (kb false)) 4,rq 179 (.move (tp 178)) 4,rg 180 (.move (tp 1)) 32 179 true,rg 181 (.buildSlice 32 3 #[(0, (ki (-1))), (1, (ki 4)), (2, (ki 9))]) 32 179 true,rg 182 (cf 29 #[(tp 181)] #[32]) 32 179 true,rg 183 (cf 15 #[(tp 180), (tp 182)] #[32, 32]) 4 179 true,rq 184 (.pick (tp 179) (tp 183) (kb false)) 4,rq 185 (.move (tp 184)) 4,rg 186 (.move (tp 7)) 32 185 true,rg 187 (.buildSlice 32 4 #[(0, (ki 0)), (1, (ki 1)), (2, (ki 0)), (3, (ki 1))]) 32 185 true,rg 188 (cf 29 #[(tp 187)] #[32]) 32 185 true,rg 189 (cf 15 #[(tp 186), (tp 188)] #[32, 32]) 4 185 true,rq 190 (.pick (tp 185) (tp 189) (kb false)) 4,rq 191 (.move (tp 190)) 4,rg 192 (.move (tp 13)) 32 191 true,rg 193 (.buildSlice 32 3 #[(0, (ki 0)), (1, (ki 1)), (2, (ki 2))]) 32 191 true,rg 194 (cf 29 #[(tp 193)] #[32]) 32 191 true,rg 195 (cf 15 #[(tp 192), (tp 194)] #[32, 32]) 4 191 true,rq 196 (.pick (tp 191) (tp 195) (kb false)) 4,rq 197 (.move (tp 196)) 4,rg 198 (.move (tp 15)) 36 197 true,rg 199 (.buildSlice 32 2 #[(0, (ki 0)), (1, (ki 1))]) 32 197 true,rg 200 (cf 29 #[(tp 199)] #[32]) 32 197 true,rg 201 (.buildSlice 32 2 #[(0, (ki 2)), (1, (ki 3))]) 32 197 true,rg 202 (cf 29 #[(tp 201)] #[32]) 32 197 true,rg 203 (.buildSlice 36 2 #[(0, (tp 200)), (1, (tp 202))]) 36 197 true,rg 204 (cf 35 #[(tp 203)] #[36]) 36 197 true,rg 205 (cf 16 #[(tp 198), (tp 204)] #[36, 36]) 4 197 true,rq 206 (.pick (tp 197) (tp 205) (kb false)) 4,rq 207 (.move (tp 206)) 4,rg 208 (.move (tp 20)) 22 207 true,rg 209 (.build 50 #[(0, (ki 1)), (1, (ki 2))]) 50 207 true,rg 210 (.buildSlice 22 1 #[(0, (tp 209))]) 22 207 true,rg 211 (cf 36 #[(tp 208), (tp 210)] #[22, 22]) 4 207 true,rq 212 (.pick (tp 207) (tp 211) (kb false)) 4,rq 213 (.move (tp 212)) 4,rg 214 (.move (tp 21)) 22 213 true,rg 215 (.build 50 #[(0, (ki 0)), (1, (ki 1))]) 50 213 true,rg 216 (.build 50 #[(0, (ki 0)), (1, (ki 2))]) 50 213 true,rg 217 (.build 50 #[(0, (ki 1)), (1, (ki 2))]) 50 213 true,rg 218 (.buildSlice 22 3 #[(0, (tp 215)), (1, (tp 216)), (2, (tp 217))]) 22 213 true,rg 219 (cf 36 #[(tp 214), (tp 218)] #[22, 22]) 4 213 true,rq 220 (.pick (tp 213) (tp 219) (kb false)) 4,rq 221 (.move (tp 220)) 4,rg 222 (cf 30 #[] #[]) 24 221 true,rg 223 (.buildSlice 32 4 #[(0, (ki 0)), (1, (ki 1)), (2, (ki 0)), (3, (ki 1))]) 32 221 true,rg 224 (cf 29 #[(tp 223)] #[32]) 32 221 true,rg 225 (cf 37 #[(tp 222), (tp 224)] #[24, 32]) 28 221 true,rg 226 (.binOp .eql 28 (tp 225) (ki 0) 28) 4 221 true,rq 227 (.pick (tp 221) (tp 226) (kb false)) 4,rq 228 (.move (tp 227)) 4,rg 229 (cf 30 #[] #[]) 24 228 true,rg 230 (.buildSlice 32 4 #[(0, (ki 4)), (1, (ki 3)), (2, (ki 2)), (3, (ki 1))]) 32 228 true,rg 231 (cf 29 #[(tp 230)] #[32]) 32 228 true,rg 232 (cf 37 #[(tp 229), (tp 231)] #[24, 32]) 28 228 true,rg 233 (.binOp .eql 28 (tp 232) (ki 14) 28) 4 228 true,rq 234 (.pick (tp 228) (tp 233) (kb false)) 4,rq 0 (.assign (tp 234)) 4])
 (.ret)))))))))))))))))
def c9 : RC := c9_11
def c11 : RC :=
  .seq (.reg [] [
   rq 1 (.box 24 (tp 0)) 0,rq 2 (.assign (.const (.slice none 0 0))) 32,rq 3 (.assign (ki 0)) 28])
 (.seq (.reg [] [
   rq 8 (.load 24 (tp 1)) 24,rq 9 (cf 38 #[(tp 8)] #[24]) 74,rq 7 (.move (tp 9)) 74,rq 10 (.extract (tp 7) 0) 73,rq 11 (.extract (tp 7) 1) 28,rq 4 (.alloc 73) 0,rn (.store 73 (tp 4) (tp 10)) 0,rq 5 (.assign (tp 11)) 28])
 (.seq (.seq (.reg [] [
   rq 12 (.move (tp 5)) 28,rq 13 (.binOp .neq 28 (tp 12) (ki 0) 28) 4])
 (.cond (tp 13) (.seq (.reg [] [
    rq 14 (.move (tp 5)) 28,
    rq 2 (.assign (.const (.slice none 0 0))) 32,
    rq 3 (.assign (tp 14)) 28])
  (.ret))
 (.skip)))
 (.seq (.reg [] [
   rq 15 (.load 73 (tp 4)) 73,rq 16 (.fieldAddr 24 (tp 1) 0) 0,rq 17 (.load 3 (tp 16)) 3,rq 18 (cf 39 #[(tp 15), (tp 17)] #[73, 3]) 3,rq 6 (.assign (tp 18)) 3])
 (.seq (.seq (.reg [] [
   rq 19 (.move (tp 6)) 3,rq 20 (.binOp .lss 3 (tp 19) (ki 0) 3) 4])
 (.cond (tp 20) (.seq (.reg [] [
    rq 2 (.assign (.const (.slice none 0 0))) 32,
    rq 3 (.assign (ki 13)) 28])
  (.ret))
 (.skip)))
 (.seq (.reg [] [
   rq 21 (.fieldAddr 24 (tp 1) 0) 0,rq 22 (.load 3 (tp 21)) 3,rq 23 (.move (tp 6)) 3,rq 24 (cf 43 #[(tp 22), (tp 23)] #[3, 3]) 32,rq 2 (.assign (tp 24)) 32,rq 3 (.assign (ki 0)) 28])
 (.ret))))))
def c13 : RC :=
  .seq (.reg [] [
   rq 1 (.box 24 (tp 0)) 0,rq 2 (.assign (.const (.slice none 0 0))) 36,rq 3 (.assign (ki 0)) 28])
 (.seq (.reg [] [
   rq 11 (.load 24 (tp 1)) 24,rq 12 (cf 38 #[(tp 11)] #[24]) 74,rq 10 (.move (tp 12)) 74,rq 13 (.extract (tp 10) 0) 73,rq 14 (.extract (tp 10) 1) 28,rq 4 (.alloc 73) 0,rn (.store 73 (tp 4) (tp 13)) 0,rq 5 (.assign (tp 14)) 28])
 (.seq (.seq (.reg [] [
   rq 15 (.move (tp 5)) 28,rq 16 (.binOp .neq 28 (tp 15) (ki 0) 28) 4])
 (.cond (tp 16) (.seq (.reg [] [
    rq 17 (.move (tp 5)) 28,
    rq 2 (.assign (.const (.slice none 0 0))) 36,
    rq 3 (.assign (tp 17)) 28])
  (.ret))
 (.skip)))
 (.seq (.reg [] [
   rq 18 (.load 73 (tp 4)) 73,rq 19 (.fieldAddr 24 (tp 1) 0) 0,rq 20 (.load 3 (tp 19)) 3,rq 21 (cf 47 #[(tp 18), (tp 20)] #[73, 3]) 32,rq 6 (.assign (tp 21)) 32])
 (.seq (.reg [] [
   rq 22 (.move (tp 6)) 32,rq 23 (cf 26 #[(tp 22)] #[32]) 0])
 (.seq (.reg [] [
   rq 7 (.assign (.const (.slice none 0 0))) 36])
 (.seq (.seq (.reg [] [
   rq 24 (.move (tp 6)) 32,rq 25 (cf 48 #[(tp 24)] #[32]) 32,rq 26 (cb .len #[(tp 25)] #[32]) 3,rq 27 (.move (ki 0)) 3])
 (.block 0 (.loop (.seq (.reg [] [
     rq 28 (.binOp .lss 3 (tp 27) (tp 26) 3) 0])
   (.seq (.cond (tp 28) (.skip)
   (.exit 0))
   (.seq (.block 1 (.seq (.reg [] [
      rq 29 (.indexAddr 32 (tp 25) (tp 27)) 0,
      rq 30 (.load 3 (tp 29)) 3,
      rq 9 (.assign (tp 30)) 3])
    (.reg [] [
      rq 31 (.move (tp 7)) 36,
      rq 32 (.fieldAddr 24 (tp 1) 0) 0,
      rq 33 (.load 3 (tp 32)) 3,
      rq 34 (.move (tp 9)) 3,
      rq 35 (cf 43 #[(tp 33), (tp 34)] #[3, 3]) 32,
      rq 36 (.buildSlice 36 1 #[(0, (tp 35))]) 36,
      rq 37 (cb .append #[(tp 31), (tp 36)] #[36, 36]) 36,
      rq 7 (.assign (tp 37)) 36])))
   (.reg [] [
     rq 38 (.binOp .add 3 (tp 27) (ki 1) 3) 3,
     rq 27 (.move (tp 38)) 3])))))))
 (.seq (.reg [] [
   rq 39 (.move (tp 7)) 36,rq 2 (.assign (tp 39)) 36,rq 3 (.assign (ki 0)) 28])
 (.ret))))))))
def c15 : RC := c15_26
def c16 : RC :=
  .seq (.reg [] [
   rq 4 (.assign (kb false)) 4])
 (.seq (.seq (.reg [] [
   rq 6 (.move (tp 0)) 36,rq 7 (cb .len #[(tp 6)] #[36]) 3,rq 8 (.move (tp 1)) 36,rq 9 (cb .len #[(tp 8)] #[36]) 3,rq 10 (.binOp .neq 3 (tp 7) (tp 9) 3) 4])
 (.cond (tp 10) (.seq (.reg [] [
    rq 4 (.assign (kb false)) 4])
  (.ret))
 (.skip)))
 (.seq (.seq (.reg [] [
   rq 5 (.assign (ki 0)) 3])
 (.block 0 (.loop (.seq (.seq (.reg [] [
     rq 11 (.move (tp 5)) 3,
     rq 12 (.move (tp 0)) 36,
     rq 13 (cb .len #[(tp 12)] #[36]) 3,
     rq 14 (.binOp .lss 3 (tp 11) (tp 13) 3) 4])
   (.cond (tp 14) (.skip)
   (.exit 0)))
   (.seq (.block 1 (.seq (.reg [0, 1, 2, 3, 4, 5, 6, 7, 8, 9] [
      rq 17 (.move (tp 0)) 36,
      rq 18 (.move (tp 5)) 3,
      rq 19 (.indexAddr 36 (tp 17) (tp 18)) 0,
      rq 20 (.load 32 (tp 19)) 32,
      rq 21 (.move (tp 1)) 36,
      rq 22 (.move (tp 5)) 3,
      rq 23 (.indexAddr 36 (tp 21) (tp 22)) 0,
      rq 24 (.load 32 (tp 23)) 32,
      rq 25 (cf 15 #[(tp 20), (tp 24)] #[32, 32]) 4,
      rq 26 (.unOp .not 4 (tp 25)) 4])
    (.cond (tp 26) (.seq (.reg [] [
       rq 4 (.assign (kb false)) 4])
     (.ret))
    (.skip))))
   (.reg [] [
     rq 15 (.move (tp 5)) 3,
     rq 16 (.binOp .add 3 (tp 15) (ki 1) 3) 3,
     rq 5 (.assign (tp 16)) 3]))))))
 (.seq (.reg [] [
   rq 4 (.assign (kb true)) 4])
 (.ret))))
def c17 : RC :=
  .seq (.reg [] [
   rq 1 (.box 24 (tp 0)) 0,rq 2 (.assign (.const (.slice none 0 0))) 32,rq 3 (.assign (ki 0)) 28])
 (.seq (.seq (.reg [] [
   rq 10 (.load 24 (tp 1)) 24,rq 11 (cf 50 #[(tp 10)] #[24]) 28,rq 4 (.assign (tp 11)) 28])
 (.seq (.reg [] [
   rq 12 (.move (tp 4)) 28,rq 13 (.binOp .neq 28 (tp 12) (ki 0) 28) 4])
 (.cond (tp 13) (.seq (.reg [] [
    rq 14 (.move (tp 4)) 28,
    rq 2 (.assign (.const (.slice none 0 0))) 32,
    rq 3 (.assign (tp 14)) 28])
  (.ret))
 (.skip))))
 (.seq (.reg [] [
   rq 5 (.assign (.const (.slice none 0 0))) 32])
 (.seq (.reg [] [
   rq 15 (.fieldAddr 24 (tp 1) 0) 0,rq 16 (.load 3 (tp 15)) 3,rq 17 (cf 51 #[(tp 16)] #[3]) 73,rq 6 (.alloc 73) 0,rn (.store 73 (tp 6) (tp 17)) 0])
 (.seq (.seq (.reg [] [
   rq 18 (.fieldAddr 24 (tp 1) 1) 0,rq 19 (.load 22 (tp 18)) 22,rq 20 (cb .len #[(tp 19)] #[22]) 3,rq 21 (.move (ki 0)) 3])
 (.block 0 (.loop (.seq (.reg [] [
     rq 22 (.binOp .lss 3 (tp 21) (tp 20) 3) 0])
   (.seq (.cond (tp 22) (.skip)
   (.exit 0))
   (.seq (.block 1 (.seq (.reg [] [
      rq 23 (.move (tp 21)) 3,
      rq 24 (.indexAddr 22 (tp 19) (tp 21)) 0,
      rq 25 (.load 50 (tp 24)) 50,
      rq 8 (.alloc 50) 0,
      rq 7 (.assign (tp 23)) 3,
      rn (.store 50 (tp 8) (tp 25)) 0])
    (.seq (.reg [] [
      rq 26 (.load 73 (tp 6)) 73,
      rq 27 (.load 50 (tp 8)) 50,
      rq 28 (cf 52 #[(tp 26), (tp 27)] #[73, 50]) 73,
      rq 9 (.alloc 73) 0,
      rn (.store 73 (tp 9) (tp 28)) 0])
    (.seq (.seq (.reg [] [
      rq 29 (.load 73 (tp 9)) 73,
      rq 30 (.load 73 (tp 6)) 73,
      rq 31 (.binOp .eql 73 (tp 29) (tp 30) 73) 4])
    (.cond (tp 31) (.reg [] [
       rq 32 (.move (tp 5)) 32,
       rq 33 (.move (tp 7)) 3,
       rq 34 (.buildSlice 32 1 #[(0, (tp 33))]) 32,
       rq 35 (cb .append #[(tp 32), (tp 34)] #[32, 32]) 32,
       rq 5 (.assign (tp 35)) 32])
    (.skip)))
    (.reg [] [
      rq 36 (.load 73 (tp 9)) 73,
      rn (.store 73 (tp 6) (tp 36)) 0])))))
   (.reg [] [
     rq 37 (.binOp .add 3 (tp 21) (ki 1) 3) 3,
     rq 21 (.move (tp 37)) 3])))))))
 (.seq (.reg [] [
   rq 38 (.move (tp 5)) 32,rq 2 (.assign (tp 38)) 32,rq 3 (.assign (ki 0)) 28])
 (.ret))))))
def c19 : RC :=
  .seq (.reg [] [
   rq 1 (.box 24 (tp 0)) 0,rq 2 (.assign (.const (.slice none 0 0))) 32,rq 3 (.assign (ki 0)) 28])
 (.seq (.reg [] [
   rq 11 (.load 24 (tp 1)) 24,rq 12 (cf 9 #[(tp 11)] #[24]) 29,rq 10 (.move (tp 12)) 29,rq 13 (.extract (tp 10) 0) 4,rq 14 (.extract (tp 10) 1) 28,rq 4 (.assign (tp 13)) 4,rq 5 (.assign (tp 14)) 28])
 (.seq (.block 0 (.seq (.reg [] [
    rq 16 (.move (tp 5)) 28,
    rq 17 (.binOp .neq 28 (tp 16) (ki 0) 28) 4,
    rq 15 (.assign (tp 17)) 4])
  (.cond (tp 15) (.seq (.reg [] [
     rq 18 (.move (tp 5)) 28,
     rq 2 (.assign (.const (.slice none 0 0))) 32,
     rq 3 (.assign (tp 18)) 28])
   (.ret))
  (.seq (.reg [] [
     rq 20 (.move (tp 4)) 4,
     rq 21 (.unOp .not 4 (tp 20)) 4,
     rq 19 (.assign (tp 21)) 4])
   (.cond (tp 19) (.seq (.reg [] [
      rq 2 (.assign (.const (.slice none 0 0))) 32,
      rq 3 (.assign (ki 12)) 28])
    (.ret))
   (.skip))))))
 (.seq (.reg [] [
   rq 6 (.assign (.const (.slice none 0 0))) 32])
 (.seq (.reg [] [
   rq 22 (.fieldAddr 24 (tp 1) 0) 0,rq 23 (.load 3 (tp 22)) 3,rq 24 (cf 51 #[(tp 23)] #[3]) 73,rq 7 (.alloc 73) 0,rn (.store 73 (tp 7) (tp 24)) 0])
 (.seq (.seq (.reg [] [
   rq 25 (.fieldAddr 24 (tp 1) 1) 0,rq 26 (.load 22 (tp 25)) 22,rq 27 (cb .len #[(tp 26)] #[22]) 3,rq 28 (.move (ki 0)) 3])
 (.block 1 (.loop (.seq (.reg [] [
     rq 29 (.binOp .lss 3 (tp 28) (tp 27) 3) 0])
   (.seq (.cond (tp 29) (.skip)
   (.exit 1))
   (.seq (.block 2 (.seq (.reg [] [
      rq 30 (.move (tp 28)) 3,
      rq 31 (.indexAddr 22 (tp 26) (tp 28)) 0,
      rq 32 (.load 50 (tp 31)) 50,
      rq 9 (.alloc 50) 0,
      rq 8 (.assign (tp 30)) 3,
      rn (.store 50 (tp 9) (tp 32)) 0])
    (.seq (.seq (.reg [0, 1, 2, 3, 4, 5, 7, 8, 6, 9, 10] [
      rq 33 (.load 73 (tp 7)) 73,
      rq 34 (.fieldAddr 24 (tp 1) 1) 0,
      rq 35 (.load 22 (tp 34)) 22,
      rq 36 (.move (tp 8)) 3,
      rq 37 (.binOp .add 3 (tp 36) (ki 1) 3) 3,
      rq 38 (.slice 22 (tp 35) (some (tp 37)) none none) 22,
      rq 40 (.fieldAddr 24 (tp 1) 0) 0,
      rq 41 (.load 3 (tp 40)) 3,
      ⟨(some 39), cf 53 #[(tp 33), (tp 38)] #[73, 22], 73, none, [(tp 40)]⟩,
      rq 42 (cf 39 #[(tp 39), (tp 41)] #[73, 3]) 3,
      rq 43 (.binOp .geq 3 (tp 42) (ki 0) 3) 4])
    (.cond (tp 43) (.reg [] [
       rq 44 (.move (tp 6)) 32,
       rq 45 (.move (tp 8)) 3,
       rq 46 (.buildSlice 32 1 #[(0, (tp 45))]) 32,
       rq 47 (cb .append #[(tp 44), (tp 46)] #[32, 32]) 32,
       rq 6 (.assign (tp 47)) 32])
    (.skip)))
    (.reg [] [
      rq 48 (.load 73 (tp 7)) 73,
      rq 49 (.load 50 (tp 9)) 50,
      rq 50 (cf 52 #[(tp 48), (tp 49)] #[73, 50]) 73,
      rn (.store 73 (tp 7) (tp 50)) 0]))))
   (.reg [] [
     rq 51 (.binOp .add 3 (tp 28) (ki 1) 3) 3,
     rq 28 (.move (tp 51)) 3])))))))
 (.seq (.reg [] [
   rq 52 (.move (tp 6)) 32,rq 2 (.assign (tp 52)) 32,rq 3 (.assign (ki 0)) 28])
 (.ret)))))))
def c21 : RC :=
  .seq (.reg [] [
   rq 1 (.box 24 (tp 0)) 0,rq 2 (.assign (.const (.slice none 0 0))) 36,rq 3 (.assign (ki 0)) 28])
 (.seq (.seq (.reg [] [
   rq 10 (.load 24 (tp 1)) 24,rq 11 (cf 50 #[(tp 10)] #[24]) 28,rq 4 (.assign (tp 11)) 28])
 (.seq (.reg [] [
   rq 12 (.move (tp 4)) 28,rq 13 (.binOp .neq 28 (tp 12) (ki 0) 28) 4])
 (.cond (tp 13) (.seq (.reg [] [
    rq 14 (.move (tp 4)) 28,
    rq 2 (.assign (.const (.slice none 0 0))) 36,
    rq 3 (.assign (tp 14)) 28])
  (.ret))
 (.skip))))
 (.seq (.reg [] [
   rq 5 (.assign (.const (.slice none 0 0))) 36])
 (.seq (.reg [] [
   rq 6 (.alloc 89) 0])
 (.seq (.seq (.reg [] [
   rq 15 (.fieldAddr 24 (tp 1) 1) 0,rq 16 (.load 22 (tp 15)) 22,rq 17 (cb .len #[(tp 16)] #[22]) 3,rq 18 (.move (ki 0)) 3])
 (.block 0 (.loop (.seq (.reg [] [
     rq 19 (.binOp .lss 3 (tp 18) (tp 17) 3) 0])
   (.seq (.cond (tp 19) (.skip)
   (.exit 0))
   (.seq (.block 1 (.seq (.reg [] [
      rq 20 (.move (tp 18)) 3,
      rq 21 (.indexAddr 22 (tp 16) (tp 18)) 0,
      rq 22 (.load 50 (tp 21)) 50,
      rq 8 (.alloc 50) 0,
      rq 7 (.assign (tp 20)) 3,
      rn (.store 50 (tp 8) (tp 22)) 0])
    (.seq (.reg [0, 1, 2, 3, 4, 5, 6, 7, 8, 9] [
      rq 23 (.indexAddr 50 (tp 8) (ki 0)) 0,
      rq 24 (.load 3 (tp 23)) 3,
      rq 25 (.indexAddr 89 (tp 6) (tp 24)) 0,
      rq 26 (.load 3 (tp 25)) 3,
      rq 27 (.indexAddr 50 (tp 8) (ki 1)) 0,
      rq 28 (.load 3 (tp 27)) 3,
      rq 29 (.indexAddr 89 (tp 6) (tp 28)) 0,
      rq 30 (.load 3 (tp 29)) 3,
      rq 31 (cb .max #[(tp 26), (tp 30)] #[3, 3]) 3,
      rq 9 (.assign (tp 31)) 3])
    (.seq (.seq (.reg [] [
      rq 32 (.move (tp 9)) 3,
      rq 33 (.move (tp 5)) 36,
      rq 34 (cb .len #[(tp 33)] #[36]) 3,
      rq 35 (.binOp .eql 3 (tp 32) (tp 34) 3) 4])
    (.cond (tp 35) (.reg [] [
       rq 36 (.move (tp 5)) 36,
       rq 37 (.buildSlice 36 1 #[(0, (.const (.slice none 0 0)))]) 36,
       rq 38 (cb .append #[(tp 36), (tp 37)] #[36, 36]) 36,
       rq 5 (.assign (tp 38)) 36])
    (.skip)))
    (.seq (.reg [] [
      rq 39 (.move (tp 5)) 36,
      rq 40 (.move (tp 9)) 3,
      rq 41 (.move (tp 5)) 36,
      rq 42 (.move (tp 9)) 3,
      rq 43 (.indexAddr 36 (tp 41) (tp 42)) 0,
      rq 44 (.load 32 (tp 43)) 32,
      rq 45 (.move (tp 7)) 3,
      rq 46 (.buildSlice 32 1 #[(0, (tp 45))]) 32,
      rq 47 (cb .append #[(tp 44), (tp 46)] #[32, 32]) 32,
      rq 48 (.indexAddr 36 (tp 39) (tp 40)) 0,
      rn (.store 32 (tp 48) (tp 47)) 0])
    (.reg [0, 1, 2, 3, 4, 5, 6, 7, 8, 9, 10, 11] [
      rq 49 (.indexAddr 50 (tp 8) (ki 0)) 0,
      rq 50 (.load 3 (tp 49)) 3,
      rq 51 (.indexAddr 50 (tp 8) (ki 1)) 0,
      rq 52 (.load 3 (tp 51)) 3,
      rq 53 (.move (tp 9)) 3,
      rq 54 (.binOp .add 3 (tp 53) (ki 1) 3) 3,
      rq 55 (.move (tp 9)) 3,
      rq 56 (.binOp .add 3 (tp 55) (ki 1) 3) 3,
      rq 57 (.indexAddr 89 (tp 6) (tp 50)) 0,
      ⟨none, .store 3 (tp 57) (tp 54), 0, none, [(tp 51)]⟩,
      rq 58 (.indexAddr 89 (tp 6) (tp 52)) 0,
      rn (.store 3 (tp 58) (tp 56)) 0]))))))
   (.reg [] [
     rq 59 (.binOp .add 3 (tp 18) (ki 1) 3) 3,
     rq 18 (.move (tp 59)) 3])))))))
 (.seq (.reg [] [
   rq 60 (.move (tp 5)) 36,rq 2 (.assign (tp 60)) 36,rq 3 (.assign (ki 0)) 28])
 (.ret))))))
def c23 : RC := c23_53
def c24 : RC := c24_34
def c25 : RC :=
  .seq (.reg [] [
   rq 2 (.assign (.const (.slice none 0 0))) 32])
 (.seq (.seq (.reg [] [
   rq 3 (.move (tp 0)) 32,rq 4 (.binOp .eql 32 (tp 3) (.const (.slice none 0 0)) 32) 4])
 (.cond (tp 4) (.seq (.reg [] [
    rq 2 (.assign (.const (.slice none 0 0))) 32])
  (.ret))
 (.skip)))
 (.seq (.reg [] [
   rq 5 (.buildSlice 32 0 #[]) 32,rq 6 (.move (tp 0)) 32,rq 7 (cb .append #[(tp 5), (tp 6)] #[32, 32]) 32,rq 2 (.assign (tp 7)) 32])
 (.ret)))
def c26 : RC :=
  .seq (.reg [] [
   rq 3 (.move (tp 0)) 32,rq 4 (cb .len #[(tp 3)] #[32]) 3,rq 2 (.assign (tp 4)) 3])
 (.reg [] [
   rq 5 (.move (tp 0)) 32,rq 6 (.move (tp 2)) 3,rq 7 (.move (tp 2)) 3,rq 8 (.convert 3 54 (tp 7)) 54,rq 9 (cf 55 #[(tp 8)] #[54]) 3,rq 10 (cf 54 #[(tp 5), (ki 0), (tp 6), (tp 9)] #[32, 3, 3, 3]) 0])
def c27 : RC :=
  .seq (.reg [] [
   rq 2 (.assign (.const (.slice none 0 0))) 22])
 (.seq (.seq (.reg [] [
   rq 3 (.move (tp 0)) 22,rq 4 (.binOp .eql 22 (tp 3) (.const (.slice none 0 0)) 22) 4])
 (.cond (tp 4) (.seq (.reg [] [
    rq 2 (.assign (.const (.slice none 0 0))) 22])
  (.ret))
 (.skip)))
 (.seq (.reg [] [
   rq 5 (.buildSlice 22 0 #[]) 22,rq 6 (.move (tp 0)) 22,rq 7 (cb .append #[(tp 5), (tp 6)] #[22, 22]) 22,rq 2 (.assign (tp 7)) 22])
 (.ret)))
def c28 : RC :=
  .seq (.reg [] [
   rq 0 (.alloc 24) 0])
 (.seq (.reg [] [
   rq 1 (.buildSlice 32 6 #[(0, (ki 0)), (1, (ki 1)), (2, (ki 1)), (3, (ki 2)), (4, (ki 0)), (5, (ki 1))]) 32,rq 2 (cf 34 #[(ki 3), (tp 1)] #[3, 32]) 24,rn (.store 24 (tp 0) (tp 2)) 0])
 (.ret))
def c29 : RC :=
  .seq (.reg [] [
   rq 2 (.assign (.const (.slice none 0 0))) 32])
 (.seq (.reg [] [
   rq 3 (.move (tp 0)) 32,rq 2 (.assign (tp 3)) 32])
 (.ret))
def c30 : RC :=
  .seq (.reg [] [
   rq 0 (.alloc 24) 0])
 (.seq (.reg [] [
   rq 1 (.buildSlice 32 8 #[(0, (ki 0)), (1, (ki 1)), (2, (ki 2)), (3, (ki 3)), (4, (ki 0)), (5, (ki 2)), (6, (ki 1)), (7, (ki 3))]) 32,rq 2 (cf 34 #[(ki 4), (tp 1)] #[3, 32]) 24,rn (.store 24 (tp 0) (tp 2)) 0])
 (.ret))
def c31 : RC :=
  .seq (.reg [] [
   rq 2 (.box 24 (tp 0)) 0,rq 4 (.assign (ki 0)) 3,rq 5 (.assign (ki 0)) 3,rq 6 (.assign (ki 0)) 28])
 (.seq (.reg [] [
   rq 11 (.load 24 (tp 2)) 24,rq 12 (cf 38 #[(tp 11)] #[24]) 74,rq 10 (.move (tp 12)) 74,rq 13 (.extract (tp 10) 0) 73,rq 14 (.extract (tp 10) 1) 28,rq 7 (.alloc 73) 0,rn (.store 73 (tp 7) (tp 13)) 0,rq 6 (.assign (tp 14)) 28])
 (.seq (.block 0 (.seq (.reg [] [
    rq 16 (.move (tp 6)) 28,
    rq 17 (.binOp .neq 28 (tp 16) (ki 0) 28) 4,
    rq 15 (.assign (tp 17)) 4])
  (.cond (tp 15) (.seq (.reg [] [
     rq 18 (.move (tp 6)) 28,
     rq 4 (.assign (ki 0)) 3,
     rq 5 (.assign (ki 0)) 3,
     rq 6 (.assign (tp 18)) 28])
   (.ret))
  (.seq (.reg [] [
     rq 20 (.move (tp 1)) 3,
     rq 21 (.fieldAddr 24 (tp 2) 0) 0,
     rq 22 (.load 3 (tp 21)) 3,
     rq 23 (.binOp .sub 3 (tp 22) (ki 1) 3) 3,
     rq 24 (cf 56 #[(ki 0), (tp 20), (tp 23)] #[3, 3, 3]) 4,
     rq 25 (.unOp .not 4 (tp 24)) 4,
     rq 19 (.assign (tp 25)) 4])
   (.cond (tp 19) (.seq (.reg [] [
      rq 4 (.assign (ki 0)) 3,
      rq 5 (.assign (ki 0)) 3,
      rq 6 (.assign (ki 2)) 28])
    (.ret))
   (.skip))))))
 (.seq (.reg [] [
   rq 26 (.fieldAddr 24 (tp 2) 0) 0,rq 27 (.load 3 (tp 26)) 3,rq 4 (.assign (tp 27)) 3])
 (.seq (.seq (.reg [] [
   rq 28 (.fieldAddr 24 (tp 2) 0) 0,rq 29 (.load 3 (tp 28)) 3,rq 30 (.binOp .shl 3 (ki 1) (tp 29) 3) 3,rq 31 (.move (ki 0)) 3])
 (.block 1 (.loop (.seq (.reg [] [
     rq 32 (.binOp .lss 3 (tp 31) (tp 30) 3) 4])
   (.seq (.cond (tp 32) (.skip)
   (.exit 1))
   (.seq (.block 2 (.seq (.reg [] [
      rq 33 (.move (tp 31)) 3,
      rq 8 (.assign (tp 33)) 3])
    (.seq (.reg [0, 1, 2, 3, 4, 5, 6] [
      rq 34 (.fieldAddr 24 (tp 2) 0) 0,
      rq 35 (.load 3 (tp 34)) 3,
      rq 36 (.move (tp 8)) 3,
      rq 37 (.convert 3 54 (tp 36)) 54,
      ⟨(some 38), cf 57 #[(tp 37)] #[54], 3, none, [(tp 34)]⟩,
      rq 39 (.binOp .sub 3 (tp 35) (tp 38) 3) 3,
      rq 9 (.assign (tp 39)) 3])
    (.seq (.reg [] [
      rq 40 (.move (tp 1)) 3,
      rq 41 (.move (tp 8)) 3,
      rq 42 (.binOp .quo 3 (tp 41) (ki 64) 3) 3,
      rq 43 (.indexAddr 73 (tp 7) (tp 40)) 0,
      rq 44 (.indexAddr 71 (tp 43) (tp 42)) 0,
      rq 45 (.load 70 (tp 44)) 70,
      rq 46 (.move (tp 8)) 3,
      rq 47 (.binOp .rem 3 (tp 46) (ki 64) 3) 3,
      rq 48 (.binOp .shr 70 (tp 45) (tp 47) 3) 70,
      rq 49 (.binOp .and 70 (tp 48) (.const (.int .u64 1)) 70) 70,
      rq 50 (.binOp .eql 70 (tp 49) (.const (.int .u64 0)) 70) 4])
    (.cond (tp 50) (.reg [] [
       rq 51 (.move (tp 4)) 3,
       rq 52 (.move (tp 9)) 3,
       rq 53 (.binOp .sub 3 (tp 52) (ki 1) 3) 3,
       rq 54 (cb .min #[(tp 51), (tp 53)] #[3, 3]) 3,
       rq 4 (.assign (tp 54)) 3])
    (.reg [] [
       rq 55 (.move (tp 5)) 3,
       rq 56 (.move (tp 9)) 3,
       rq 57 (cb .max #[(tp 55), (tp 56)] #[3, 3]) 3,
       rq 5 (.assign (tp 57)) 3]))))))
   (.reg [] [
     rq 58 (.binOp .add 3 (tp 31) (ki 1) 3) 3,
     rq 31 (.move (tp 58)) 3])))))))
 (.seq (.reg [] [
   rq 59 (.move (tp 4)) 3,rq 60 (.move (tp 5)) 3,rq 4 (.assign (tp 59)) 3,rq 5 (.assign (tp 60)) 3,rq 6 (.assign (ki 0)) 28])
 (.ret))))))
def c32 : RC :=
  .seq (.reg [] [
   rq 2 (.box 24 (tp 0)) 0,rq 4 (.assign (kb false)) 4,rq 5 (.assign (ki 0)) 28])
 (.seq (.reg [] [
   rq 12 (.load 24 (tp 2)) 24,rq 13 (cf 50 #[(tp 12)] #[24]) 28,rq 6 (.assign (tp 13)) 28])
 (.seq (.block 0 (.seq (.reg [] [
    rq 15 (.move (tp 6)) 28,
    rq 16 (.binOp .neq 28 (tp 15) (ki 0) 28) 4,
    rq 14 (.assign (tp 16)) 4])
  (.cond (tp 14) (.seq (.reg [] [
     rq 17 (.move (tp 6)) 28,
     rq 4 (.assign (kb false)) 4,
     rq 5 (.assign (tp 17)) 28])
   (.ret))
  (.seq (.reg [] [
     rq 19 (.move (tp 1)) 3,
     rq 20 (.fieldAddr 24 (tp 2) 0) 0,
     rq 21 (.load 3 (tp 20)) 3,
     rq 22 (cf 56 #[(ki 0), (tp 19), (tp 21)] #[3, 3, 3]) 4,
     rq 23 (.unOp .not 4 (tp 22)) 4,
     rq 18 (.assign (tp 23)) 4])
   (.cond (tp 18) (.seq (.reg [] [
      rq 4 (.assign (kb false)) 4,
      rq 5 (.assign (ki 1)) 28])
    (.ret))
   (.skip))))))
 (.seq (.seq (.reg [] [
   rq 24 (.move (tp 1)) 3,rq 25 (.binOp .add 3 (tp 24) (ki 1) 3) 3,rq 26 (.move (ki 0)) 3])
 (.block 1 (.loop (.seq (.reg [] [
     rq 27 (.binOp .lss 3 (tp 26) (tp 25) 3) 4])
   (.seq (.cond (tp 27) (.skip)
   (.exit 1))
   (.seq (.block 2 (.seq (.reg [] [
      rq 28 (.move (tp 26)) 3,
      rq 7 (.assign (tp 28)) 3])
    (.seq (.reg [] [
      rq 29 (.fieldAddr 24 (tp 2) 0) 0,
      rq 30 (.load 3 (tp 29)) 3,
      rq 31 (.move (tp 1)) 3,
      rq 32 (.binOp .sub 3 (tp 30) (tp 31) 3) 3,
      rq 33 (.binOp .add 3 (tp 32) (ki 1) 3) 3,
      rq 34 (.move (ki 0)) 3])
    (.block 3 (.loop (.seq (.reg [] [
        rq 35 (.binOp .lss 3 (tp 34) (tp 33) 3) 4])
      (.seq (.cond (tp 35) (.skip)
      (.exit 3))
      (.seq (.block 4 (.seq (.reg [] [
         rq 36 (.move (tp 34)) 3,
         rq 8 (.assign (tp 36)) 3])
       (.seq (.reg [0, 1, 2, 3, 4, 5, 6, 7, 8, 9, 10, 11, 12] [
         rq 37 (.move (tp 7)) 3,
         rq 38 (.binOp .shl 3 (ki 1) (tp 37) 3) 3,
         rq 39 (.binOp .sub 3 (tp 38) (ki 1) 3) 3,
         rq 40 (.fieldAddr 24 (tp 2) 0) 0,
         rq 41 (.load 3 (tp 40)) 3,
         rq 42 (.move (tp 1)) 3,
         rq 43 (.binOp .sub 3 (tp 41) (tp 42) 3) 3,
         rq 44 (.binOp .shl 3 (tp 39) (tp 43) 3) 3,
         rq 45 (.move (tp 8)) 3,
         rq 46 (.binOp .shl 3 (ki 1) (tp 45) 3) 3,
         rq 47 (.binOp .sub 3 (tp 46) (ki 1) 3) 3,
         rq 48 (.binOp .or 3 (tp 44) (tp 47) 3) 3,
         rq 9 (.assign (tp 48)) 3])
       (.seq (.reg [0, 1, 2, 3, 4, 5, 6, 7, 8, 9, 10] [
         rq 50 (.load 24 (tp 2)) 24,
         rq 51 (.fieldAddr 24 (tp 2) 0) 0,
         rq 52 (.load 3 (tp 51)) 3,
         rq 53 (.move (tp 9)) 3,
         ⟨(some 54), cf 43 #[(tp 52), (tp 53)] #[3, 3], 32, none, [(tp 2)]⟩,
         rq 55 (cf 24 #[(tp 50), (tp 54)] #[24, 32]) 33,
         rq 49 (.move (tp 55)) 33,
         rq 56 (.extract (tp 49) 0) 32,
         rq 57 (.extract (tp 49) 1) 28,
         rq 10 (.assign (tp 56)) 32,
         rq 11 (.assign (tp 57)) 28])
       (.seq (.reg [] [
         rq 58 (.move (tp 10)) 32,
         rq 59 (cf 58 #[(tp 58)] #[32]) 4,
         rq 60 (.unOp .not 4 (tp 59)) 4])
       (.cond (tp 60) (.seq (.reg [] [
          rq 4 (.assign (kb false)) 4,
          rq 5 (.assign (ki 0)) 28])
        (.ret))
       (.skip)))))))
      (.reg [] [
        rq 61 (.binOp .add 3 (tp 34) (ki 1) 3) 3,
        rq 34 (.move (tp 61)) 3])))))))))
   (.reg [] [
     rq 62 (.binOp .add 3 (tp 26) (ki 1) 3) 3,
     rq 26 (.move (tp 62)) 3])))))))
 (.seq (.reg [] [
   rq 4 (.assign (kb true)) 4,rq 5 (.assign (ki 0)) 28])
 (.ret)))))
def c33 : RC :=
  .seq (.reg [] [
   rq 1 (.box 24 (tp 0)) 0,rq 2 (.assign (.const (.slice none 0 0))) 22,rq 3 (.assign (ki 0)) 28])
 (.seq (.reg [] [
   rq 13 (.load 24 (tp 1)) 24,rq 14 (cf 38 #[(tp 13)] #[24]) 74,rq 12 (.move (tp 14)) 74,rq 15 (.extract (tp 12) 0) 73,rq 16 (.extract (tp 12) 1) 28,rq 4 (.alloc 73) 0,rn (.store 73 (tp 4) (tp 15)) 0,rq 5 (.assign (tp 16)) 28])
 (.seq (.block 0 (.seq (.reg [] [
    rq 18 (.move (tp 5)) 28,
    rq 19 (.binOp .neq 28 (tp 18) (ki 0) 28) 4,
    rq 17 (.assign (tp 19)) 4])
  (.cond (tp 17) (.seq (.reg [] [
     rq 20 (.move (tp 5)) 28,
     rq 2 (.assign (.const (.slice none 0 0))) 22,
     rq 3 (.assign (tp 20)) 28])
   (.ret))
  (.seq (.reg [] [
     rq 22 (.fieldAddr 24 (tp 1) 0) 0,
     rq 23 (.load 3 (tp 22)) 3,
     rq 24 (.binOp .gtr 3 (tp 23) (ki 4) 3) 4,
     rq 21 (.assign (tp 24)) 4])
   (.cond (tp 21) (.seq (.reg [] [
      rq 2 (.assign (.const (.slice none 0 0))) 22,
      rq 3 (.assign (ki 3)) 28])
    (.ret))
   (.skip))))))
 (.seq (.reg [] [
   rq 25 (.makeMap 93 none) 93,rq 26 (.load 73 (tp 4)) 73,rn (.insert 93 (tp 25) (tp 26) (kb true)) 0,rq 27 (.move (tp 25)) 93,rq 6 (.assign (tp 27)) 93])
 (.seq (.reg [] [
   rq 28 (.load 73 (tp 4)) 73,rq 29 (.build 95 #[(0, (tp 28))]) 95,rq 30 (.buildSlice 96 1 #[(0, (tp 29))]) 96,rq 7 (.assign (tp 30)) 96])
 (.block 1 (.loop (.seq (.block 2 (.seq (.reg [] [
      rq 33 (.move (tp 7)) 96,
      rq 34 (.indexAddr 96 (tp 33) (ki 0)) 0,
      rq 35 (.load 95 (tp 34)) 95,
      rq 8 (.alloc 95) 0,
      rn (.store 95 (tp 8) (tp 35)) 0])
    (.seq (.seq (.reg [] [
      rq 36 (.fieldAddr 95 (tp 8) 0) 0,
      rq 37 (.load 73 (tp 36)) 73,
      rq 38 (.fieldAddr 24 (tp 1) 0) 0,
      rq 39 (.load 3 (tp 38)) 3,
      rq 40 (cf 39 #[(tp 37), (tp 39)] #[73, 3]) 3,
      rq 41 (.binOp .lss 3 (tp 40) (ki 0) 3) 4])
    (.cond (tp 41) (.seq (.reg [] [
       rq 42 (.fieldAddr 95 (tp 8) 1) 0,
       rq 43 (.load 22 (tp 42)) 22,
       rq 2 (.assign (tp 43)) 22,
       rq 3 (.assign (ki 0)) 28])
     (.ret))
    (.skip)))
    (.seq (.reg [] [
      rq 44 (.fieldAddr 24 (tp 1) 0) 0,
      rq 45 (.load 3 (tp 44)) 3,
      rq 46 (.move (ki 0)) 3])
    (.block 3 (.loop (.seq (.reg [] [
        rq 47 (.binOp .lss 3 (tp 46) (tp 45) 3) 4])
      (.seq (.cond (tp 47) (.skip)
      (.exit 3))
      (.seq (.block 4 (.seq (.reg [] [
         rq 48 (.move (tp 46)) 3,
         rq 9 (.assign (tp 48)) 3])
       (.seq (.reg [] [
         rq 49 (.move (tp 9)) 3,
         rq 50 (.binOp .add 3 (tp 49) (ki 1) 3) 3,
         rq 10 (.assign (tp 50)) 3])
       (.block 5 (.loop (.seq (.seq (.reg [] [
           rq 51 (.move (tp 10)) 3,
           rq 52 (.fieldAddr 24 (tp 1) 0) 0,
           rq 53 (.load 3 (tp 52)) 3,
           rq 54 (.binOp .lss 3 (tp 51) (tp 53) 3) 4])
         (.cond (tp 54) (.skip)
         (.exit 5)))
         (.seq (.block 6 (.seq (.reg [] [
            rq 57 (.fieldAddr 95 (tp 8) 0) 0,
            rq 58 (.load 73 (tp 57)) 73,
            rq 59 (.move (tp 9)) 3,
            rq 60 (.move (tp 10)) 3,
            rq 61 (.build 50 #[(0, (tp 59)), (1, (tp 60))]) 50,
            rq 62 (cf 52 #[(tp 58), (tp 61)] #[73, 50]) 73,
            rq 11 (.alloc 73) 0,
            rn (.store 73 (tp 11) (tp 62)) 0])
          (.seq (.reg [] [
            rq 63 (.move (tp 6)) 93,
            rq 64 (.load 73 (tp 11)) 73,
            rq 65 (.lookup 93 (tp 63) (tp 64) false) 4,
            rq 66 (.unOp .not 4 (tp 65)) 4])
          (.cond (tp 66) (.seq (.reg [] [
             rq 67 (.move (tp 6)) 93,
             rq 68 (.load 73 (tp 11)) 73,
             rn (.mapUpdate 93 (tp 67) (tp 68) (kb true)) 0])
           (.reg [0, 1, 2, 3, 5, 6, 7, 8, 4, 9, 10, 11, 12, 13] [
             rq 69 (.move (tp 7)) 96,
             rq 70 (.load 73 (tp 11)) 73,
             rq 71 (.fieldAddr 95 (tp 8) 1) 0,
             rq 72 (.load 22 (tp 71)) 22,
             rq 74 (.move (tp 9)) 3,
             rq 75 (.move (tp 10)) 3,
             rq 76 (.build 50 #[(0, (tp 74)), (1, (tp 75))]) 50,
             rq 77 (.buildSlice 22 1 #[(0, (tp 76))]) 22,
             ⟨(some 73), cf 59 #[(tp 72)] #[22], 22, none, [(tp 11)]⟩,
             ⟨(some 78), cb .append #[(tp 73), (tp 77)] #[22, 22], 22, none, [(tp 11)]⟩,
             rq 79 (.build 95 #[(0, (tp 70)), (1, (tp 78))]) 95,
             rq 80 (.buildSlice 96 1 #[(0, (tp 79))]) 96,
             rq 81 (cb .append #[(tp 69), (tp 80)] #[96, 96]) 96,
             rq 7 (.assign (tp 81)) 96]))
          (.skip)))))
         (.reg [] [
           rq 55 (.move (tp 10)) 3,
           rq 56 (.binOp .add 3 (tp 55) (ki 1) 3) 3,
           rq 10 (.assign (tp 56)) 3]))))))))
      (.reg [] [
        rq 82 (.binOp .add 3 (tp 46) (ki 1) 3) 3,
        rq 46 (.move (tp 82)) 3]))))))))))
   (.reg [] [
     rq 31 (.move (tp 7)) 96,
     rq 32 (.slice 96 (tp 31) (some (ki 1)) none none) 96,
     rq 7 (.assign (tp 32)) 96]))))))))
def c34 : RC :=
  .seq (.reg [] [
   rq 4 (.alloc 24) 0])
 (.seq (.reg [] [
   rq 7 (.move (tp 0)) 3,rq 8 (.build 24 #[(0, (tp 7))]) 24,rq 5 (.alloc 24) 0,rn (.store 24 (tp 5) (tp 8)) 0])
 (.seq (.seq (.reg [] [
   rq 6 (.assign (ki 0)) 3])
 (.block 0 (.loop (.seq (.seq (.reg [] [
     rq 9 (.move (tp 6)) 3,
     rq 10 (.binOp .add 3 (tp 9) (ki 1) 3) 3,
     rq 11 (.move (tp 1)) 32,
     rq 12 (cb .len #[(tp 11)] #[32]) 3,
     rq 13 (.binOp .lss 3 (tp 10) (tp 12) 3) 4])
   (.cond (tp 13) (.skip)
   (.exit 0)))
   (.seq (.block 1 (.reg [0, 1, 2, 3, 4, 5, 6, 7, 8, 9, 10, 11, 12, 13, 14, 15] [
      rq 16 (.fieldAddr 24 (tp 5) 1) 0,
      rq 17 (.load 22 (tp 16)) 22,
      rq 18 (.move (tp 1)) 32,
      rq 19 (.move (tp 6)) 3,
      rq 20 (.indexAddr 32 (tp 18) (tp 19)) 0,
      rq 21 (.load 3 (tp 20)) 3,
      rq 22 (.move (tp 1)) 32,
      rq 23 (.move (tp 6)) 3,
      rq 24 (.binOp .add 3 (tp 23) (ki 1) 3) 3,
      rq 25 (.indexAddr 32 (tp 22) (tp 24)) 0,
      rq 26 (.load 3 (tp 25)) 3,
      rq 27 (.build 50 #[(0, (tp 21)), (1, (tp 26))]) 50,
      rq 28 (.buildSlice 22 1 #[(0, (tp 27))]) 22,
      rq 29 (cb .append #[(tp 17), (tp 28)] #[22, 22]) 22,
      rq 30 (.fieldAddr 24 (tp 5) 1) 0,
      rn (.store 22 (tp 30) (tp 29)) 0]))
   (.reg [] [
     rq 14 (.move (tp 6)) 3,
     rq 15 (.binOp .add 3 (tp 14) (ki 2) 3) 3,
     rq 6 (.assign (tp 15)) 3]))))))
 (.seq (.reg [] [
   rq 31 (.load 24 (tp 5)) 24,rn (.store 24 (tp 4) (tp 31)) 0])
 (.ret))))
def c35 : RC :=
  .seq (.reg [] [
   rq 2 (.assign (.const (.slice none 0 0))) 36])
 (.seq (.reg [] [
   rq 3 (.move (tp 0)) 36,rq 2 (.assign (tp 3)) 36])
 (.ret))
def c36 : RC :=
  .seq (.reg [] [
   rq 4 (.assign (kb false)) 4])
 (.seq (.seq (.reg [] [
   rq 6 (.move (tp 0)) 22,rq 7 (cb .len #[(tp 6)] #[22]) 3,rq 8 (.move (tp 1)) 22,rq 9 (cb .len #[(tp 8)] #[22]) 3,rq 10 (.binOp .neq 3 (tp 7) (tp 9) 3) 4])
 (.cond (tp 10) (.seq (.reg [] [
    rq 4 (.assign (kb false)) 4])
  (.ret))
 (.skip)))
 (.seq (.seq (.reg [] [
   rq 5 (.assign (ki 0)) 3])
 (.block 0 (.loop (.seq (.seq (.reg [] [
     rq 11 (.move (tp 5)) 3,
     rq 12 (.move (tp 0)) 22,
     rq 13 (cb .len #[(tp 12)] #[22]) 3,
     rq 14 (.binOp .lss 3 (tp 11) (tp 13) 3) 4])
   (.cond (tp 14) (.skip)
   (.exit 0)))
   (.seq (.block 1 (.seq (.reg [0, 1, 2, 3, 4, 5, 6, 7, 8] [
      rq 17 (.move (tp 0)) 22,
      rq 18 (.move (tp 5)) 3,
      rq 19 (.indexAddr 22 (tp 17) (tp 18)) 0,
      rq 20 (.load 50 (tp 19)) 50,
      rq 21 (.move (tp 1)) 22,
      rq 22 (.move (tp 5)) 3,
      rq 23 (.indexAddr 22 (tp 21) (tp 22)) 0,
      rq 24 (.load 50 (tp 23)) 50,
      rq 25 (.binOp .neq 50 (tp 20) (tp 24) 50) 4])
    (.cond (tp 25) (.seq (.reg [] [
       rq 4 (.assign (kb false)) 4])
     (.ret))
    (.skip))))
   (.reg [] [
     rq 15 (.move (tp 5)) 3,
     rq 16 (.binOp .add 3 (tp 15) (ki 1) 3) 3,
     rq 5 (.assign (tp 16)) 3]))))))
 (.seq (.reg [] [
   rq 4 (.assign (kb true)) 4])
 (.ret))))
def c37 : RC :=
  .seq (.reg [] [
   rq 2 (.box 24 (tp 0)) 0,rq 4 (.assign (ki 0)) 28])
 (.seq (.reg [] [
   rq 8 (.load 24 (tp 2)) 24,rq 9 (.move (tp 1)) 32,rq 10 (cf 24 #[(tp 8), (tp 9)] #[24, 32]) 33,rq 7 (.move (tp 10)) 33,rq 11 (.extract (tp 7) 0) 32,rq 12 (.extract (tp 7) 1) 28,rq 5 (.assign (tp 11)) 32,rq 6 (.assign (tp 12)) 28])
 (.seq (.seq (.reg [] [
   rq 13 (.move (tp 6)) 28,rq 14 (.binOp .eql 28 (tp 13) (ki 0) 28) 4,rq 15 (.move (tp 14)) 4,rg 16 (.move (tp 5)) 32 15 true,rg 17 (cf 58 #[(tp 16)] #[32]) 4 15 true,rq 18 (.pick (tp 15) (tp 17) (kb false)) 4])
 (.cond (tp 18) (.seq (.reg [] [
    rq 4 (.assign (ki 14)) 28])
  (.ret))
 (.skip)))
 (.seq (.reg [] [
   rq 19 (.move (tp 6)) 28,rq 4 (.assign (tp 19)) 28])
 (.ret))))
def c38 : RC := c38_11
def c39 : RC := c39_37
def c43 : RC :=
  .seq (.reg [] [
   rq 4 (.assign (.const (.slice none 0 0))) 32])
 (.seq (.reg [] [
   rq 7 (.move (tp 0)) 3,rq 8 (.makeSlice 32 (tp 7) (tp 7)) 32,rq 5 (.assign (tp 8)) 32])
 (.seq (.seq (.reg [] [
   rq 9 (.move (tp 5)) 32,rq 10 (cb .len #[(tp 9)] #[32]) 3,rq 11 (.move (ki 0)) 3])
 (.block 0 (.loop (.seq (.reg [] [
     rq 12 (.binOp .lss 3 (tp 11) (tp 10) 3) 0])
   (.seq (.cond (tp 12) (.skip)
   (.exit 0))
   (.seq (.block 1 (.seq (.reg [] [
      rq 13 (.move (tp 11)) 3,
      rq 6 (.assign (tp 13)) 3])
    (.reg [] [
      rq 14 (.move (tp 5)) 32,
      rq 15 (.move (tp 6)) 3,
      rq 16 (.move (tp 1)) 3,
      rq 17 (.move (tp 0)) 3,
      rq 18 (.binOp .sub 3 (tp 17) (ki 1) 3) 3,
      rq 19 (.move (tp 6)) 3,
      rq 20 (.binOp .sub 3 (tp 18) (tp 19) 3) 3,
      rq 21 (.binOp .shr 3 (tp 16) (tp 20) 3) 3,
      rq 22 (.binOp .and 3 (tp 21) (ki 1) 3) 3,
      rq 23 (.indexAddr 32 (tp 14) (tp 15)) 0,
      rn (.store 3 (tp 23) (tp 22)) 0])))
   (.reg [] [
     rq 24 (.binOp .add 3 (tp 11) (ki 1) 3) 3,
     rq 11 (.move (tp 24)) 3])))))))
 (.seq (.reg [] [
   rq 25 (.move (tp 5)) 32,rq 4 (.assign (tp 25)) 32])
 (.ret))))
def c47 : RC :=
  .seq (.reg [] [
   rq 2 (.box 73 (tp 0)) 0,rq 4 (.assign (.const (.slice none 0 0))) 32])
 (.seq (.reg [] [
   rq 8 (.move (tp 1)) 3,rq 9 (.binOp .shl 3 (ki 1) (tp 8) 3) 3,rq 10 (.makeSlice 32 (tp 9) (tp 9)) 32,rq 5 (.assign (tp 10)) 32])
 (.seq (.seq (.reg [] [
   rq 11 (.move (tp 5)) 32,rq 12 (cb .len #[(tp 11)] #[32]) 3,rq 13 (.move (ki 0)) 3])
 (.block 0 (.loop (.seq (.reg [] [
     rq 14 (.binOp .lss 3 (tp 13) (tp 12) 3) 0])
   (.seq (.cond (tp 14) (.skip)
   (.exit 0))
   (.seq (.block 1 (.seq (.reg [] [
      rq 15 (.move (tp 13)) 3,
      rq 6 (.assign (tp 15)) 3])
    (.seq (.reg [] [
      rq 16 (.move (tp 1)) 3,
      rq 17 (.move (ki 0)) 3])
    (.block 2 (.loop (.seq (.reg [] [
        rq 18 (.binOp .lss 3 (tp 17) (tp 16) 3) 4])
      (.seq (.cond (tp 18) (.skip)
      (.exit 2))
      (.seq (.block 3 (.seq (.reg [] [
         rq 19 (.move (tp 17)) 3,
         rq 7 (.assign (tp 19)) 3])
       (.reg [0, 1, 2, 3, 4, 5, 6, 7, 8, 9, 10, 11, 12, 13, 14, 15, 16, 17, 18, 19, 20] [
         rq 20 (.move (tp 5)) 32,
         rq 21 (.move (tp 6)) 3,
         rq 22 (.move (tp 5)) 32,
         rq 23 (.move (tp 6)) 3,
         rq 24 (.indexAddr 32 (tp 22) (tp 23)) 0,
         rq 25 (.load 3 (tp 24)) 3,
         rq 26 (.binOp .shl 3 (tp 25) (.const (.int .u64 1)) 54) 3,
         rq 27 (.move (tp 7)) 3,
         rq 28 (.move (tp 6)) 3,
         rq 29 (.binOp .quo 3 (tp 28) (ki 64) 3) 3,
         rq 30 (.indexAddr 73 (tp 2) (tp 27)) 0,
         rq 31 (.indexAddr 71 (tp 30) (tp 29)) 0,
         rq 32 (.load 70 (tp 31)) 70,
         rq 33 (.move (tp 6)) 3,
         rq 34 (.binOp .rem 3 (tp 33) (ki 64) 3) 3,
         rq 35 (.binOp .shr 70 (tp 32) (tp 34) 3) 70,
         rq 36 (.binOp .and 70 (tp 35) (.const (.int .u64 1)) 70) 70,
         rq 37 (.convert 70 3 (tp 36)) 3,
         rq 38 (.binOp .or 3 (tp 26) (tp 37) 3) 3,
         rq 39 (.indexAddr 32 (tp 20) (tp 21)) 0,
         rn (.store 3 (tp 39) (tp 38)) 0])))
      (.reg [] [
        rq 40 (.binOp .add 3 (tp 17) (ki 1) 3) 3,
        rq 17 (.move (tp 40)) 3])))))))))
   (.reg [] [
     rq 41 (.binOp .add 3 (tp 13) (ki 1) 3) 3,
     rq 13 (.move (tp 41)) 3])))))))
 (.seq (.reg [] [
   rq 42 (.move (tp 5)) 32,rq 4 (.assign (tp 42)) 32])
 (.ret))))
def c48 : RC :=
  .seq (.reg [] [
   rq 2 (.assign (.const (.slice none 0 0))) 32])
 (.seq (.seq (.reg [] [
   rq 6 (.move (tp 0)) 32,rq 7 (cb .len #[(tp 6)] #[32]) 3,rq 8 (.binOp .lss 3 (tp 7) (ki 2) 3) 4])
 (.cond (tp 8) (.seq (.reg [] [
    rq 9 (.move (tp 0)) 32,
    rq 2 (.assign (tp 9)) 32])
  (.ret))
 (.skip)))
 (.seq (.seq (.reg [] [
   rq 3 (.assign (ki 1)) 3])
 (.block 0 (.loop (.seq (.seq (.reg [] [
     rq 10 (.move (tp 3)) 3,
     rq 11 (.move (tp 0)) 32,
     rq 12 (cb .len #[(tp 11)] #[32]) 3,
     rq 13 (.binOp .lss 3 (tp 10) (tp 12) 3) 4])
   (.cond (tp 13) (.skip)
   (.exit 0)))
   (.seq (.block 1 (.seq (.reg [0, 1, 2, 3, 4, 5, 6, 7, 8, 9] [
      rq 16 (.move (tp 0)) 32,
      rq 17 (.move (tp 3)) 3,
      rq 18 (.indexAddr 32 (tp 16) (tp 17)) 0,
      rq 19 (.load 3 (tp 18)) 3,
      rq 20 (.move (tp 0)) 32,
      rq 21 (.move (tp 3)) 3,
      rq 22 (.binOp .sub 3 (tp 21) (ki 1) 3) 3,
      rq 23 (.indexAddr 32 (tp 20) (tp 22)) 0,
      rq 24 (.load 3 (tp 23)) 3,
      rq 25 (.binOp .eql 3 (tp 19) (tp 24) 3) 4])
    (.cond (tp 25) (.seq (.reg [] [
       rq 26 (.move (tp 0)) 32,
       rq 27 (.move (tp 3)) 3,
       rq 28 (.slice 32 (tp 26) (some (tp 27)) none none) 32,
       rq 4 (.assign (tp 28)) 32])
     (.seq (.seq (.reg [] [
       rq 5 (.assign (ki 1)) 3])
     (.block 2 (.loop (.seq (.seq (.reg [] [
         rq 29 (.move (tp 5)) 3,
         rq 30 (.move (tp 4)) 32,
         rq 31 (cb .len #[(tp 30)] #[32]) 3,
         rq 32 (.binOp .lss 3 (tp 29) (tp 31) 3) 4])
       (.cond (tp 32) (.skip)
       (.exit 2)))
       (.seq (.block 3 (.seq (.reg [0, 1, 2, 3, 4, 5, 6, 7, 8, 9] [
          rq 35 (.move (tp 4)) 32,
          rq 36 (.move (tp 5)) 3,
          rq 37 (.indexAddr 32 (tp 35) (tp 36)) 0,
          rq 38 (.load 3 (tp 37)) 3,
          rq 39 (.move (tp 4)) 32,
          rq 40 (.move (tp 5)) 3,
          rq 41 (.binOp .sub 3 (tp 40) (ki 1) 3) 3,
          rq 42 (.indexAddr 32 (tp 39) (tp 41)) 0,
          rq 43 (.load 3 (tp 42)) 3,
          rq 44 (.binOp .neq 3 (tp 38) (tp 43) 3) 4])
        (.cond (tp 44) (.seq (.reg [] [
           rq 45 (.move (tp 0)) 32,
           rq 46 (.move (tp 3)) 3,
           rq 47 (.move (tp 4)) 32,
           rq 48 (.move (tp 5)) 3,
           rq 49 (.indexAddr 32 (tp 47) (tp 48)) 0,
           rq 50 (.load 3 (tp 49)) 3,
           rq 51 (.indexAddr 32 (tp 45) (tp 46)) 0,
           rn (.store 3 (tp 51) (tp 50)) 0])
         (.reg [] [
           rq 52 (.move (tp 3)) 3,
           rq 53 (.binOp .add 3 (tp 52) (ki 1) 3) 3,
           rq 3 (.assign (tp 53)) 3]))
        (.skip))))
       (.reg [] [
         rq 33 (.move (tp 5)) 3,
         rq 34 (.binOp .add 3 (tp 33) (ki 1) 3) 3,
         rq 5 (.assign (tp 34)) 3]))))))
     (.seq (.reg [] [
       rq 54 (.move (tp 0)) 32,
       rq 55 (.move (tp 3)) 3,
       rq 56 (.slice 32 (tp 54) (some (tp 55)) none none) 32,
       rn (cb .clear #[(tp 56)] #[32]) 0])
     (.seq (.reg [] [
       rq 57 (.move (tp 0)) 32,
       rq 58 (.move (tp 3)) 3,
       rq 59 (.slice 32 (tp 57) none (some (tp 58)) none) 32,
       rq 2 (.assign (tp 59)) 32])
     (.ret)))))
    (.skip))))
   (.reg [] [
     rq 14 (.move (tp 3)) 3,
     rq 15 (.binOp .add 3 (tp 14) (ki 1) 3) 3,
     rq 3 (.assign (tp 15)) 3]))))))
 (.seq (.reg [] [
   rq 60 (.move (tp 0)) 32,rq 2 (.assign (tp 60)) 32])
 (.ret))))
def c50 : RC := c50_40
def c51 : RC := c51_33
def c52 : RC := c52_20
def c53 : RC := c53_20
def c54 : RC :=
  .seq (.reg [] [
   rq 8 (.assign (kb true)) 4])
 (.seq (.reg [] [
   rq 9 (.assign (kb true)) 4])
 (.block 0 (.loop (.block 1 (.seq (.reg [] [
      rq 19 (.move (tp 2)) 3,
      rq 20 (.move (tp 1)) 3,
      rq 21 (.binOp .sub 3 (tp 19) (tp 20) 3) 3,
      rq 10 (.assign (tp 21)) 3])
    (.seq (.seq (.reg [] [
      rq 22 (.move (tp 10)) 3,
      rq 23 (.binOp .leq 3 (tp 22) (ki 12) 3) 4])
    (.cond (tp 23) (.seq (.reg [] [
       rq 24 (.move (tp 0)) 32,
       rq 25 (.move (tp 1)) 3,
       rq 26 (.move (tp 2)) 3,
       rq 27 (cf 63 #[(tp 24), (tp 25), (tp 26)] #[32, 3, 3]) 0])
     (.ret))
    (.skip)))
    (.seq (.seq (.reg [] [
      rq 28 (.move (tp 3)) 3,
      rq 29 (.binOp .eql 3 (tp 28) (ki 0) 3) 4])
    (.cond (tp 29) (.seq (.reg [] [
       rq 30 (.move (tp 0)) 32,
       rq 31 (.move (tp 1)) 3,
       rq 32 (.move (tp 2)) 3,
       rq 33 (cf 64 #[(tp 30), (tp 31), (tp 32)] #[32, 3, 3]) 0])
     (.ret))
    (.skip)))
    (.seq (.seq (.reg [] [
      rq 34 (.move (tp 8)) 4,
      rq 35 (.unOp .not 4 (tp 34)) 4])
    (.cond (tp 35) (.seq (.reg [] [
       rq 36 (.move (tp 0)) 32,
       rq 37 (.move (tp 1)) 3,
       rq 38 (.move (tp 2)) 3,
       rq 39 (cf 65 #[(tp 36), (tp 37), (tp 38)] #[32, 3, 3]) 0])
     (.reg [] [
       rq 40 (.move (tp 3)) 3,
       rq 41 (.binOp .sub 3 (tp 40) (ki 1) 3) 3,
       rq 3 (.assign (tp 41)) 3]))
    (.skip)))
    (.seq (.reg [] [
      rq 43 (.move (tp 0)) 32,
      rq 44 (.move (tp 1)) 3,
      rq 45 (.move (tp 2)) 3,
      rq 46 (cf 66 #[(tp 43), (tp 44), (tp 45)] #[32, 3, 3]) 101,
      rq 42 (.move (tp 46)) 101,
      rq 47 (.extract (tp 42) 0) 3,
      rq 48 (.extract (tp 42) 1) 100,
      rq 11 (.assign (tp 47)) 3,
      rq 12 (.assign (tp 48)) 100])
    (.seq (.seq (.reg [] [
      rq 49 (.move (tp 12)) 100,
      rq 50 (.binOp .eql 100 (tp 49) (ki 2) 100) 4])
    (.cond (tp 50) (.seq (.reg [] [
       rq 51 (.move (tp 0)) 32,
       rq 52 (.move (tp 1)) 3,
       rq 53 (.move (tp 2)) 3,
       rq 54 (cf 67 #[(tp 51), (tp 52), (tp 53)] #[32, 3, 3]) 0])
     (.seq (.reg [] [
       rq 55 (.move (tp 2)) 3,
       rq 56 (.binOp .sub 3 (tp 55) (ki 1) 3) 3,
       rq 57 (.move (tp 11)) 3,
       rq 58 (.move (tp 1)) 3,
       rq 59 (.binOp .sub 3 (tp 57) (tp 58) 3) 3,
       rq 60 (.binOp .sub 3 (tp 56) (tp 59) 3) 3,
       rq 11 (.assign (tp 60)) 3])
     (.reg [] [
       rq 12 (.assign (ki 1)) 100])))
    (.skip)))
    (.seq (.seq (.reg [] [
      rq 61 (.move (tp 8)) 4,
      rq 62 (.move (tp 61)) 4,
      rg 63 (.move (tp 9)) 4 62 true,
      rq 64 (.pick (tp 62) (tp 63) (kb false)) 4,
      rq 65 (.move (tp 64)) 4,
      rg 66 (.move (tp 12)) 100 65 true,
      rg 67 (.binOp .eql 100 (tp 66) (ki 1) 100) 4 65 true,
      rq 68 (.pick (tp 65) (tp 67) (kb false)) 4])
    (.cond (tp 68) (.seq (.reg [] [
       rq 69 (.move (tp 0)) 32,
       rq 70 (.move (tp 1)) 3,
       rq 71 (.move (tp 2)) 3,
       rq 72 (cf 68 #[(tp 69), (tp 70), (tp 71)] #[32, 3, 3]) 4])
     (.cond (tp 72) (.ret)
     (.skip)))
    (.skip)))
    (.seq (.seq (.reg [0, 1, 2, 3, 4, 5, 6, 7, 8, 9, 10, 11, 12, 13, 14] [
      rq 73 (.move (tp 1)) 3,
      rq 74 (.binOp .gtr 3 (tp 73) (ki 0) 3) 4,
      rq 75 (.move (tp 74)) 4,
      rg 76 (.move (tp 0)) 32 75 true,
      rg 77 (.move (tp 1)) 3 75 true,
      rg 78 (.binOp .sub 3 (tp 77) (ki 1) 3) 3 75 true,
      rg 79 (.indexAddr 32 (tp 76) (tp 78)) 0 75 true,
      rg 80 (.load 3 (tp 79)) 3 75 true,
      rg 81 (.move (tp 0)) 32 75 true,
      rg 82 (.move (tp 11)) 3 75 true,
      rg 83 (.indexAddr 32 (tp 81) (tp 82)) 0 75 true,
      rg 84 (.load 3 (tp 83)) 3 75 true,
      rg 85 (cf 69 #[(tp 80), (tp 84)] #[3, 3]) 4 75 true,
      rg 86 (.unOp .not 4 (tp 85)) 4 75 true,
      rq 87 (.pick (tp 75) (tp 86) (kb false)) 4])
    (.cond (tp 87) (.seq (.reg [] [
       rq 88 (.move (tp 0)) 32,
       rq 89 (.move (tp 1)) 3,
       rq 90 (.move (tp 2)) 3,
       rq 91 (.move (tp 11)) 3,
       rq 92 (cf 70 #[(tp 88), (tp 89), (tp 90), (tp 91)] #[32, 3, 3, 3]) 3,
       rq 13 (.assign (tp 92)) 3])
     (.seq (.reg [] [
       rq 93 (.move (tp 13)) 3,
       rq 1 (.assign (tp 93)) 3])
     (.exit 1)))
    (.skip)))
    (.seq (.reg [] [
      rq 95 (.move (tp 0)) 32,
      rq 96 (.move (tp 1)) 3,
      rq 97 (.move (tp 2)) 3,
      rq 98 (.move (tp 11)) 3,
      rq 99 (cf 71 #[(tp 95), (tp 96), (tp 97), (tp 98)] #[32, 3, 3, 3]) 106,
      rq 94 (.move (tp 99)) 106,
      rq 100 (.extract (tp 94) 0) 3,
      rq 101 (.extract (tp 94) 1) 4,
      rq 14 (.assign (tp 100)) 3,
      rq 15 (.assign (tp 101)) 4])
    (.seq (.reg [] [
      rq 102 (.move (tp 15)) 4,
      rq 9 (.assign (tp 102)) 4])
    (.seq (.reg [] [
      rq 103 (.move (tp 14)) 3,
      rq 104 (.move (tp 1)) 3,
      rq 105 (.binOp .sub 3 (tp 103) (tp 104) 3) 3,
      rq 106 (.move (tp 2)) 3,
      rq 107 (.move (tp 14)) 3,
      rq 108 (.binOp .sub 3 (tp 106) (tp 107) 3) 3,
      rq 16 (.assign (tp 105)) 3,
      rq 17 (.assign (tp 108)) 3])
    (.seq (.reg [] [
      rq 109 (.move (tp 10)) 3,
      rq 110 (.binOp .quo 3 (tp 109) (ki 8) 3) 3,
      rq 18 (.assign (tp 110)) 3])
    (.seq (.reg [] [
      rq 111 (.move (tp 16)) 3,
      rq 112 (.move (tp 17)) 3,
      rq 113 (.binOp .lss 3 (tp 111) (tp 112) 3) 4])
    (.cond (tp 113) (.seq (.reg [] [
       rq 114 (.move (tp 16)) 3,
       rq 115 (.move (tp 18)) 3,
       rq 116 (.binOp .geq 3 (tp 114) (tp 115) 3) 4,
       rq 8 (.assign (tp 116)) 4])
     (.seq (.reg [] [
       rq 117 (.move (tp 0)) 32,
       rq 118 (.move (tp 1)) 3,
       rq 119 (.move (tp 14)) 3,
       rq 120 (.move (tp 3)) 3,
       rq 121 (cf 54 #[(tp 117), (tp 118), (tp 119), (tp 120)] #[32, 3, 3, 3]) 0])
     (.reg [] [
       rq 122 (.move (tp 14)) 3,
       rq 123 (.binOp .add 3 (tp 122) (ki 1) 3) 3,
       rq 1 (.assign (tp 123)) 3])))
    (.seq (.reg [] [
       rq 124 (.move (tp 17)) 3,
       rq 125 (.move (tp 18)) 3,
       rq 126 (.binOp .geq 3 (tp 124) (tp 125) 3) 4,
       rq 8 (.assign (tp 126)) 4])
     (.seq (.reg [] [
       rq 127 (.move (tp 0)) 32,
       rq 128 (.move (tp 14)) 3,
       rq 129 (.binOp .add 3 (tp 128) (ki 1) 3) 3,
       rq 130 (.move (tp 2)) 3,
       rq 131 (.move (tp 3)) 3,
       rq 132 (cf 54 #[(tp 127), (tp 129), (tp 130), (tp 131)] #[32, 3, 3, 3]) 0])
     (.reg [] [
       rq 133 (.move (tp 14)) 3,
       rq 2 (.assign (tp 133)) 3])))))))))))))))))))))
def c55 : RC :=
  .seq (.reg [] [
   rq 2 (.assign (ki 0)) 3])
 (.seq (.cond (kb false) (.seq (.reg [] [
    rq 3 (.move (tp 0)) 54,
    rq 4 (.convert 54 109 (tp 3)) 109,
    rq 5 (cf 72 #[(tp 4)] #[109]) 3,
    rq 2 (.assign (tp 5)) 3])
  (.ret))
 (.skip))
 (.seq (.reg [] [
   rq 6 (.move (tp 0)) 54,rq 7 (cf 73 #[(tp 6)] #[70]) 3,rq 2 (.assign (tp 7)) 3])
 (.ret)))
def c56 : RC := c56_3
def c57 : RC :=
  .seq (.reg [] [
   rq 2 (.assign (ki 0)) 3])
 (.seq (.cond (kb false) (.seq (.reg [] [
    rq 3 (.move (tp 0)) 54,
    rq 4 (.convert 54 109 (tp 3)) 109,
    rq 5 (cf 74 #[(tp 4)] #[109]) 3,
    rq 2 (.assign (tp 5)) 3])
  (.ret))
 (.skip))
 (.seq (.reg [] [
   rq 6 (.move (tp 0)) 54,rq 7 (cf 75 #[(tp 6)] #[70]) 3,rq 2 (.assign (tp 7)) 3])
 (.ret)))
def c58 : RC :=
  .seq (.reg [] [
   rq 2 (.assign (kb false)) 4])
 (.seq (.seq (.reg [] [
   rq 4 (.move (tp 0)) 32,rq 5 (cb .len #[(tp 4)] #[32]) 3,rq 6 (.binOp .sub 3 (tp 5) (ki 1) 3) 3,rq 3 (.assign (tp 6)) 3])
 (.block 0 (.loop (.seq (.seq (.reg [] [
     rq 7 (.move (tp 3)) 3,
     rq 8 (.binOp .gtr 3 (tp 7) (ki 0) 3) 4])
   (.cond (tp 8) (.skip)
   (.exit 0)))
   (.seq (.block 1 (.seq (.reg [0, 1, 2, 3, 4, 5, 6, 7, 8, 9] [
      rq 11 (.move (tp 0)) 32,
      rq 12 (.move (tp 3)) 3,
      rq 13 (.indexAddr 32 (tp 11) (tp 12)) 0,
      rq 14 (.load 3 (tp 13)) 3,
      rq 15 (.move (tp 0)) 32,
      rq 16 (.move (tp 3)) 3,
      rq 17 (.binOp .sub 3 (tp 16) (ki 1) 3) 3,
      rq 18 (.indexAddr 32 (tp 15) (tp 17)) 0,
      rq 19 (.load 3 (tp 18)) 3,
      rq 20 (cf 69 #[(tp 14), (tp 19)] #[3, 3]) 4])
    (.cond (tp 20) (.seq (.reg [] [
       rq 2 (.assign (kb false)) 4])
     (.ret))
    (.skip))))
   (.reg [] [
     rq 9 (.move (tp 3)) 3,
     rq 10 (.binOp .sub 3 (tp 9) (ki 1) 3) 3,
     rq 3 (.assign (tp 10)) 3]))))))
 (.seq (.reg [] [
   rq 2 (.assign (kb true)) 4])
 (.ret)))
def c59 : RC :=
  .seq (.reg [] [
   rq 2 (.assign (.const (.slice none 0 0))) 22])
 (.seq (.reg [] [
   rq 3 (.move (tp 0)) 22,rq 4 (.move (tp 0)) 22,rq 5 (cb .len #[(tp 4)] #[22]) 3,rq 6 (.move (tp 0)) 22,rq 7 (cb .len #[(tp 6)] #[22]) 3,rq 8 (.slice 22 (tp 3) none (some (tp 5)) (some (tp 7))) 22,rq 2 (.assign (tp 8)) 22])
 (.ret))
def c60 : RC := c60_9
def c63 : RC :=
  .seq (.reg [] [
   rq 8 (.move (tp 1)) 3,rq 9 (.binOp .add 3 (tp 8) (ki 1) 3) 3,rq 6 (.assign (tp 9)) 3])
 (.block 0 (.loop (.seq (.seq (.reg [] [
     rq 10 (.move (tp 6)) 3,
     rq 11 (.move (tp 2)) 3,
     rq 12 (.binOp .lss 3 (tp 10) (tp 11) 3) 4])
   (.cond (tp 12) (.skip)
   (.exit 0)))
   (.seq (.block 1 (.seq (.reg [] [
      rq 15 (.move (tp 6)) 3,
      rq 7 (.assign (tp 15)) 3])
    (.block 2 (.loop (.seq (.seq (.reg [0, 1, 2, 3, 4, 5, 6, 7, 8, 9, 10, 11, 12, 13, 14] [
        rq 16 (.move (tp 7)) 3,
        rq 17 (.move (tp 1)) 3,
        rq 18 (.binOp .gtr 3 (tp 16) (tp 17) 3) 4,
        rq 19 (.move (tp 18)) 4,
        rg 20 (.move (tp 0)) 32 19 true,
        rg 21 (.move (tp 7)) 3 19 true,
        rg 22 (.indexAddr 32 (tp 20) (tp 21)) 0 19 true,
        rg 23 (.load 3 (tp 22)) 3 19 true,
        rg 24 (.move (tp 0)) 32 19 true,
        rg 25 (.move (tp 7)) 3 19 true,
        rg 26 (.binOp .sub 3 (tp 25) (ki 1) 3) 3 19 true,
        rg 27 (.indexAddr 32 (tp 24) (tp 26)) 0 19 true,
        rg 28 (.load 3 (tp 27)) 3 19 true,
        rg 29 (cf 69 #[(tp 23), (tp 28)] #[3, 3]) 4 19 true,
        rq 30 (.pick (tp 19) (tp 29) (kb false)) 4])
      (.cond (tp 30) (.skip)
      (.exit 2)))
      (.seq (.block 3 (.reg [0, 1, 2, 3, 4, 5, 6, 7, 8, 9, 10, 11, 12, 13, 14, 15, 16, 17] [
         rq 33 (.move (tp 0)) 32,
         rq 34 (.move (tp 7)) 3,
         rq 35 (.move (tp 0)) 32,
         rq 36 (.move (tp 7)) 3,
         rq 37 (.binOp .sub 3 (tp 36) (ki 1) 3) 3,
         rq 38 (.move (tp 0)) 32,
         rq 39 (.move (tp 7)) 3,
         rq 40 (.binOp .sub 3 (tp 39) (ki 1) 3) 3,
         rq 41 (.indexAddr 32 (tp 38) (tp 40)) 0,
         rq 42 (.load 3 (tp 41)) 3,
         rq 43 (.move (tp 0)) 32,
         rq 44 (.move (tp 7)) 3,
         rq 45 (.indexAddr 32 (tp 43) (tp 44)) 0,
         rq 46 (.load 3 (tp 45)) 3,
         rq 47 (.indexAddr 32 (tp 33) (tp 34)) 0,
         rn (.store 3 (tp 47) (tp 42)) 0,
         rq 48 (.indexAddr 32 (tp 35) (tp 37)) 0,
         rn (.store 3 (tp 48) (tp 46)) 0]))
      (.reg [] [
        rq 31 (.move (tp 7)) 3,
        rq 32 (.binOp .sub 3 (tp 31) (ki 1) 3) 3,
        rq 7 (.assign (tp 32)) 3])))))))
   (.reg [] [
     rq 13 (.move (tp 6)) 3,
     rq 14 (.binOp .add 3 (tp 13) (ki 1) 3) 3,
     rq 6 (.assign (tp 14)) 3])))))
def c64 : RC :=
  .seq (.reg [] [
   rq 11 (.move (tp 1)) 3,rq 6 (.assign (tp 11)) 3])
 (.seq (.reg [] [
   rq 7 (.assign (ki 0)) 3])
 (.seq (.reg [] [
   rq 12 (.move (tp 2)) 3,rq 13 (.move (tp 1)) 3,rq 14 (.binOp .sub 3 (tp 12) (tp 13) 3) 3,rq 8 (.assign (tp 14)) 3])
 (.seq (.seq (.reg [] [
   rq 15 (.move (tp 8)) 3,rq 16 (.binOp .sub 3 (tp 15) (ki 1) 3) 3,rq 17 (.binOp .quo 3 (tp 16) (ki 2) 3) 3,rq 9 (.assign (tp 17)) 3])
 (.block 0 (.loop (.seq (.seq (.reg [] [
     rq 18 (.move (tp 9)) 3,
     rq 19 (.binOp .geq 3 (tp 18) (ki 0) 3) 4])
   (.cond (tp 19) (.skip)
   (.exit 0)))
   (.seq (.block 1 (.reg [] [
      rq 22 (.move (tp 0)) 32,
      rq 23 (.move (tp 9)) 3,
      rq 24 (.move (tp 8)) 3,
      rq 25 (.move (tp 6)) 3,
      rq 26 (cf 76 #[(tp 22), (tp 23), (tp 24), (tp 25)] #[32, 3, 3, 3]) 0]))
   (.reg [] [
     rq 20 (.move (tp 9)) 3,
     rq 21 (.binOp .sub 3 (tp 20) (ki 1) 3) 3,
     rq 9 (.assign (tp 21)) 3]))))))
 (.seq (.reg [] [
   rq 27 (.move (tp 8)) 3,rq 28 (.binOp .sub 3 (tp 27) (ki 1) 3) 3,rq 10 (.assign (tp 28)) 3])
 (.block 2 (.loop (.seq (.seq (.reg [] [
     rq 29 (.move (tp 10)) 3,
     rq 30 (.binOp .geq 3 (tp 29) (ki 0) 3) 4])
   (.cond (tp 30) (.skip)
   (.exit 2)))
   (.seq (.block 3 (.seq (.reg [0, 1, 2, 3, 4, 5, 6, 7, 8, 9, 10, 11, 12, 13, 14, 15, 16, 17, 18, 19] [
      rq 33 (.move (tp 0)) 32,
      rq 34 (.move (tp 6)) 3,
      rq 35 (.move (tp 0)) 32,
      rq 36 (.move (tp 6)) 3,
      rq 37 (.move (tp 10)) 3,
      rq 38 (.binOp .add 3 (tp 36) (tp 37) 3) 3,
      rq 39 (.move (tp 0)) 32,
      rq 40 (.move (tp 6)) 3,
      rq 41 (.move (tp 10)) 3,
      rq 42 (.binOp .add 3 (tp 40) (tp 41) 3) 3,
      rq 43 (.indexAddr 32 (tp 39) (tp 42)) 0,
      rq 44 (.load 3 (tp 43)) 3,
      rq 45 (.move (tp 0)) 32,
      rq 46 (.move (tp 6)) 3,
      rq 47 (.indexAddr 32 (tp 45) (tp 46)) 0,
      rq 48 (.load 3 (tp 47)) 3,
      rq 49 (.indexAddr 32 (tp 33) (tp 34)) 0,
      rn (.store 3 (tp 49) (tp 44)) 0,
      rq 50 (.indexAddr 32 (tp 35) (tp 38)) 0,
      rn (.store 3 (tp 50) (tp 48)) 0])
    (.reg [] [
      rq 51 (.move (tp 0)) 32,
      rq 52 (.move (tp 7)) 3,
      rq 53 (.move (tp 10)) 3,
      rq 54 (.move (tp 6)) 3,
      rq 55 (cf 76 #[(tp 51), (tp 52), (tp 53), (tp 54)] #[32, 3, 3, 3]) 0])))
   (.reg [] [
     rq 31 (.move (tp 10)) 3,
     rq 32 (.binOp .sub 3 (tp 31) (ki 1) 3) 3,
     rq 10 (.assign (tp 32)) 3])))))))))
def c65 : RC :=
  .seq (.reg [] [
   rq 11 (.move (tp 2)) 3,rq 12 (.move (tp 1)) 3,rq 13 (.binOp .sub 3 (tp 11) (tp 12) 3) 3,rq 6 (.assign (tp 13)) 3])
 (.seq (.reg [] [
   rq 14 (.move (tp 6)) 3,rq 15 (.binOp .geq 3 (tp 14) (ki 8) 3) 4])
 (.cond (tp 15) (.seq (.reg [] [
    rq 16 (.move (tp 6)) 3,
    rq 17 (.convert 3 111 (tp 16)) 111,
    rq 7 (.alloc 111) 0,
    rn (.store 111 (tp 7) (tp 17)) 0])
  (.seq (.reg [] [
    rq 18 (.move (tp 6)) 3,
    rq 19 (cf 77 #[(tp 18)] #[3]) 54,
    rq 8 (.assign (tp 19)) 54])
  (.seq (.reg [] [
    rq 20 (.move (tp 1)) 3,
    rq 21 (.move (tp 6)) 3,
    rq 22 (.binOp .quo 3 (tp 21) (ki 4) 3) 3,
    rq 23 (.binOp .mul 3 (tp 22) (ki 2) 3) 3,
    rq 24 (.binOp .add 3 (tp 20) (tp 23) 3) 3,
    rq 25 (.binOp .sub 3 (tp 24) (ki 1) 3) 3,
    rq 9 (.assign (tp 25)) 3])
  (.block 0 (.loop (.seq (.seq (.reg [] [
      rq 26 (.move (tp 9)) 3,
      rq 27 (.move (tp 1)) 3,
      rq 28 (.move (tp 6)) 3,
      rq 29 (.binOp .quo 3 (tp 28) (ki 4) 3) 3,
      rq 30 (.binOp .mul 3 (tp 29) (ki 2) 3) 3,
      rq 31 (.binOp .add 3 (tp 27) (tp 30) 3) 3,
      rq 32 (.binOp .add 3 (tp 31) (ki 1) 3) 3,
      rq 33 (.binOp .leq 3 (tp 26) (tp 32) 3) 4])
    (.cond (tp 33) (.skip)
    (.exit 0)))
    (.seq (.block 1 (.seq (.reg [] [
       rq 36 (cf 78 #[(tp 7)] #[111]) 70,
       rq 37 (.move (tp 8)) 54,
       rq 38 (.binOp .sub 54 (tp 37) (.const (.int .u64 1)) 54) 54,
       rq 39 (.binOp .and 54 (tp 36) (tp 38) 54) 54,
       rq 40 (.convert 54 3 (tp 39)) 3,
       rq 10 (.assign (tp 40)) 3])
     (.seq (.seq (.reg [] [
       rq 41 (.move (tp 10)) 3,
       rq 42 (.move (tp 6)) 3,
       rq 43 (.binOp .geq 3 (tp 41) (tp 42) 3) 4])
     (.cond (tp 43) (.reg [] [
        rq 44 (.move (tp 10)) 3,
        rq 45 (.move (tp 6)) 3,
        rq 46 (.binOp .sub 3 (tp 44) (tp 45) 3) 3,
        rq 10 (.assign (tp 46)) 3])
     (.skip)))
     (.reg [0, 1, 2, 3, 4, 5, 6, 7, 8, 9, 10, 11, 12, 13, 14, 15, 16, 17, 18, 19] [
       rq 47 (.move (tp 0)) 32,
       rq 48 (.move (tp 9)) 3,
       rq 49 (.move (tp 0)) 32,
       rq 50 (.move (tp 1)) 3,
       rq 51 (.move (tp 10)) 3,
       rq 52 (.binOp .add 3 (tp 50) (tp 51) 3) 3,
       rq 53 (.move (tp 0)) 32,
       rq 54 (.move (tp 1)) 3,
       rq 55 (.move (tp 10)) 3,
       rq 56 (.binOp .add 3 (tp 54) (tp 55) 3) 3,
       rq 57 (.indexAddr 32 (tp 53) (tp 56)) 0,
       rq 58 (.load 3 (tp 57)) 3,
       rq 59 (.move (tp 0)) 32,
       rq 60 (.move (tp 9)) 3,
       rq 61 (.indexAddr 32 (tp 59) (tp 60)) 0,
       rq 62 (.load 3 (tp 61)) 3,
       rq 63 (.indexAddr 32 (tp 47) (tp 48)) 0,
       rn (.store 3 (tp 63) (tp 58)) 0,
       rq 64 (.indexAddr 32 (tp 49) (tp 52)) 0,
       rn (.store 3 (tp 64) (tp 62)) 0]))))
    (.reg [] [
      rq 34 (.move (tp 9)) 3,
      rq 35 (.binOp .add 3 (tp 34) (ki 1) 3) 3,
      rq 9 (.assign (tp 35)) 3]))))))))
 (.skip)))
def c66 : RC :=
  .seq (.reg [] [
   rq 6 (.assign (ki 0)) 3,rq 7 (.assign (ki 0)) 100])
 (.seq (.reg [] [
   rq 13 (.move (tp 2)) 3,rq 14 (.move (tp 1)) 3,rq 15 (.binOp .sub 3 (tp 13) (tp 14) 3) 3,rq 8 (.assign (tp 15)) 3])
 (.seq (.reg [] [
   rq 9 (.alloc 3) 0])
 (.seq (.reg [] [
   rq 16 (.move (tp 1)) 3,rq 17 (.move (tp 8)) 3,rq 18 (.binOp .quo 3 (tp 17) (ki 4) 3) 3,rq 19 (.binOp .mul 3 (tp 18) (ki 1) 3) 3,rq 20 (.binOp .add 3 (tp 16) (tp 19) 3) 3,rq 10 (.assign (tp 20)) 3])
 (.seq (.reg [] [
   rq 21 (.move (tp 1)) 3,rq 22 (.move (tp 8)) 3,rq 23 (.binOp .quo 3 (tp 22) (ki 4) 3) 3,rq 24 (.binOp .mul 3 (tp 23) (ki 2) 3) 3,rq 25 (.binOp .add 3 (tp 21) (tp 24) 3) 3,rq 11 (.assign (tp 25)) 3])
 (.seq (.reg [] [
   rq 26 (.move (tp 1)) 3,rq 27 (.move (tp 8)) 3,rq 28 (.binOp .quo 3 (tp 27) (ki 4) 3) 3,rq 29 (.binOp .mul 3 (tp 28) (ki 3) 3) 3,rq 30 (.binOp .add 3 (tp 26) (tp 29) 3) 3,rq 12 (.assign (tp 30)) 3])
 (.seq (.seq (.reg [] [
   rq 31 (.move (tp 8)) 3,rq 32 (.binOp .geq 3 (tp 31) (ki 8) 3) 4])
 (.cond (tp 32) (.seq (.seq (.reg [] [
    rq 33 (.move (tp 8)) 3,
    rq 34 (.binOp .geq 3 (tp 33) (ki 50) 3) 4])
  (.cond (tp 34) (.seq (.reg [] [
     rq 35 (.move (tp 0)) 32,
     rq 36 (.move (tp 10)) 3,
     rq 37 (cf 79 #[(tp 35), (tp 36), (tp 9)] #[32, 3, 115]) 3,
     rq 10 (.assign (tp 37)) 3])
   (.seq (.reg [] [
     rq 38 (.move (tp 0)) 32,
     rq 39 (.move (tp 11)) 3,
     rq 40 (cf 79 #[(tp 38), (tp 39), (tp 9)] #[32, 3, 115]) 3,
     rq 11 (.assign (tp 40)) 3])
   (.reg [] [
     rq 41 (.move (tp 0)) 32,
     rq 42 (.move (tp 12)) 3,
     rq 43 (cf 79 #[(tp 41), (tp 42), (tp 9)] #[32, 3, 115]) 3,
     rq 12 (.assign (tp 43)) 3])))
  (.skip)))
  (.reg [] [
    rq 44 (.move (tp 0)) 32,
    rq 45 (.move (tp 10)) 3,
    rq 46 (.move (tp 11)) 3,
    rq 47 (.move (tp 12)) 3,
    rq 48 (cf 80 #[(tp 44), (tp 45), (tp 46), (tp 47), (tp 9)] #[32, 3, 3, 3, 115]) 3,
    rq 11 (.assign (tp 48)) 3]))
 (.skip)))
 (.seq (.reg [] [
   rq 49 (.load 3 (tp 9)) 3])
 (.block 0 (.seq (.reg [] [
    rq 52 (.binOp .eql 3 (tp 49) (ki 0) 3) 4,
    rq 51 (.assign (tp 52)) 4])
  (.cond (tp 51) (.seq (.reg [] [
     rq 53 (.move (tp 11)) 3,
     rq 6 (.assign (tp 53)) 3,
     rq 7 (.assign (ki 1)) 100])
   (.ret))
  (.seq (.reg [] [
     rq 55 (.binOp .eql 3 (tp 49) (ki 12) 3) 4,
     rq 54 (.assign (tp 55)) 4])
   (.cond (tp 54) (.seq (.reg [] [
      rq 56 (.move (tp 11)) 3,
      rq 6 (.assign (tp 56)) 3,
      rq 7 (.assign (ki 2)) 100])
    (.ret))
   (.seq (.reg [] [
      rq 50 (.move (tp 11)) 3,
      rq 6 (.assign (tp 50)) 3,
      rq 7 (.assign (ki 0)) 100])
    (.ret))))))))))))))
def c67 : RC :=
  .seq (.reg [] [
   rq 8 (.move (tp 1)) 3,rq 6 (.assign (tp 8)) 3])
 (.seq (.reg [] [
   rq 9 (.move (tp 2)) 3,rq 10 (.binOp .sub 3 (tp 9) (ki 1) 3) 3,rq 7 (.assign (tp 10)) 3])
 (.block 0 (.loop (.seq (.seq (.reg [] [
     rq 11 (.move (tp 6)) 3,
     rq 12 (.move (tp 7)) 3,
     rq 13 (.binOp .lss 3 (tp 11) (tp 12) 3) 4])
   (.cond (tp 13) (.skip)
   (.exit 0)))
   (.block 1 (.seq (.reg [0, 1, 2, 3, 4, 5, 6, 7, 8, 9, 10, 11, 12, 13, 14, 15] [
      rq 14 (.move (tp 0)) 32,
      rq 15 (.move (tp 6)) 3,
      rq 16 (.move (tp 0)) 32,
      rq 17 (.move (tp 7)) 3,
      rq 18 (.move (tp 0)) 32,
      rq 19 (.move (tp 7)) 3,
      rq 20 (.indexAddr 32 (tp 18) (tp 19)) 0,
      rq 21 (.load 3 (tp 20)) 3,
      rq 22 (.move (tp 0)) 32,
      rq 23 (.move (tp 6)) 3,
      rq 24 (.indexAddr 32 (tp 22) (tp 23)) 0,
      rq 25 (.load 3 (tp 24)) 3,
      rq 26 (.indexAddr 32 (tp 14) (tp 15)) 0,
      rn (.store 3 (tp 26) (tp 21)) 0,
      rq 27 (.indexAddr 32 (tp 16) (tp 17)) 0,
      rn (.store 3 (tp 27) (tp 25)) 0])
    (.seq (.reg [] [
      rq 28 (.move (tp 6)) 3,
      rq 29 (.binOp .add 3 (tp 28) (ki 1) 3) 3,
      rq 6 (.assign (tp 29)) 3])
    (.reg [] [
      rq 30 (.move (tp 7)) 3,
      rq 31 (.binOp .sub 3 (tp 30) (ki 1) 3) 3,
      rq 7 (.assign (tp 31)) 3]))))))))
def c68 : RC :=
  .seq (.reg [] [
   rq 6 (.assign (kb false)) 4])
 (.seq (.reg [] [
   rq 11 (.move (tp 1)) 3,rq 12 (.binOp .add 3 (tp 11) (ki 1) 3) 3,rq 7 (.assign (tp 12)) 3])
 (.seq (.seq (.reg [] [
   rq 8 (.assign (ki 0)) 3])
 (.block 0 (.loop (.seq (.seq (.reg [] [
     rq 13 (.move (tp 8)) 3,
     rq 14 (.binOp .lss 3 (tp 13) (ki 5) 3) 4])
   (.cond (tp 14) (.skip)
   (.exit 0)))
   (.seq (.block 1 (.seq (.block 2 (.loop (.seq (.seq (.reg [0, 1, 2, 3, 4, 5, 6, 7, 8, 9, 10, 11, 12, 13, 14, 15] [
        rq 17 (.move (tp 7)) 3,
        rq 18 (.move (tp 2)) 3,
        rq 19 (.binOp .lss 3 (tp 17) (tp 18) 3) 4,
        rq 20 (.move (tp 19)) 4,
        rg 21 (.move (tp 0)) 32 20 true,
        rg 22 (.move (tp 7)) 3 20 true,
        rg 23 (.indexAddr 32 (tp 21) (tp 22)) 0 20 true,
        rg 24 (.load 3 (tp 23)) 3 20 true,
        rg 25 (.move (tp 0)) 32 20 true,
        rg 26 (.move (tp 7)) 3 20 true,
        rg 27 (.binOp .sub 3 (tp 26) (ki 1) 3) 3 20 true,
        rg 28 (.indexAddr 32 (tp 25) (tp 27)) 0 20 true,
        rg 29 (.load 3 (tp 28)) 3 20 true,
        rg 30 (cf 69 #[(tp 24), (tp 29)] #[3, 3]) 4 20 true,
        rg 31 (.unOp .not 4 (tp 30)) 4 20 true,
        rq 32 (.pick (tp 20) (tp 31) (kb false)) 4])
      (.cond (tp 32) (.skip)
      (.exit 2)))
      (.block 3 (.reg [] [
         rq 33 (.move (tp 7)) 3,
         rq 34 (.binOp .add 3 (tp 33) (ki 1) 3) 3,
         rq 7 (.assign (tp 34)) 3])))))
    (.seq (.seq (.reg [] [
      rq 35 (.move (tp 7)) 3,
      rq 36 (.move (tp 2)) 3,
      rq 37 (.binOp .eql 3 (tp 35) (tp 36) 3) 4])
    (.cond (tp 37) (.seq (.reg [] [
       rq 6 (.assign (kb true)) 4])
     (.ret))
    (.skip)))
    (.seq (.seq (.reg [] [
      rq 38 (.move (tp 2)) 3,
      rq 39 (.move (tp 1)) 3,
      rq 40 (.binOp .sub 3 (tp 38) (tp 39) 3) 3,
      rq 41 (.binOp .lss 3 (tp 40) (ki 50) 3) 4])
    (.cond (tp 41) (.seq (.reg [] [
       rq 6 (.assign (kb false)) 4])
     (.ret))
    (.skip)))
    (.seq (.reg [0, 1, 2, 3, 4, 5, 6, 7, 8, 9, 10, 11, 12, 13, 14, 15, 16, 17] [
      rq 42 (.move (tp 0)) 32,
      rq 43 (.move (tp 7)) 3,
      rq 44 (.move (tp 0)) 32,
      rq 45 (.move (tp 7)) 3,
      rq 46 (.binOp .sub 3 (tp 45) (ki 1) 3) 3,
      rq 47 (.move (tp 0)) 32,
      rq 48 (.move (tp 7)) 3,
      rq 49 (.binOp .sub 3 (tp 48) (ki 1) 3) 3,
      rq 50 (.indexAddr 32 (tp 47) (tp 49)) 0,
      rq 51 (.load 3 (tp 50)) 3,
      rq 52 (.move (tp 0)) 32,
      rq 53 (.move (tp 7)) 3,
      rq 54 (.indexAddr 32 (tp 52) (tp 53)) 0,
      rq 55 (.load 3 (tp 54)) 3,
      rq 56 (.indexAddr 32 (tp 42) (tp 43)) 0,
      rn (.store 3 (tp 56) (tp 51)) 0,
      rq 57 (.indexAddr 32 (tp 44) (tp 46)) 0,
      rn (.store 3 (tp 57) (tp 55)) 0])
    (.seq (.seq (.reg [] [
      rq 58 (.move (tp 7)) 3,
      rq 59 (.move (tp 1)) 3,
      rq 60 (.binOp .sub 3 (tp 58) (tp 59) 3) 3,
      rq 61 (.binOp .geq 3 (tp 60) (ki 2) 3) 4])
    (.cond (tp 61) (.seq (.reg [] [
       rq 62 (.move (tp 7)) 3,
       rq 63 (.binOp .sub 3 (tp 62) (ki 1) 3) 3,
       rq 9 (.assign (tp 63)) 3])
     (.block 4 (.loop (.seq (.seq (.reg [] [
         rq 64 (.move (tp 9)) 3,
         rq 65 (.binOp .geq 3 (tp 64) (ki 1) 3) 4])
       (.cond (tp 65) (.skip)
       (.exit 4)))
       (.seq (.block 5 (.seq (.seq (.reg [0, 1, 2, 3, 4, 5, 6, 7, 8, 9, 10] [
          rq 68 (.move (tp 0)) 32,
          rq 69 (.move (tp 9)) 3,
          rq 70 (.indexAddr 32 (tp 68) (tp 69)) 0,
          rq 71 (.load 3 (tp 70)) 3,
          rq 72 (.move (tp 0)) 32,
          rq 73 (.move (tp 9)) 3,
          rq 74 (.binOp .sub 3 (tp 73) (ki 1) 3) 3,
          rq 75 (.indexAddr 32 (tp 72) (tp 74)) 0,
          rq 76 (.load 3 (tp 75)) 3,
          rq 77 (cf 69 #[(tp 71), (tp 76)] #[3, 3]) 4,
          rq 78 (.unOp .not 4 (tp 77)) 4])
        (.cond (tp 78) (.exit 4)
        (.skip)))
        (.reg [0, 1, 2, 3, 4, 5, 6, 7, 8, 9, 10, 11, 12, 13, 14, 15, 16, 17] [
          rq 79 (.move (tp 0)) 32,
          rq 80 (.move (tp 9)) 3,
          rq 81 (.move (tp 0)) 32,
          rq 82 (.move (tp 9)) 3,
          rq 83 (.binOp .sub 3 (tp 82) (ki 1) 3) 3,
          rq 84 (.move (tp 0)) 32,
          rq 85 (.move (tp 9)) 3,
          rq 86 (.binOp .sub 3 (tp 85) (ki 1) 3) 3,
          rq 87 (.indexAddr 32 (tp 84) (tp 86)) 0,
          rq 88 (.load 3 (tp 87)) 3,
          rq 89 (.move (tp 0)) 32,
          rq 90 (.move (tp 9)) 3,
          rq 91 (.indexAddr 32 (tp 89) (tp 90)) 0,
          rq 92 (.load 3 (tp 91)) 3,
          rq 93 (.indexAddr 32 (tp 79) (tp 80)) 0,
          rn (.store 3 (tp 93) (tp 88)) 0,
          rq 94 (.indexAddr 32 (tp 81) (tp 83)) 0,
          rn (.store 3 (tp 94) (tp 92)) 0])))
       (.reg [] [
         rq 66 (.move (tp 9)) 3,
         rq 67 (.binOp .sub 3 (tp 66) (ki 1) 3) 3,
         rq 9 (.assign (tp 67)) 3]))))))
    (.skip)))
    (.seq (.reg [] [
      rq 95 (.move (tp 2)) 3,
      rq 96 (.move (tp 7)) 3,
      rq 97 (.binOp .sub 3 (tp 95) (tp 96) 3) 3,
      rq 98 (.binOp .geq 3 (tp 97) (ki 2) 3) 4])
    (.cond (tp 98) (.seq (.reg [] [
       rq 99 (.move (tp 7)) 3,
       rq 100 (.binOp .add 3 (tp 99) (ki 1) 3) 3,
       rq 10 (.assign (tp 100)) 3])
     (.block 6 (.loop (.seq (.seq (.reg [] [
         rq 101 (.move (tp 10)) 3,
         rq 102 (.move (tp 2)) 3,
         rq 103 (.binOp .lss 3 (tp 101) (tp 102) 3) 4])
       (.cond (tp 103) (.skip)
       (.exit 6)))
       (.seq (.block 7 (.seq (.seq (.reg [0, 1, 2, 3, 4, 5, 6, 7, 8, 9, 10] [
          rq 106 (.move (tp 0)) 32,
          rq 107 (.move (tp 10)) 3,
          rq 108 (.indexAddr 32 (tp 106) (tp 107)) 0,
          rq 109 (.load 3 (tp 108)) 3,
          rq 110 (.move (tp 0)) 32,
          rq 111 (.move (tp 10)) 3,
          rq 112 (.binOp .sub 3 (tp 111) (ki 1) 3) 3,
          rq 113 (.indexAddr 32 (tp 110) (tp 112)) 0,
          rq 114 (.load 3 (tp 113)) 3,
          rq 115 (cf 69 #[(tp 109), (tp 114)] #[3, 3]) 4,
          rq 116 (.unOp .not 4 (tp 115)) 4])
        (.cond (tp 116) (.exit 6)
        (.skip)))
        (.reg [0, 1, 2, 3, 4, 5, 6, 7, 8, 9, 10, 11, 12, 13, 14, 15, 16, 17] [
          rq 117 (.move (tp 0)) 32,
          rq 118 (.move (tp 10)) 3,
          rq 119 (.move (tp 0)) 32,
          rq 120 (.move (tp 10)) 3,
          rq 121 (.binOp .sub 3 (tp 120) (ki 1) 3) 3,
          rq 122 (.move (tp 0)) 32,
          rq 123 (.move (tp 10)) 3,
          rq 124 (.binOp .sub 3 (tp 123) (ki 1) 3) 3,
          rq 125 (.indexAddr 32 (tp 122) (tp 124)) 0,
          rq 126 (.load 3 (tp 125)) 3,
          rq 127 (.move (tp 0)) 32,
          rq 128 (.move (tp 10)) 3,
          rq 129 (.indexAddr 32 (tp 127) (tp 128)) 0,
          rq 130 (.load 3 (tp 129)) 3,
          rq 131 (.indexAddr 32 (tp 117) (tp 118)) 0,
          rn (.store 3 (tp 131) (tp 126)) 0,
          rq 132 (.indexAddr 32 (tp 119) (tp 121)) 0,
          rn (.store 3 (tp 132) (tp 130)) 0])))
       (.reg [] [
         rq 104 (.move (tp 10)) 3,
         rq 105 (.binOp .add 3 (tp 104) (ki 1) 3) 3,
         rq 10 (.assign (tp 105)) 3]))))))
    (.skip)))))))))
   (.reg [] [
     rq 15 (.move (tp 8)) 3,
     rq 16 (.binOp .add 3 (tp 15) (ki 1) 3) 3,
     rq 8 (.assign (tp 16)) 3]))))))
 (.seq (.reg [] [
   rq 6 (.assign (kb false)) 4])
 (.ret))))
def c69 : RC :=
  .seq (.reg [] [
   rq 4 (.assign (kb false)) 4])
 (.seq (.reg [] [
   rq 5 (.move (tp 0)) 3,rq 6 (cf 81 #[(tp 5)] #[3]) 4,rq 7 (.move (tp 6)) 4,rg 8 (.move (tp 1)) 3 7 true,rg 9 (cf 81 #[(tp 8)] #[3]) 4 7 true,rg 10 (.unOp .not 4 (tp 9)) 4 7 true,rq 11 (.pick (tp 7) (tp 10) (kb false)) 4,rq 12 (.move (tp 11)) 4,rg 13 (.move (tp 0)) 3 12 false,rg 14 (.move (tp 1)) 3 12 false,rg 15 (.binOp .lss 3 (tp 13) (tp 14) 3) 4 12 false,rq 16 (.pick (tp 12) (kb true) (tp 15)) 4,rq 4 (.assign (tp 16)) 4])
 (.ret))
def c70 : RC :=
  .seq (.reg [] [
   rq 8 (.assign (ki 0)) 3])
 (.seq (.reg [0, 1, 2, 3, 4, 5, 6, 7, 8, 9, 10, 11, 12, 13, 14, 15] [
   rq 11 (.move (tp 0)) 32,rq 12 (.move (tp 1)) 3,rq 13 (.move (tp 0)) 32,rq 14 (.move (tp 3)) 3,rq 15 (.move (tp 0)) 32,rq 16 (.move (tp 3)) 3,rq 17 (.indexAddr 32 (tp 15) (tp 16)) 0,rq 18 (.load 3 (tp 17)) 3,rq 19 (.move (tp 0)) 32,rq 20 (.move (tp 1)) 3,rq 21 (.indexAddr 32 (tp 19) (tp 20)) 0,rq 22 (.load 3 (tp 21)) 3,rq 23 (.indexAddr 32 (tp 11) (tp 12)) 0,rn (.store 3 (tp 23) (tp 18)) 0,rq 24 (.indexAddr 32 (tp 13) (tp 14)) 0,rn (.store 3 (tp 24) (tp 22)) 0])
 (.seq (.reg [] [
   rq 25 (.move (tp 1)) 3,rq 26 (.binOp .add 3 (tp 25) (ki 1) 3) 3,rq 27 (.move (tp 2)) 3,rq 28 (.binOp .sub 3 (tp 27) (ki 1) 3) 3,rq 9 (.assign (tp 26)) 3,rq 10 (.assign (tp 28)) 3])
 (.seq (.block 0 (.loop (.block 1 (.seq (.block 2 (.loop (.seq (.seq (.reg [0, 1, 2, 3, 4, 5, 6, 7, 8, 9, 10, 11, 12, 13, 14] [
        rq 29 (.move (tp 9)) 3,
        rq 30 (.move (tp 10)) 3,
        rq 31 (.binOp .leq 3 (tp 29) (tp 30) 3) 4,
        rq 32 (.move (tp 31)) 4,
        rg 33 (.move (tp 0)) 32 32 true,
        rg 34 (.move (tp 1)) 3 32 true,
        rg 35 (.indexAddr 32 (tp 33) (tp 34)) 0 32 true,
        rg 36 (.load 3 (tp 35)) 3 32 true,
        rg 37 (.move (tp 0)) 32 32 true,
        rg 38 (.move (tp 9)) 3 32 true,
        rg 39 (.indexAddr 32 (tp 37) (tp 38)) 0 32 true,
        rg 40 (.load 3 (tp 39)) 3 32 true,
        rg 41 (cf 69 #[(tp 36), (tp 40)] #[3, 3]) 4 32 true,
        rg 42 (.unOp .not 4 (tp 41)) 4 32 true,
        rq 43 (.pick (tp 32) (tp 42) (kb false)) 4])
      (.cond (tp 43) (.skip)
      (.exit 2)))
      (.block 3 (.reg [] [
         rq 44 (.move (tp 9)) 3,
         rq 45 (.binOp .add 3 (tp 44) (ki 1) 3) 3,
         rq 9 (.assign (tp 45)) 3])))))
    (.seq (.block 4 (.loop (.seq (.seq (.reg [0, 1, 2, 3, 4, 5, 6, 7, 8, 9, 10, 11, 12, 13] [
        rq 46 (.move (tp 9)) 3,
        rq 47 (.move (tp 10)) 3,
        rq 48 (.binOp .leq 3 (tp 46) (tp 47) 3) 4,
        rq 49 (.move (tp 48)) 4,
        rg 50 (.move (tp 0)) 32 49 true,
        rg 51 (.move (tp 1)) 3 49 true,
        rg 52 (.indexAddr 32 (tp 50) (tp 51)) 0 49 true,
        rg 53 (.load 3 (tp 52)) 3 49 true,
        rg 54 (.move (tp 0)) 32 49 true,
        rg 55 (.move (tp 10)) 3 49 true,
        rg 56 (.indexAddr 32 (tp 54) (tp 55)) 0 49 true,
        rg 57 (.load 3 (tp 56)) 3 49 true,
        rg 58 (cf 69 #[(tp 53), (tp 57)] #[3, 3]) 4 49 true,
        rq 59 (.pick (tp 49) (tp 58) (kb false)) 4])
      (.cond (tp 59) (.skip)
      (.exit 4)))
      (.block 5 (.reg [] [
         rq 60 (.move (tp 10)) 3,
         rq 61 (.binOp .sub 3 (tp 60) (ki 1) 3) 3,
         rq 10 (.assign (tp 61)) 3])))))
    (.seq (.seq (.reg [] [
      rq 62 (.move (tp 9)) 3,
      rq 63 (.move (tp 10)) 3,
      rq 64 (.binOp .gtr 3 (tp 62) (tp 63) 3) 4])
    (.cond (tp 64) (.exit 0)
    (.skip)))
    (.seq (.reg [0, 1, 2, 3, 4, 5, 6, 7, 8, 9, 10, 11, 12, 13, 14, 15] [
      rq 65 (.move (tp 0)) 32,
      rq 66 (.move (tp 9)) 3,
      rq 67 (.move (tp 0)) 32,
      rq 68 (.move (tp 10)) 3,
      rq 69 (.move (tp 0)) 32,
      rq 70 (.move (tp 10)) 3,
      rq 71 (.indexAddr 32 (tp 69) (tp 70)) 0,
      rq 72 (.load 3 (tp 71)) 3,
      rq 73 (.move (tp 0)) 32,
      rq 74 (.move (tp 9)) 3,
      rq 75 (.indexAddr 32 (tp 73) (tp 74)) 0,
      rq 76 (.load 3 (tp 75)) 3,
      rq 77 (.indexAddr 32 (tp 65) (tp 66)) 0,
      rn (.store 3 (tp 77) (tp 72)) 0,
      rq 78 (.indexAddr 32 (tp 67) (tp 68)) 0,
      rn (.store 3 (tp 78) (tp 76)) 0])
    (.seq (.reg [] [
      rq 79 (.move (tp 9)) 3,
      rq 80 (.binOp .add 3 (tp 79) (ki 1) 3) 3,
      rq 9 (.assign (tp 80)) 3])
    (.reg [] [
      rq 81 (.move (tp 10)) 3,
      rq 82 (.binOp .sub 3 (tp 81) (ki 1) 3) 3,
      rq 10 (.assign (tp 82)) 3])))))))))
 (.seq (.reg [] [
   rq 83 (.move (tp 9)) 3,rq 8 (.assign (tp 83)) 3])
 (.ret)))))
def c71 : RC :=
  .seq (.reg [] [
   rq 8 (.assign (ki 0)) 3,rq 9 (.assign (kb false)) 4])
 (.seq (.reg [0, 1, 2, 3, 4, 5, 6, 7, 8, 9, 10, 11, 12, 13, 14, 15] [
   rq 12 (.move (tp 0)) 32,rq 13 (.move (tp 1)) 3,rq 14 (.move (tp 0)) 32,rq 15 (.move (tp 3)) 3,rq 16 (.move (tp 0)) 32,rq 17 (.move (tp 3)) 3,rq 18 (.indexAddr 32 (tp 16) (tp 17)) 0,rq 19 (.load 3 (tp 18)) 3,rq 20 (.move (tp 0)) 32,rq 21 (.move (tp 1)) 3,rq 22 (.indexAddr 32 (tp 20) (tp 21)) 0,rq 23 (.load 3 (tp 22)) 3,rq 24 (.indexAddr 32 (tp 12) (tp 13)) 0,rn (.store 3 (tp 24) (tp 19)) 0,rq 25 (.indexAddr 32 (tp 14) (tp 15)) 0,rn (.store 3 (tp 25) (tp 23)) 0])
 (.seq (.reg [] [
   rq 26 (.move (tp 1)) 3,rq 27 (.binOp .add 3 (tp 26) (ki 1) 3) 3,rq 28 (.move (tp 2)) 3,rq 29 (.binOp .sub 3 (tp 28) (ki 1) 3) 3,rq 10 (.assign (tp 27)) 3,rq 11 (.assign (tp 29)) 3])
 (.seq (.block 0 (.loop (.seq (.seq (.reg [0, 1, 2, 3, 4, 5, 6, 7, 8, 9, 10, 11, 12, 13] [
     rq 30 (.move (tp 10)) 3,
     rq 31 (.move (tp 11)) 3,
     rq 32 (.binOp .leq 3 (tp 30) (tp 31) 3) 4,
     rq 33 (.move (tp 32)) 4,
     rg 34 (.move (tp 0)) 32 33 true,
     rg 35 (.move (tp 10)) 3 33 true,
     rg 36 (.indexAddr 32 (tp 34) (tp 35)) 0 33 true,
     rg 37 (.load 3 (tp 36)) 3 33 true,
     rg 38 (.move (tp 0)) 32 33 true,
     rg 39 (.move (tp 1)) 3 33 true,
     rg 40 (.indexAddr 32 (tp 38) (tp 39)) 0 33 true,
     rg 41 (.load 3 (tp 40)) 3 33 true,
     rg 42 (cf 69 #[(tp 37), (tp 41)] #[3, 3]) 4 33 true,
     rq 43 (.pick (tp 33) (tp 42) (kb false)) 4])
   (.cond (tp 43) (.skip)
   (.exit 0)))
   (.block 1 (.reg [] [
      rq 44 (.move (tp 10)) 3,
      rq 45 (.binOp .add 3 (tp 44) (ki 1) 3) 3,
      rq 10 (.assign (tp 45)) 3])))))
 (.seq (.block 2 (.loop (.seq (.seq (.reg [0, 1, 2, 3, 4, 5, 6, 7, 8, 9, 10, 11, 12, 13, 14] [
     rq 46 (.move (tp 10)) 3,
     rq 47 (.move (tp 11)) 3,
     rq 48 (.binOp .leq 3 (tp 46) (tp 47) 3) 4,
     rq 49 (.move (tp 48)) 4,
     rg 50 (.move (tp 0)) 32 49 true,
     rg 51 (.move (tp 11)) 3 49 true,
     rg 52 (.indexAddr 32 (tp 50) (tp 51)) 0 49 true,
     rg 53 (.load 3 (tp 52)) 3 49 true,
     rg 54 (.move (tp 0)) 32 49 true,
     rg 55 (.move (tp 1)) 3 49 true,
     rg 56 (.indexAddr 32 (tp 54) (tp 55)) 0 49 true,
     rg 57 (.load 3 (tp 56)) 3 49 true,
     rg 58 (cf 69 #[(tp 53), (tp 57)] #[3, 3]) 4 49 true,
     rg 59 (.unOp .not 4 (tp 58)) 4 49 true,
     rq 60 (.pick (tp 49) (tp 59) (kb false)) 4])
   (.cond (tp 60) (.skip)
   (.exit 2)))
   (.block 3 (.reg [] [
      rq 61 (.move (tp 11)) 3,
      rq 62 (.binOp .sub 3 (tp 61) (ki 1) 3) 3,
      rq 11 (.assign (tp 62)) 3])))))
 (.seq (.seq (.reg [] [
   rq 63 (.move (tp 10)) 3,rq 64 (.move (tp 11)) 3,rq 65 (.binOp .gtr 3 (tp 63) (tp 64) 3) 4])
 (.cond (tp 65) (.seq (.reg [0, 1, 2, 3, 4, 5, 6, 7, 8, 9, 10, 11, 12, 13, 14, 15] [
    rq 66 (.move (tp 0)) 32,
    rq 67 (.move (tp 11)) 3,
    rq 68 (.move (tp 0)) 32,
    rq 69 (.move (tp 1)) 3,
    rq 70 (.move (tp 0)) 32,
    rq 71 (.move (tp 1)) 3,
    rq 72 (.indexAddr 32 (tp 70) (tp 71)) 0,
    rq 73 (.load 3 (tp 72)) 3,
    rq 74 (.move (tp 0)) 32,
    rq 75 (.move (tp 11)) 3,
    rq 76 (.indexAddr 32 (tp 74) (tp 75)) 0,
    rq 77 (.load 3 (tp 76)) 3,
    rq 78 (.indexAddr 32 (tp 66) (tp 67)) 0,
    rn (.store 3 (tp 78) (tp 73)) 0,
    rq 79 (.indexAddr 32 (tp 68) (tp 69)) 0,
    rn (.store 3 (tp 79) (tp 77)) 0])
  (.seq (.reg [] [
    rq 80 (.move (tp 11)) 3,
    rq 8 (.assign (tp 80)) 3,
    rq 9 (.assign (kb true)) 4])
  (.ret)))
 (.skip)))
 (.seq (.reg [0, 1, 2, 3, 4, 5, 6, 7, 8, 9, 10, 11, 12, 13, 14, 15] [
   rq 81 (.move (tp 0)) 32,rq 82 (.move (tp 10)) 3,rq 83 (.move (tp 0)) 32,rq 84 (.move (tp 11)) 3,rq 85 (.move (tp 0)) 32,rq 86 (.move (tp 11)) 3,rq 87 (.indexAddr 32 (tp 85) (tp 86)) 0,rq 88 (.load 3 (tp 87)) 3,rq 89 (.move (tp 0)) 32,rq 90 (.move (tp 10)) 3,rq 91 (.indexAddr 32 (tp 89) (tp 90)) 0,rq 92 (.load 3 (tp 91)) 3,rq 93 (.indexAddr 32 (tp 81) (tp 82)) 0,rn (.store 3 (tp 93) (tp 88)) 0,rq 94 (.indexAddr 32 (tp 83) (tp 84)) 0,rn (.store 3 (tp 94) (tp 92)) 0])
 (.seq (.reg [] [
   rq 95 (.move (tp 10)) 3,rq 96 (.binOp .add 3 (tp 95) (ki 1) 3) 3,rq 10 (.assign (tp 96)) 3])
 (.seq (.reg [] [
   rq 97 (.move (tp 11)) 3,rq 98 (.binOp .sub 3 (tp 97) (ki 1) 3) 3,rq 11 (.assign (tp 98)) 3])
 (.seq (.block 4 (.loop (.block 5 (.seq (.block 6 (.loop (.seq (.seq (.reg [0, 1, 2, 3, 4, 5, 6, 7, 8, 9, 10, 11, 12, 13] [
        rq 99 (.move (tp 10)) 3,
        rq 100 (.move (tp 11)) 3,
        rq 101 (.binOp .leq 3 (tp 99) (tp 100) 3) 4,
        rq 102 (.move (tp 101)) 4,
        rg 103 (.move (tp 0)) 32 102 true,
        rg 104 (.move (tp 10)) 3 102 true,
        rg 105 (.indexAddr 32 (tp 103) (tp 104)) 0 102 true,
        rg 106 (.load 3 (tp 105)) 3 102 true,
        rg 107 (.move (tp 0)) 32 102 true,
        rg 108 (.move (tp 1)) 3 102 true,
        rg 109 (.indexAddr 32 (tp 107) (tp 108)) 0 102 true,
        rg 110 (.load 3 (tp 109)) 3 102 true,
        rg 111 (cf 69 #[(tp 106), (tp 110)] #[3, 3]) 4 102 true,
        rq 112 (.pick (tp 102) (tp 111) (kb false)) 4])
      (.cond (tp 112) (.skip)
      (.exit 6)))
      (.block 7 (.reg [] [
         rq 113 (.move (tp 10)) 3,
         rq 114 (.binOp .add 3 (tp 113) (ki 1) 3) 3,
         rq 10 (.assign (tp 114)) 3])))))
    (.seq (.block 8 (.loop (.seq (.seq (.reg [0, 1, 2, 3, 4, 5, 6, 7, 8, 9, 10, 11, 12, 13, 14] [
        rq 115 (.move (tp 10)) 3,
        rq 116 (.move (tp 11)) 3,
        rq 117 (.binOp .leq 3 (tp 115) (tp 116) 3) 4,
        rq 118 (.move (tp 117)) 4,
        rg 119 (.move (tp 0)) 32 118 true,
        rg 120 (.move (tp 11)) 3 118 true,
        rg 121 (.indexAddr 32 (tp 119) (tp 120)) 0 118 true,
        rg 122 (.load 3 (tp 121)) 3 118 true,
        rg 123 (.move (tp 0)) 32 118 true,
        rg 124 (.move (tp 1)) 3 118 true,
        rg 125 (.indexAddr 32 (tp 123) (tp 124)) 0 118 true,
        rg 126 (.load 3 (tp 125)) 3 118 true,
        rg 127 (cf 69 #[(tp 122), (tp 126)] #[3, 3]) 4 118 true,
        rg 128 (.unOp .not 4 (tp 127)) 4 118 true,
        rq 129 (.pick (tp 118) (tp 128) (kb false)) 4])
      (.cond (tp 129) (.skip)
      (.exit 8)))
      (.block 9 (.reg [] [
         rq 130 (.move (tp 11)) 3,
         rq 131 (.binOp .sub 3 (tp 130) (ki 1) 3) 3,
         rq 11 (.assign (tp 131)) 3])))))
    (.seq (.seq (.reg [] [
      rq 132 (.move (tp 10)) 3,
      rq 133 (.move (tp 11)) 3,
      rq 134 (.binOp .gtr 3 (tp 132) (tp 133) 3) 4])
    (.cond (tp 134) (.exit 4)
    (.skip)))
    (.seq (.reg [0, 1, 2, 3, 4, 5, 6, 7, 8, 9, 10, 11, 12, 13, 14, 15] [
      rq 135 (.move (tp 0)) 32,
      rq 136 (.move (tp 10)) 3,
      rq 137 (.move (tp 0)) 32,
      rq 138 (.move (tp 11)) 3,
      rq 139 (.move (tp 0)) 32,
      rq 140 (.move (tp 11)) 3,
      rq 141 (.indexAddr 32 (tp 139) (tp 140)) 0,
      rq 142 (.load 3 (tp 141)) 3,
      rq 143 (.move (tp 0)) 32,
      rq 144 (.move (tp 10)) 3,
      rq 145 (.indexAddr 32 (tp 143) (tp 144)) 0,
      rq 146 (.load 3 (tp 145)) 3,
      rq 147 (.indexAddr 32 (tp 135) (tp 136)) 0,
      rn (.store 3 (tp 147) (tp 142)) 0,
      rq 148 (.indexAddr 32 (tp 137) (tp 138)) 0,
      rn (.store 3 (tp 148) (tp 146)) 0])
    (.seq (.reg [] [
      rq 149 (.move (tp 10)) 3,
      rq 150 (.binOp .add 3 (tp 149) (ki 1) 3) 3,
      rq 10 (.assign (tp 150)) 3])
    (.reg [] [
      rq 151 (.move (tp 11)) 3,
      rq 152 (.binOp .sub 3 (tp 151) (ki 1) 3) 3,
      rq 11 (.assign (tp 152)) 3])))))))))
 (.seq (.reg [0, 1, 2, 3, 4, 5, 6, 7, 8, 9, 10, 11, 12, 13, 14, 15] [
   rq 153 (.move (tp 0)) 32,rq 154 (.move (tp 11)) 3,rq 155 (.move (tp 0)) 32,rq 156 (.move (tp 1)) 3,rq 157 (.move (tp 0)) 32,rq 158 (.move (tp 1)) 3,rq 159 (.indexAddr 32 (tp 157) (tp 158)) 0,rq 160 (.load 3 (tp 159)) 3,rq 161 (.move (tp 0)) 32,rq 162 (.move (tp 11)) 3,rq 163 (.indexAddr 32 (tp 161) (tp 162)) 0,rq 164 (.load 3 (tp 163)) 3,rq 165 (.indexAddr 32 (tp 153) (tp 154)) 0,rn (.store 3 (tp 165) (tp 160)) 0,rq 166 (.indexAddr 32 (tp 155) (tp 156)) 0,rn (.store 3 (tp 166) (tp 164)) 0])
 (.seq (.reg [] [
   rq 167 (.move (tp 11)) 3,rq 8 (.assign (tp 167)) 3,rq 9 (.assign (kb false)) 4])
 (.ret))))))))))))
def c72 : RC :=
  .seq (.reg [] [
   rq 2 (.assign (ki 0)) 3])
 (.seq (.seq (.reg [] [
   rq 3 (.move (tp 0)) 109,rq 4 (.binOp .geq 109 (tp 3) (.const (.int .u32 65536)) 109) 4])
 (.cond (tp 4) (.seq (.reg [] [
    rq 5 (.move (tp 0)) 109,
    rq 6 (.binOp .shr 109 (tp 5) (.const (.int .u64 16)) 54) 109,
    rq 0 (.assign (tp 6)) 109])
  (.reg [] [
    rq 2 (.assign (ki 16)) 3]))
 (.skip)))
 (.seq (.seq (.reg [] [
   rq 7 (.move (tp 0)) 109,rq 8 (.binOp .geq 109 (tp 7) (.const (.int .u32 256)) 109) 4])
 (.cond (tp 8) (.seq (.reg [] [
    rq 9 (.move (tp 0)) 109,
    rq 10 (.binOp .shr 109 (tp 9) (.const (.int .u64 8)) 54) 109,
    rq 0 (.assign (tp 10)) 109])
  (.reg [] [
    rq 11 (.move (tp 2)) 3,
    rq 12 (.binOp .add 3 (tp 11) (ki 8) 3) 3,
    rq 2 (.assign (tp 12)) 3]))
 (.skip)))
 (.seq (.reg [] [
   rq 13 (.move (tp 2)) 3,rq 14 (.move (tp 0)) 109,rq 15 (.convert 109 5 (tp 14)) 5,rq 16 (.index 9 (.const (.string ⟨#[0, 1, 2, 2, 3, 3, 3, 3, 4, 4, 4, 4, 4, 4, 4, 4, 5, 5, 5, 5, 5, 5, 5, 5, 5, 5, 5, 5, 5, 5, 5, 5, 6, 6, 6, 6, 6, 6, 6, 6, 6, 6, 6, 6, 6, 6, 6, 6, 6, 6, 6, 6, 6, 6, 6, 6, 6, 6, 6, 6, 6, 6, 6, 6, 7, 7, 7, 7, 7, 7, 7, 7, 7, 7, 7, 7, 7, 7, 7, 7, 7, 7, 7, 7, 7, 7, 7, 7, 7, 7, 7, 7, 7, 7, 7, 7, 7, 7, 7, 7, 7, 7, 7, 7, 7, 7, 7, 7, 7, 7, 7, 7, 7, 7, 7, 7, 7, 7, 7, 7, 7, 7, 7, 7, 7, 7, 7, 7, 8, 8, 8, 8, 8, 8, 8, 8, 8, 8, 8, 8, 8, 8, 8, 8, 8, 8, 8, 8, 8, 8, 8, 8, 8, 8, 8, 8, 8, 8, 8, 8, 8, 8, 8, 8, 8, 8, 8, 8, 8, 8, 8, 8, 8, 8, 8, 8, 8, 8, 8, 8, 8, 8, 8, 8, 8, 8, 8, 8, 8, 8, 8, 8, 8, 8, 8, 8, 8, 8, 8, 8, 8, 8, 8, 8, 8, 8, 8, 8, 8, 8, 8, 8, 8, 8, 8, 8, 8, 8, 8, 8, 8, 8, 8, 8, 8, 8, 8, 8, 8, 8, 8, 8, 8, 8, 8, 8, 8, 8, 8, 8, 8, 8, 8, 8, 8, 8, 8, 8, 8, 8, 8, 8, 8, 8, 8, 8]⟩)) (tp 15)) 5,rq 17 (.convert 5 3 (tp 16)) 3,rq 18 (.binOp .add 3 (tp 13) (tp 17) 3) 3,rq 2 (.assign (tp 18)) 3])
 (.ret))))
def c73 : RC :=
  .seq (.reg [] [
   rq 2 (.assign (ki 0)) 3])
 (.seq (.seq (.reg [] [
   rq 3 (.move (tp 0)) 70,rq 4 (.binOp .geq 70 (tp 3) (.const (.int .u64 4294967296)) 70) 4])
 (.cond (tp 4) (.seq (.reg [] [
    rq 5 (.move (tp 0)) 70,
    rq 6 (.binOp .shr 70 (tp 5) (.const (.int .u64 32)) 54) 70,
    rq 0 (.assign (tp 6)) 70])
  (.reg [] [
    rq 2 (.assign (ki 32)) 3]))
 (.skip)))
 (.seq (.seq (.reg [] [
   rq 7 (.move (tp 0)) 70,rq 8 (.binOp .geq 70 (tp 7) (.const (.int .u64 65536)) 70) 4])
 (.cond (tp 8) (.seq (.reg [] [
    rq 9 (.move (tp 0)) 70,
    rq 10 (.binOp .shr 70 (tp 9) (.const (.int .u64 16)) 54) 70,
    rq 0 (.assign (tp 10)) 70])
  (.reg [] [
    rq 11 (.move (tp 2)) 3,
    rq 12 (.binOp .add 3 (tp 11) (ki 16) 3) 3,
    rq 2 (.assign (tp 12)) 3]))
 (.skip)))
 (.seq (.seq (.reg [] [
   rq 13 (.move (tp 0)) 70,rq 14 (.binOp .geq 70 (tp 13) (.const (.int .u64 256)) 70) 4])
 (.cond (tp 14) (.seq (.reg [] [
    rq 15 (.move (tp 0)) 70,
    rq 16 (.binOp .shr 70 (tp 15) (.const (.int .u64 8)) 54) 70,
    rq 0 (.assign (tp 16)) 70])
  (.reg [] [
    rq 17 (.move (tp 2)) 3,
    rq 18 (.binOp .add 3 (tp 17) (ki 8) 3) 3,
    rq 2 (.assign (tp 18)) 3]))
 (.skip)))
 (.seq (.reg [] [
   rq 19 (.move (tp 2)) 3,rq 20 (.move (tp 0)) 70,rq 21 (.convert 70 5 (tp 20)) 5,rq 22 (.index 9 (.const (.string ⟨#[0, 1, 2, 2, 3, 3, 3, 3, 4, 4, 4, 4, 4, 4, 4, 4, 5, 5, 5, 5, 5, 5, 5, 5, 5, 5, 5, 5, 5, 5, 5, 5, 6, 6, 6, 6, 6, 6, 6, 6, 6, 6, 6, 6, 6, 6, 6, 6, 6, 6, 6, 6, 6, 6, 6, 6, 6, 6, 6, 6, 6, 6, 6, 6, 7, 7, 7, 7, 7, 7, 7, 7, 7, 7, 7, 7, 7, 7, 7, 7, 7, 7, 7, 7, 7, 7, 7, 7, 7, 7, 7, 7, 7, 7, 7, 7, 7, 7, 7, 7, 7, 7, 7, 7, 7, 7, 7, 7, 7, 7, 7, 7, 7, 7, 7, 7, 7, 7, 7, 7, 7, 7, 7, 7, 7, 7, 7, 7, 8, 8, 8, 8, 8, 8, 8, 8, 8, 8, 8, 8, 8, 8, 8, 8, 8, 8, 8, 8, 8, 8, 8, 8, 8, 8, 8, 8, 8, 8, 8, 8, 8, 8, 8, 8, 8, 8, 8, 8, 8, 8, 8, 8, 8, 8, 8, 8, 8, 8, 8, 8, 8, 8, 8, 8, 8, 8, 8, 8, 8, 8, 8, 8, 8, 8, 8, 8, 8, 8, 8, 8, 8, 8, 8, 8, 8, 8, 8, 8, 8, 8, 8, 8, 8, 8, 8, 8, 8, 8, 8, 8, 8, 8, 8, 8, 8, 8, 8, 8, 8, 8, 8, 8, 8, 8, 8, 8, 8, 8, 8, 8, 8, 8, 8, 8, 8, 8, 8, 8, 8, 8, 8, 8, 8, 8, 8, 8]⟩)) (tp 21)) 5,rq 23 (.convert 5 3 (tp 22)) 3,rq 24 (.binOp .add 3 (tp 19) (tp 23) 3) 3,rq 2 (.assign (tp 24)) 3])
 (.ret)))))
def c74 : RC :=
  .seq (.reg [] [
   rq 2 (.assign (ki 0)) 3])
 (.seq (.reg [0, 1, 2, 3, 4, 5, 6, 7, 8, 9, 10, 11, 12, 13, 14, 15, 16, 17, 18] [
   rq 3 (.move (tp 0)) 109,rq 4 (.binOp .shr 109 (tp 3) (.const (.int .u64 24)) 54) 109,rq 5 (.index 9 (.const (.string ⟨#[0, 1, 1, 2, 1, 2, 2, 3, 1, 2, 2, 3, 2, 3, 3, 4, 1, 2, 2, 3, 2, 3, 3, 4, 2, 3, 3, 4, 3, 4, 4, 5, 1, 2, 2, 3, 2, 3, 3, 4, 2, 3, 3, 4, 3, 4, 4, 5, 2, 3, 3, 4, 3, 4, 4, 5, 3, 4, 4, 5, 4, 5, 5, 6, 1, 2, 2, 3, 2, 3, 3, 4, 2, 3, 3, 4, 3, 4, 4, 5, 2, 3, 3, 4, 3, 4, 4, 5, 3, 4, 4, 5, 4, 5, 5, 6, 2, 3, 3, 4, 3, 4, 4, 5, 3, 4, 4, 5, 4, 5, 5, 6, 3, 4, 4, 5, 4, 5, 5, 6, 4, 5, 5, 6, 5, 6, 6, 7, 1, 2, 2, 3, 2, 3, 3, 4, 2, 3, 3, 4, 3, 4, 4, 5, 2, 3, 3, 4, 3, 4, 4, 5, 3, 4, 4, 5, 4, 5, 5, 6, 2, 3, 3, 4, 3, 4, 4, 5, 3, 4, 4, 5, 4, 5, 5, 6, 3, 4, 4, 5, 4, 5, 5, 6, 4, 5, 5, 6, 5, 6, 6, 7, 2, 3, 3, 4, 3, 4, 4, 5, 3, 4, 4, 5, 4, 5, 5, 6, 3, 4, 4, 5, 4, 5, 5, 6, 4, 5, 5, 6, 5, 6, 6, 7, 3, 4, 4, 5, 4, 5, 5, 6, 4, 5, 5, 6, 5, 6, 6, 7, 4, 5, 5, 6, 5, 6, 6, 7, 5, 6, 6, 7, 6, 7, 7, 8]⟩)) (tp 4)) 5,rq 6 (.move (tp 0)) 109,rq 7 (.binOp .shr 109 (tp 6) (.const (.int .u64 16)) 54) 109,rq 8 (.binOp .and 109 (tp 7) (.const (.int .u32 255)) 109) 109,rq 9 (.index 9 (.const (.string ⟨#[0, 1, 1, 2, 1, 2, 2, 3, 1, 2, 2, 3, 2, 3, 3, 4, 1, 2, 2, 3, 2, 3, 3, 4, 2, 3, 3, 4, 3, 4, 4, 5, 1, 2, 2, 3, 2, 3, 3, 4, 2, 3, 3, 4, 3, 4, 4, 5, 2, 3, 3, 4, 3, 4, 4, 5, 3, 4, 4, 5, 4, 5, 5, 6, 1, 2, 2, 3, 2, 3, 3, 4, 2, 3, 3, 4, 3, 4, 4, 5, 2, 3, 3, 4, 3, 4, 4, 5, 3, 4, 4, 5, 4, 5, 5, 6, 2, 3, 3, 4, 3, 4, 4, 5, 3, 4, 4, 5, 4, 5, 5, 6, 3, 4, 4, 5, 4, 5, 5, 6, 4, 5, 5, 6, 5, 6, 6, 7, 1, 2, 2, 3, 2, 3, 3, 4, 2, 3, 3, 4, 3, 4, 4, 5, 2, 3, 3, 4, 3, 4, 4, 5, 3, 4, 4, 5, 4, 5, 5, 6, 2, 3, 3, 4, 3, 4, 4, 5, 3, 4, 4, 5, 4, 5, 5, 6, 3, 4, 4, 5, 4, 5, 5, 6, 4, 5, 5, 6, 5, 6, 6, 7, 2, 3, 3, 4, 3, 4, 4, 5, 3, 4, 4, 5, 4, 5, 5, 6, 3, 4, 4, 5, 4, 5, 5, 6, 4, 5, 5, 6, 5, 6, 6, 7, 3, 4, 4, 5, 4, 5, 5, 6, 4, 5, 5, 6, 5, 6, 6, 7, 4, 5, 5, 6, 5, 6, 6, 7, 5, 6, 6, 7, 6, 7, 7, 8]⟩)) (tp 8)) 5,rq 10 (.binOp .add 5 (tp 5) (tp 9) 5) 5,rq 11 (.move (tp 0)) 109,rq 12 (.binOp .shr 109 (tp 11) (.const (.int .u64 8)) 54) 109,rq 13 (.binOp .and 109 (tp 12) (.const (.int .u32 255)) 109) 109,rq 14 (.index 9 (.const (.string ⟨#[0, 1, 1, 2, 1, 2, 2, 3, 1, 2, 2, 3, 2, 3, 3, 4, 1, 2, 2, 3, 2, 3, 3, 4, 2, 3, 3, 4, 3, 4, 4, 5, 1, 2, 2, 3, 2, 3, 3, 4, 2, 3, 3, 4, 3, 4, 4, 5, 2, 3, 3, 4, 3, 4, 4, 5, 3, 4, 4, 5, 4, 5, 5, 6, 1, 2, 2, 3, 2, 3, 3, 4, 2, 3, 3, 4, 3, 4, 4, 5, 2, 3, 3, 4, 3, 4, 4, 5, 3, 4, 4, 5, 4, 5, 5, 6, 2, 3, 3, 4, 3, 4, 4, 5, 3, 4, 4, 5, 4, 5, 5, 6, 3, 4, 4, 5, 4, 5, 5, 6, 4, 5, 5, 6, 5, 6, 6, 7, 1, 2, 2, 3, 2, 3, 3, 4, 2, 3, 3, 4, 3, 4, 4, 5, 2, 3, 3, 4, 3, 4, 4, 5, 3, 4, 4, 5, 4, 5, 5, 6, 2, 3, 3, 4, 3, 4, 4, 5, 3, 4, 4, 5, 4, 5, 5, 6, 3, 4, 4, 5, 4, 5, 5, 6, 4, 5, 5, 6, 5, 6, 6, 7, 2, 3, 3, 4, 3, 4, 4, 5, 3, 4, 4, 5, 4, 5, 5, 6, 3, 4, 4, 5, 4, 5, 5, 6, 4, 5, 5, 6, 5, 6, 6, 7, 3, 4, 4, 5, 4, 5, 5, 6, 4, 5, 5, 6, 5, 6, 6, 7, 4, 5, 5, 6, 5, 6, 6, 7, 5, 6, 6, 7, 6, 7, 7, 8]⟩)) (tp 13)) 5,rq 15 (.binOp .add 5 (tp 10) (tp 14) 5) 5,rq 16 (.move (tp 0)) 109,rq 17 (.binOp .and 109 (tp 16) (.const (.int .u32 255)) 109) 109,rq 18 (.index 9 (.const (.string ⟨#[0, 1, 1, 2, 1, 2, 2, 3, 1, 2, 2, 3, 2, 3, 3, 4, 1, 2, 2, 3, 2, 3, 3, 4, 2, 3, 3, 4, 3, 4, 4, 5, 1, 2, 2, 3, 2, 3, 3, 4, 2, 3, 3, 4, 3, 4, 4, 5, 2, 3, 3, 4, 3, 4, 4, 5, 3, 4, 4, 5, 4, 5, 5, 6, 1, 2, 2, 3, 2, 3, 3, 4, 2, 3, 3, 4, 3, 4, 4, 5, 2, 3, 3, 4, 3, 4, 4, 5, 3, 4, 4, 5, 4, 5, 5, 6, 2, 3, 3, 4, 3, 4, 4, 5, 3, 4, 4, 5, 4, 5, 5, 6, 3, 4, 4, 5, 4, 5, 5, 6, 4, 5, 5, 6, 5, 6, 6, 7, 1, 2, 2, 3, 2, 3, 3, 4, 2, 3, 3, 4, 3, 4, 4, 5, 2, 3, 3, 4, 3, 4, 4, 5, 3, 4, 4, 5, 4, 5, 5, 6, 2, 3, 3, 4, 3, 4, 4, 5, 3, 4, 4, 5, 4, 5, 5, 6, 3, 4, 4, 5, 4, 5, 5, 6, 4, 5, 5, 6, 5, 6, 6, 7, 2, 3, 3, 4, 3, 4, 4, 5, 3, 4, 4, 5, 4, 5, 5, 6, 3, 4, 4, 5, 4, 5, 5, 6, 4, 5, 5, 6, 5, 6, 6, 7, 3, 4, 4, 5, 4, 5, 5, 6, 4, 5, 5, 6, 5, 6, 6, 7, 4, 5, 5, 6, 5, 6, 6, 7, 5, 6, 6, 7, 6, 7, 7, 8]⟩)) (tp 17)) 5,rq 19 (.binOp .add 5 (tp 15) (tp 18) 5) 5,rq 20 (.convert 5 3 (tp 19)) 3,rq 2 (.assign (tp 20)) 3])
 (.ret))
def c75 : RC :=
  .seq (.reg [] [
   rq 2 (.assign (ki 0)) 3])
 (.seq (.reg [] [
   rq 3 (.move (tp 0)) 70,rq 4 (.binOp .shr 70 (tp 3) (.const (.int .u64 1)) 54) 70,rq 5 (.binOp .and 70 (tp 4) (.const (.int .u64 6148914691236517205)) 70) 70,rq 6 (.move (tp 0)) 70,rq 7 (.binOp .and 70 (tp 6) (.const (.int .u64 6148914691236517205)) 70) 70,rq 8 (.binOp .add 70 (tp 5) (tp 7) 70) 70,rq 0 (.assign (tp 8)) 70])
 (.seq (.reg [] [
   rq 9 (.move (tp 0)) 70,rq 10 (.binOp .shr 70 (tp 9) (.const (.int .u64 2)) 54) 70,rq 11 (.binOp .and 70 (tp 10) (.const (.int .u64 3689348814741910323)) 70) 70,rq 12 (.move (tp 0)) 70,rq 13 (.binOp .and 70 (tp 12) (.const (.int .u64 3689348814741910323)) 70) 70,rq 14 (.binOp .add 70 (tp 11) (tp 13) 70) 70,rq 0 (.assign (tp 14)) 70])
 (.seq (.reg [] [
   rq 15 (.move (tp 0)) 70,rq 16 (.binOp .shr 70 (tp 15) (.const (.int .u64 4)) 54) 70,rq 17 (.move (tp 0)) 70,rq 18 (.binOp .add 70 (tp 16) (tp 17) 70) 70,rq 19 (.binOp .and 70 (tp 18) (.const (.int .u64 1085102592571150095)) 70) 70,rq 0 (.assign (tp 19)) 70])
 (.seq (.reg [] [
   rq 20 (.move (tp 0)) 70,rq 21 (.move (tp 0)) 70,rq 22 (.binOp .shr 70 (tp 21) (.const (.int .u64 8)) 54) 70,rq 23 (.binOp .add 70 (tp 20) (tp 22) 70) 70,rq 0 (.assign (tp 23)) 70])
 (.seq (.reg [] [
   rq 24 (.move (tp 0)) 70,rq 25 (.move (tp 0)) 70,rq 26 (.binOp .shr 70 (tp 25) (.const (.int .u64 16)) 54) 70,rq 27 (.binOp .add 70 (tp 24) (tp 26) 70) 70,rq 0 (.assign (tp 27)) 70])
 (.seq (.reg [] [
   rq 28 (.move (tp 0)) 70,rq 29 (.move (tp 0)) 70,rq 30 (.binOp .shr 70 (tp 29) (.const (.int .u64 32)) 54) 70,rq 31 (.binOp .add 70 (tp 28) (tp 30) 70) 70,rq 0 (.assign (tp 31)) 70])
 (.seq (.reg [] [
   rq 32 (.move (tp 0)) 70,rq 33 (.convert 70 3 (tp 32)) 3,rq 34 (.binOp .and 3 (tp 33) (ki 127) 3) 3,rq 2 (.assign (tp 34)) 3])
 (.ret))))))))
def c76 : RC :=
  .seq (.reg [] [
   rq 10 (.move (tp 1)) 3,rq 8 (.assign (tp 10)) 3])
 (.block 0 (.loop (.block 1 (.seq (.reg [] [
      rq 11 (.move (tp 8)) 3,
      rq 12 (.binOp .mul 3 (ki 2) (tp 11) 3) 3,
      rq 13 (.binOp .add 3 (tp 12) (ki 1) 3) 3,
      rq 9 (.assign (tp 13)) 3])
    (.seq (.seq (.reg [] [
      rq 14 (.move (tp 9)) 3,
      rq 15 (.move (tp 2)) 3,
      rq 16 (.binOp .geq 3 (tp 14) (tp 15) 3) 4])
    (.cond (tp 16) (.exit 0)
    (.skip)))
    (.seq (.seq (.reg [0, 1, 2, 3, 4, 5, 6, 7, 8, 9, 10, 11, 12, 13, 14, 15, 16, 17, 18, 19] [
      rq 17 (.move (tp 9)) 3,
      rq 18 (.binOp .add 3 (tp 17) (ki 1) 3) 3,
      rq 19 (.move (tp 2)) 3,
      rq 20 (.binOp .lss 3 (tp 18) (tp 19) 3) 4,
      rq 21 (.move (tp 20)) 4,
      rg 22 (.move (tp 0)) 32 21 true,
      rg 23 (.move (tp 3)) 3 21 true,
      rg 24 (.move (tp 9)) 3 21 true,
      rg 25 (.binOp .add 3 (tp 23) (tp 24) 3) 3 21 true,
      rg 26 (.indexAddr 32 (tp 22) (tp 25)) 0 21 true,
      rg 27 (.load 3 (tp 26)) 3 21 true,
      rg 28 (.move (tp 0)) 32 21 true,
      rg 29 (.move (tp 3)) 3 21 true,
      rg 30 (.move (tp 9)) 3 21 true,
      rg 31 (.binOp .add 3 (tp 29) (tp 30) 3) 3 21 true,
      rg 32 (.binOp .add 3 (tp 31) (ki 1) 3) 3 21 true,
      rg 33 (.indexAddr 32 (tp 28) (tp 32)) 0 21 true,
      rg 34 (.load 3 (tp 33)) 3 21 true,
      rg 35 (cf 69 #[(tp 27), (tp 34)] #[3, 3]) 4 21 true,
      rq 36 (.pick (tp 21) (tp 35) (kb false)) 4])
    (.cond (tp 36) (.reg [] [
       rq 37 (.move (tp 9)) 3,
       rq 38 (.binOp .add 3 (tp 37) (ki 1) 3) 3,
       rq 9 (.assign (tp 38)) 3])
    (.skip)))
    (.seq (.seq (.reg [0, 1, 2, 3, 4, 5, 6, 7, 8, 9, 10, 11, 12, 13] [
      rq 39 (.move (tp 0)) 32,
      rq 40 (.move (tp 3)) 3,
      rq 41 (.move (tp 8)) 3,
      rq 42 (.binOp .add 3 (tp 40) (tp 41) 3) 3,
      rq 43 (.indexAddr 32 (tp 39) (tp 42)) 0,
      rq 44 (.load 3 (tp 43)) 3,
      rq 45 (.move (tp 0)) 32,
      rq 46 (.move (tp 3)) 3,
      rq 47 (.move (tp 9)) 3,
      rq 48 (.binOp .add 3 (tp 46) (tp 47) 3) 3,
      rq 49 (.indexAddr 32 (tp 45) (tp 48)) 0,
      rq 50 (.load 3 (tp 49)) 3,
      rq 51 (cf 69 #[(tp 44), (tp 50)] #[3, 3]) 4,
      rq 52 (.unOp .not 4 (tp 51)) 4])
    (.cond (tp 52) (.ret)
    (.skip)))
    (.seq (.reg [0, 1, 2, 3, 4, 5, 6, 7, 8, 9, 10, 11, 12, 13, 14, 15, 16, 17, 18, 19, 20, 21, 22, 23] [
      rq 53 (.move (tp 0)) 32,
      rq 54 (.move (tp 3)) 3,
      rq 55 (.move (tp 8)) 3,
      rq 56 (.binOp .add 3 (tp 54) (tp 55) 3) 3,
      rq 57 (.move (tp 0)) 32,
      rq 58 (.move (tp 3)) 3,
      rq 59 (.move (tp 9)) 3,
      rq 60 (.binOp .add 3 (tp 58) (tp 59) 3) 3,
      rq 61 (.move (tp 0)) 32,
      rq 62 (.move (tp 3)) 3,
      rq 63 (.move (tp 9)) 3,
      rq 64 (.binOp .add 3 (tp 62) (tp 63) 3) 3,
      rq 65 (.indexAddr 32 (tp 61) (tp 64)) 0,
      rq 66 (.load 3 (tp 65)) 3,
      rq 67 (.move (tp 0)) 32,
      rq 68 (.move (tp 3)) 3,
      rq 69 (.move (tp 8)) 3,
      rq 70 (.binOp .add 3 (tp 68) (tp 69) 3) 3,
      rq 71 (.indexAddr 32 (tp 67) (tp 70)) 0,
      rq 72 (.load 3 (tp 71)) 3,
      rq 73 (.indexAddr 32 (tp 53) (tp 56)) 0,
      rn (.store 3 (tp 73) (tp 66)) 0,
      rq 74 (.indexAddr 32 (tp 57) (tp 60)) 0,
      rn (.store 3 (tp 74) (tp 72)) 0])
    (.reg [] [
      rq 75 (.move (tp 9)) 3,
      rq 8 (.assign (tp 75)) 3])))))))))
def c77 : RC :=
  .seq (.reg [] [
   rq 2 (.assign (.const (.int .u64 0))) 54])
 (.seq (.reg [] [
   rq 3 (.move (tp 0)) 3,rq 4 (.convert 3 54 (tp 3)) 54,rq 5 (cf 55 #[(tp 4)] #[54]) 3,rq 6 (.binOp .shl 54 (.const (.int .u64 1)) (tp 5) 3) 54,rq 2 (.assign (tp 6)) 54])
 (.ret))
def c78 : RC :=
  .seq (.reg [] [
   rq 2 (.assign (.const (.int .u64 0))) 70])
 (.seq (.reg [0, 1, 2, 3, 4, 5, 6, 7, 8, 9] [
   rq 3 (.move (tp 0)) 118,rq 4 (.nilCheck (tp 3)) 0,rq 5 (.load 111 (tp 4)) 111,rq 6 (.move (tp 0)) 118,rq 7 (.nilCheck (tp 6)) 0,rq 8 (.load 111 (tp 7)) 111,rq 9 (.binOp .shl 111 (tp 8) (.const (.int .u64 13)) 54) 111,rq 10 (.binOp .xor 111 (tp 5) (tp 9) 111) 111,rq 11 (.nilCheck (tp 3)) 0,rn (.store 111 (tp 11) (tp 10)) 0])
 (.seq (.reg [0, 1, 2, 3, 4, 5, 6, 7, 8, 9] [
   rq 12 (.move (tp 0)) 118,rq 13 (.nilCheck (tp 12)) 0,rq 14 (.load 111 (tp 13)) 111,rq 15 (.move (tp 0)) 118,rq 16 (.nilCheck (tp 15)) 0,rq 17 (.load 111 (tp 16)) 111,rq 18 (.binOp .shr 111 (tp 17) (.const (.int .u64 7)) 54) 111,rq 19 (.binOp .xor 111 (tp 14) (tp 18) 111) 111,rq 20 (.nilCheck (tp 12)) 0,rn (.store 111 (tp 20) (tp 19)) 0])
 (.seq (.reg [0, 1, 2, 3, 4, 5, 6, 7, 8, 9] [
   rq 21 (.move (tp 0)) 118,rq 22 (.nilCheck (tp 21)) 0,rq 23 (.load 111 (tp 22)) 111,rq 24 (.move (tp 0)) 118,rq 25 (.nilCheck (tp 24)) 0,rq 26 (.load 111 (tp 25)) 111,rq 27 (.binOp .shl 111 (tp 26) (.const (.int .u64 17)) 54) 111,rq 28 (.binOp .xor 111 (tp 23) (tp 27) 111) 111,rq 29 (.nilCheck (tp 21)) 0,rn (.store 111 (tp 29) (tp 28)) 0])
 (.seq (.reg [] [
   rq 30 (.move (tp 0)) 118,rq 31 (.nilCheck (tp 30)) 0,rq 32 (.load 111 (tp 31)) 111,rq 2 (.assign (tp 32)) 70])
 (.ret)))))
def c79 : RC :=
  .seq (.reg [] [
   rq 6 (.assign (ki 0)) 3])
 (.seq (.reg [] [
   rq 7 (.move (tp 0)) 32,rq 8 (.move (tp 1)) 3,rq 9 (.binOp .sub 3 (tp 8) (ki 1) 3) 3,rq 10 (.move (tp 1)) 3,rq 11 (.move (tp 1)) 3,rq 12 (.binOp .add 3 (tp 11) (ki 1) 3) 3,rq 13 (.move (tp 2)) 115,rq 14 (cf 80 #[(tp 7), (tp 9), (tp 10), (tp 12), (tp 13)] #[32, 3, 3, 3, 115]) 3,rq 6 (.assign (tp 14)) 3])
 (.ret))
def c80 : RC :=
  .seq (.reg [] [
   rq 10 (.assign (ki 0)) 3])
 (.seq (.reg [] [
   rq 12 (.move (tp 0)) 32,rq 13 (.move (tp 1)) 3,rq 14 (.move (tp 2)) 3,rq 15 (.move (tp 4)) 115,rq 16 (cf 82 #[(tp 12), (tp 13), (tp 14), (tp 15)] #[32, 3, 3, 115]) 119,rq 11 (.move (tp 16)) 119,rq 17 (.extract (tp 11) 0) 3,rq 18 (.extract (tp 11) 1) 3,rq 1 (.assign (tp 17)) 3,rq 2 (.assign (tp 18)) 3])
 (.seq (.reg [] [
   rq 20 (.move (tp 0)) 32,rq 21 (.move (tp 2)) 3,rq 22 (.move (tp 3)) 3,rq 23 (.move (tp 4)) 115,rq 24 (cf 82 #[(tp 20), (tp 21), (tp 22), (tp 23)] #[32, 3, 3, 115]) 119,rq 19 (.move (tp 24)) 119,rq 25 (.extract (tp 19) 0) 3,rq 26 (.extract (tp 19) 1) 3,rq 2 (.assign (tp 25)) 3,rq 3 (.assign (tp 26)) 3])
 (.seq (.reg [] [
   rq 28 (.move (tp 0)) 32,rq 29 (.move (tp 1)) 3,rq 30 (.move (tp 2)) 3,rq 31 (.move (tp 4)) 115,rq 32 (cf 82 #[(tp 28), (tp 29), (tp 30), (tp 31)] #[32, 3, 3, 115]) 119,rq 27 (.move (tp 32)) 119,rq 33 (.extract (tp 27) 0) 3,rq 34 (.extract (tp 27) 1) 3,rq 1 (.assign (tp 33)) 3,rq 2 (.assign (tp 34)) 3])
 (.seq (.reg [] [
   rq 35 (.move (tp 2)) 3,rq 10 (.assign (tp 35)) 3])
 (.ret)))))
def c81 : RC :=
  .seq (.reg [] [
   rq 2 (.assign (kb false)) 4])
 (.seq (.reg [] [
   rq 3 (.move (tp 0)) 3,rq 4 (.move (tp 0)) 3,rq 5 (.binOp .neq 3 (tp 3) (tp 4) 3) 4,rq 2 (.assign (tp 5)) 4])
 (.ret))
def c82 : RC :=
  .seq (.reg [] [
   rq 8 (.assign (ki 0)) 3,rq 9 (.assign (ki 0)) 3])
 (.seq (.seq (.reg [0, 1, 2, 3, 4, 5, 6, 7, 8] [
   rq 10 (.move (tp 0)) 32,rq 11 (.move (tp 2)) 3,rq 12 (.indexAddr 32 (tp 10) (tp 11)) 0,rq 13 (.load 3 (tp 12)) 3,rq 14 (.move (tp 0)) 32,rq 15 (.move (tp 1)) 3,rq 16 (.indexAddr 32 (tp 14) (tp 15)) 0,rq 17 (.load 3 (tp 16)) 3,rq 18 (cf 69 #[(tp 13), (tp 17)] #[3, 3]) 4])
 (.cond (tp 18) (.seq (.reg [] [
    rq 19 (.move (tp 3)) 115,
    rq 20 (.nilCheck (tp 19)) 0,
    rq 21 (.load 3 (tp 20)) 3,
    rq 22 (.binOp .add 3 (tp 21) (ki 1) 3) 3,
    rq 23 (.nilCheck (tp 19)) 0,
    rn (.store 3 (tp 23) (tp 22)) 0])
  (.seq (.reg [] [
    rq 24 (.move (tp 2)) 3,
    rq 25 (.move (tp 1)) 3,
    rq 8 (.assign (tp 24)) 3,
    rq 9 (.assign (tp 25)) 3])
  (.ret)))
 (.skip)))
 (.seq (.reg [] [
   rq 26 (.move (tp 1)) 3,rq 27 (.move (tp 2)) 3,rq 8 (.assign (tp 26)) 3,rq 9 (.assign (tp 27)) 3])
 (.ret)))
def ti3 : TI := ⟨.int .i64, 1, 8, (some (.int .i64 0)), false⟩
def ti4 : TI := ⟨.bool, 1, 1, (some (.bool false)), false⟩
def ti5 : TI := ⟨.int .u8, 1, 1, (some (.int .u8 0)), false⟩
def ti9 : TI := ⟨.string, 1, 16, (some (.string ⟨#[]⟩)), false⟩
def ti22 : TI := ⟨.slice 50, 1, 24, (some (.slice none 0 0)), false⟩
def ti24 : TI := ⟨.struct #[⟨ "Lanes", 3, 0, false, "", "", 0⟩, ⟨ "Comparators", 22, 1, false, "", "", 8⟩], 2, 32, (some (.agg #[(.int .i64 0), (.slice none 0 0)])), false⟩
def ti28 : TI := ⟨.int .i64, 1, 8, (some (.int .i64 0)), false⟩
def ti32 : TI := ⟨.slice 3, 1, 24, (some (.slice none 0 0)), false⟩
def ti36 : TI := ⟨.slice 32, 1, 24, (some (.slice none 0 0)), false⟩
def ti43 : TI := ⟨.slice 53, 1, 24, (some (.slice none 0 0)), false⟩
def ti45 : TI := ⟨.struct #[⟨ "Lanes", 5, 0, false, "", "", 0⟩, ⟨ "Comparators", 43, 1, false, "", "", 8⟩, ⟨ "Full", 4, 2, false, "", "", 32⟩], 3, 40, (some (.agg #[(.int .u8 0), (.slice none 0 0), (.bool false)])), false⟩
def ti46 : TI := ⟨.int .i8, 1, 1, (some (.int .i8 0)), false⟩
def ti47 : TI := ⟨.array 5 46, 5, 5, (some (.agg #[(.int .i8 0), (.int .i8 0), (.int .i8 0), (.int .i8 0), (.int .i8 0)])), true⟩
def ti50 : TI := ⟨.array 2 3, 2, 16, (some (.agg #[(.int .i64 0), (.int .i64 0)])), true⟩
def ti53 : TI := ⟨.array 2 5, 2, 2, (some (.agg #[(.int .u8 0), (.int .u8 0)])), true⟩
def ti54 : TI := ⟨.int .u64, 1, 8, (some (.int .u64 0)), false⟩
def ti70 : TI := ⟨.int .u64, 1, 8, (some (.int .u64 0)), false⟩
def ti71 : TI := ⟨.array 2 70, 2, 16, (some (.agg #[(.int .u64 0), (.int .u64 0)])), true⟩
def ti73 : TI := ⟨.array 7 71, 14, 112, (some (.agg #[(.int .u64 0), (.int .u64 0), (.int .u64 0), (.int .u64 0), (.int .u64 0), (.int .u64 0), (.int .u64 0), (.int .u64 0), (.int .u64 0), (.int .u64 0), (.int .u64 0), (.int .u64 0), (.int .u64 0), (.int .u64 0)])), true⟩
def ti89 : TI := ⟨.array 7 3, 7, 56, (some (.agg #[(.int .i64 0), (.int .i64 0), (.int .i64 0), (.int .i64 0), (.int .i64 0), (.int .i64 0), (.int .i64 0)])), true⟩
def ti93 : TI := ⟨.map 73 4, 1, 8, (some (.map none)), false⟩
def ti95 : TI := ⟨.struct #[⟨ "rows", 73, 0, false, "", "spadille/table", 0⟩, ⟨ "by", 22, 14, false, "", "spadille/table", 112⟩], 15, 136, (some (.agg #[(.int .u64 0), (.int .u64 0), (.int .u64 0), (.int .u64 0), (.int .u64 0), (.int .u64 0), (.int .u64 0), (.int .u64 0), (.int .u64 0), (.int .u64 0), (.int .u64 0), (.int .u64 0), (.int .u64 0), (.int .u64 0), (.slice none 0 0)])), false⟩
def ti96 : TI := ⟨.slice 95, 1, 24, (some (.slice none 0 0)), false⟩
def ti100 : TI := ⟨.int .i64, 1, 8, (some (.int .i64 0)), false⟩
def ti109 : TI := ⟨.int .u32, 1, 4, (some (.int .u32 0)), false⟩
def ti110 : TI := ⟨.array 64 5, 64, 64, (some (.agg #[(.int .u8 0), (.int .u8 0), (.int .u8 0), (.int .u8 0), (.int .u8 0), (.int .u8 0), (.int .u8 0), (.int .u8 0), (.int .u8 0), (.int .u8 0), (.int .u8 0), (.int .u8 0), (.int .u8 0), (.int .u8 0), (.int .u8 0), (.int .u8 0), (.int .u8 0), (.int .u8 0), (.int .u8 0), (.int .u8 0), (.int .u8 0), (.int .u8 0), (.int .u8 0), (.int .u8 0), (.int .u8 0), (.int .u8 0), (.int .u8 0), (.int .u8 0), (.int .u8 0), (.int .u8 0), (.int .u8 0), (.int .u8 0), (.int .u8 0), (.int .u8 0), (.int .u8 0), (.int .u8 0), (.int .u8 0), (.int .u8 0), (.int .u8 0), (.int .u8 0), (.int .u8 0), (.int .u8 0), (.int .u8 0), (.int .u8 0), (.int .u8 0), (.int .u8 0), (.int .u8 0), (.int .u8 0), (.int .u8 0), (.int .u8 0), (.int .u8 0), (.int .u8 0), (.int .u8 0), (.int .u8 0), (.int .u8 0), (.int .u8 0), (.int .u8 0), (.int .u8 0), (.int .u8 0), (.int .u8 0), (.int .u8 0), (.int .u8 0), (.int .u8 0), (.int .u8 0)])), true⟩
def ti111 : TI := ⟨.int .u64, 1, 8, (some (.int .u64 0)), false⟩
def ti115 : TI := ⟨.pointer 3, 1, 8, (some (.pointer none)), false⟩
def ttTr : Tr TI := (.node none (.node none (.node (some ti3) (.node none (.node none (.node none .nil (.node (some ti95) .nil .nil)) (.node (some ti47) .nil (.node (some ti111) .nil .nil))) (.node none (.node none (.node (some ti71) .nil .nil) .nil) .nil)) (.node none (.node none .nil (.node none .nil (.node (some ti115) .nil .nil))) (.node none (.node (some ti43) .nil .nil) .nil))) (.node (some ti5) (.node (some ti9) .nil (.node none (.node none (.node (some ti73) .nil .nil) .nil) (.node none (.node (some ti89) .nil .nil) .nil))) (.node none (.node none .nil (.node (some ti53) .nil .nil)) (.node none (.node (some ti45) .nil (.node (some ti109) .nil .nil)) (.node none (.node (some ti93) .nil .nil) .nil))))) (.node none (.node (some ti4) (.node none (.node none (.node (some ti32) .nil (.node (some ti96) .nil .nil)) .nil) (.node (some ti24) .nil .nil)) (.node none (.node none (.node (some ti36) .nil (.node (some ti100) .nil .nil)) .nil) (.node (some ti28) .nil .nil))) (.node none (.node none (.node none .nil (.node (some ti50) .nil .nil)) .nil) (.node none (.node (some ti22) (.node none (.node (some ti70) .nil .nil) .nil) (.node (some ti54) .nil .nil)) (.node none (.node (some ti46) .nil (.node (some ti110) .nil .nil)) .nil)))))
noncomputable def tt : TT := ttTr.get
def fnTr : Tr RFn := (.node none (.node none (.node none (.node none (.node (some ⟨26, c15, [.tmp 4]⟩) (.node (some ⟨61, c31, [.tmp 4, .tmp 5, .tmp 6]⟩) (.node (some ⟨49, c63, []⟩) .nil .nil) .nil) (.node (some ⟨43, c47, [.tmp 4]⟩) (.node (some ⟨15, c79, [.tmp 6]⟩) .nil .nil) .nil)) (.node (some ⟨84, c23, [.cell 4 24]⟩) (.node (some ⟨38, c39, [.tmp 4]⟩) (.node (some ⟨168, c71, [.tmp 8, .tmp 9]⟩) .nil .nil) .nil) (.node (some ⟨8, c55, [.tmp 2]⟩) .nil .nil))) (.node (some ⟨25, c11, [.tmp 2, .tmp 3]⟩) (.node (some ⟨53, c19, [.tmp 2, .tmp 3]⟩) (.node (some ⟨4, c35, [.tmp 2]⟩) (.node (some ⟨32, c67, []⟩) .nil .nil) .nil) (.node (some ⟨38, c51, [.cell 2 73]⟩) .nil .nil)) (.node (some ⟨8, c27, [.tmp 2]⟩) (.node (some ⟨26, c43, [.tmp 4]⟩) (.node (some ⟨35, c75, [.tmp 2]⟩) .nil .nil) .nil) (.node (some ⟨9, c59, [.tmp 2]⟩) .nil .nil)))) (.node none (.node (some ⟨19, c9, [.tmp 2, .tmp 3]⟩) (.node (some ⟨39, c17, [.tmp 2, .tmp 3]⟩) (.node (some ⟨83, c33, [.tmp 2, .tmp 3]⟩) (.node (some ⟨65, c65, []⟩) .nil .nil) .nil) (.node none (.node (some ⟨6, c81, [.tmp 2]⟩) .nil .nil) .nil)) (.node (some ⟨8, c25, [.tmp 2]⟩) (.node none (.node (some ⟨25, c73, [.tmp 2]⟩) .nil .nil) .nil) (.node (some ⟨8, c57, [.tmp 2]⟩) .nil .nil))) (.node (some ⟨40, c13, [.tmp 2, .tmp 3]⟩) (.node (some ⟨61, c21, [.tmp 2, .tmp 3]⟩) (.node (some ⟨20, c37, [.tmp 4]⟩) (.node (some ⟨17, c69, [.tmp 4]⟩) .nil .nil) .nil) (.node (some ⟨21, c53, [.cell 4 73]⟩) .nil .nil)) (.node (some ⟨4, c29, [.tmp 2]⟩) (.node none (.node (some ⟨7, c77, [.tmp 2]⟩) .nil .nil) .nil) .nil)))) (.node none (.node none (.node (some ⟨235, c8, [.tmp 0]⟩) (.node (some ⟨27, c16, [.tmp 4]⟩) (.node (some ⟨63, c32, [.tmp 4, .tmp 5]⟩) (.node (some ⟨56, c64, []⟩) .nil .nil) .nil) (.node (some ⟨61, c48, [.tmp 2]⟩) (.node (some ⟨36, c80, [.tmp 10]⟩) .nil .nil) .nil)) (.node (some ⟨63, c24, [.tmp 4, .tmp 5]⟩) (.node none (.node (some ⟨19, c72, [.tmp 2]⟩) .nil .nil) .nil) (.node (some ⟨15, c56, [.tmp 6]⟩) .nil .nil))) (.node none (.node none (.node (some ⟨26, c36, [.tmp 4]⟩) (.node (some ⟨133, c68, [.tmp 6]⟩) .nil .nil) .nil) (.node (some ⟨41, c52, [.cell 4 73]⟩) .nil .nil)) (.node (some ⟨3, c28, [.cell 0 24]⟩) (.node none (.node (some ⟨76, c76, []⟩) .nil .nil) .nil) (.node (some ⟨14, c60, [.tmp 2]⟩) .nil .nil)))) (.node (some ⟨266, c6, [.tmp 6]⟩) (.node none (.node none (.node (some ⟨32, c34, [.cell 4 24]⟩) (.node (some ⟨57, c66, [.tmp 6, .tmp 7]⟩) .nil .nil) .nil) (.node (some ⟨46, c50, [.tmp 2]⟩) (.node (some ⟨28, c82, [.tmp 8, .tmp 9]⟩) .nil .nil) .nil)) (.node (some ⟨11, c26, []⟩) (.node none (.node (some ⟨21, c74, [.tmp 2]⟩) .nil .nil) .nil) (.node (some ⟨21, c58, [.tmp 2]⟩) .nil .nil))) (.node none (.node none (.node (some ⟨17, c38, [.cell 2 73, .tmp 3]⟩) (.node (some ⟨84, c70, [.tmp 8]⟩) .nil .nil) .nil) (.node (some ⟨134, c54, []⟩) .nil .nil)) (.node (some ⟨3, c30, [.cell 0 24]⟩) (.node none (.node (some ⟨33, c78, [.tmp 2]⟩) .nil .nil) .nil) .nil)))))
noncomputable def fns : FuncId → Option RFn := fnTr.get
end Go.TabU
