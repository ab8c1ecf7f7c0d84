/- Made from wip. -/
import Derived.Test.YtpfpakeeaehmhaaDoorSpFramex
import Derived.Test.YtpfpakeeaehmhaaDoorTbWNodes

set_option maxRecDepth 100000
namespace Go.TbW
open Go.Sp
def c7:RC:=SI
def c10:RC:=
 .seq (.reg [] [
  rq 0 (.assign (kb false)) 4])
 (.seq (.reg [] [
   rq 23 (cf 50 #[] #[]) 24,rq 24 (.buildSlice 28 3 #[(0,(ki 9)),(1,(ki (-1))),(2,(ki 4))]) 28,rq 25 (cf 51 #[(tp 24)] #[28]) 28,rq 26 (cf 27 #[(tp 23),(tp 25)] #[24,28]) 30,Ap 22 26 30,EM 27 22 0 28,EM 28 22 1 29,AQ 1 27 28,AQ 2 28 29])
 (.seq (.reg [] [
   rq 30 (cf 50 #[] #[]) 24,rq 31 (cf 46 #[(tp 30)] #[24]) 43,Ap 29 31 43,EM 32 29 0 4,EM 33 29 1 29,AQ 3 32 4,AQ 4 33 29])
 (.seq (.reg [] [
   rq 35 (cf 52 #[] #[]) 24,rq 36 (cf 46 #[(tp 35)] #[24]) 43,Ap 34 36 43,EM 37 34 0 4,EM 38 34 1 29,AQ 5 37 4,AQ 6 38 29])
 (.seq (.reg [] [
   rq 40 (cf 52 #[] #[]) 24,rq 41 (cf 47 #[(tp 40)] #[24]) 30,Ap 39 41 30,EM 42 39 0 28,EM 43 39 1 29,AQ 7 42 28,AQ 8 43 29])
 (.seq (.reg [] [
   rq 45 (cf 52 #[] #[]) 24,rq 46 (cf 48 #[(tp 45)] #[24]) 34,Ap 44 46 34,EM 47 44 0 33,EM 48 44 1 29,AQ 9 47 33,AQ 10 48 29])
 (.seq (.reg [] [
   rq 50 (cf 50 #[] #[]) 24,rq 51 (cf 11 #[(tp 50)] #[24]) 30,Ap 49 51 30,EM 52 49 0 28,EM 53 49 1 29,AQ 11 52 28,AQ 12 53 29])
 (.seq (.reg [] [
   rq 55 (cf 50 #[] #[]) 24,rq 56 (cf 13 #[(tp 55)] #[24]) 30,Ap 54 56 30,EM 57 54 0 28,EM 58 54 1 29,AQ 13 57 28,AQ 14 58 29])
 (.seq (.seq (.reg [] [
   Ap 59 2 29,rq 60 (.binOp .neq 29 (tp 59) (ki 0) 29) 4,Ap 61 60 4,DD 62 4 29 61 false,rg 63 (.binOp .neq 29 (tp 62) (ki 0) 29) 4 61 false,rq 64 (.pick (tp 61) (kb true) (tp 63)) 4,Ap 65 64 4,DD 66 6 29 65 false,rg 67 (.binOp .neq 29 (tp 66) (ki 0) 29) 4 65 false,rq 68 (.pick (tp 65) (kb true) (tp 67)) 4,Ap 69 68 4,DD 70 8 29 69 false,rg 71 (.binOp .neq 29 (tp 70) (ki 0) 29) 4 69 false,rq 72 (.pick (tp 69) (kb true) (tp 71)) 4,Ap 73 72 4,DD 74 10 29 73 false,rg 75 (.binOp .neq 29 (tp 74) (ki 0) 29) 4 73 false,rq 76 (.pick (tp 73) (kb true) (tp 75)) 4,Ap 77 76 4,DD 78 12 29 77 false,rg 79 (.binOp .neq 29 (tp 78) (ki 0) 29) 4 77 false,rq 80 (.pick (tp 77) (kb true) (tp 79)) 4,Ap 81 80 4,DD 82 14 29 81 false,rg 83 (.binOp .neq 29 (tp 82) (ki 0) 29) 4 81 false,rq 84 (.pick (tp 81) (kb true) (tp 83)) 4])
 (.cond (tp 84) (.seq (.reg [] [
   rq 0 (.assign (kb false)) 4])
  (.ret))
 (.skip)))
 (.seq (.reg [] [
   rq 86 (cf 52 #[] #[]) 24,rq 87 (cf 15 #[(tp 86)] #[24]) 34,Ap 85 87 34,EM 88 85 0 33,EM 89 85 1 29,AQ 15 88 33,AQ 2 89 29])
 (.seq (.reg [] [
   rq 91 (cf 52 #[] #[]) 24,rq 92 (cf 19 #[(tp 91),(ki 1)] #[24,3]) 40,Ap 90 92 40,EM 93 90 0 3,EM 94 90 1 3,EM 95 90 2 29,AQ 16 93 3,AQ 17 94 3,AQ 4 95 29])
 (.seq (.reg [] [
   rq 97 (cf 52 #[] #[]) 24,rq 98 (cf 21 #[(tp 97),(ki 2)] #[24,3]) 43,Ap 96 98 43,EM 99 96 0 4,EM 100 96 1 29,AQ 18 99 4,AQ 6 100 29])
 (.seq (.reg [] [
   rq 102 (cf 52 #[] #[]) 24,rq 103 (cf 21 #[(tp 102),(ki 4)] #[24,3]) 43,Ap 101 103 43,EM 104 101 0 4,EM 105 101 1 29,AQ 19 104 4,AQ 8 105 29])
 (.seq (.reg [] [
   rq 107 (cf 52 #[] #[]) 24,rq 108 (cf 23 #[(tp 107)] #[24]) 46,Ap 106 108 46,EM 109 106 0 22,EM 110 106 1 29,AQ 20 109 22,AQ 10 110 29])
 (.seq (.reg [] [
   rq 112 (cf 53 #[(ki 3),(.const (.slice none 0 0))] #[3,28]) 24,rq 113 (cf 23 #[(tp 112)] #[24]) 46,Ap 111 113 46,EM 114 111 0 22,EM 115 111 1 29,AQ 21 114 22,AQ 12 115 29])
 (.seq (.reg [] [
   rq 117 (cf 50 #[] #[]) 24,rq 118 (cf 47 #[(tp 117)] #[24]) 30,Ap 116 118 30,EM 119 116 0 28,EM 120 116 1 29,AQ 14 120 29])
 (.seq (.reg [] [
   Ap 121 2 29,rq 122 (.binOp .eql 29 (tp 121) (ki 0) 29) 4,Ap 123 122 4,DD 124 4 29 123 true,rg 125 (.binOp .eql 29 (tp 124) (ki 0) 29) 4 123 true,rq 126 (.pick (tp 123) (tp 125) (kb false)) 4,Ap 127 126 4,DD 128 6 29 127 true,rg 129 (.binOp .eql 29 (tp 128) (ki 0) 29) 4 127 true,rq 130 (.pick (tp 127) (tp 129) (kb false)) 4,Ap 131 130 4,DD 132 8 29 131 true,rg 133 (.binOp .eql 29 (tp 132) (ki 0) 29) 4 131 true,rq 134 (.pick (tp 131) (tp 133) (kb false)) 4,Ap 135 134 4,DD 136 10 29 135 true,rg 137 (.binOp .eql 29 (tp 136) (ki 0) 29) 4 135 true,rq 138 (.pick (tp 135) (tp 137) (kb false)) 4,Ap 139 138 4,DD 140 12 29 139 true,rg 141 (.binOp .eql 29 (tp 140) (ki 0) 29) 4 139 true,rq 142 (.pick (tp 139) (tp 141) (kb false)) 4,Ap 143 142 4,DD 144 14 29 143 true,rg 145 (.binOp .eql 29 (tp 144) (ki 13) 29) 4 143 true,rq 146 (.pick (tp 143) (tp 145) (kb false)) 4,Ap 147 146 4,DD 148 3 4 147 true,rq 149 (.pick (tp 147) (tp 148) (kb false)) 4,Ap 150 149 4,DD 151 5 4 150 true,rg 152 (.unOp .not 4 (tp 151)) 4 150 true,rq 153 (.pick (tp 150) (tp 152) (kb false)) 4,Ap 154 153 4,DD 155 18 4 154 true,rg 156 (.unOp .not 4 (tp 155)) 4 154 true,rq 157 (.pick (tp 154) (tp 156) (kb false)) 4,Ap 158 157 4,DD 159 19 4 158 true,rq 160 (.pick (tp 158) (tp 159) (kb false)) 4,Ap 161 160 4,DD 162 16 3 161 true,rg 163 (.binOp .eql 3 (tp 162) (ki 1) 3) 4 161 true,rq 164 (.pick (tp 161) (tp 163) (kb false)) 4,Ap 165 164 4,DD 166 17 3 165 true,rg 167 (.binOp .eql 3 (tp 166) (ki 2) 3) 4 165 true,rq 168 (.pick (tp 165) (tp 167) (kb false)) 4,Ap 169 168 4,DD 170 9 33 169 true,rg 171 (cb .len #[(tp 170)] #[33]) 3 169 true,rg 172 (.binOp .eql 3 (tp 171) (ki 6) 3) 4 169 true,rq 173 (.pick (tp 169) (tp 172) (kb false)) 4,Ap 174 173 4,DD 175 11 28 174 true,rg 176 (cb .len #[(tp 175)] #[28]) 3 174 true,rg 177 (.binOp .eql 3 (tp 176) (ki 0) 3) 4 174 true,rq 178 (.pick (tp 174) (tp 177) (kb false)) 4,Ap 179 178 4,DD 180 1 28 179 true,rg 181 (.buildSlice 28 3 #[(0,(ki (-1))),(1,(ki 4)),(2,(ki 9))]) 28 179 true,rg 182 (cf 51 #[(tp 181)] #[28]) 28 179 true,rg 183 (cf 17 #[(tp 180),(tp 182)] #[28,28]) 4 179 true,rq 184 (.pick (tp 179) (tp 183) (kb false)) 4,Ap 185 184 4,DD 186 7 28 185 true,rg 187 (.buildSlice 28 4 #[(0,(ki 0)),(1,(ki 1)),(2,(ki 0)),(3,(ki 1))]) 28 185 true,rg 188 (cf 51 #[(tp 187)] #[28]) 28 185 true,rg 189 (cf 17 #[(tp 186),(tp 188)] #[28,28]) 4 185 true,rq 190 (.pick (tp 185) (tp 189) (kb false)) 4,Ap 191 190 4,DD 192 13 28 191 true,rg 193 (.buildSlice 28 3 #[(0,(ki 0)),(1,(ki 1)),(2,(ki 2))]) 28 191 true,rg 194 (cf 51 #[(tp 193)] #[28]) 28 191 true,rg 195 (cf 17 #[(tp 192),(tp 194)] #[28,28]) 4 191 true,rq 196 (.pick (tp 191) (tp 195) (kb false)) 4,Ap 197 196 4,DD 198 15 33 197 true,rg 199 (.buildSlice 28 2 #[(0,(ki 0)),(1,(ki 1))]) 28 197 true,rg 200 (cf 51 #[(tp 199)] #[28]) 28 197 true,rg 201 (.buildSlice 28 2 #[(0,(ki 2)),(1,(ki 3))]) 28 197 true,rg 202 (cf 51 #[(tp 201)] #[28]) 28 197 true,rg 203 (.buildSlice 33 2 #[(0,(tp 200)),(1,(tp 202))]) 33 197 true,rg 204 (cf 54 #[(tp 203)] #[33]) 33 197 true,rg 205 (cf 18 #[(tp 198),(tp 204)] #[33,33]) 4 197 true,rq 206 (.pick (tp 197) (tp 205) (kb false)) 4,Ap 207 206 4,DD 208 20 22 207 true,rg 209 (.build 58 #[(0,(ki 1)),(1,(ki 2))]) 58 207 true,rg 210 (.buildSlice 22 1 #[(0,(tp 209))]) 22 207 true,rg 211 (cf 25 #[(tp 208),(tp 210)] #[22,22]) 4 207 true,rq 212 (.pick (tp 207) (tp 211) (kb false)) 4,Ap 213 212 4,DD 214 21 22 213 true,rg 215 (.build 58 #[(0,(ki 0)),(1,(ki 1))]) 58 213 true,rg 216 (.build 58 #[(0,(ki 0)),(1,(ki 2))]) 58 213 true,rg 217 (.build 58 #[(0,(ki 1)),(1,(ki 2))]) 58 213 true,rg 218 (.buildSlice 22 3 #[(0,(tp 215)),(1,(tp 216)),(2,(tp 217))]) 22 213 true,rg 219 (cf 25 #[(tp 214),(tp 218)] #[22,22]) 4 213 true,rq 220 (.pick (tp 213) (tp 219) (kb false)) 4,Ap 221 220 4,rg 222 (cf 52 #[] #[]) 24 221 true,rg 223 (.buildSlice 28 4 #[(0,(ki 0)),(1,(ki 1)),(2,(ki 0)),(3,(ki 1))]) 28 221 true,rg 224 (cf 51 #[(tp 223)] #[28]) 28 221 true,rg 225 (cf 49 #[(tp 222),(tp 224)] #[24,28]) 29 221 true,rg 226 (.binOp .eql 29 (tp 225) (ki 0) 29) 4 221 true,rq 227 (.pick (tp 221) (tp 226) (kb false)) 4,Ap 228 227 4,rg 229 (cf 52 #[] #[]) 24 228 true,rg 230 (.buildSlice 28 4 #[(0,(ki 4)),(1,(ki 3)),(2,(ki 2)),(3,(ki 1))]) 28 228 true,rg 231 (cf 51 #[(tp 230)] #[28]) 28 228 true,rg 232 (cf 49 #[(tp 229),(tp 231)] #[24,28]) 29 228 true,rg 233 (.binOp .eql 29 (tp 232) (ki 14) 29) 4 228 true,rq 234 (.pick (tp 228) (tp 233) (kb false)) 4,AQ 0 234 4])
 (.ret)))))))))))))))))
def c11:RC:=PK
def c13:RC:=PL
def c15:RC:=
 .seq (.reg [] [
  rq 1 (.box 24 (tp 0)) 0,rq 2 (.assign (.const (.slice none 0 0))) 33,Cz 3 0 29])
 (.seq (.seq (.reg [] [
   Ce 10 1 24,rq 11 (cf 55 #[(tp 10)] #[24]) 29,AQ 4 11 29])
 (.seq (.reg [] [
   Ap 12 4 29,rq 13 (.binOp .neq 29 (tp 12) (ki 0) 29) 4])
 (.cond (tp 13) (.seq (.reg [] [
   Ap 14 4 29,
   rq 2 (.assign (.const (.slice none 0 0))) 33,
   AQ 3 14 29])
  (.ret))
 (.skip))))
 (.seq (.reg [] [
   rq 5 (.assign (.const (.slice none 0 0))) 33])
 (.seq (.reg [] [
   rq 6 (.alloc 95) 0])
 (.seq (.seq (.reg [] [
   DR 15 24 1 1,Ce 16 15 22,EN 17 16 22,rq 18 (.move (ki 0)) 3])
 (.block 0 (.loop (.seq (.reg [] [
   L8 19 18 17])
   (.seq (.cond (tp 19) (.skip)
   (.exit 0))
   (.seq (.block 1 (.seq (.reg [] [
     Ap 20 18 3,
     D5 21 22 16 18,
     Ce 22 21 58,
     rq 8 (.alloc 58) 0,
     AQ 7 20 3,
     rn (.store 58 (tp 8) (tp 22)) 0])
    (.seq (.reg [0, 1, 2, 3, 4, 5, 6, 7, 8, 9] [
      rq 23 (.indexAddr 58 (tp 8) (ki 0)) 0,
      Ce 24 23 3,
      D5 25 95 6 24,
      Ce 26 25 3,
      rq 27 (.indexAddr 58 (tp 8) (ki 1)) 0,
      Ce 28 27 3,
      D5 29 95 6 28,
      Ce 30 29 3,
      rq 31 (cb .max #[(tp 26),(tp 30)] #[3,3]) 3,
      AQ 9 31 3])
    (.seq (.seq (.reg [] [
      Ap 32 9 3,
      Ap 33 5 33,
      EN 34 33 33,
      rq 35 (.binOp .eql 3 (tp 32) (tp 34) 3) 4])
    (.cond (tp 35) (.reg [] [
      Ap 36 5 33,
      rq 37 (.buildSlice 33 1 #[(0,(.const (.slice none 0 0)))]) 33,
      rq 38 (cb .append #[(tp 36),(tp 37)] #[33,33]) 33,
      AQ 5 38 33])
    (.skip)))
    (.seq (.reg [] [
      Ap 39 5 33,
      Ap 40 9 3,
      Ap 41 5 33,
      Ap 42 9 3,
      D5 43 33 41 42,
      Ce 44 43 28,
      Ap 45 7 3,
      rq 46 (.buildSlice 28 1 #[(0,(tp 45))]) 28,
      rq 47 (cb .append #[(tp 44),(tp 46)] #[28,28]) 28,
      D5 48 33 39 40,
      rn (.store 28 (tp 48) (tp 47)) 0])
    (.reg [0, 1, 2, 3, 4, 5, 6, 7, 8, 9, 10, 11] [
      rq 49 (.indexAddr 58 (tp 8) (ki 0)) 0,
      Ce 50 49 3,
      rq 51 (.indexAddr 58 (tp 8) (ki 1)) 0,
      Ce 52 51 3,
      Ap 53 9 3,
      FB 54 53,
      Ap 55 9 3,
      FB 56 55,
      D5 57 95 6 50,
      ⟨none,.store 3 (tp 57) (tp 54),0,none,[(tp 51)]⟩,
      D5 58 95 6 52,
      rn (.store 3 (tp 58) (tp 56)) 0]))))))
   (.reg [] [
     FB 59 18,
     Ap 18 59 3])))))))
 (.seq (.reg [] [
   Ap 60 5 33,AQ 2 60 33,Cz 3 0 29])
 (.ret))))))
def c17:RC:=Oi
def c18:RC:=
 .seq (.reg [] [
  rq 4 (.assign (kb false)) 4])
 (.seq (.seq (.reg [] [
   Ap 6 0 33,EN 7 6 33,Ap 8 1 33,EN 9 8 33,rq 10 (.binOp .neq 3 (tp 7) (tp 9) 3) 4])
 (.cond (tp 10) (.seq (.reg [] [
   rq 4 (.assign (kb false)) 4])
  (.ret))
 (.skip)))
 (.seq (.seq (.reg [] [
   Cz 5 0 3])
 (.block 0 (.loop (.seq (.seq (.reg [] [
   Ap 11 5 3,
   Ap 12 0 33,
   EN 13 12 33,
   rq 14 (.binOp .lss 3 (tp 11) (tp 13) 3) 4])
   (.cond (tp 14) (.skip)
   (.exit 0)))
   (.seq (.block 1 (.seq (.reg [0, 1, 2, 3, 4, 5, 6, 7, 8, 9] [
     Ap 17 0 33,
     Ap 18 5 3,
     D5 19 33 17 18,
     Ce 20 19 28,
     Ap 21 1 33,
     Ap 22 5 3,
     D5 23 33 21 22,
     Ce 24 23 28,
     rq 25 (cf 17 #[(tp 20),(tp 24)] #[28,28]) 4,
     rq 26 (.unOp .not 4 (tp 25)) 4])
    (.cond (tp 26) (.seq (.reg [] [
      rq 4 (.assign (kb false)) 4])
     (.ret))
    (.skip))))
   (.reg [] [
     Ap 15 5 3,
     FB 16 15,
     AQ 5 16 3]))))))
 (.seq (.reg [] [
   rq 4 (.assign (kb true)) 4])
 (.ret))))
def c19:RC:=
 .seq (.reg [] [
  rq 2 (.box 24 (tp 0)) 0,Cz 4 0 3,Cz 5 0 3,Cz 6 0 29])
 (.seq (.reg [] [
   Ce 11 2 24,rq 12 (cf 64 #[(tp 11)] #[24]) 96,Ap 10 12 96,EM 13 10 0 86,EM 14 10 1 29,rq 7 (.alloc 86) 0,rn (.store 86 (tp 7) (tp 13)) 0,AQ 6 14 29])
 (.seq (.block 0 (.seq (.reg [] [
   Ap 16 6 29,
   rq 17 (.binOp .neq 29 (tp 16) (ki 0) 29) 4,
   AQ 15 17 4])
  (.cond (tp 15) (.seq (.reg [] [
    Ap 18 6 29,
    Cz 4 0 3,
    Cz 5 0 3,
    AQ 6 18 29])
   (.ret))
  (.seq (.reg [] [
    Ap 20 1 3,
    DR 21 24 2 0,
    Ce 22 21 3,
    rq 23 (.binOp .sub 3 (tp 22) (ki 1) 3) 3,
    rq 24 (cf 65 #[(ki 0),(tp 20),(tp 23)] #[3,3,3]) 4,
    rq 25 (.unOp .not 4 (tp 24)) 4,
    AQ 19 25 4])
   (.cond (tp 19) (.seq (.reg [] [
     Cz 4 0 3,
     Cz 5 0 3,
     Cz 6 2 29])
    (.ret))
   (.skip))))))
 (.seq (.reg [] [
   DR 26 24 2 0,Ce 27 26 3,AQ 4 27 3])
 (.seq (.seq (.reg [] [
   DR 28 24 2 0,Ce 29 28 3,rq 30 (.binOp .shl 3 (ki 1) (tp 29) 3) 3,rq 31 (.move (ki 0)) 3])
 (.block 1 (.loop (.seq (.reg [] [
   rq 32 (.binOp .lss 3 (tp 31) (tp 30) 3) 4])
   (.seq (.cond (tp 32) (.skip)
   (.exit 1))
   (.seq (.block 2 (.seq (.reg [] [
     Ap 33 31 3,
     AQ 8 33 3])
    (.seq (.reg [0, 1, 2, 3, 4, 5, 6] [
      DR 34 24 2 0,
      Ce 35 34 3,
      Ap 36 8 3,
      rq 37 (.convert 3 100 (tp 36)) 100,
      ⟨(some 38),cf 66 #[(tp 37)] #[100],3,none,[(tp 34)]⟩,
      rq 39 (.binOp .sub 3 (tp 35) (tp 38) 3) 3,
      AQ 9 39 3])
    (.seq (.reg [] [
      Ap 40 1 3,
      Ap 41 8 3,
      rq 42 (.binOp .quo 3 (tp 41) (ki 64) 3) 3,
      D5 43 86 7 40,
      D5 44 84 43 42,
      Ce 45 44 83,
      Ap 46 8 3,
      rq 47 (.binOp .rem 3 (tp 46) (ki 64) 3) 3,
      rq 48 (.binOp .shr 83 (tp 45) (tp 47) 3) 83,
      rq 49 (.binOp .and 83 (tp 48) (.const (.int .u64 1)) 83) 83,
      rq 50 (.binOp .eql 83 (tp 49) (.const (.int .u64 0)) 83) 4])
    (.cond (tp 50) (.reg [] [
      Ap 51 4 3,
      Ap 52 9 3,
      rq 53 (.binOp .sub 3 (tp 52) (ki 1) 3) 3,
      rq 54 (cb .min #[(tp 51),(tp 53)] #[3,3]) 3,
      AQ 4 54 3])
    (.reg [] [
      Ap 55 5 3,
      Ap 56 9 3,
      rq 57 (cb .max #[(tp 55),(tp 56)] #[3,3]) 3,
      AQ 5 57 3]))))))
   (.reg [] [
     FB 58 31,
     Ap 31 58 3])))))))
 (.seq (.reg [] [
   Ap 59 4 3,Ap 60 5 3,AQ 4 59 3,AQ 5 60 3,Cz 6 0 29])
 (.ret))))))
def c21:RC:=
 .seq (.reg [] [
  rq 2 (.box 24 (tp 0)) 0,rq 4 (.assign (kb false)) 4,Cz 5 0 29])
 (.seq (.reg [] [
   Ce 12 2 24,rq 13 (cf 55 #[(tp 12)] #[24]) 29,AQ 6 13 29])
 (.seq (.block 0 (.seq (.reg [] [
   Ap 15 6 29,
   rq 16 (.binOp .neq 29 (tp 15) (ki 0) 29) 4,
   AQ 14 16 4])
  (.cond (tp 14) (.seq (.reg [] [
    Ap 17 6 29,
    rq 4 (.assign (kb false)) 4,
    AQ 5 17 29])
   (.ret))
  (.seq (.reg [] [
    Ap 19 1 3,
    DR 20 24 2 0,
    Ce 21 20 3,
    rq 22 (cf 65 #[(ki 0),(tp 19),(tp 21)] #[3,3,3]) 4,
    rq 23 (.unOp .not 4 (tp 22)) 4,
    AQ 18 23 4])
   (.cond (tp 18) (.seq (.reg [] [
     rq 4 (.assign (kb false)) 4,
     Cz 5 1 29])
    (.ret))
   (.skip))))))
 (.seq (.seq (.reg [] [
   Ap 24 1 3,FB 25 24,rq 26 (.move (ki 0)) 3])
 (.block 1 (.loop (.seq (.reg [] [
   rq 27 (.binOp .lss 3 (tp 26) (tp 25) 3) 4])
   (.seq (.cond (tp 27) (.skip)
   (.exit 1))
   (.seq (.block 2 (.seq (.reg [] [
     Ap 28 26 3,
     AQ 7 28 3])
    (.seq (.reg [] [
      DR 29 24 2 0,
      Ce 30 29 3,
      Ap 31 1 3,
      rq 32 (.binOp .sub 3 (tp 30) (tp 31) 3) 3,
      FB 33 32,
      rq 34 (.move (ki 0)) 3])
    (.block 3 (.loop (.seq (.reg [] [
      rq 35 (.binOp .lss 3 (tp 34) (tp 33) 3) 4])
      (.seq (.cond (tp 35) (.skip)
      (.exit 3))
      (.seq (.block 4 (.seq (.reg [] [
        Ap 36 34 3,
        AQ 8 36 3])
       (.seq (.reg [0, 1, 2, 3, 4, 5, 6, 7, 8, 9, 10, 11, 12] [
         Ap 37 7 3,
         rq 38 (.binOp .shl 3 (ki 1) (tp 37) 3) 3,
         rq 39 (.binOp .sub 3 (tp 38) (ki 1) 3) 3,
         DR 40 24 2 0,
         Ce 41 40 3,
         Ap 42 1 3,
         rq 43 (.binOp .sub 3 (tp 41) (tp 42) 3) 3,
         rq 44 (.binOp .shl 3 (tp 39) (tp 43) 3) 3,
         Ap 45 8 3,
         rq 46 (.binOp .shl 3 (ki 1) (tp 45) 3) 3,
         rq 47 (.binOp .sub 3 (tp 46) (ki 1) 3) 3,
         rq 48 (.binOp .or 3 (tp 44) (tp 47) 3) 3,
         AQ 9 48 3])
       (.seq (.reg [0, 1, 2, 3, 4, 5, 6, 7, 8, 9, 10] [
         Ce 50 2 24,
         DR 51 24 2 0,
         Ce 52 51 3,
         Ap 53 9 3,
         ⟨(some 54),cf 69 #[(tp 52),(tp 53)] #[3,3],28,none,[(tp 2)]⟩,
         rq 55 (cf 27 #[(tp 50),(tp 54)] #[24,28]) 30,
         Ap 49 55 30,
         EM 56 49 0 28,
         EM 57 49 1 29,
         AQ 10 56 28,
         AQ 11 57 29])
       (.seq (.reg [] [
         Ap 58 10 28,
         rq 59 (cf 33 #[(tp 58)] #[28]) 4,
         rq 60 (.unOp .not 4 (tp 59)) 4])
       (.cond (tp 60) (.seq (.reg [] [
         rq 4 (.assign (kb false)) 4,
         Cz 5 0 29])
        (.ret))
       (.skip)))))))
      (.reg [] [
        FB 61 34,
        Ap 34 61 3])))))))))
   (.reg [] [
     FB 62 26,
     Ap 26 62 3])))))))
 (.seq (.reg [] [
   rq 4 (.assign (kb true)) 4,Cz 5 0 29])
 (.ret)))))
def c23:RC:=
 .seq (.reg [] [
  rq 1 (.box 24 (tp 0)) 0,rq 2 (.assign (.const (.slice none 0 0))) 22,Cz 3 0 29])
 (.seq (.reg [] [
   Ce 13 1 24,rq 14 (cf 64 #[(tp 13)] #[24]) 96,Ap 12 14 96,EM 15 12 0 86,EM 16 12 1 29,rq 4 (.alloc 86) 0,rn (.store 86 (tp 4) (tp 15)) 0,AQ 5 16 29])
 (.seq (.block 0 (.seq (.reg [] [
   Ap 18 5 29,
   rq 19 (.binOp .neq 29 (tp 18) (ki 0) 29) 4,
   AQ 17 19 4])
  (.cond (tp 17) (.seq (.reg [] [
    Ap 20 5 29,
    rq 2 (.assign (.const (.slice none 0 0))) 22,
    AQ 3 20 29])
   (.ret))
  (.seq (.reg [] [
    DR 22 24 1 0,
    Ce 23 22 3,
    rq 24 (.binOp .gtr 3 (tp 23) (ki 4) 3) 4,
    AQ 21 24 4])
   (.cond (tp 21) (.seq (.reg [] [
     rq 2 (.assign (.const (.slice none 0 0))) 22,
     Cz 3 3 29])
    (.ret))
   (.skip))))))
 (.seq (.reg [] [
   rq 25 (.makeMap 103 none) 103,Ce 26 4 86,rn (.insert 103 (tp 25) (tp 26) (kb true)) 0,Ap 27 25 103,AQ 6 27 103])
 (.seq (.reg [] [
   Ce 28 4 86,rq 29 (.build 105 #[(0,(tp 28))]) 105,rq 30 (.buildSlice 106 1 #[(0,(tp 29))]) 106,AQ 7 30 106])
 (.block 1 (.loop (.seq (.block 2 (.seq (.reg [] [
   Ap 33 7 106,
   rq 34 (.indexAddr 106 (tp 33) (ki 0)) 0,
   Ce 35 34 105,
   rq 8 (.alloc 105) 0,
   rn (.store 105 (tp 8) (tp 35)) 0])
   (.seq (.seq (.reg [] [
     DR 36 105 8 0,
     Ce 37 36 86,
     DR 38 24 1 0,
     Ce 39 38 3,
     rq 40 (cf 61 #[(tp 37),(tp 39)] #[86,3]) 3,
     rq 41 (.binOp .lss 3 (tp 40) (ki 0) 3) 4])
   (.cond (tp 41) (.seq (.reg [] [
     DR 42 105 8 1,
     Ce 43 42 22,
     AQ 2 43 22,
     Cz 3 0 29])
    (.ret))
   (.skip)))
   (.seq (.reg [] [
     DR 44 24 1 0,
     Ce 45 44 3,
     rq 46 (.move (ki 0)) 3])
   (.block 3 (.loop (.seq (.reg [] [
     rq 47 (.binOp .lss 3 (tp 46) (tp 45) 3) 4])
     (.seq (.cond (tp 47) (.skip)
     (.exit 3))
     (.seq (.block 4 (.seq (.reg [] [
       Ap 48 46 3,
       AQ 9 48 3])
      (.seq (.reg [] [
        Ap 49 9 3,
        FB 50 49,
        AQ 10 50 3])
      (.block 5 (.loop (.seq (.seq (.reg [] [
        Ap 51 10 3,
        DR 52 24 1 0,
        Ce 53 52 3,
        rq 54 (.binOp .lss 3 (tp 51) (tp 53) 3) 4])
        (.cond (tp 54) (.skip)
        (.exit 5)))
        (.seq (.block 6 (.seq (.reg [] [
          DR 57 105 8 0,
          Ce 58 57 86,
          Ap 59 9 3,
          Ap 60 10 3,
          rq 61 (.build 58 #[(0,(tp 59)),(1,(tp 60))]) 58,
          rq 62 (cf 57 #[(tp 58),(tp 61)] #[86,58]) 86,
          rq 11 (.alloc 86) 0,
          rn (.store 86 (tp 11) (tp 62)) 0])
         (.seq (.reg [] [
           Ap 63 6 103,
           Ce 64 11 86,
           rq 65 (.lookup 103 (tp 63) (tp 64) false) 4,
           rq 66 (.unOp .not 4 (tp 65)) 4])
         (.cond (tp 66) (.seq (.reg [] [
           Ap 67 6 103,
           Ce 68 11 86,
           rn (.mapUpdate 103 (tp 67) (tp 68) (kb true)) 0])
          (.reg [0, 1, 2, 3, 5, 6, 7, 8, 4, 9, 10, 11, 12, 13] [
            Ap 69 7 106,
            Ce 70 11 86,
            DR 71 105 8 1,
            Ce 72 71 22,
            Ap 74 9 3,
            Ap 75 10 3,
            rq 76 (.build 58 #[(0,(tp 74)),(1,(tp 75))]) 58,
            rq 77 (.buildSlice 22 1 #[(0,(tp 76))]) 22,
            ⟨(some 73),cf 35 #[(tp 72)] #[22],22,none,[(tp 11)]⟩,
            ⟨(some 78),cb .append #[(tp 73),(tp 77)] #[22,22],22,none,[(tp 11)]⟩,
            rq 79 (.build 105 #[(0,(tp 70)),(1,(tp 78))]) 105,
            rq 80 (.buildSlice 106 1 #[(0,(tp 79))]) 106,
            rq 81 (cb .append #[(tp 69),(tp 80)] #[106,106]) 106,
            AQ 7 81 106]))
         (.skip)))))
        (.reg [] [
          Ap 55 10 3,
          FB 56 55,
          AQ 10 56 3]))))))))
     (.reg [] [
       FB 82 46,
       Ap 46 82 3]))))))))))
   (.reg [] [
     Ap 31 7 106,
     rq 32 (.slice 106 (tp 31) (some (ki 1)) none none) 106,
     AQ 7 32 106]))))))))
def c25:RC:=
 .seq (.reg [] [
  rq 4 (.assign (kb false)) 4])
 (.seq (.seq (.reg [] [
   Ap 6 0 22,EN 7 6 22,Ap 8 1 22,EN 9 8 22,rq 10 (.binOp .neq 3 (tp 7) (tp 9) 3) 4])
 (.cond (tp 10) (.seq (.reg [] [
   rq 4 (.assign (kb false)) 4])
  (.ret))
 (.skip)))
 (.seq (.seq (.reg [] [
   Cz 5 0 3])
 (.block 0 (.loop (.seq (.seq (.reg [] [
   Ap 11 5 3,
   Ap 12 0 22,
   EN 13 12 22,
   rq 14 (.binOp .lss 3 (tp 11) (tp 13) 3) 4])
   (.cond (tp 14) (.skip)
   (.exit 0)))
   (.seq (.block 1 (.seq (.reg [0, 1, 2, 3, 4, 5, 6, 7, 8] [
     Ap 17 0 22,
     Ap 18 5 3,
     D5 19 22 17 18,
     Ce 20 19 58,
     Ap 21 1 22,
     Ap 22 5 3,
     D5 23 22 21 22,
     Ce 24 23 58,
     rq 25 (.binOp .neq 58 (tp 20) (tp 24) 58) 4])
    (.cond (tp 25) (.seq (.reg [] [
      rq 4 (.assign (kb false)) 4])
     (.ret))
    (.skip))))
   (.reg [] [
     Ap 15 5 3,
     FB 16 15,
     AQ 5 16 3]))))))
 (.seq (.reg [] [
   rq 4 (.assign (kb true)) 4])
 (.ret))))
def c26:RC:=PM
def c27:RC:=PN
def c32:RC:=PO
def c33:RC:=PP
def c35:RC:=
 .seq (.reg [] [
  rq 2 (.assign (.const (.slice none 0 0))) 22])
 (.seq (.reg [] [
   Ap 3 0 22,Ap 4 0 22,EN 5 4 22,Ap 6 0 22,EN 7 6 22,rq 8 (.slice 22 (tp 3) none (some (tp 5)) (some (tp 7))) 22,AQ 2 8 22])
 (.ret))
def c36:RC:=Nh
def c37:RC:=Ni
def c38:RC:=SK
def c39:RC:=QK
def Sk:RC:=PQ
def c47:RC:=
 .seq (.reg [] [
  rq 1 (.box 24 (tp 0)) 0,rq 2 (.assign (.const (.slice none 0 0))) 28,Cz 3 0 29])
 (.seq (.reg [] [
   Ce 8 1 24,rq 9 (cf 64 #[(tp 8)] #[24]) 96,Ap 7 9 96,EM 10 7 0 86,EM 11 7 1 29,rq 4 (.alloc 86) 0,rn (.store 86 (tp 4) (tp 10)) 0,AQ 5 11 29])
 (.seq (.seq (.reg [] [
   Ap 12 5 29,rq 13 (.binOp .neq 29 (tp 12) (ki 0) 29) 4])
 (.cond (tp 13) (.seq (.reg [] [
   Ap 14 5 29,
   rq 2 (.assign (.const (.slice none 0 0))) 28,
   AQ 3 14 29])
  (.ret))
 (.skip)))
 (.seq (.reg [] [
   Ce 15 4 86,DR 16 24 1 0,Ce 17 16 3,rq 18 (cf 61 #[(tp 15),(tp 17)] #[86,3]) 3,AQ 6 18 3])
 (.seq (.seq (.reg [] [
   Ap 19 6 3,rq 20 (.binOp .lss 3 (tp 19) (ki 0) 3) 4])
 (.cond (tp 20) (.seq (.reg [] [
   rq 2 (.assign (.const (.slice none 0 0))) 28,
   Cz 3 13 29])
  (.ret))
 (.skip)))
 (.seq (.reg [] [
   DR 21 24 1 0,Ce 22 21 3,Ap 23 6 3,rq 24 (cf 69 #[(tp 22),(tp 23)] #[3,3]) 28,AQ 2 24 28,Cz 3 0 29])
 (.ret))))))
def Sn:RC:=
 .seq (.reg [] [
  rq 1 (.box 24 (tp 0)) 0,rq 2 (.assign (.const (.slice none 0 0))) 33,Cz 3 0 29])
 (.seq (.reg [] [
   Ce 11 1 24,rq 12 (cf 64 #[(tp 11)] #[24]) 96,Ap 10 12 96,EM 13 10 0 86,EM 14 10 1 29,rq 4 (.alloc 86) 0,rn (.store 86 (tp 4) (tp 13)) 0,AQ 5 14 29])
 (.seq (.seq (.reg [] [
   Ap 15 5 29,rq 16 (.binOp .neq 29 (tp 15) (ki 0) 29) 4])
 (.cond (tp 16) (.seq (.reg [] [
   Ap 17 5 29,
   rq 2 (.assign (.const (.slice none 0 0))) 33,
   AQ 3 17 29])
  (.ret))
 (.skip)))
 (.seq (.reg [] [
   Ce 18 4 86,DR 19 24 1 0,Ce 20 19 3,rq 21 (cf 81 #[(tp 18),(tp 20)] #[86,3]) 28,AQ 6 21 28])
 (.seq (.reg [] [
   Ap 22 6 28,rq 23 (cf 82 #[(tp 22)] #[28]) 0])
 (.seq (.reg [] [
   rq 7 (.assign (.const (.slice none 0 0))) 33])
 (.seq (.seq (.reg [] [
   Ap 24 6 28,rq 25 (cf 83 #[(tp 24)] #[28]) 28,EN 26 25 28,rq 27 (.move (ki 0)) 3])
 (.block 0 (.loop (.seq (.reg [] [
   L8 28 27 26])
   (.seq (.cond (tp 28) (.skip)
   (.exit 0))
   (.seq (.block 1 (.seq (.reg [] [
     D5 29 28 25 27,
     Ce 30 29 3,
     AQ 9 30 3])
    (.reg [] [
      Ap 31 7 33,
      DR 32 24 1 0,
      Ce 33 32 3,
      Ap 34 9 3,
      rq 35 (cf 69 #[(tp 33),(tp 34)] #[3,3]) 28,
      rq 36 (.buildSlice 33 1 #[(0,(tp 35))]) 33,
      rq 37 (cb .append #[(tp 31),(tp 36)] #[33,33]) 33,
      AQ 7 37 33])))
   (.reg [] [
     FB 38 27,
     Ap 27 38 3])))))))
 (.seq (.reg [] [
   Ap 39 7 33,AQ 2 39 33,Cz 3 0 29])
 (.ret))))))))
def c49:RC:=
 .seq (.reg [] [
  rq 2 (.box 24 (tp 0)) 0,Cz 4 0 29])
 (.seq (.reg [] [
   Ce 8 2 24,Ap 9 1 28,rq 10 (cf 27 #[(tp 8),(tp 9)] #[24,28]) 30,Ap 7 10 30,EM 11 7 0 28,EM 12 7 1 29,AQ 5 11 28,AQ 6 12 29])
 (.seq (.seq (.reg [] [
   Ap 13 6 29,rq 14 (.binOp .eql 29 (tp 13) (ki 0) 29) 4,Ap 15 14 4,DD 16 5 28 15 true,rg 17 (cf 33 #[(tp 16)] #[28]) 4 15 true,rq 18 (.pick (tp 15) (tp 17) (kb false)) 4])
 (.cond (tp 18) (.seq (.reg [] [
   Cz 4 14 29])
  (.ret))
 (.skip)))
 (.seq (.reg [] [
   Ap 19 6 29,AQ 4 19 29])
 (.ret))))
def c50:RC:=
 .seq (.reg [] [
  rq 0 (.alloc 24) 0])
 (.seq (.reg [] [
   rq 1 (.buildSlice 28 6 #[(0,(ki 0)),(1,(ki 1)),(2,(ki 1)),(3,(ki 2)),(4,(ki 0)),(5,(ki 1))]) 28,rq 2 (cf 53 #[(ki 3),(tp 1)] #[3,28]) 24,rn (.store 24 (tp 0) (tp 2)) 0])
 (.ret))
def c51:RC:=
 .seq (.reg [] [
  rq 2 (.assign (.const (.slice none 0 0))) 28])
 (.seq (.reg [] [
   Ap 3 0 28,AQ 2 3 28])
 (.ret))
def c52:RC:=
 .seq (.reg [] [
  rq 0 (.alloc 24) 0])
 (.seq (.reg [] [
   rq 1 (.buildSlice 28 8 #[(0,(ki 0)),(1,(ki 1)),(2,(ki 2)),(3,(ki 3)),(4,(ki 0)),(5,(ki 2)),(6,(ki 1)),(7,(ki 3))]) 28,rq 2 (cf 53 #[(ki 4),(tp 1)] #[3,28]) 24,rn (.store 24 (tp 0) (tp 2)) 0])
 (.ret))
def c53:RC:=
 .seq (.reg [] [
  rq 4 (.alloc 24) 0])
 (.seq (.reg [] [
   Ap 7 0 3,rq 8 (.build 24 #[(0,(tp 7))]) 24,rq 5 (.alloc 24) 0,rn (.store 24 (tp 5) (tp 8)) 0])
 (.seq (.seq (.reg [] [
   Cz 6 0 3])
 (.block 0 (.loop (.seq (.seq (.reg [] [
   Ap 9 6 3,
   FB 10 9,
   Ap 11 1 28,
   EN 12 11 28,
   rq 13 (.binOp .lss 3 (tp 10) (tp 12) 3) 4])
   (.cond (tp 13) (.skip)
   (.exit 0)))
   (.seq (.block 1 (.reg [0, 1, 2, 3, 4, 5, 6, 7, 8, 9, 10, 11, 12, 13, 14, 15] [
     DR 16 24 5 1,
     Ce 17 16 22,
     Ap 18 1 28,
     Ap 19 6 3,
     D5 20 28 18 19,
     Ce 21 20 3,
     Ap 22 1 28,
     Ap 23 6 3,
     FB 24 23,
     D5 25 28 22 24,
     Ce 26 25 3,
     rq 27 (.build 58 #[(0,(tp 21)),(1,(tp 26))]) 58,
     rq 28 (.buildSlice 22 1 #[(0,(tp 27))]) 22,
     rq 29 (cb .append #[(tp 17),(tp 28)] #[22,22]) 22,
     DR 30 24 5 1,
     rn (.store 22 (tp 30) (tp 29)) 0]))
   (.reg [] [
     Ap 14 6 3,
     rq 15 (.binOp .add 3 (tp 14) (ki 2) 3) 3,
     AQ 6 15 3]))))))
 (.seq (.reg [] [
   Ce 31 5 24,rn (.store 24 (tp 4) (tp 31)) 0])
 (.ret))))
def c54:RC:=
 .seq (.reg [] [
  rq 2 (.assign (.const (.slice none 0 0))) 33])
 (.seq (.reg [] [
   Ap 3 0 33,AQ 2 3 33])
 (.ret))
def c55:RC:=Qp
def c56:RC:=Qq
def c57:RC:=Qr
def QJ:RC:=Qs
def c61:RC:=Qt
def c64:RC:=Qu
def c65:RC:=SQ
def c66:RC:=
 .seq (.reg [] [
  Cz 2 0 3])
 (.seq (.cond (kb false) (.seq (.reg [] [
   Ap 3 0 100,
   rq 4 (.convert 100 118 (tp 3)) 118,
   rq 5 (cf 86 #[(tp 4)] #[118]) 3,
   AQ 2 5 3])
  (.ret))
 (.skip))
 (.seq (.reg [] [
   Ap 6 0 100,rq 7 (cf 87 #[(tp 6)] #[83]) 3,AQ 2 7 3])
 (.ret)))
def c69:RC:=
 .seq (.reg [] [
  rq 4 (.assign (.const (.slice none 0 0))) 28])
 (.seq (.reg [] [
   Ap 7 0 3,rq 8 (.makeSlice 28 (tp 7) (tp 7)) 28,AQ 5 8 28])
 (.seq (.seq (.reg [] [
   Ap 9 5 28,EN 10 9 28,rq 11 (.move (ki 0)) 3])
 (.block 0 (.loop (.seq (.reg [] [
   L8 12 11 10])
   (.seq (.cond (tp 12) (.skip)
   (.exit 0))
   (.seq (.block 1 (.seq (.reg [] [
     Ap 13 11 3,
     AQ 6 13 3])
    (.reg [] [
      Ap 14 5 28,
      Ap 15 6 3,
      Ap 16 1 3,
      Ap 17 0 3,
      rq 18 (.binOp .sub 3 (tp 17) (ki 1) 3) 3,
      Ap 19 6 3,
      rq 20 (.binOp .sub 3 (tp 18) (tp 19) 3) 3,
      rq 21 (.binOp .shr 3 (tp 16) (tp 20) 3) 3,
      rq 22 (.binOp .and 3 (tp 21) (ki 1) 3) 3,
      D5 23 28 14 15,
      rn (.store 3 (tp 23) (tp 22)) 0])))
   (.reg [] [
     FB 24 11,
     Ap 11 24 3])))))))
 (.seq (.reg [] [
   Ap 25 5 28,AQ 4 25 28])
 (.ret))))
def c73:RC:=
 .seq (.reg [] [
  rq 2 (.assign (.const (.slice none 0 0))) 28])
 (.seq (.seq (.reg [] [
   Ap 3 0 28,rq 4 (.binOp .eql 28 (tp 3) (.const (.slice none 0 0)) 28) 4])
 (.cond (tp 4) (.seq (.reg [] [
   rq 2 (.assign (.const (.slice none 0 0))) 28])
  (.ret))
 (.skip)))
 (.seq (.reg [] [
   rq 5 (.buildSlice 28 0 #[]) 28,Ap 6 0 28,rq 7 (cb .append #[(tp 5),(tp 6)] #[28,28]) 28,AQ 2 7 28])
 (.ret)))
def c74:RC:=TV
def c75:RC:=KX
def c76:RC:=TW
def c77:RC:=Qv
def c79:RC:=
 .seq (.reg [] [
  Cz 2 0 3])
 (.seq (.cond (kb false) (.seq (.reg [] [
   Ap 3 0 100,
   rq 4 (.convert 100 118 (tp 3)) 118,
   rq 5 (cf 98 #[(tp 4)] #[118]) 3,
   AQ 2 5 3])
  (.ret))
 (.skip))
 (.seq (.reg [] [
   Ap 6 0 100,rq 7 (cf 99 #[(tp 6)] #[83]) 3,AQ 2 7 3])
 (.ret)))
def c81:RC:=
 .seq (.reg [] [
  rq 2 (.box 86 (tp 0)) 0,rq 4 (.assign (.const (.slice none 0 0))) 28])
 (.seq (.reg [] [
   Ap 8 1 3,rq 9 (.binOp .shl 3 (ki 1) (tp 8) 3) 3,rq 10 (.makeSlice 28 (tp 9) (tp 9)) 28,AQ 5 10 28])
 (.seq (.seq (.reg [] [
   Ap 11 5 28,EN 12 11 28,rq 13 (.move (ki 0)) 3])
 (.block 0 (.loop (.seq (.reg [] [
   L8 14 13 12])
   (.seq (.cond (tp 14) (.skip)
   (.exit 0))
   (.seq (.block 1 (.seq (.reg [] [
     Ap 15 13 3,
     AQ 6 15 3])
    (.seq (.reg [] [
      Ap 16 1 3,
      rq 17 (.move (ki 0)) 3])
    (.block 2 (.loop (.seq (.reg [] [
      rq 18 (.binOp .lss 3 (tp 17) (tp 16) 3) 4])
      (.seq (.cond (tp 18) (.skip)
      (.exit 2))
      (.seq (.block 3 (.seq (.reg [] [
        Ap 19 17 3,
        AQ 7 19 3])
       (.reg [0, 1, 2, 3, 4, 5, 6, 7, 8, 9, 10, 11, 12, 13, 14, 15, 16, 17, 18, 19, 20] [
         Ap 20 5 28,
         Ap 21 6 3,
         Ap 22 5 28,
         Ap 23 6 3,
         D5 24 28 22 23,
         Ce 25 24 3,
         rq 26 (.binOp .shl 3 (tp 25) (.const (.int .u64 1)) 100) 3,
         Ap 27 7 3,
         Ap 28 6 3,
         rq 29 (.binOp .quo 3 (tp 28) (ki 64) 3) 3,
         D5 30 86 2 27,
         D5 31 84 30 29,
         Ce 32 31 83,
         Ap 33 6 3,
         rq 34 (.binOp .rem 3 (tp 33) (ki 64) 3) 3,
         rq 35 (.binOp .shr 83 (tp 32) (tp 34) 3) 83,
         rq 36 (.binOp .and 83 (tp 35) (.const (.int .u64 1)) 83) 83,
         rq 37 (.convert 83 3 (tp 36)) 3,
         rq 38 (.binOp .or 3 (tp 26) (tp 37) 3) 3,
         D5 39 28 20 21,
         rn (.store 3 (tp 39) (tp 38)) 0])))
      (.reg [] [
        FB 40 17,
        Ap 17 40 3])))))))))
   (.reg [] [
     FB 41 13,
     Ap 13 41 3])))))))
 (.seq (.reg [] [
   Ap 42 5 28,AQ 4 42 28])
 (.ret))))
def Jf:RC:=
 .seq (.reg [] [
  Ap 3 0 28,EN 4 3 28,AQ 2 4 3])
 (.reg [] [
   Ap 5 0 28,Ap 6 2 3,Ap 7 2 3,rq 8 (.convert 3 100 (tp 7)) 100,rq 9 (cf 79 #[(tp 8)] #[100]) 3,rq 10 (cf 100 #[(tp 5),(ki 0),(tp 6),(tp 9)] #[28,3,3,3]) 0])
def c83:RC:=
 .seq (.reg [] [
  rq 2 (.assign (.const (.slice none 0 0))) 28])
 (.seq (.seq (.reg [] [
   Ap 6 0 28,EN 7 6 28,rq 8 (.binOp .lss 3 (tp 7) (ki 2) 3) 4])
 (.cond (tp 8) (.seq (.reg [] [
   Ap 9 0 28,
   AQ 2 9 28])
  (.ret))
 (.skip)))
 (.seq (.seq (.reg [] [
   Cz 3 1 3])
 (.block 0 (.loop (.seq (.seq (.reg [] [
   Ap 10 3 3,
   Ap 11 0 28,
   EN 12 11 28,
   rq 13 (.binOp .lss 3 (tp 10) (tp 12) 3) 4])
   (.cond (tp 13) (.skip)
   (.exit 0)))
   (.seq (.block 1 (.seq (.reg [0, 1, 2, 3, 4, 5, 6, 7, 8, 9] [
     Ap 16 0 28,
     Ap 17 3 3,
     D5 18 28 16 17,
     Ce 19 18 3,
     Ap 20 0 28,
     Ap 21 3 3,
     rq 22 (.binOp .sub 3 (tp 21) (ki 1) 3) 3,
     D5 23 28 20 22,
     Ce 24 23 3,
     rq 25 (.binOp .eql 3 (tp 19) (tp 24) 3) 4])
    (.cond (tp 25) (.seq (.reg [] [
      Ap 26 0 28,
      Ap 27 3 3,
      rq 28 (.slice 28 (tp 26) (some (tp 27)) none none) 28,
      AQ 4 28 28])
     (.seq (.seq (.reg [] [
       Cz 5 1 3])
     (.block 2 (.loop (.seq (.seq (.reg [] [
       Ap 29 5 3,
       Ap 30 4 28,
       EN 31 30 28,
       rq 32 (.binOp .lss 3 (tp 29) (tp 31) 3) 4])
       (.cond (tp 32) (.skip)
       (.exit 2)))
       (.seq (.block 3 (.seq (.reg [0, 1, 2, 3, 4, 5, 6, 7, 8, 9] [
         Ap 35 4 28,
         Ap 36 5 3,
         D5 37 28 35 36,
         Ce 38 37 3,
         Ap 39 4 28,
         Ap 40 5 3,
         rq 41 (.binOp .sub 3 (tp 40) (ki 1) 3) 3,
         D5 42 28 39 41,
         Ce 43 42 3,
         rq 44 (.binOp .neq 3 (tp 38) (tp 43) 3) 4])
        (.cond (tp 44) (.seq (.reg [] [
          Ap 45 0 28,
          Ap 46 3 3,
          Ap 47 4 28,
          Ap 48 5 3,
          D5 49 28 47 48,
          Ce 50 49 3,
          D5 51 28 45 46,
          rn (.store 3 (tp 51) (tp 50)) 0])
         (.reg [] [
           Ap 52 3 3,
           FB 53 52,
           AQ 3 53 3]))
        (.skip))))
       (.reg [] [
         Ap 33 5 3,
         FB 34 33,
         AQ 5 34 3]))))))
     (.seq (.reg [] [
       Ap 54 0 28,
       Ap 55 3 3,
       rq 56 (.slice 28 (tp 54) (some (tp 55)) none none) 28,
       rn (cb .clear #[(tp 56)] #[28]) 0])
     (.seq (.reg [] [
       Ap 57 0 28,
       Ap 58 3 3,
       rq 59 (.slice 28 (tp 57) none (some (tp 58)) none) 28,
       AQ 2 59 28])
     (.ret)))))
    (.skip))))
   (.reg [] [
     Ap 14 3 3,
     FB 15 14,
     AQ 3 15 3]))))))
 (.seq (.reg [] [
   Ap 60 0 28,AQ 2 60 28])
 (.ret))))
def c85:RC:=TY
def c86:RC:=
 .seq (.reg [] [
  Cz 2 0 3])
 (.seq (.reg [0, 1, 2, 3, 4, 5, 6, 7, 8, 9, 10, 11, 12, 13, 14, 15, 16, 17, 18] [
   Ap 3 0 118,rq 4 (.binOp .shr 118 (tp 3) (.const (.int .u64 24)) 100) 118,rq 5 (.index 9 (.const (.string ⟨#[0,1,1,2,1,2,2,3,1,2,2,3,2,3,3,4,1,2,2,3,2,3,3,4,2,3,3,4,3,4,4,5,1,2,2,3,2,3,3,4,2,3,3,4,3,4,4,5,2,3,3,4,3,4,4,5,3,4,4,5,4,5,5,6,1,2,2,3,2,3,3,4,2,3,3,4,3,4,4,5,2,3,3,4,3,4,4,5,3,4,4,5,4,5,5,6,2,3,3,4,3,4,4,5,3,4,4,5,4,5,5,6,3,4,4,5,4,5,5,6,4,5,5,6,5,6,6,7,1,2,2,3,2,3,3,4,2,3,3,4,3,4,4,5,2,3,3,4,3,4,4,5,3,4,4,5,4,5,5,6,2,3,3,4,3,4,4,5,3,4,4,5,4,5,5,6,3,4,4,5,4,5,5,6,4,5,5,6,5,6,6,7,2,3,3,4,3,4,4,5,3,4,4,5,4,5,5,6,3,4,4,5,4,5,5,6,4,5,5,6,5,6,6,7,3,4,4,5,4,5,5,6,4,5,5,6,5,6,6,7,4,5,5,6,5,6,6,7,5,6,6,7,6,7,7,8]⟩)) (tp 4)) 5,Ap 6 0 118,rq 7 (.binOp .shr 118 (tp 6) (.const (.int .u64 16)) 100) 118,rq 8 (.binOp .and 118 (tp 7) (.const (.int .u32 255)) 118) 118,rq 9 (.index 9 (.const (.string ⟨#[0,1,1,2,1,2,2,3,1,2,2,3,2,3,3,4,1,2,2,3,2,3,3,4,2,3,3,4,3,4,4,5,1,2,2,3,2,3,3,4,2,3,3,4,3,4,4,5,2,3,3,4,3,4,4,5,3,4,4,5,4,5,5,6,1,2,2,3,2,3,3,4,2,3,3,4,3,4,4,5,2,3,3,4,3,4,4,5,3,4,4,5,4,5,5,6,2,3,3,4,3,4,4,5,3,4,4,5,4,5,5,6,3,4,4,5,4,5,5,6,4,5,5,6,5,6,6,7,1,2,2,3,2,3,3,4,2,3,3,4,3,4,4,5,2,3,3,4,3,4,4,5,3,4,4,5,4,5,5,6,2,3,3,4,3,4,4,5,3,4,4,5,4,5,5,6,3,4,4,5,4,5,5,6,4,5,5,6,5,6,6,7,2,3,3,4,3,4,4,5,3,4,4,5,4,5,5,6,3,4,4,5,4,5,5,6,4,5,5,6,5,6,6,7,3,4,4,5,4,5,5,6,4,5,5,6,5,6,6,7,4,5,5,6,5,6,6,7,5,6,6,7,6,7,7,8]⟩)) (tp 8)) 5,rq 10 (.binOp .add 5 (tp 5) (tp 9) 5) 5,Ap 11 0 118,rq 12 (.binOp .shr 118 (tp 11) (.const (.int .u64 8)) 100) 118,rq 13 (.binOp .and 118 (tp 12) (.const (.int .u32 255)) 118) 118,rq 14 (.index 9 (.const (.string ⟨#[0,1,1,2,1,2,2,3,1,2,2,3,2,3,3,4,1,2,2,3,2,3,3,4,2,3,3,4,3,4,4,5,1,2,2,3,2,3,3,4,2,3,3,4,3,4,4,5,2,3,3,4,3,4,4,5,3,4,4,5,4,5,5,6,1,2,2,3,2,3,3,4,2,3,3,4,3,4,4,5,2,3,3,4,3,4,4,5,3,4,4,5,4,5,5,6,2,3,3,4,3,4,4,5,3,4,4,5,4,5,5,6,3,4,4,5,4,5,5,6,4,5,5,6,5,6,6,7,1,2,2,3,2,3,3,4,2,3,3,4,3,4,4,5,2,3,3,4,3,4,4,5,3,4,4,5,4,5,5,6,2,3,3,4,3,4,4,5,3,4,4,5,4,5,5,6,3,4,4,5,4,5,5,6,4,5,5,6,5,6,6,7,2,3,3,4,3,4,4,5,3,4,4,5,4,5,5,6,3,4,4,5,4,5,5,6,4,5,5,6,5,6,6,7,3,4,4,5,4,5,5,6,4,5,5,6,5,6,6,7,4,5,5,6,5,6,6,7,5,6,6,7,6,7,7,8]⟩)) (tp 13)) 5,rq 15 (.binOp .add 5 (tp 10) (tp 14) 5) 5,Ap 16 0 118,rq 17 (.binOp .and 118 (tp 16) (.const (.int .u32 255)) 118) 118,rq 18 (.index 9 (.const (.string ⟨#[0,1,1,2,1,2,2,3,1,2,2,3,2,3,3,4,1,2,2,3,2,3,3,4,2,3,3,4,3,4,4,5,1,2,2,3,2,3,3,4,2,3,3,4,3,4,4,5,2,3,3,4,3,4,4,5,3,4,4,5,4,5,5,6,1,2,2,3,2,3,3,4,2,3,3,4,3,4,4,5,2,3,3,4,3,4,4,5,3,4,4,5,4,5,5,6,2,3,3,4,3,4,4,5,3,4,4,5,4,5,5,6,3,4,4,5,4,5,5,6,4,5,5,6,5,6,6,7,1,2,2,3,2,3,3,4,2,3,3,4,3,4,4,5,2,3,3,4,3,4,4,5,3,4,4,5,4,5,5,6,2,3,3,4,3,4,4,5,3,4,4,5,4,5,5,6,3,4,4,5,4,5,5,6,4,5,5,6,5,6,6,7,2,3,3,4,3,4,4,5,3,4,4,5,4,5,5,6,3,4,4,5,4,5,5,6,4,5,5,6,5,6,6,7,3,4,4,5,4,5,5,6,4,5,5,6,5,6,6,7,4,5,5,6,5,6,6,7,5,6,6,7,6,7,7,8]⟩)) (tp 17)) 5,rq 19 (.binOp .add 5 (tp 15) (tp 18) 5) 5,rq 20 (.convert 5 3 (tp 19)) 3,AQ 2 20 3])
 (.ret))
def c87:RC:=
 .seq (.reg [] [
  Cz 2 0 3])
 (.seq (.reg [] [
   Ap 3 0 83,rq 4 (.binOp .shr 83 (tp 3) (.const (.int .u64 1)) 100) 83,rq 5 (.binOp .and 83 (tp 4) (.const (.int .u64 6148914691236517205)) 83) 83,Ap 6 0 83,rq 7 (.binOp .and 83 (tp 6) (.const (.int .u64 6148914691236517205)) 83) 83,rq 8 (.binOp .add 83 (tp 5) (tp 7) 83) 83,AQ 0 8 83])
 (.seq (.reg [] [
   Ap 9 0 83,rq 10 (.binOp .shr 83 (tp 9) (.const (.int .u64 2)) 100) 83,rq 11 (.binOp .and 83 (tp 10) (.const (.int .u64 3689348814741910323)) 83) 83,Ap 12 0 83,rq 13 (.binOp .and 83 (tp 12) (.const (.int .u64 3689348814741910323)) 83) 83,rq 14 (.binOp .add 83 (tp 11) (tp 13) 83) 83,AQ 0 14 83])
 (.seq (.reg [] [
   Ap 15 0 83,rq 16 (.binOp .shr 83 (tp 15) (.const (.int .u64 4)) 100) 83,Ap 17 0 83,rq 18 (.binOp .add 83 (tp 16) (tp 17) 83) 83,rq 19 (.binOp .and 83 (tp 18) (.const (.int .u64 1085102592571150095)) 83) 83,AQ 0 19 83])
 (.seq (.reg [] [
   Ap 20 0 83,Ap 21 0 83,rq 22 (.binOp .shr 83 (tp 21) (.const (.int .u64 8)) 100) 83,rq 23 (.binOp .add 83 (tp 20) (tp 22) 83) 83,AQ 0 23 83])
 (.seq (.reg [] [
   Ap 24 0 83,Ap 25 0 83,rq 26 (.binOp .shr 83 (tp 25) (.const (.int .u64 16)) 100) 83,rq 27 (.binOp .add 83 (tp 24) (tp 26) 83) 83,AQ 0 27 83])
 (.seq (.reg [] [
   Ap 28 0 83,Ap 29 0 83,rq 30 (.binOp .shr 83 (tp 29) (.const (.int .u64 32)) 100) 83,rq 31 (.binOp .add 83 (tp 28) (tp 30) 83) 83,AQ 0 31 83])
 (.seq (.reg [] [
   Ap 32 0 83,rq 33 (.convert 83 3 (tp 32)) 3,rq 34 (.binOp .and 3 (tp 33) (ki 127) 3) 3,AQ 2 34 3])
 (.ret))))))))
def c89:RC:=TZ
def c98:RC:=
 .seq (.reg [] [
  Cz 2 0 3])
 (.seq (.seq (.reg [] [
   Ap 3 0 118,rq 4 (.binOp .geq 118 (tp 3) (.const (.int .u32 65536)) 118) 4])
 (.cond (tp 4) (.seq (.reg [] [
   Ap 5 0 118,
   rq 6 (.binOp .shr 118 (tp 5) (.const (.int .u64 16)) 100) 118,
   AQ 0 6 118])
  (.reg [] [
    Cz 2 16 3]))
 (.skip)))
 (.seq (.seq (.reg [] [
   Ap 7 0 118,rq 8 (.binOp .geq 118 (tp 7) (.const (.int .u32 256)) 118) 4])
 (.cond (tp 8) (.seq (.reg [] [
   Ap 9 0 118,
   rq 10 (.binOp .shr 118 (tp 9) (.const (.int .u64 8)) 100) 118,
   AQ 0 10 118])
  (.reg [] [
    Ap 11 2 3,
    rq 12 (.binOp .add 3 (tp 11) (ki 8) 3) 3,
    AQ 2 12 3]))
 (.skip)))
 (.seq (.reg [] [
   Ap 13 2 3,Ap 14 0 118,rq 15 (.convert 118 5 (tp 14)) 5,rq 16 (.index 9 (.const (.string ⟨#[0,1,2,2,3,3,3,3,4,4,4,4,4,4,4,4,5,5,5,5,5,5,5,5,5,5,5,5,5,5,5,5,6,6,6,6,6,6,6,6,6,6,6,6,6,6,6,6,6,6,6,6,6,6,6,6,6,6,6,6,6,6,6,6,7,7,7,7,7,7,7,7,7,7,7,7,7,7,7,7,7,7,7,7,7,7,7,7,7,7,7,7,7,7,7,7,7,7,7,7,7,7,7,7,7,7,7,7,7,7,7,7,7,7,7,7,7,7,7,7,7,7,7,7,7,7,7,7,8,8,8,8,8,8,8,8,8,8,8,8,8,8,8,8,8,8,8,8,8,8,8,8,8,8,8,8,8,8,8,8,8,8,8,8,8,8,8,8,8,8,8,8,8,8,8,8,8,8,8,8,8,8,8,8,8,8,8,8,8,8,8,8,8,8,8,8,8,8,8,8,8,8,8,8,8,8,8,8,8,8,8,8,8,8,8,8,8,8,8,8,8,8,8,8,8,8,8,8,8,8,8,8,8,8,8,8,8,8,8,8,8,8,8,8,8,8,8,8,8,8,8,8,8,8,8,8]⟩)) (tp 15)) 5,rq 17 (.convert 5 3 (tp 16)) 3,rq 18 (.binOp .add 3 (tp 13) (tp 17) 3) 3,AQ 2 18 3])
 (.ret))))
def c99:RC:=
 .seq (.reg [] [
  Cz 2 0 3])
 (.seq (.seq (.reg [] [
   Ap 3 0 83,rq 4 (.binOp .geq 83 (tp 3) (.const (.int .u64 4294967296)) 83) 4])
 (.cond (tp 4) (.seq (.reg [] [
   Ap 5 0 83,
   rq 6 (.binOp .shr 83 (tp 5) (.const (.int .u64 32)) 100) 83,
   AQ 0 6 83])
  (.reg [] [
    Cz 2 32 3]))
 (.skip)))
 (.seq (.seq (.reg [] [
   Ap 7 0 83,rq 8 (.binOp .geq 83 (tp 7) (.const (.int .u64 65536)) 83) 4])
 (.cond (tp 8) (.seq (.reg [] [
   Ap 9 0 83,
   rq 10 (.binOp .shr 83 (tp 9) (.const (.int .u64 16)) 100) 83,
   AQ 0 10 83])
  (.reg [] [
    Ap 11 2 3,
    rq 12 (.binOp .add 3 (tp 11) (ki 16) 3) 3,
    AQ 2 12 3]))
 (.skip)))
 (.seq (.seq (.reg [] [
   Ap 13 0 83,rq 14 (.binOp .geq 83 (tp 13) (.const (.int .u64 256)) 83) 4])
 (.cond (tp 14) (.seq (.reg [] [
   Ap 15 0 83,
   rq 16 (.binOp .shr 83 (tp 15) (.const (.int .u64 8)) 100) 83,
   AQ 0 16 83])
  (.reg [] [
    Ap 17 2 3,
    rq 18 (.binOp .add 3 (tp 17) (ki 8) 3) 3,
    AQ 2 18 3]))
 (.skip)))
 (.seq (.reg [] [
   Ap 19 2 3,Ap 20 0 83,rq 21 (.convert 83 5 (tp 20)) 5,rq 22 (.index 9 (.const (.string ⟨#[0,1,2,2,3,3,3,3,4,4,4,4,4,4,4,4,5,5,5,5,5,5,5,5,5,5,5,5,5,5,5,5,6,6,6,6,6,6,6,6,6,6,6,6,6,6,6,6,6,6,6,6,6,6,6,6,6,6,6,6,6,6,6,6,7,7,7,7,7,7,7,7,7,7,7,7,7,7,7,7,7,7,7,7,7,7,7,7,7,7,7,7,7,7,7,7,7,7,7,7,7,7,7,7,7,7,7,7,7,7,7,7,7,7,7,7,7,7,7,7,7,7,7,7,7,7,7,7,8,8,8,8,8,8,8,8,8,8,8,8,8,8,8,8,8,8,8,8,8,8,8,8,8,8,8,8,8,8,8,8,8,8,8,8,8,8,8,8,8,8,8,8,8,8,8,8,8,8,8,8,8,8,8,8,8,8,8,8,8,8,8,8,8,8,8,8,8,8,8,8,8,8,8,8,8,8,8,8,8,8,8,8,8,8,8,8,8,8,8,8,8,8,8,8,8,8,8,8,8,8,8,8,8,8,8,8,8,8,8,8,8,8,8,8,8,8,8,8,8,8,8,8,8,8,8,8]⟩)) (tp 21)) 5,rq 23 (.convert 5 3 (tp 22)) 3,rq 24 (.binOp .add 3 (tp 19) (tp 23) 3) 3,AQ 2 24 3])
 (.ret)))))
def vN:RC:=
 .seq (.reg [] [
  rq 8 (.assign (kb true)) 4])
 (.seq (.reg [] [
   rq 9 (.assign (kb true)) 4])
 (.block 0 (.loop (.block 1 (.seq (.reg [] [
   Ap 19 2 3,
   Ap 20 1 3,
   rq 21 (.binOp .sub 3 (tp 19) (tp 20) 3) 3,
   AQ 10 21 3])
   (.seq (.seq (.reg [] [
     Ap 22 10 3,
     rq 23 (.binOp .leq 3 (tp 22) (ki 12) 3) 4])
   (.cond (tp 23) (.seq (.reg [] [
     Ap 24 0 28,
     Ap 25 1 3,
     Ap 26 2 3,
     rq 27 (cf 106 #[(tp 24),(tp 25),(tp 26)] #[28,3,3]) 0])
    (.ret))
   (.skip)))
   (.seq (.seq (.reg [] [
     Ap 28 3 3,
     rq 29 (.binOp .eql 3 (tp 28) (ki 0) 3) 4])
   (.cond (tp 29) (.seq (.reg [] [
     Ap 30 0 28,
     Ap 31 1 3,
     Ap 32 2 3,
     rq 33 (cf 107 #[(tp 30),(tp 31),(tp 32)] #[28,3,3]) 0])
    (.ret))
   (.skip)))
   (.seq (.seq (.reg [] [
     Ap 34 8 4,
     rq 35 (.unOp .not 4 (tp 34)) 4])
   (.cond (tp 35) (.seq (.reg [] [
     Ap 36 0 28,
     Ap 37 1 3,
     Ap 38 2 3,
     rq 39 (cf 108 #[(tp 36),(tp 37),(tp 38)] #[28,3,3]) 0])
    (.reg [] [
      Ap 40 3 3,
      rq 41 (.binOp .sub 3 (tp 40) (ki 1) 3) 3,
      AQ 3 41 3]))
   (.skip)))
   (.seq (.reg [] [
     Ap 43 0 28,
     Ap 44 1 3,
     Ap 45 2 3,
     rq 46 (cf 109 #[(tp 43),(tp 44),(tp 45)] #[28,3,3]) 123,
     Ap 42 46 123,
     EM 47 42 0 3,
     EM 48 42 1 122,
     AQ 11 47 3,
     AQ 12 48 122])
   (.seq (.seq (.reg [] [
     Ap 49 12 122,
     rq 50 (.binOp .eql 122 (tp 49) (ki 2) 122) 4])
   (.cond (tp 50) (.seq (.reg [] [
     Ap 51 0 28,
     Ap 52 1 3,
     Ap 53 2 3,
     rq 54 (cf 110 #[(tp 51),(tp 52),(tp 53)] #[28,3,3]) 0])
    (.seq (.reg [] [
      Ap 55 2 3,
      rq 56 (.binOp .sub 3 (tp 55) (ki 1) 3) 3,
      Ap 57 11 3,
      Ap 58 1 3,
      rq 59 (.binOp .sub 3 (tp 57) (tp 58) 3) 3,
      rq 60 (.binOp .sub 3 (tp 56) (tp 59) 3) 3,
      AQ 11 60 3])
    (.reg [] [
      Cz 12 1 122])))
   (.skip)))
   (.seq (.seq (.reg [] [
     Ap 61 8 4,
     Ap 62 61 4,
     DD 63 9 4 62 true,
     rq 64 (.pick (tp 62) (tp 63) (kb false)) 4,
     Ap 65 64 4,
     DD 66 12 122 65 true,
     rg 67 (.binOp .eql 122 (tp 66) (ki 1) 122) 4 65 true,
     rq 68 (.pick (tp 65) (tp 67) (kb false)) 4])
   (.cond (tp 68) (.seq (.reg [] [
     Ap 69 0 28,
     Ap 70 1 3,
     Ap 71 2 3,
     rq 72 (cf 111 #[(tp 69),(tp 70),(tp 71)] #[28,3,3]) 4])
    (.cond (tp 72) (.ret)
    (.skip)))
   (.skip)))
   (.seq (.seq (.reg [0, 1, 2, 3, 4, 5, 6, 7, 8, 9, 10, 11, 12, 13, 14] [
     Ap 73 1 3,
     rq 74 (.binOp .gtr 3 (tp 73) (ki 0) 3) 4,
     Ap 75 74 4,
     DD 76 0 28 75 true,
     DD 77 1 3 75 true,
     rg 78 (.binOp .sub 3 (tp 77) (ki 1) 3) 3 75 true,
     rg 79 (.indexAddr 28 (tp 76) (tp 78)) 0 75 true,
     rg 80 (.load 3 (tp 79)) 3 75 true,
     DD 81 0 28 75 true,
     DD 82 11 3 75 true,
     rg 83 (.indexAddr 28 (tp 81) (tp 82)) 0 75 true,
     rg 84 (.load 3 (tp 83)) 3 75 true,
     rg 85 (cf 74 #[(tp 80),(tp 84)] #[3,3]) 4 75 true,
     rg 86 (.unOp .not 4 (tp 85)) 4 75 true,
     rq 87 (.pick (tp 75) (tp 86) (kb false)) 4])
   (.cond (tp 87) (.seq (.reg [] [
     Ap 88 0 28,
     Ap 89 1 3,
     Ap 90 2 3,
     Ap 91 11 3,
     rq 92 (cf 112 #[(tp 88),(tp 89),(tp 90),(tp 91)] #[28,3,3,3]) 3,
     AQ 13 92 3])
    (.seq (.reg [] [
      Ap 93 13 3,
      AQ 1 93 3])
    (.exit 1)))
   (.skip)))
   (.seq (.reg [] [
     Ap 95 0 28,
     Ap 96 1 3,
     Ap 97 2 3,
     Ap 98 11 3,
     rq 99 (cf 113 #[(tp 95),(tp 96),(tp 97),(tp 98)] #[28,3,3,3]) 127,
     Ap 94 99 127,
     EM 100 94 0 3,
     EM 101 94 1 4,
     AQ 14 100 3,
     AQ 15 101 4])
   (.seq (.reg [] [
     Ap 102 15 4,
     AQ 9 102 4])
   (.seq (.reg [] [
     Ap 103 14 3,
     Ap 104 1 3,
     rq 105 (.binOp .sub 3 (tp 103) (tp 104) 3) 3,
     Ap 106 2 3,
     Ap 107 14 3,
     rq 108 (.binOp .sub 3 (tp 106) (tp 107) 3) 3,
     AQ 16 105 3,
     AQ 17 108 3])
   (.seq (.reg [] [
     Ap 109 10 3,
     rq 110 (.binOp .quo 3 (tp 109) (ki 8) 3) 3,
     AQ 18 110 3])
   (.seq (.reg [] [
     Ap 111 16 3,
     Ap 112 17 3,
     rq 113 (.binOp .lss 3 (tp 111) (tp 112) 3) 4])
   (.cond (tp 113) (.seq (.reg [] [
     Ap 114 16 3,
     Ap 115 18 3,
     rq 116 (.binOp .geq 3 (tp 114) (tp 115) 3) 4,
     AQ 8 116 4])
    (.seq (.reg [] [
      Ap 117 0 28,
      Ap 118 1 3,
      Ap 119 14 3,
      Ap 120 3 3,
      rq 121 (cf 100 #[(tp 117),(tp 118),(tp 119),(tp 120)] #[28,3,3,3]) 0])
    (.reg [] [
      Ap 122 14 3,
      FB 123 122,
      AQ 1 123 3])))
   (.seq (.reg [] [
     Ap 124 17 3,
     Ap 125 18 3,
     rq 126 (.binOp .geq 3 (tp 124) (tp 125) 3) 4,
     AQ 8 126 4])
    (.seq (.reg [] [
      Ap 127 0 28,
      Ap 128 14 3,
      FB 129 128,
      Ap 130 2 3,
      Ap 131 3 3,
      rq 132 (cf 100 #[(tp 127),(tp 129),(tp 130),(tp 131)] #[28,3,3,3]) 0])
    (.reg [] [
      Ap 133 14 3,
      AQ 2 133 3])))))))))))))))))))))
def vO:RC:=
 .seq (.reg [] [
  rq 2 (.assign (.const (.int .u64 0))) 100])
 (.seq (.reg [] [
   Ap 3 0 3,rq 4 (.convert 3 100 (tp 3)) 100,rq 5 (cf 79 #[(tp 4)] #[100]) 3,rq 6 (.binOp .shl 100 (.const (.int .u64 1)) (tp 5) 3) 100,AQ 2 6 100])
 (.ret))
def vP:RC:=
 .seq (.reg [] [
  rq 2 (.assign (.const (.int .u64 0))) 83])
 (.seq (.reg [0, 1, 2, 3, 4, 5, 6, 7, 8, 9] [
   Ap 3 0 142,rq 4 (.nilCheck (tp 3)) 0,Ce 5 4 131,Ap 6 0 142,rq 7 (.nilCheck (tp 6)) 0,Ce 8 7 131,rq 9 (.binOp .shl 131 (tp 8) (.const (.int .u64 13)) 100) 131,rq 10 (.binOp .xor 131 (tp 5) (tp 9) 131) 131,rq 11 (.nilCheck (tp 3)) 0,rn (.store 131 (tp 11) (tp 10)) 0])
 (.seq (.reg [0, 1, 2, 3, 4, 5, 6, 7, 8, 9] [
   Ap 12 0 142,rq 13 (.nilCheck (tp 12)) 0,Ce 14 13 131,Ap 15 0 142,rq 16 (.nilCheck (tp 15)) 0,Ce 17 16 131,rq 18 (.binOp .shr 131 (tp 17) (.const (.int .u64 7)) 100) 131,rq 19 (.binOp .xor 131 (tp 14) (tp 18) 131) 131,rq 20 (.nilCheck (tp 12)) 0,rn (.store 131 (tp 20) (tp 19)) 0])
 (.seq (.reg [0, 1, 2, 3, 4, 5, 6, 7, 8, 9] [
   Ap 21 0 142,rq 22 (.nilCheck (tp 21)) 0,Ce 23 22 131,Ap 24 0 142,rq 25 (.nilCheck (tp 24)) 0,Ce 26 25 131,rq 27 (.binOp .shl 131 (tp 26) (.const (.int .u64 17)) 100) 131,rq 28 (.binOp .xor 131 (tp 23) (tp 27) 131) 131,rq 29 (.nilCheck (tp 21)) 0,rn (.store 131 (tp 29) (tp 28)) 0])
 (.seq (.reg [] [
   Ap 30 0 142,rq 31 (.nilCheck (tp 30)) 0,Ce 32 31 131,AQ 2 32 83])
 (.ret)))))
def vQ:RC:=
 .seq (.reg [] [
  Ap 8 1 3,FB 9 8,AQ 6 9 3])
 (.block 0 (.loop (.seq (.seq (.reg [] [
   Ap 10 6 3,
   Ap 11 2 3,
   rq 12 (.binOp .lss 3 (tp 10) (tp 11) 3) 4])
   (.cond (tp 12) (.skip)
   (.exit 0)))
   (.seq (.block 1 (.seq (.reg [] [
     Ap 15 6 3,
     AQ 7 15 3])
    (.block 2 (.loop (.seq (.seq (.reg [0, 1, 2, 3, 4, 5, 6, 7, 8, 9, 10, 11, 12, 13, 14] [
      Ap 16 7 3,
      Ap 17 1 3,
      rq 18 (.binOp .gtr 3 (tp 16) (tp 17) 3) 4,
      Ap 19 18 4,
      DD 20 0 28 19 true,
      DD 21 7 3 19 true,
      rg 22 (.indexAddr 28 (tp 20) (tp 21)) 0 19 true,
      rg 23 (.load 3 (tp 22)) 3 19 true,
      DD 24 0 28 19 true,
      DD 25 7 3 19 true,
      rg 26 (.binOp .sub 3 (tp 25) (ki 1) 3) 3 19 true,
      rg 27 (.indexAddr 28 (tp 24) (tp 26)) 0 19 true,
      rg 28 (.load 3 (tp 27)) 3 19 true,
      rg 29 (cf 74 #[(tp 23),(tp 28)] #[3,3]) 4 19 true,
      rq 30 (.pick (tp 19) (tp 29) (kb false)) 4])
      (.cond (tp 30) (.skip)
      (.exit 2)))
      (.seq (.block 3 (.reg [0, 1, 2, 3, 4, 5, 6, 7, 8, 9, 10, 11, 12, 13, 14, 15, 16, 17] [
        Ap 33 0 28,
        Ap 34 7 3,
        Ap 35 0 28,
        Ap 36 7 3,
        rq 37 (.binOp .sub 3 (tp 36) (ki 1) 3) 3,
        Ap 38 0 28,
        Ap 39 7 3,
        rq 40 (.binOp .sub 3 (tp 39) (ki 1) 3) 3,
        D5 41 28 38 40,
        Ce 42 41 3,
        Ap 43 0 28,
        Ap 44 7 3,
        D5 45 28 43 44,
        Ce 46 45 3,
        D5 47 28 33 34,
        rn (.store 3 (tp 47) (tp 42)) 0,
        D5 48 28 35 37,
        rn (.store 3 (tp 48) (tp 46)) 0]))
      (.reg [] [
        Ap 31 7 3,
        rq 32 (.binOp .sub 3 (tp 31) (ki 1) 3) 3,
        AQ 7 32 3])))))))
   (.reg [] [
     Ap 13 6 3,
     FB 14 13,
     AQ 6 14 3])))))
def vR:RC:=
 .seq (.reg [] [
  Ap 11 1 3,AQ 6 11 3])
 (.seq (.reg [] [
   Cz 7 0 3])
 (.seq (.reg [] [
   Ap 12 2 3,Ap 13 1 3,rq 14 (.binOp .sub 3 (tp 12) (tp 13) 3) 3,AQ 8 14 3])
 (.seq (.seq (.reg [] [
   Ap 15 8 3,rq 16 (.binOp .sub 3 (tp 15) (ki 1) 3) 3,rq 17 (.binOp .quo 3 (tp 16) (ki 2) 3) 3,AQ 9 17 3])
 (.block 0 (.loop (.seq (.seq (.reg [] [
   Ap 18 9 3,
   rq 19 (.binOp .geq 3 (tp 18) (ki 0) 3) 4])
   (.cond (tp 19) (.skip)
   (.exit 0)))
   (.seq (.block 1 (.reg [] [
     Ap 22 0 28,
     Ap 23 9 3,
     Ap 24 8 3,
     Ap 25 6 3,
     rq 26 (cf 115 #[(tp 22),(tp 23),(tp 24),(tp 25)] #[28,3,3,3]) 0]))
   (.reg [] [
     Ap 20 9 3,
     rq 21 (.binOp .sub 3 (tp 20) (ki 1) 3) 3,
     AQ 9 21 3]))))))
 (.seq (.reg [] [
   Ap 27 8 3,rq 28 (.binOp .sub 3 (tp 27) (ki 1) 3) 3,AQ 10 28 3])
 (.block 2 (.loop (.seq (.seq (.reg [] [
   Ap 29 10 3,
   rq 30 (.binOp .geq 3 (tp 29) (ki 0) 3) 4])
   (.cond (tp 30) (.skip)
   (.exit 2)))
   (.seq (.block 3 (.seq (.reg [0, 1, 2, 3, 4, 5, 6, 7, 8, 9, 10, 11, 12, 13, 14, 15, 16, 17, 18, 19] [
     Ap 33 0 28,
     Ap 34 6 3,
     Ap 35 0 28,
     Ap 36 6 3,
     Ap 37 10 3,
     rq 38 (.binOp .add 3 (tp 36) (tp 37) 3) 3,
     Ap 39 0 28,
     Ap 40 6 3,
     Ap 41 10 3,
     rq 42 (.binOp .add 3 (tp 40) (tp 41) 3) 3,
     D5 43 28 39 42,
     Ce 44 43 3,
     Ap 45 0 28,
     Ap 46 6 3,
     D5 47 28 45 46,
     Ce 48 47 3,
     D5 49 28 33 34,
     rn (.store 3 (tp 49) (tp 44)) 0,
     D5 50 28 35 38,
     rn (.store 3 (tp 50) (tp 48)) 0])
    (.reg [] [
      Ap 51 0 28,
      Ap 52 7 3,
      Ap 53 10 3,
      Ap 54 6 3,
      rq 55 (cf 115 #[(tp 51),(tp 52),(tp 53),(tp 54)] #[28,3,3,3]) 0])))
   (.reg [] [
     Ap 31 10 3,
     rq 32 (.binOp .sub 3 (tp 31) (ki 1) 3) 3,
     AQ 10 32 3])))))))))
def vS:RC:=
 .seq (.reg [] [
  Ap 11 2 3,Ap 12 1 3,rq 13 (.binOp .sub 3 (tp 11) (tp 12) 3) 3,AQ 6 13 3])
 (.seq (.reg [] [
   Ap 14 6 3,rq 15 (.binOp .geq 3 (tp 14) (ki 8) 3) 4])
 (.cond (tp 15) (.seq (.reg [] [
   Ap 16 6 3,
   rq 17 (.convert 3 131 (tp 16)) 131,
   rq 7 (.alloc 131) 0,
   rn (.store 131 (tp 7) (tp 17)) 0])
  (.seq (.reg [] [
    Ap 18 6 3,
    rq 19 (cf 102 #[(tp 18)] #[3]) 100,
    AQ 8 19 100])
  (.seq (.reg [] [
    Ap 20 1 3,
    Ap 21 6 3,
    rq 22 (.binOp .quo 3 (tp 21) (ki 4) 3) 3,
    rq 23 (.binOp .mul 3 (tp 22) (ki 2) 3) 3,
    rq 24 (.binOp .add 3 (tp 20) (tp 23) 3) 3,
    rq 25 (.binOp .sub 3 (tp 24) (ki 1) 3) 3,
    AQ 9 25 3])
  (.block 0 (.loop (.seq (.seq (.reg [] [
    Ap 26 9 3,
    Ap 27 1 3,
    Ap 28 6 3,
    rq 29 (.binOp .quo 3 (tp 28) (ki 4) 3) 3,
    rq 30 (.binOp .mul 3 (tp 29) (ki 2) 3) 3,
    rq 31 (.binOp .add 3 (tp 27) (tp 30) 3) 3,
    FB 32 31,
    rq 33 (.binOp .leq 3 (tp 26) (tp 32) 3) 4])
    (.cond (tp 33) (.skip)
    (.exit 0)))
    (.seq (.block 1 (.seq (.reg [] [
      rq 36 (cf 103 #[(tp 7)] #[131]) 83,
      Ap 37 8 100,
      rq 38 (.binOp .sub 100 (tp 37) (.const (.int .u64 1)) 100) 100,
      rq 39 (.binOp .and 100 (tp 36) (tp 38) 100) 100,
      rq 40 (.convert 100 3 (tp 39)) 3,
      AQ 10 40 3])
     (.seq (.seq (.reg [] [
       Ap 41 10 3,
       Ap 42 6 3,
       rq 43 (.binOp .geq 3 (tp 41) (tp 42) 3) 4])
     (.cond (tp 43) (.reg [] [
       Ap 44 10 3,
       Ap 45 6 3,
       rq 46 (.binOp .sub 3 (tp 44) (tp 45) 3) 3,
       AQ 10 46 3])
     (.skip)))
     (.reg [0, 1, 2, 3, 4, 5, 6, 7, 8, 9, 10, 11, 12, 13, 14, 15, 16, 17, 18, 19] [
       Ap 47 0 28,
       Ap 48 9 3,
       Ap 49 0 28,
       Ap 50 1 3,
       Ap 51 10 3,
       rq 52 (.binOp .add 3 (tp 50) (tp 51) 3) 3,
       Ap 53 0 28,
       Ap 54 1 3,
       Ap 55 10 3,
       rq 56 (.binOp .add 3 (tp 54) (tp 55) 3) 3,
       D5 57 28 53 56,
       Ce 58 57 3,
       Ap 59 0 28,
       Ap 60 9 3,
       D5 61 28 59 60,
       Ce 62 61 3,
       D5 63 28 47 48,
       rn (.store 3 (tp 63) (tp 58)) 0,
       D5 64 28 49 52,
       rn (.store 3 (tp 64) (tp 62)) 0]))))
    (.reg [] [
      Ap 34 9 3,
      FB 35 34,
      AQ 9 35 3]))))))))
 (.skip)))
def vT:RC:=
 .seq (.reg [] [
  Cz 6 0 3,Cz 7 0 122])
 (.seq (.reg [] [
   Ap 13 2 3,Ap 14 1 3,rq 15 (.binOp .sub 3 (tp 13) (tp 14) 3) 3,AQ 8 15 3])
 (.seq (.reg [] [
   rq 9 (.alloc 3) 0])
 (.seq (.reg [] [
   Ap 16 1 3,Ap 17 8 3,rq 18 (.binOp .quo 3 (tp 17) (ki 4) 3) 3,rq 19 (.binOp .mul 3 (tp 18) (ki 1) 3) 3,rq 20 (.binOp .add 3 (tp 16) (tp 19) 3) 3,AQ 10 20 3])
 (.seq (.reg [] [
   Ap 21 1 3,Ap 22 8 3,rq 23 (.binOp .quo 3 (tp 22) (ki 4) 3) 3,rq 24 (.binOp .mul 3 (tp 23) (ki 2) 3) 3,rq 25 (.binOp .add 3 (tp 21) (tp 24) 3) 3,AQ 11 25 3])
 (.seq (.reg [] [
   Ap 26 1 3,Ap 27 8 3,rq 28 (.binOp .quo 3 (tp 27) (ki 4) 3) 3,rq 29 (.binOp .mul 3 (tp 28) (ki 3) 3) 3,rq 30 (.binOp .add 3 (tp 26) (tp 29) 3) 3,AQ 12 30 3])
 (.seq (.seq (.reg [] [
   Ap 31 8 3,rq 32 (.binOp .geq 3 (tp 31) (ki 8) 3) 4])
 (.cond (tp 32) (.seq (.seq (.reg [] [
   Ap 33 8 3,
   rq 34 (.binOp .geq 3 (tp 33) (ki 50) 3) 4])
  (.cond (tp 34) (.seq (.reg [] [
    Ap 35 0 28,
    Ap 36 10 3,
    rq 37 (cf 116 #[(tp 35),(tp 36),(tp 9)] #[28,3,135]) 3,
    AQ 10 37 3])
   (.seq (.reg [] [
     Ap 38 0 28,
     Ap 39 11 3,
     rq 40 (cf 116 #[(tp 38),(tp 39),(tp 9)] #[28,3,135]) 3,
     AQ 11 40 3])
   (.reg [] [
     Ap 41 0 28,
     Ap 42 12 3,
     rq 43 (cf 116 #[(tp 41),(tp 42),(tp 9)] #[28,3,135]) 3,
     AQ 12 43 3])))
  (.skip)))
  (.reg [] [
    Ap 44 0 28,
    Ap 45 10 3,
    Ap 46 11 3,
    Ap 47 12 3,
    rq 48 (cf 117 #[(tp 44),(tp 45),(tp 46),(tp 47),(tp 9)] #[28,3,3,3,135]) 3,
    AQ 11 48 3]))
 (.skip)))
 (.seq (.reg [] [
   Ce 49 9 3])
 (.block 0 (.seq (.reg [] [
   rq 52 (.binOp .eql 3 (tp 49) (ki 0) 3) 4,
   AQ 51 52 4])
  (.cond (tp 51) (.seq (.reg [] [
    Ap 53 11 3,
    AQ 6 53 3,
    Cz 7 1 122])
   (.ret))
  (.seq (.reg [] [
    rq 55 (.binOp .eql 3 (tp 49) (ki 12) 3) 4,
    AQ 54 55 4])
   (.cond (tp 54) (.seq (.reg [] [
     Ap 56 11 3,
     AQ 6 56 3,
     Cz 7 2 122])
    (.ret))
   (.seq (.reg [] [
     Ap 50 11 3,
     AQ 6 50 3,
     Cz 7 0 122])
    (.ret))))))))))))))
def vU:RC:=
 .seq (.reg [] [
  Ap 8 1 3,AQ 6 8 3])
 (.seq (.reg [] [
   Ap 9 2 3,rq 10 (.binOp .sub 3 (tp 9) (ki 1) 3) 3,AQ 7 10 3])
 (.block 0 (.loop (.seq (.seq (.reg [] [
   Ap 11 6 3,
   Ap 12 7 3,
   rq 13 (.binOp .lss 3 (tp 11) (tp 12) 3) 4])
   (.cond (tp 13) (.skip)
   (.exit 0)))
   (.block 1 (.seq (.reg [0, 1, 2, 3, 4, 5, 6, 7, 8, 9, 10, 11, 12, 13, 14, 15] [
     Ap 14 0 28,
     Ap 15 6 3,
     Ap 16 0 28,
     Ap 17 7 3,
     Ap 18 0 28,
     Ap 19 7 3,
     D5 20 28 18 19,
     Ce 21 20 3,
     Ap 22 0 28,
     Ap 23 6 3,
     D5 24 28 22 23,
     Ce 25 24 3,
     D5 26 28 14 15,
     rn (.store 3 (tp 26) (tp 21)) 0,
     D5 27 28 16 17,
     rn (.store 3 (tp 27) (tp 25)) 0])
    (.seq (.reg [] [
      Ap 28 6 3,
      FB 29 28,
      AQ 6 29 3])
    (.reg [] [
      Ap 30 7 3,
      rq 31 (.binOp .sub 3 (tp 30) (ki 1) 3) 3,
      AQ 7 31 3]))))))))
def vV:RC:=
 .seq (.reg [] [
  rq 6 (.assign (kb false)) 4])
 (.seq (.reg [] [
   Ap 11 1 3,FB 12 11,AQ 7 12 3])
 (.seq (.seq (.reg [] [
   Cz 8 0 3])
 (.block 0 (.loop (.seq (.seq (.reg [] [
   Ap 13 8 3,
   rq 14 (.binOp .lss 3 (tp 13) (ki 5) 3) 4])
   (.cond (tp 14) (.skip)
   (.exit 0)))
   (.seq (.block 1 (.seq (.block 2 (.loop (.seq (.seq (.reg [0, 1, 2, 3, 4, 5, 6, 7, 8, 9, 10, 11, 12, 13, 14, 15] [
     Ap 17 7 3,
     Ap 18 2 3,
     rq 19 (.binOp .lss 3 (tp 17) (tp 18) 3) 4,
     Ap 20 19 4,
     DD 21 0 28 20 true,
     DD 22 7 3 20 true,
     rg 23 (.indexAddr 28 (tp 21) (tp 22)) 0 20 true,
     rg 24 (.load 3 (tp 23)) 3 20 true,
     DD 25 0 28 20 true,
     DD 26 7 3 20 true,
     rg 27 (.binOp .sub 3 (tp 26) (ki 1) 3) 3 20 true,
     rg 28 (.indexAddr 28 (tp 25) (tp 27)) 0 20 true,
     rg 29 (.load 3 (tp 28)) 3 20 true,
     rg 30 (cf 74 #[(tp 24),(tp 29)] #[3,3]) 4 20 true,
     rg 31 (.unOp .not 4 (tp 30)) 4 20 true,
     rq 32 (.pick (tp 20) (tp 31) (kb false)) 4])
     (.cond (tp 32) (.skip)
     (.exit 2)))
     (.block 3 (.reg [] [
       Ap 33 7 3,
       FB 34 33,
       AQ 7 34 3])))))
    (.seq (.seq (.reg [] [
      Ap 35 7 3,
      Ap 36 2 3,
      rq 37 (.binOp .eql 3 (tp 35) (tp 36) 3) 4])
    (.cond (tp 37) (.seq (.reg [] [
      rq 6 (.assign (kb true)) 4])
     (.ret))
    (.skip)))
    (.seq (.seq (.reg [] [
      Ap 38 2 3,
      Ap 39 1 3,
      rq 40 (.binOp .sub 3 (tp 38) (tp 39) 3) 3,
      rq 41 (.binOp .lss 3 (tp 40) (ki 50) 3) 4])
    (.cond (tp 41) (.seq (.reg [] [
      rq 6 (.assign (kb false)) 4])
     (.ret))
    (.skip)))
    (.seq (.reg [0, 1, 2, 3, 4, 5, 6, 7, 8, 9, 10, 11, 12, 13, 14, 15, 16, 17] [
      Ap 42 0 28,
      Ap 43 7 3,
      Ap 44 0 28,
      Ap 45 7 3,
      rq 46 (.binOp .sub 3 (tp 45) (ki 1) 3) 3,
      Ap 47 0 28,
      Ap 48 7 3,
      rq 49 (.binOp .sub 3 (tp 48) (ki 1) 3) 3,
      D5 50 28 47 49,
      Ce 51 50 3,
      Ap 52 0 28,
      Ap 53 7 3,
      D5 54 28 52 53,
      Ce 55 54 3,
      D5 56 28 42 43,
      rn (.store 3 (tp 56) (tp 51)) 0,
      D5 57 28 44 46,
      rn (.store 3 (tp 57) (tp 55)) 0])
    (.seq (.seq (.reg [] [
      Ap 58 7 3,
      Ap 59 1 3,
      rq 60 (.binOp .sub 3 (tp 58) (tp 59) 3) 3,
      rq 61 (.binOp .geq 3 (tp 60) (ki 2) 3) 4])
    (.cond (tp 61) (.seq (.reg [] [
      Ap 62 7 3,
      rq 63 (.binOp .sub 3 (tp 62) (ki 1) 3) 3,
      AQ 9 63 3])
     (.block 4 (.loop (.seq (.seq (.reg [] [
       Ap 64 9 3,
       rq 65 (.binOp .geq 3 (tp 64) (ki 1) 3) 4])
       (.cond (tp 65) (.skip)
       (.exit 4)))
       (.seq (.block 5 (.seq (.seq (.reg [0, 1, 2, 3, 4, 5, 6, 7, 8, 9, 10] [
         Ap 68 0 28,
         Ap 69 9 3,
         D5 70 28 68 69,
         Ce 71 70 3,
         Ap 72 0 28,
         Ap 73 9 3,
         rq 74 (.binOp .sub 3 (tp 73) (ki 1) 3) 3,
         D5 75 28 72 74,
         Ce 76 75 3,
         rq 77 (cf 74 #[(tp 71),(tp 76)] #[3,3]) 4,
         rq 78 (.unOp .not 4 (tp 77)) 4])
        (.cond (tp 78) (.exit 4)
        (.skip)))
        (.reg [0, 1, 2, 3, 4, 5, 6, 7, 8, 9, 10, 11, 12, 13, 14, 15, 16, 17] [
          Ap 79 0 28,
          Ap 80 9 3,
          Ap 81 0 28,
          Ap 82 9 3,
          rq 83 (.binOp .sub 3 (tp 82) (ki 1) 3) 3,
          Ap 84 0 28,
          Ap 85 9 3,
          rq 86 (.binOp .sub 3 (tp 85) (ki 1) 3) 3,
          D5 87 28 84 86,
          Ce 88 87 3,
          Ap 89 0 28,
          Ap 90 9 3,
          D5 91 28 89 90,
          Ce 92 91 3,
          D5 93 28 79 80,
          rn (.store 3 (tp 93) (tp 88)) 0,
          D5 94 28 81 83,
          rn (.store 3 (tp 94) (tp 92)) 0])))
       (.reg [] [
         Ap 66 9 3,
         rq 67 (.binOp .sub 3 (tp 66) (ki 1) 3) 3,
         AQ 9 67 3]))))))
    (.skip)))
    (.seq (.reg [] [
      Ap 95 2 3,
      Ap 96 7 3,
      rq 97 (.binOp .sub 3 (tp 95) (tp 96) 3) 3,
      rq 98 (.binOp .geq 3 (tp 97) (ki 2) 3) 4])
    (.cond (tp 98) (.seq (.reg [] [
      Ap 99 7 3,
      FB 100 99,
      AQ 10 100 3])
     (.block 6 (.loop (.seq (.seq (.reg [] [
       Ap 101 10 3,
       Ap 102 2 3,
       rq 103 (.binOp .lss 3 (tp 101) (tp 102) 3) 4])
       (.cond (tp 103) (.skip)
       (.exit 6)))
       (.seq (.block 7 (.seq (.seq (.reg [0, 1, 2, 3, 4, 5, 6, 7, 8, 9, 10] [
         Ap 106 0 28,
         Ap 107 10 3,
         D5 108 28 106 107,
         Ce 109 108 3,
         Ap 110 0 28,
         Ap 111 10 3,
         rq 112 (.binOp .sub 3 (tp 111) (ki 1) 3) 3,
         D5 113 28 110 112,
         Ce 114 113 3,
         rq 115 (cf 74 #[(tp 109),(tp 114)] #[3,3]) 4,
         rq 116 (.unOp .not 4 (tp 115)) 4])
        (.cond (tp 116) (.exit 6)
        (.skip)))
        (.reg [0, 1, 2, 3, 4, 5, 6, 7, 8, 9, 10, 11, 12, 13, 14, 15, 16, 17] [
          Ap 117 0 28,
          Ap 118 10 3,
          Ap 119 0 28,
          Ap 120 10 3,
          rq 121 (.binOp .sub 3 (tp 120) (ki 1) 3) 3,
          Ap 122 0 28,
          Ap 123 10 3,
          rq 124 (.binOp .sub 3 (tp 123) (ki 1) 3) 3,
          D5 125 28 122 124,
          Ce 126 125 3,
          Ap 127 0 28,
          Ap 128 10 3,
          D5 129 28 127 128,
          Ce 130 129 3,
          D5 131 28 117 118,
          rn (.store 3 (tp 131) (tp 126)) 0,
          D5 132 28 119 121,
          rn (.store 3 (tp 132) (tp 130)) 0])))
       (.reg [] [
         Ap 104 10 3,
         FB 105 104,
         AQ 10 105 3]))))))
    (.skip)))))))))
   (.reg [] [
     Ap 15 8 3,
     FB 16 15,
     AQ 8 16 3]))))))
 (.seq (.reg [] [
   rq 6 (.assign (kb false)) 4])
 (.ret))))
def vW:RC:=
 .seq (.reg [] [
  Cz 8 0 3])
 (.seq (.reg [0, 1, 2, 3, 4, 5, 6, 7, 8, 9, 10, 11, 12, 13, 14, 15] [
   Ap 11 0 28,Ap 12 1 3,Ap 13 0 28,Ap 14 3 3,Ap 15 0 28,Ap 16 3 3,D5 17 28 15 16,Ce 18 17 3,Ap 19 0 28,Ap 20 1 3,D5 21 28 19 20,Ce 22 21 3,D5 23 28 11 12,rn (.store 3 (tp 23) (tp 18)) 0,D5 24 28 13 14,rn (.store 3 (tp 24) (tp 22)) 0])
 (.seq (.reg [] [
   Ap 25 1 3,FB 26 25,Ap 27 2 3,rq 28 (.binOp .sub 3 (tp 27) (ki 1) 3) 3,AQ 9 26 3,AQ 10 28 3])
 (.seq (.block 0 (.loop (.block 1 (.seq (.block 2 (.loop (.seq (.seq (.reg [0, 1, 2, 3, 4, 5, 6, 7, 8, 9, 10, 11, 12, 13, 14] [
        Ap 29 9 3,
        Ap 30 10 3,
        rq 31 (.binOp .leq 3 (tp 29) (tp 30) 3) 4,
        Ap 32 31 4,
        DD 33 0 28 32 true,
        DD 34 1 3 32 true,
        rg 35 (.indexAddr 28 (tp 33) (tp 34)) 0 32 true,
        rg 36 (.load 3 (tp 35)) 3 32 true,
        DD 37 0 28 32 true,
        DD 38 9 3 32 true,
        rg 39 (.indexAddr 28 (tp 37) (tp 38)) 0 32 true,
        rg 40 (.load 3 (tp 39)) 3 32 true,
        rg 41 (cf 74 #[(tp 36),(tp 40)] #[3,3]) 4 32 true,
        rg 42 (.unOp .not 4 (tp 41)) 4 32 true,
        rq 43 (.pick (tp 32) (tp 42) (kb false)) 4])
   (.cond (tp 43) (.skip)
   (.exit 2)))
   (.block 3 (.reg [] [
     Ap 44 9 3,
     FB 45 44,
     AQ 9 45 3])))))
   (.seq (.block 4 (.loop (.seq (.seq (.reg [0, 1, 2, 3, 4, 5, 6, 7, 8, 9, 10, 11, 12, 13] [
     Ap 46 9 3,
     Ap 47 10 3,
     rq 48 (.binOp .leq 3 (tp 46) (tp 47) 3) 4,
     Ap 49 48 4,
     DD 50 0 28 49 true,
     DD 51 1 3 49 true,
     rg 52 (.indexAddr 28 (tp 50) (tp 51)) 0 49 true,
     rg 53 (.load 3 (tp 52)) 3 49 true,
     DD 54 0 28 49 true,
     DD 55 10 3 49 true,
     rg 56 (.indexAddr 28 (tp 54) (tp 55)) 0 49 true,
     rg 57 (.load 3 (tp 56)) 3 49 true,
     rg 58 (cf 74 #[(tp 53),(tp 57)] #[3,3]) 4 49 true,
     rq 59 (.pick (tp 49) (tp 58) (kb false)) 4])
     (.cond (tp 59) (.skip)
     (.exit 4)))
     (.block 5 (.reg [] [
       Ap 60 10 3,
       rq 61 (.binOp .sub 3 (tp 60) (ki 1) 3) 3,
       AQ 10 61 3])))))
   (.seq (.seq (.reg [] [
     Ap 62 9 3,
     Ap 63 10 3,
     rq 64 (.binOp .gtr 3 (tp 62) (tp 63) 3) 4])
   (.cond (tp 64) (.exit 0)
   (.skip)))
   (.seq (.reg [0, 1, 2, 3, 4, 5, 6, 7, 8, 9, 10, 11, 12, 13, 14, 15] [
     Ap 65 0 28,
     Ap 66 9 3,
     Ap 67 0 28,
     Ap 68 10 3,
     Ap 69 0 28,
     Ap 70 10 3,
     D5 71 28 69 70,
     Ce 72 71 3,
     Ap 73 0 28,
     Ap 74 9 3,
     D5 75 28 73 74,
     Ce 76 75 3,
     D5 77 28 65 66,
     rn (.store 3 (tp 77) (tp 72)) 0,
     D5 78 28 67 68,
     rn (.store 3 (tp 78) (tp 76)) 0])
   (.seq (.reg [] [
     Ap 79 9 3,
     FB 80 79,
     AQ 9 80 3])
   (.reg [] [
     Ap 81 10 3,
     rq 82 (.binOp .sub 3 (tp 81) (ki 1) 3) 3,
     AQ 10 82 3])))))))))
 (.seq (.reg [] [
   Ap 83 9 3,AQ 8 83 3])
 (.ret)))))
def vX:RC:=
 .seq (.reg [] [
  Cz 8 0 3,rq 9 (.assign (kb false)) 4])
 (.seq (.reg [0, 1, 2, 3, 4, 5, 6, 7, 8, 9, 10, 11, 12, 13, 14, 15] [
   Ap 12 0 28,Ap 13 1 3,Ap 14 0 28,Ap 15 3 3,Ap 16 0 28,Ap 17 3 3,D5 18 28 16 17,Ce 19 18 3,Ap 20 0 28,Ap 21 1 3,D5 22 28 20 21,Ce 23 22 3,D5 24 28 12 13,rn (.store 3 (tp 24) (tp 19)) 0,D5 25 28 14 15,rn (.store 3 (tp 25) (tp 23)) 0])
 (.seq (.reg [] [
   Ap 26 1 3,FB 27 26,Ap 28 2 3,rq 29 (.binOp .sub 3 (tp 28) (ki 1) 3) 3,AQ 10 27 3,AQ 11 29 3])
 (.seq (.block 0 (.loop (.seq (.seq (.reg [0, 1, 2, 3, 4, 5, 6, 7, 8, 9, 10, 11, 12, 13] [
   Ap 30 10 3,
   Ap 31 11 3,
   rq 32 (.binOp .leq 3 (tp 30) (tp 31) 3) 4,
   Ap 33 32 4,
   DD 34 0 28 33 true,
   DD 35 10 3 33 true,
   rg 36 (.indexAddr 28 (tp 34) (tp 35)) 0 33 true,
   rg 37 (.load 3 (tp 36)) 3 33 true,
   DD 38 0 28 33 true,
   DD 39 1 3 33 true,
   rg 40 (.indexAddr 28 (tp 38) (tp 39)) 0 33 true,
   rg 41 (.load 3 (tp 40)) 3 33 true,
   rg 42 (cf 74 #[(tp 37),(tp 41)] #[3,3]) 4 33 true,
   rq 43 (.pick (tp 33) (tp 42) (kb false)) 4])
   (.cond (tp 43) (.skip)
   (.exit 0)))
   (.block 1 (.reg [] [
     Ap 44 10 3,
     FB 45 44,
     AQ 10 45 3])))))
 (.seq (.block 2 (.loop (.seq (.seq (.reg [0, 1, 2, 3, 4, 5, 6, 7, 8, 9, 10, 11, 12, 13, 14] [
   Ap 46 10 3,
   Ap 47 11 3,
   rq 48 (.binOp .leq 3 (tp 46) (tp 47) 3) 4,
   Ap 49 48 4,
   DD 50 0 28 49 true,
   DD 51 11 3 49 true,
   rg 52 (.indexAddr 28 (tp 50) (tp 51)) 0 49 true,
   rg 53 (.load 3 (tp 52)) 3 49 true,
   DD 54 0 28 49 true,
   DD 55 1 3 49 true,
   rg 56 (.indexAddr 28 (tp 54) (tp 55)) 0 49 true,
   rg 57 (.load 3 (tp 56)) 3 49 true,
   rg 58 (cf 74 #[(tp 53),(tp 57)] #[3,3]) 4 49 true,
   rg 59 (.unOp .not 4 (tp 58)) 4 49 true,
   rq 60 (.pick (tp 49) (tp 59) (kb false)) 4])
   (.cond (tp 60) (.skip)
   (.exit 2)))
   (.block 3 (.reg [] [
     Ap 61 11 3,
     rq 62 (.binOp .sub 3 (tp 61) (ki 1) 3) 3,
     AQ 11 62 3])))))
 (.seq (.seq (.reg [] [
   Ap 63 10 3,Ap 64 11 3,rq 65 (.binOp .gtr 3 (tp 63) (tp 64) 3) 4])
 (.cond (tp 65) (.seq (.reg [0, 1, 2, 3, 4, 5, 6, 7, 8, 9, 10, 11, 12, 13, 14, 15] [
   Ap 66 0 28,
   Ap 67 11 3,
   Ap 68 0 28,
   Ap 69 1 3,
   Ap 70 0 28,
   Ap 71 1 3,
   D5 72 28 70 71,
   Ce 73 72 3,
   Ap 74 0 28,
   Ap 75 11 3,
   D5 76 28 74 75,
   Ce 77 76 3,
   D5 78 28 66 67,
   rn (.store 3 (tp 78) (tp 73)) 0,
   D5 79 28 68 69,
   rn (.store 3 (tp 79) (tp 77)) 0])
  (.seq (.reg [] [
    Ap 80 11 3,
    AQ 8 80 3,
    rq 9 (.assign (kb true)) 4])
  (.ret)))
 (.skip)))
 (.seq (.reg [0, 1, 2, 3, 4, 5, 6, 7, 8, 9, 10, 11, 12, 13, 14, 15] [
   Ap 81 0 28,Ap 82 10 3,Ap 83 0 28,Ap 84 11 3,Ap 85 0 28,Ap 86 11 3,D5 87 28 85 86,Ce 88 87 3,Ap 89 0 28,Ap 90 10 3,D5 91 28 89 90,Ce 92 91 3,D5 93 28 81 82,rn (.store 3 (tp 93) (tp 88)) 0,D5 94 28 83 84,rn (.store 3 (tp 94) (tp 92)) 0])
 (.seq (.reg [] [
   Ap 95 10 3,FB 96 95,AQ 10 96 3])
 (.seq (.reg [] [
   Ap 97 11 3,rq 98 (.binOp .sub 3 (tp 97) (ki 1) 3) 3,AQ 11 98 3])
 (.seq (.block 4 (.loop (.block 5 (.seq (.block 6 (.loop (.seq (.seq (.reg [0, 1, 2, 3, 4, 5, 6, 7, 8, 9, 10, 11, 12, 13] [
        Ap 99 10 3,
        Ap 100 11 3,
        rq 101 (.binOp .leq 3 (tp 99) (tp 100) 3) 4,
        Ap 102 101 4,
        DD 103 0 28 102 true,
        DD 104 10 3 102 true,
        rg 105 (.indexAddr 28 (tp 103) (tp 104)) 0 102 true,
        rg 106 (.load 3 (tp 105)) 3 102 true,
        DD 107 0 28 102 true,
        DD 108 1 3 102 true,
        rg 109 (.indexAddr 28 (tp 107) (tp 108)) 0 102 true,
        rg 110 (.load 3 (tp 109)) 3 102 true,
        rg 111 (cf 74 #[(tp 106),(tp 110)] #[3,3]) 4 102 true,
        rq 112 (.pick (tp 102) (tp 111) (kb false)) 4])
   (.cond (tp 112) (.skip)
   (.exit 6)))
   (.block 7 (.reg [] [
     Ap 113 10 3,
     FB 114 113,
     AQ 10 114 3])))))
   (.seq (.block 8 (.loop (.seq (.seq (.reg [0, 1, 2, 3, 4, 5, 6, 7, 8, 9, 10, 11, 12, 13, 14] [
     Ap 115 10 3,
     Ap 116 11 3,
     rq 117 (.binOp .leq 3 (tp 115) (tp 116) 3) 4,
     Ap 118 117 4,
     DD 119 0 28 118 true,
     DD 120 11 3 118 true,
     rg 121 (.indexAddr 28 (tp 119) (tp 120)) 0 118 true,
     rg 122 (.load 3 (tp 121)) 3 118 true,
     DD 123 0 28 118 true,
     DD 124 1 3 118 true,
     rg 125 (.indexAddr 28 (tp 123) (tp 124)) 0 118 true,
     rg 126 (.load 3 (tp 125)) 3 118 true,
     rg 127 (cf 74 #[(tp 122),(tp 126)] #[3,3]) 4 118 true,
     rg 128 (.unOp .not 4 (tp 127)) 4 118 true,
     rq 129 (.pick (tp 118) (tp 128) (kb false)) 4])
     (.cond (tp 129) (.skip)
     (.exit 8)))
     (.block 9 (.reg [] [
       Ap 130 11 3,
       rq 131 (.binOp .sub 3 (tp 130) (ki 1) 3) 3,
       AQ 11 131 3])))))
   (.seq (.seq (.reg [] [
     Ap 132 10 3,
     Ap 133 11 3,
     rq 134 (.binOp .gtr 3 (tp 132) (tp 133) 3) 4])
   (.cond (tp 134) (.exit 4)
   (.skip)))
   (.seq (.reg [0, 1, 2, 3, 4, 5, 6, 7, 8, 9, 10, 11, 12, 13, 14, 15] [
     Ap 135 0 28,
     Ap 136 10 3,
     Ap 137 0 28,
     Ap 138 11 3,
     Ap 139 0 28,
     Ap 140 11 3,
     D5 141 28 139 140,
     Ce 142 141 3,
     Ap 143 0 28,
     Ap 144 10 3,
     D5 145 28 143 144,
     Ce 146 145 3,
     D5 147 28 135 136,
     rn (.store 3 (tp 147) (tp 142)) 0,
     D5 148 28 137 138,
     rn (.store 3 (tp 148) (tp 146)) 0])
   (.seq (.reg [] [
     Ap 149 10 3,
     FB 150 149,
     AQ 10 150 3])
   (.reg [] [
     Ap 151 11 3,
     rq 152 (.binOp .sub 3 (tp 151) (ki 1) 3) 3,
     AQ 11 152 3])))))))))
 (.seq (.reg [0, 1, 2, 3, 4, 5, 6, 7, 8, 9, 10, 11, 12, 13, 14, 15] [
   Ap 153 0 28,Ap 154 11 3,Ap 155 0 28,Ap 156 1 3,Ap 157 0 28,Ap 158 1 3,D5 159 28 157 158,Ce 160 159 3,Ap 161 0 28,Ap 162 11 3,D5 163 28 161 162,Ce 164 163 3,D5 165 28 153 154,rn (.store 3 (tp 165) (tp 160)) 0,D5 166 28 155 156,rn (.store 3 (tp 166) (tp 164)) 0])
 (.seq (.reg [] [
   Ap 167 11 3,AQ 8 167 3,rq 9 (.assign (kb false)) 4])
 (.ret))))))))))))
def vY:RC:=
 .seq (.reg [] [
  Ap 10 1 3,AQ 8 10 3])
 (.block 0 (.loop (.block 1 (.seq (.reg [] [
   Ap 11 8 3,
   rq 12 (.binOp .mul 3 (ki 2) (tp 11) 3) 3,
   FB 13 12,
   AQ 9 13 3])
   (.seq (.seq (.reg [] [
     Ap 14 9 3,
     Ap 15 2 3,
     rq 16 (.binOp .geq 3 (tp 14) (tp 15) 3) 4])
   (.cond (tp 16) (.exit 0)
   (.skip)))
   (.seq (.seq (.reg [0, 1, 2, 3, 4, 5, 6, 7, 8, 9, 10, 11, 12, 13, 14, 15, 16, 17, 18, 19] [
     Ap 17 9 3,
     FB 18 17,
     Ap 19 2 3,
     rq 20 (.binOp .lss 3 (tp 18) (tp 19) 3) 4,
     Ap 21 20 4,
     DD 22 0 28 21 true,
     DD 23 3 3 21 true,
     DD 24 9 3 21 true,
     rg 25 (.binOp .add 3 (tp 23) (tp 24) 3) 3 21 true,
     rg 26 (.indexAddr 28 (tp 22) (tp 25)) 0 21 true,
     rg 27 (.load 3 (tp 26)) 3 21 true,
     DD 28 0 28 21 true,
     DD 29 3 3 21 true,
     DD 30 9 3 21 true,
     rg 31 (.binOp .add 3 (tp 29) (tp 30) 3) 3 21 true,
     rg 32 (.binOp .add 3 (tp 31) (ki 1) 3) 3 21 true,
     rg 33 (.indexAddr 28 (tp 28) (tp 32)) 0 21 true,
     rg 34 (.load 3 (tp 33)) 3 21 true,
     rg 35 (cf 74 #[(tp 27),(tp 34)] #[3,3]) 4 21 true,
     rq 36 (.pick (tp 21) (tp 35) (kb false)) 4])
   (.cond (tp 36) (.reg [] [
     Ap 37 9 3,
     FB 38 37,
     AQ 9 38 3])
   (.skip)))
   (.seq (.seq (.reg [0, 1, 2, 3, 4, 5, 6, 7, 8, 9, 10, 11, 12, 13] [
     Ap 39 0 28,
     Ap 40 3 3,
     Ap 41 8 3,
     rq 42 (.binOp .add 3 (tp 40) (tp 41) 3) 3,
     D5 43 28 39 42,
     Ce 44 43 3,
     Ap 45 0 28,
     Ap 46 3 3,
     Ap 47 9 3,
     rq 48 (.binOp .add 3 (tp 46) (tp 47) 3) 3,
     D5 49 28 45 48,
     Ce 50 49 3,
     rq 51 (cf 74 #[(tp 44),(tp 50)] #[3,3]) 4,
     rq 52 (.unOp .not 4 (tp 51)) 4])
   (.cond (tp 52) (.ret)
   (.skip)))
   (.seq (.reg [0, 1, 2, 3, 4, 5, 6, 7, 8, 9, 10, 11, 12, 13, 14, 15, 16, 17, 18, 19, 20, 21, 22, 23] [
     Ap 53 0 28,
     Ap 54 3 3,
     Ap 55 8 3,
     rq 56 (.binOp .add 3 (tp 54) (tp 55) 3) 3,
     Ap 57 0 28,
     Ap 58 3 3,
     Ap 59 9 3,
     rq 60 (.binOp .add 3 (tp 58) (tp 59) 3) 3,
     Ap 61 0 28,
     Ap 62 3 3,
     Ap 63 9 3,
     rq 64 (.binOp .add 3 (tp 62) (tp 63) 3) 3,
     D5 65 28 61 64,
     Ce 66 65 3,
     Ap 67 0 28,
     Ap 68 3 3,
     Ap 69 8 3,
     rq 70 (.binOp .add 3 (tp 68) (tp 69) 3) 3,
     D5 71 28 67 70,
     Ce 72 71 3,
     D5 73 28 53 56,
     rn (.store 3 (tp 73) (tp 66)) 0,
     D5 74 28 57 60,
     rn (.store 3 (tp 74) (tp 72)) 0])
   (.reg [] [
     Ap 75 9 3,
     AQ 8 75 3])))))))))
def vZ:RC:=
 .seq (.reg [] [
  Cz 6 0 3])
 (.seq (.reg [] [
   Ap 7 0 28,Ap 8 1 3,rq 9 (.binOp .sub 3 (tp 8) (ki 1) 3) 3,Ap 10 1 3,Ap 11 1 3,FB 12 11,Ap 13 2 135,rq 14 (cf 117 #[(tp 7),(tp 9),(tp 10),(tp 12),(tp 13)] #[28,3,3,3,135]) 3,AQ 6 14 3])
 (.ret))
def wB:RC:=
 .seq (.reg [] [
  Cz 10 0 3])
 (.seq (.reg [] [
   Ap 12 0 28,Ap 13 1 3,Ap 14 2 3,Ap 15 4 135,rq 16 (cf 118 #[(tp 12),(tp 13),(tp 14),(tp 15)] #[28,3,3,135]) 143,Ap 11 16 143,EM 17 11 0 3,EM 18 11 1 3,AQ 1 17 3,AQ 2 18 3])
 (.seq (.reg [] [
   Ap 20 0 28,Ap 21 2 3,Ap 22 3 3,Ap 23 4 135,rq 24 (cf 118 #[(tp 20),(tp 21),(tp 22),(tp 23)] #[28,3,3,135]) 143,Ap 19 24 143,EM 25 19 0 3,EM 26 19 1 3,AQ 2 25 3,AQ 3 26 3])
 (.seq (.reg [] [
   Ap 28 0 28,Ap 29 1 3,Ap 30 2 3,Ap 31 4 135,rq 32 (cf 118 #[(tp 28),(tp 29),(tp 30),(tp 31)] #[28,3,3,135]) 143,Ap 27 32 143,EM 33 27 0 3,EM 34 27 1 3,AQ 1 33 3,AQ 2 34 3])
 (.seq (.reg [] [
   Ap 35 2 3,AQ 10 35 3])
 (.ret)))))
def wC:RC:=
 .seq (.reg [] [
  Cz 8 0 3,Cz 9 0 3])
 (.seq (.seq (.reg [0, 1, 2, 3, 4, 5, 6, 7, 8] [
   Ap 10 0 28,Ap 11 2 3,D5 12 28 10 11,Ce 13 12 3,Ap 14 0 28,Ap 15 1 3,D5 16 28 14 15,Ce 17 16 3,rq 18 (cf 74 #[(tp 13),(tp 17)] #[3,3]) 4])
 (.cond (tp 18) (.seq (.reg [] [
   Ap 19 3 135,
   rq 20 (.nilCheck (tp 19)) 0,
   Ce 21 20 3,
   FB 22 21,
   rq 23 (.nilCheck (tp 19)) 0,
   rn (.store 3 (tp 23) (tp 22)) 0])
  (.seq (.reg [] [
    Ap 24 2 3,
    Ap 25 1 3,
    AQ 8 24 3,
    AQ 9 25 3])
  (.ret)))
 (.skip)))
 (.seq (.reg [] [
   Ap 26 1 3,Ap 27 2 3,AQ 8 26 3,AQ 9 27 3])
 (.ret)))
def ti3:TI:=⟨.int .i64,1,8,(some (.int .i64 0)),false⟩
def ti4:TI:=⟨.bool,1,1,(some (.bool false)),false⟩
def ti5:TI:=⟨.int .u8,1,1,(some (.int .u8 0)),false⟩
def ti9:TI:=⟨.string,1,16,(some (.string ⟨#[]⟩)),false⟩
def wI:TI:=⟨.slice 58,1,24,(some (.slice none 0 0)),false⟩
def wJ : TI := ⟨.struct #[⟨ "Lanes", 3, 0, false, "", "", 0⟩, ⟨ "Comparators", 22, 1, false, "", "", 8⟩], 2, 32, (some (.agg #[(.int .i64 0), (.slice none 0 0)])), false⟩
def wK:TI:=⟨.slice 3,1,24,(some (.slice none 0 0)),false⟩
def wL:TI:=⟨.int .i64,1,8,(some (.int .i64 0)),false⟩
def wM:TI:=⟨.slice 28,1,24,(some (.slice none 0 0)),false⟩
def wO:TI:=⟨.slice 109,1,24,(some (.slice none 0 0)),false⟩
def wP : TI := ⟨.struct #[⟨ "Lanes", 5, 0, false, "", "", 0⟩, ⟨ "Comparators", 51, 1, false, "", "", 8⟩, ⟨ "Full", 4, 2, false, "", "", 32⟩], 3, 40, (some (.agg #[(.int .u8 0), (.slice none 0 0), (.bool false)])), false⟩
def kY:TI:=⟨.array 2 3,2,16,(some (.agg #[(.int .i64 0),(.int .i64 0)])),true⟩
def wQ:TI:=⟨.slice 4,1,24,(some (.slice none 0 0)),false⟩
def wR:TI:=⟨.func #[28] #[] false,1,8,(some .nilFunc),false⟩
def wS:TI:=⟨.int .u64,1,8,(some (.int .u64 0)),false⟩
def wT:TI:=⟨.array 2 83,2,16,(some (.agg #[(.int .u64 0),(.int .u64 0)])),true⟩
def UD:TI:=⟨.array 7 84,14,112,(some (.agg #[(.int .u64 0),(.int .u64 0),(.int .u64 0),(.int .u64 0),(.int .u64 0),(.int .u64 0),(.int .u64 0),(.int .u64 0),(.int .u64 0),(.int .u64 0),(.int .u64 0),(.int .u64 0),(.int .u64 0),(.int .u64 0)])),true⟩
def wU:TI:=⟨.array 7 3,7,56,(some (.agg #[(.int .i64 0),(.int .i64 0),(.int .i64 0),(.int .i64 0),(.int .i64 0),(.int .i64 0),(.int .i64 0)])),true⟩
def Yf:TI:=⟨.int .u64,1,8,(some (.int .u64 0)),false⟩
def Yg:TI:=⟨.map 86 4,1,8,(some (.map none)),false⟩
def Yh : TI := ⟨.struct #[⟨ "rows", 86, 0, false, "", "spadille/table", 0⟩, ⟨ "by", 22, 14, false, "", "spadille/table", 112⟩], 15, 136, (some (.agg #[(.int .u64 0), (.int .u64 0), (.int .u64 0), (.int .u64 0), (.int .u64 0), (.int .u64 0), (.int .u64 0), (.int .u64 0), (.int .u64 0), (.int .u64 0), (.int .u64 0), (.int .u64 0), (.int .u64 0), (.int .u64 0), (.slice none 0 0)])), false⟩
def Yi:TI:=⟨.slice 105,1,24,(some (.slice none 0 0)),false⟩
def Yj:TI:=⟨.array 2 5,2,2,(some (.agg #[(.int .u8 0),(.int .u8 0)])),true⟩
def Yk:TI:=⟨.int .u32,1,4,(some (.int .u32 0)),false⟩
def Yl:TI:=⟨.int .i64,1,8,(some (.int .i64 0)),false⟩
def Ym:TI:=⟨.array 64 5,64,64,(some (.agg #[(.int .u8 0),(.int .u8 0),(.int .u8 0),(.int .u8 0),(.int .u8 0),(.int .u8 0),(.int .u8 0),(.int .u8 0),(.int .u8 0),(.int .u8 0),(.int .u8 0),(.int .u8 0),(.int .u8 0),(.int .u8 0),(.int .u8 0),(.int .u8 0),(.int .u8 0),(.int .u8 0),(.int .u8 0),(.int .u8 0),(.int .u8 0),(.int .u8 0),(.int .u8 0),(.int .u8 0),(.int .u8 0),(.int .u8 0),(.int .u8 0),(.int .u8 0),(.int .u8 0),(.int .u8 0),(.int .u8 0),(.int .u8 0),(.int .u8 0),(.int .u8 0),(.int .u8 0),(.int .u8 0),(.int .u8 0),(.int .u8 0),(.int .u8 0),(.int .u8 0),(.int .u8 0),(.int .u8 0),(.int .u8 0),(.int .u8 0),(.int .u8 0),(.int .u8 0),(.int .u8 0),(.int .u8 0),(.int .u8 0),(.int .u8 0),(.int .u8 0),(.int .u8 0),(.int .u8 0),(.int .u8 0),(.int .u8 0),(.int .u8 0),(.int .u8 0),(.int .u8 0),(.int .u8 0),(.int .u8 0),(.int .u8 0),(.int .u8 0),(.int .u8 0),(.int .u8 0)])),true⟩
def Yn:TI:=⟨.int .u64,1,8,(some (.int .u64 0)),false⟩
def Yo:TI:=⟨.pointer 3,1,8,(some (.pointer none)),false⟩
def wV:Tr TI:=(.node none (.node none (.node (some ti3) (.node none (.node none (.node none .nil (.node (some wU) .nil .nil)) .nil) (.node none (.node none (.node none (.node (some Yo) .nil .nil) .nil) (.node (some Yg) .nil .nil)) .nil)) (.node none (.node none (.node none (.node none (.node (some Yn) .nil .nil) .nil) .nil) (.node (some wO) (.node (some wS) .nil .nil) .nil)) .nil)) (.node (some ti5) (.node (some ti9) (.node none (.node (some wM) .nil .nil) .nil) (.node none (.node none .nil (.node (some Yh) .nil .nil)) .nil)) (.node none (.node none .nil (.node (some wP) .nil .nil)) (.node (some wL) (.node none .nil (.node (some Yj) .nil .nil)) .nil)))) (.node none (.node (some ti4) (.node none (.node none (.node none (.node (some wQ) .nil .nil) .nil) .nil) (.node (some wJ) .nil .nil)) (.node none (.node none (.node none (.node (some wR) .nil .nil) (.node (some Yf) .nil .nil)) (.node none (.node (some wT) .nil .nil) .nil)) (.node (some wK) .nil .nil))) (.node none (.node none (.node none (.node none (.node none (.node (some Ym) .nil .nil) .nil) .nil) .nil) (.node none (.node none .nil (.node (some Yi) .nil .nil)) (.node (some kY) .nil (.node (some Yl) .nil .nil)))) (.node none (.node (some wI) .nil (.node none (.node (some UD) .nil .nil) (.node (some Yk) .nil .nil))) .nil))))
noncomputable def tt:TT:=wV.get
def wW:Tr Xq:=(.node none (.node none (.node none (.node (some ⟨140,c7,[.tmp 2]⟩) (.node (some ⟨61,c15,[.tmp 2,.tmp 3]⟩) .nil (.node (some ⟨25,c47,[.tmp 2,.tmp 3]⟩) (.node (some ⟨8,c79,[.tmp 2]⟩) .nil .nil) (.node (some ⟨133,vV,[.tmp 6]⟩) .nil .nil))) (.node (some ⟨83,c23,[.tmp 2,.tmp 3]⟩) (.node (some ⟨35,c39,[]⟩) .nil (.node (some ⟨33,vP,[.tmp 2]⟩) .nil .nil)) (.node (some ⟨46,c55,[.tmp 2]⟩) (.node (some ⟨35,c87,[.tmp 2]⟩) .nil .nil) .nil))) (.node (some ⟨39,c11,[.tmp 2,.tmp 3]⟩) (.node (some ⟨61,c19,[.tmp 4,.tmp 5,.tmp 6]⟩) (.node (some ⟨9,c35,[.tmp 2]⟩) .nil (.node (some ⟨25,c99,[.tmp 2]⟩) .nil .nil)) (.node (some ⟨4,c51,[.tmp 2]⟩) (.node (some ⟨61,c83,[.tmp 2]⟩) .nil .nil) (.node (some ⟨76,vY,[]⟩) .nil .nil))) (.node (some ⟨63,c27,[.tmp 4,.tmp 5]⟩) (.node none (.node (some ⟨29,c75,[]⟩) .nil .nil) (.node (some ⟨56,vR,[]⟩) .nil .nil)) .nil))) (.node none (.node none (.node (some ⟨26,c17,[.tmp 4]⟩) (.node (some ⟨21,c33,[.tmp 2]⟩) (.node (some ⟨15,c65,[.tmp 6]⟩) .nil .nil) .nil) (.node (some ⟨20,c49,[.tmp 4]⟩) (.node (some ⟨43,c81,[.tmp 4]⟩) .nil .nil) (.node (some ⟨168,vX,[.tmp 8,.tmp 9]⟩) .nil .nil))) (.node (some ⟨26,c25,[.tmp 4]⟩) (.node none (.node (some ⟨8,c73,[.tmp 2]⟩) .nil .nil) .nil) (.node (some ⟨41,c57,[.cell 4 86]⟩) (.node (some ⟨6,c89,[.tmp 2]⟩) .nil .nil) .nil))) (.node (some ⟨53,c13,[.tmp 2,.tmp 3]⟩) (.node (some ⟨63,c21,[.tmp 4,.tmp 5]⟩) (.node (some ⟨60,c37,[]⟩) (.node (some ⟨26,c69,[.tmp 4]⟩) .nil .nil) .nil) (.node (some ⟨32,c53,[.cell 4 24]⟩) (.node (some ⟨14,c85,[.tmp 2]⟩) .nil .nil) (.node (some ⟨36,wB,[.tmp 10]⟩) .nil .nil))) (.node none (.node none (.node (some ⟨19,c77,[.tmp 4]⟩) .nil .nil) (.node (some ⟨57,vT,[.tmp 6,.tmp 7]⟩) .nil .nil)) (.node (some ⟨38,c61,[.tmp 4]⟩) .nil .nil))))) (.node none (.node none (.node none (.node none (.node (some ⟨66,c32,[.tmp 6,.tmp 7]⟩) (.node (some ⟨17,c64,[.cell 2 86,.tmp 3]⟩) .nil .nil) .nil) (.node (some ⟨40,Sn,[.tmp 2,.tmp 3]⟩) .nil (.node (some ⟨84,vW,[.tmp 8]⟩) .nil .nil))) (.node none .nil (.node (some ⟨38,c56,[.cell 2 86]⟩) .nil .nil))) (.node none (.node none (.node (some ⟨8,c36,[]⟩) .nil (.node (some ⟨134,vN,[]⟩) .nil .nil)) (.node (some ⟨3,c52,[.cell 0 24]⟩) .nil (.node (some ⟨15,vZ,[.tmp 6]⟩) .nil .nil))) (.node none (.node none (.node (some ⟨9,c76,[.tmp 2]⟩) .nil .nil) (.node (some ⟨65,vS,[]⟩) .nil .nil)) (.node (some ⟨21,QJ,[.cell 4 86]⟩) .nil .nil)))) (.node none (.node (some ⟨235,c10,[.tmp 0]⟩) (.node (some ⟨27,c18,[.tmp 4]⟩) (.node none (.node (some ⟨8,c66,[.tmp 2]⟩) .nil .nil) (.node (some ⟨19,c98,[.tmp 2]⟩) .nil .nil)) (.node (some ⟨3,c50,[.cell 0 24]⟩) (.node (some ⟨11,Jf,[]⟩) .nil .nil) .nil)) (.node (some ⟨84,c26,[.cell 4 24]⟩) (.node none (.node (some ⟨17,c74,[.tmp 4]⟩) .nil .nil) (.node (some ⟨49,vQ,[]⟩) .nil .nil)) .nil)) (.node none (.node none (.node (some ⟨9,c38,[.tmp 4]⟩) .nil (.node (some ⟨7,vO,[.tmp 2]⟩) .nil .nil)) (.node (some ⟨4,c54,[.tmp 2]⟩) (.node (some ⟨21,c86,[.tmp 2]⟩) .nil .nil) (.node (some ⟨28,wC,[.tmp 8,.tmp 9]⟩) .nil .nil))) (.node none (.node (some ⟨19,Sk,[.tmp 2,.tmp 3]⟩) .nil (.node (some ⟨32,vU,[]⟩) .nil .nil)) .nil)))))
noncomputable def LW:FuncId→Option Xq:=wW.get
end Go.TbW
