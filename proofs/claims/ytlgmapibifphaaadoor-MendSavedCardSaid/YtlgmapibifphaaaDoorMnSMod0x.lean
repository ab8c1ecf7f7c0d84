import Derived.Test.YtlgmapibifphaaaDoorSpFramex
import Derived.Test.YtlgmapibifphaaaDoorMnSNodes
import Derived.Test.YtlgmapibifphaaaDoorSpItx
import Derived.KernelRfl
set_option maxRecDepth 100000
namespace Go.MnS
open Go.Sp
def c10:RC:=UB
def c12:RC:=
 .seq (.reg [] [
  rq 0 (.assign (kb false)) 4])
 (.seq (.reg [] [
   rq 20 (cf 39 #[] #[]) 24,rq 21 (cf 38 #[(tp 20)] #[24]) 60,Ap 19 21 60,EM 22 19 0 22,EM 23 19 1 28,AQ 1 22 22,AQ 2 23 28])
 (.seq (.reg [] [
   rq 25 (cf 39 #[] #[]) 24,rq 26 (cf 29 #[(tp 25)] #[24]) 38,Ap 24 26 38,EM 27 24 0 3,EM 28 24 1 28,AQ 3 27 3,AQ 4 28 28])
 (.seq (.reg [] [
   rq 30 (cf 40 #[] #[]) 24,rq 31 (cf 29 #[(tp 30)] #[24]) 38,Ap 29 31 38,EM 32 29 0 3,EM 33 29 1 28,AQ 5 32 3,AQ 6 33 28])
 (.seq (.reg [] [
   rq 35 (cf 39 #[] #[]) 24,rq 36 (cf 16 #[(tp 35)] #[24]) 35,Ap 34 36 35,EM 37 34 0 34,EM 38 34 1 28,AQ 7 37 34,AQ 8 38 28])
 (.seq (.reg [] [
   rq 40 (cf 39 #[] #[]) 24,rq 41 (.buildSlice 22 2 #[(0,(ki 0)),(1,(ki 4))]) 22,rq 42 (cf 42 #[(tp 41)] #[22]) 22,rq 43 (.buildSlice 22 3 #[(0,(ki 1)),(1,(ki 2)),(2,(ki 3))]) 22,rq 44 (cf 42 #[(tp 43)] #[22]) 22,rq 45 (.buildSlice 34 2 #[(0,(tp 42)),(1,(tp 44))]) 34,rq 46 (cf 41 #[(tp 45)] #[34]) 34,rq 47 (cf 18 #[(tp 40),(tp 46)] #[24,34]) 38,Ap 39 47 38,EM 48 39 0 3,EM 49 39 1 28,AQ 9 48 3,AQ 10 49 28])
 (.seq (.reg [] [
   rq 51 (cf 40 #[] #[]) 24,rq 52 (cf 25 #[(tp 51),(ki 0),(ki 2)] #[24,3,3]) 52,Ap 50 52 52,EM 53 50 0 24,EM 54 50 1 28,rq 11 (.alloc 24) 0,rn (.store 24 (tp 11) (tp 53)) 0,AQ 12 54 28])
 (.seq (.reg [] [
   rq 56 (cf 40 #[] #[]) 24,rq 57 (cf 13 #[(tp 56)] #[24]) 29,Ap 55 57 29,EM 58 55 0 27,EM 59 55 1 28,AQ 13 58 27,AQ 14 59 28])
 (.seq (.seq (.reg [] [
   Ap 60 2 28,rq 61 (.binOp .neq 28 (tp 60) (ki 0) 28) 4,Ap 62 61 4,DD 63 4 28 62 false,rg 64 (.binOp .neq 28 (tp 63) (ki 0) 28) 4 62 false,rq 65 (.pick (tp 62) (kb true) (tp 64)) 4,Ap 66 65 4,DD 67 6 28 66 false,rg 68 (.binOp .neq 28 (tp 67) (ki 0) 28) 4 66 false,rq 69 (.pick (tp 66) (kb true) (tp 68)) 4,Ap 70 69 4,DD 71 8 28 70 false,rg 72 (.binOp .neq 28 (tp 71) (ki 0) 28) 4 70 false,rq 73 (.pick (tp 70) (kb true) (tp 72)) 4,Ap 74 73 4,DD 75 10 28 74 false,rg 76 (.binOp .neq 28 (tp 75) (ki 0) 28) 4 74 false,rq 77 (.pick (tp 74) (kb true) (tp 76)) 4,Ap 78 77 4,DD 79 12 28 78 false,rg 80 (.binOp .neq 28 (tp 79) (ki 0) 28) 4 78 false,rq 81 (.pick (tp 78) (kb true) (tp 80)) 4,Ap 82 81 4,DD 83 14 28 82 false,rg 84 (.binOp .neq 28 (tp 83) (ki 0) 28) 4 82 false,rq 85 (.pick (tp 82) (kb true) (tp 84)) 4])
 (.cond (tp 85) (.seq (.reg [] [
   rq 0 (.assign (kb false)) 4])
  (.ret))
 (.skip)))
 (.seq (.reg [] [
   rq 87 (cf 27 #[(ki 5),(ki 3)] #[3,3]) 38,Ap 86 87 38,EM 88 86 0 3,EM 89 86 1 28,AQ 15 88 3,AQ 2 89 28])
 (.seq (.reg [] [
   rq 91 (cf 39 #[] #[]) 24,rq 92 (cf 31 #[(tp 91)] #[24]) 60,Ap 90 92 60,EM 93 90 0 22,EM 94 90 1 28,AQ 16 93 22,AQ 4 94 28])
 (.seq (.reg [] [
   rq 96 (cf 40 #[] #[]) 24,rq 97 (cf 30 #[(tp 96)] #[24]) 38,Ap 95 97 38,EM 98 95 0 3,EM 99 95 1 28,AQ 17 98 3,AQ 6 99 28])
 (.seq (.reg [] [
   rq 101 (cf 40 #[] #[]) 24,rq 102 (cf 16 #[(tp 101)] #[24]) 35,Ap 100 102 35,EM 103 100 0 34,EM 104 100 1 28,AQ 18 103 34,AQ 8 104 28])
 (.seq (.reg [] [
   rq 106 (cf 39 #[] #[]) 24,rq 107 (.buildSlice 22 2 #[(0,(ki 0)),(1,(ki 1))]) 22,rq 108 (cf 42 #[(tp 107)] #[22]) 22,rq 109 (.buildSlice 22 3 #[(0,(ki 2)),(1,(ki 3)),(2,(ki 4))]) 22,rq 110 (cf 42 #[(tp 109)] #[22]) 22,rq 111 (.buildSlice 34 2 #[(0,(tp 108)),(1,(tp 110))]) 34,rq 112 (cf 41 #[(tp 111)] #[34]) 34,rq 113 (cf 18 #[(tp 106),(tp 112)] #[24,34]) 38,Ap 105 113 38,EM 114 105 0 3,EM 115 105 1 28,AQ 10 115 28])
 (.seq (.reg [0, 1, 2, 3, 4, 5, 6, 7, 8, 9, 10, 11, 12, 13, 14, 15, 16, 17, 18, 19, 20, 21, 22, 23, 24, 25, 26, 27, 28, 29, 30, 31, 32, 33, 34, 35, 36, 37, 38, 39, 40, 41, 42, 43, 44, 45, 46, 48, 47, 49, 50, 51, 52, 53, 54, 55, 56, 58, 57, 59, 60, 61, 62, 63, 64, 65, 66, 67, 68, 69, 70, 71, 72, 73, 74, 75, 76, 77, 78, 79, 80, 81, 82, 83, 84, 85, 86, 88, 89, 90, 87, 91, 92, 93, 94, 96, 97, 98, 95, 99, 100, 101, 102] [
   Ap 116 2 28,rq 117 (.binOp .eql 28 (tp 116) (ki 0) 28) 4,Ap 118 117 4,DD 119 4 28 118 true,rg 120 (.binOp .eql 28 (tp 119) (ki 0) 28) 4 118 true,rq 121 (.pick (tp 118) (tp 120) (kb false)) 4,Ap 122 121 4,DD 123 6 28 122 true,rg 124 (.binOp .eql 28 (tp 123) (ki 0) 28) 4 122 true,rq 125 (.pick (tp 122) (tp 124) (kb false)) 4,Ap 126 125 4,DD 127 8 28 126 true,rg 128 (.binOp .eql 28 (tp 127) (ki 0) 28) 4 126 true,rq 129 (.pick (tp 126) (tp 128) (kb false)) 4,Ap 130 129 4,DD 131 10 28 130 true,rg 132 (.binOp .eql 28 (tp 131) (ki 14) 28) 4 130 true,rq 133 (.pick (tp 130) (tp 132) (kb false)) 4,Ap 134 133 4,DD 135 3 3 134 true,rg 136 (.binOp .eql 3 (tp 135) (ki 3) 3) 4 134 true,rq 137 (.pick (tp 134) (tp 136) (kb false)) 4,Ap 138 137 4,DD 139 5 3 138 true,rg 140 (.binOp .eql 3 (tp 139) (ki 2) 3) 4 138 true,rq 141 (.pick (tp 138) (tp 140) (kb false)) 4,Ap 142 141 4,DD 143 9 3 142 true,rg 144 (.binOp .eql 3 (tp 143) (ki 2) 3) 4 142 true,rq 145 (.pick (tp 142) (tp 144) (kb false)) 4,Ap 146 145 4,DD 147 15 3 146 true,rg 148 (.binOp .eql 3 (tp 147) (ki 3) 3) 4 146 true,rq 149 (.pick (tp 146) (tp 148) (kb false)) 4,Ap 150 149 4,DD 151 17 3 150 true,rg 152 (.binOp .eql 3 (tp 151) (ki 4) 3) 4 150 true,rq 153 (.pick (tp 150) (tp 152) (kb false)) 4,Ap 154 153 4,DD 155 1 22 154 true,rg 156 (.buildSlice 22 5 #[(0,(ki 0)),(1,(ki 1)),(2,(ki 2)),(3,(ki 3)),(4,(ki 4))]) 22 154 true,rg 157 (cf 42 #[(tp 156)] #[22]) 22 154 true,rg 158 (cf 26 #[(tp 155),(tp 157)] #[22,22]) 4 154 true,rq 159 (.pick (tp 154) (tp 158) (kb false)) 4,Ap 160 159 4,DD 161 7 34 160 true,rg 162 (.buildSlice 22 3 #[(0,(ki 0)),(1,(ki 1)),(2,(ki 2))]) 22 160 true,rg 164 (.buildSlice 22 2 #[(0,(ki 3)),(1,(ki 4))]) 22 160 true,rg 163 (cf 42 #[(tp 162)] #[22]) 22 160 true,rg 165 (cf 42 #[(tp 164)] #[22]) 22 160 true,rg 166 (.buildSlice 34 2 #[(0,(tp 163)),(1,(tp 165))]) 34 160 true,rg 167 (cf 41 #[(tp 166)] #[34]) 34 160 true,rg 168 (cf 20 #[(tp 161),(tp 167)] #[34,34]) 4 160 true,rq 169 (.pick (tp 160) (tp 168) (kb false)) 4,Ap 170 169 4,DD 171 18 34 170 true,rg 172 (.buildSlice 22 2 #[(0,(ki 0)),(1,(ki 2))]) 22 170 true,rg 174 (.buildSlice 22 2 #[(0,(ki 1)),(1,(ki 3))]) 22 170 true,rg 173 (cf 42 #[(tp 172)] #[22]) 22 170 true,rg 175 (cf 42 #[(tp 174)] #[22]) 22 170 true,rg 176 (.buildSlice 34 2 #[(0,(tp 173)),(1,(tp 175))]) 34 170 true,rg 177 (cf 41 #[(tp 176)] #[34]) 34 170 true,rg 178 (cf 20 #[(tp 171),(tp 177)] #[34,34]) 4 170 true,rq 179 (.pick (tp 170) (tp 178) (kb false)) 4,Ap 180 179 4,rg 181 (.fieldAddr 24 (tp 11) 1) 0 180 true,rg 182 (.load 22 (tp 181)) 22 180 true,rg 183 (.buildSlice 22 4 #[(0,(ki 1)),(1,(ki 0)),(2,(ki 0)),(3,(ki 1))]) 22 180 true,
   ⟨(some 184),cf 42 #[(tp 183)] #[22],22,(some ((some 180),true)),[(tp 181)]⟩,rg 185 (cf 26 #[(tp 182),(tp 184)] #[22,22]) 4 180 true,rq 186 (.pick (tp 180) (tp 185) (kb false)) 4,Ap 187 186 4,DD 188 13 27 187 true,rg 189 (.build 51 #[(0,(ki 0)),(1,(ki 2))]) 51 187 true,rg 190 (.build 51 #[(0,(ki 0)),(1,(ki 3))]) 51 187 true,rg 191 (.build 51 #[(0,(ki 1)),(1,(ki 2))]) 51 187 true,rg 192 (.build 51 #[(0,(ki 1)),(1,(ki 3))]) 51 187 true,rg 193 (.buildSlice 27 4 #[(0,(tp 189)),(1,(tp 190)),(2,(tp 191)),(3,(tp 192))]) 27 187 true,rg 194 (cf 15 #[(tp 188),(tp 193)] #[27,27]) 4 187 true,rq 195 (.pick (tp 187) (tp 194) (kb false)) 4,Ap 196 195 4,DD 197 16 22 196 true,rg 198 (.buildSlice 22 5 #[(0,(ki 1)),(1,(ki 2)),(2,(ki 0)),(3,(ki 4)),(4,(ki 3))]) 22 196 true,rg 199 (cf 42 #[(tp 198)] #[22]) 22 196 true,rg 200 (cf 26 #[(tp 197),(tp 199)] #[22,22]) 4 196 true,rq 201 (.pick (tp 196) (tp 200) (kb false)) 4,Ap 202 201 4,rg 204 (.build 51 #[(0,(ki 0)),(1,(ki 2))]) 51 202 true,rg 205 (.build 51 #[(0,(ki 1)),(1,(ki 3))]) 51 202 true,rg 206 (.buildSlice 27 2 #[(0,(tp 204)),(1,(tp 205))]) 27 202 true,rg 203 (cf 40 #[] #[]) 24 202 true,rg 207 (cf 34 #[(tp 203),(tp 206)] #[24,27]) 28 202 true,rg 208 (.binOp .eql 28 (tp 207) (ki 0) 28) 4 202 true,rq 209 (.pick (tp 202) (tp 208) (kb false)) 4,Ap 210 209 4,rg 212 (.build 51 #[(0,(ki 0)),(1,(ki 1))]) 51 210 true,rg 213 (.build 51 #[(0,(ki 2)),(1,(ki 3))]) 51 210 true,rg 214 (.buildSlice 27 2 #[(0,(tp 212)),(1,(tp 213))]) 27 210 true,rg 211 (cf 40 #[] #[]) 24 210 true,rg 215 (cf 34 #[(tp 211),(tp 214)] #[24,27]) 28 210 true,rg 216 (.binOp .eql 28 (tp 215) (ki 14) 28) 4 210 true,rq 217 (.pick (tp 210) (tp 216) (kb false)) 4,AQ 0 217 4])
 (.ret)))))))))))))))
def c13:RC:=
 .seq (.reg [] [
  rq 1 (.box 24 (tp 0)) 0,rq 2 (.assign (.const (.slice none 0 0))) 27,Cz 3 0 28])
 (.seq (.reg [] [
   Ce 10 1 24,rq 11 (cf 29 #[(tp 10)] #[24]) 38,Ap 9 11 38,EM 12 9 0 3,EM 13 9 1 28,AQ 4 12 3,AQ 5 13 28])
 (.seq (.seq (.reg [] [
   Ap 14 5 28,rq 15 (.binOp .neq 28 (tp 14) (ki 0) 28) 4])
 (.cond (tp 15) (.seq (.reg [] [
   Ap 16 5 28,
   rq 2 (.assign (.const (.slice none 0 0))) 27,
   AQ 3 16 28])
  (.ret))
 (.skip)))
 (.seq (.reg [] [
   rq 6 (.assign (.const (.slice none 0 0))) 27])
 (.seq (.seq (.reg [] [
   DR 17 24 1 1,Ce 18 17 22,EN 19 18 22,rq 20 (.move (ki 0)) 3])
 (.block 0 (.loop (.seq (.reg [] [
   L8 21 20 19])
   (.seq (.cond (tp 21) (.skip)
   (.exit 0))
   (.seq (.block 1 (.seq (.reg [] [
     Ap 22 20 3,
     AQ 7 22 3])
    (.seq (.reg [] [
      Ap 23 7 3,
      FB 24 23,
      AQ 8 24 3])
    (.block 2 (.loop (.seq (.seq (.reg [] [
      Ap 25 8 3,
      DR 26 24 1 1,
      Ce 27 26 22,
      EN 28 27 22,
      rq 29 (.binOp .lss 3 (tp 25) (tp 28) 3) 4])
      (.cond (tp 29) (.skip)
      (.exit 2)))
      (.seq (.block 3 (.seq (.reg [] [
        Ce 32 1 24,
        Ap 33 7 3,
        Ap 34 8 3,
        rq 35 (cf 43 #[(tp 32),(tp 33),(tp 34)] #[24,3,3]) 24,
        rq 36 (cf 44 #[(tp 35)] #[24]) 3,
        Ap 37 4 3,
        rq 38 (.binOp .lss 3 (tp 36) (tp 37) 3) 4])
       (.cond (tp 38) (.reg [] [
         Ap 39 6 27,
         Ap 40 7 3,
         Ap 41 8 3,
         rq 42 (.build 51 #[(0,(tp 40)),(1,(tp 41))]) 51,
         rq 43 (.buildSlice 27 1 #[(0,(tp 42))]) 27,
         rq 44 (cb .append #[(tp 39),(tp 43)] #[27,27]) 27,
         AQ 6 44 27])
       (.skip))))
      (.reg [] [
        Ap 30 8 3,
        FB 31 30,
        AQ 8 31 3]))))))))
   (.reg [] [
     FB 45 20,
     Ap 20 45 3])))))))
 (.seq (.reg [] [
   Ap 46 6 27,AQ 2 46 27,Cz 3 0 28])
 (.ret))))))
def c15:RC:=
 .seq (.reg [] [
  rq 4 (.assign (kb false)) 4])
 (.seq (.seq (.reg [] [
   Ap 6 0 27,EN 7 6 27,Ap 8 1 27,EN 9 8 27,rq 10 (.binOp .neq 3 (tp 7) (tp 9) 3) 4])
 (.cond (tp 10) (.seq (.reg [] [
   rq 4 (.assign (kb false)) 4])
  (.ret))
 (.skip)))
 (.seq (.seq (.reg [] [
   Cz 5 0 3])
 (.block 0 (.loop (.seq (.seq (.reg [] [
   Ap 11 5 3,
   Ap 12 0 27,
   EN 13 12 27,
   rq 14 (.binOp .lss 3 (tp 11) (tp 13) 3) 4])
   (.cond (tp 14) (.skip)
   (.exit 0)))
   (.seq (.block 1 (.seq (.reg [0, 1, 2, 3, 4, 5, 6, 7, 8] [
     Ap 17 0 27,
     Ap 18 5 3,
     D5 19 27 17 18,
     Ce 20 19 51,
     Ap 21 1 27,
     Ap 22 5 3,
     D5 23 27 21 22,
     Ce 24 23 51,
     rq 25 (.binOp .neq 51 (tp 20) (tp 24) 51) 4])
    (.cond (tp 25) (.seq (.reg [] [
      rq 4 (.assign (kb false)) 4])
     (.ret))
    (.skip))))
   (.reg [] [
     Ap 15 5 3,
     FB 16 15,
     AQ 5 16 3]))))))
 (.seq (.reg [] [
   rq 4 (.assign (kb true)) 4])
 (.ret))))
def c16:RC:=UC
def c18:RC:=UD
def c20:RC:=UE
def c21:RC:=UF
def c22:RC:=QD
def c23:RC:=UG
def c24:RC:=Yq
def c25:RC:=
 .seq (.reg [] [
  rq 3 (.box 24 (tp 0)) 0,rq 6 (.alloc 24) 0,Cz 7 0 28])
 (.seq (.reg [] [
   Ce 9 3 24,rq 10 (cf 47 #[(tp 9)] #[24]) 28,AQ 8 10 28])
 (.seq (.seq (.reg [] [
   Ap 11 8 28,rq 12 (.binOp .eql 28 (tp 11) (ki 0) 28) 4])
 (.cond (tp 12) (.reg [] [
   Ce 13 3 24,
   Ap 14 1 3,
   Ap 15 2 3,
   rq 16 (cf 57 #[(tp 13),(tp 14),(tp 15)] #[24,3,3]) 28,
   AQ 8 16 28])
 (.skip)))
 (.seq (.seq (.reg [] [
   Ap 17 8 28,rq 18 (.binOp .neq 28 (tp 17) (ki 0) 28) 4])
 (.cond (tp 18) (.seq (.reg [] [
   rq 19 (.build 24 #[]) 24,
   Ap 20 8 28,
   rn (.store 24 (tp 6) (tp 19)) 0,
   AQ 7 20 28])
  (.ret))
 (.skip)))
 (.seq (.reg [] [
   Ce 21 3 24,Ap 22 1 3,Ap 23 2 3,rq 24 (cf 43 #[(tp 21),(tp 22),(tp 23)] #[24,3,3]) 24,rn (.store 24 (tp 6) (tp 24)) 0,Cz 7 0 28])
 (.ret)))))
def c26:RC:=UH
def c27:RC:=
 .seq (.reg [] [
  Cz 4 0 3,Cz 5 0 28])
 (.seq (.seq (.reg [] [
   Ap 6 0 3,rq 7 (cf 52 #[(ki 1),(tp 6),(ki 10)] #[3,3,3]) 4,rq 8 (.unOp .not 4 (tp 7)) 4,Ap 9 8 4,DD 10 1 3 9 false,rg 11 (cf 52 #[(ki 1),(tp 10),(ki 5)] #[3,3,3]) 4 9 false,rg 12 (.unOp .not 4 (tp 11)) 4 9 false,rq 13 (.pick (tp 9) (kb true) (tp 12)) 4])
 (.cond (tp 13) (.seq (.reg [] [
   Cz 4 0 3,
   Cz 5 1 28])
  (.ret))
 (.skip)))
 (.seq (.reg [] [
   Ap 14 0 3,Ap 15 0 3,Ap 16 1 3,rq 17 (.binOp .add 3 (tp 15) (tp 16) 3) 3,rq 18 (.binOp .sub 3 (tp 17) (ki 1) 3) 3,Ap 19 1 3,rq 20 (.binOp .quo 3 (tp 18) (tp 19) 3) 3,rq 21 (.binOp .sub 3 (tp 14) (tp 20) 3) 3,AQ 4 21 3,Cz 5 0 28])
 (.ret)))
def c29:RC:=UI
def c30:RC:=
 .seq (.reg [] [
  rq 1 (.box 24 (tp 0)) 0,Cz 2 0 3,Cz 3 0 28])
 (.seq (.seq (.reg [] [
   Ce 12 1 24,rq 13 (cf 47 #[(tp 12)] #[24]) 28,AQ 4 13 28])
 (.seq (.reg [] [
   Ap 14 4 28,rq 15 (.binOp .neq 28 (tp 14) (ki 0) 28) 4])
 (.cond (tp 15) (.seq (.reg [] [
   Ap 16 4 28,
   Cz 2 0 3,
   AQ 3 16 28])
  (.ret))
 (.skip))))
 (.seq (.reg [] [
   rq 5 (.assign (.func 58)) 88])
 (.seq (.reg [] [
   Ap 17 5 88,Ce 18 1 24,rq 19 (.call ⟨.value (tp 17),#[(tp 18)],#[24]⟩) 22,AQ 6 19 22])
 (.seq (.reg [] [
   Cz 7 0 3])
 (.seq (.seq (.reg [] [
   Ap 20 6 22,EN 21 20 22,rq 22 (.move (ki 0)) 3])
 (.block 0 (.loop (.seq (.reg [] [
   L8 23 22 21])
   (.seq (.cond (tp 23) (.skip)
   (.exit 0))
   (.seq (.block 1 (.seq (.reg [] [
     Ap 24 22 3,
     D5 25 22 20 22,
     Ce 26 25 3,
     AQ 8 24 3,
     AQ 9 26 3])
    (.seq (.reg [] [
      Ap 27 6 22,
      Ap 28 8 3,
      FB 29 28,
      rq 30 (.slice 22 (tp 27) (some (tp 29)) none none) 22,
      EN 31 30 22,
      rq 32 (.move (ki 0)) 3])
    (.block 2 (.loop (.seq (.reg [] [
      L8 33 32 31])
      (.seq (.cond (tp 33) (.skip)
      (.exit 2))
      (.seq (.block 3 (.seq (.reg [] [
        D5 34 22 30 32,
        Ce 35 34 3,
        AQ 11 35 3])
       (.seq (.reg [] [
         Ap 36 9 3,
         Ap 37 11 3,
         rq 38 (.binOp .gtr 3 (tp 36) (tp 37) 3) 4])
       (.cond (tp 38) (.reg [] [
         Ap 39 7 3,
         FB 40 39,
         AQ 7 40 3])
       (.skip)))))
      (.reg [] [
        FB 41 32,
        Ap 32 41 3])))))))))
   (.reg [] [
     FB 42 22,
     Ap 22 42 3])))))))
 (.seq (.reg [] [
   Ap 43 7 3,AQ 2 43 3,Cz 3 0 28])
 (.ret)))))))
def c31:RC:=
 .seq (.reg [] [
  rq 1 (.box 24 (tp 0)) 0,rq 2 (.assign (.const (.slice none 0 0))) 22,Cz 3 0 28])
 (.seq (.seq (.reg [] [
   Ce 5 1 24,rq 6 (cf 47 #[(tp 5)] #[24]) 28,AQ 4 6 28])
 (.seq (.reg [] [
   Ap 7 4 28,rq 8 (.binOp .neq 28 (tp 7) (ki 0) 28) 4])
 (.cond (tp 8) (.seq (.reg [] [
   Ap 9 4 28,
   rq 2 (.assign (.const (.slice none 0 0))) 22,
   AQ 3 9 28])
  (.ret))
 (.skip))))
 (.seq (.reg [] [
   Ce 10 1 24,rq 11 (cf 58 #[(tp 10)] #[24]) 22,AQ 2 11 22,Cz 3 0 28])
 (.ret)))
def c33:RC:=UJ
def c34:RC:=UK
def c36:RC:=UL
def c37:RC:=UM
def c38:RC:=
 .seq (.reg [] [
  rq 1 (.box 24 (tp 0)) 0,rq 2 (.assign (.const (.slice none 0 0))) 22,Cz 3 0 28])
 (.seq (.seq (.reg [] [
   Ce 5 1 24,rq 6 (cf 47 #[(tp 5)] #[24]) 28,AQ 4 6 28])
 (.seq (.reg [] [
   Ap 7 4 28,rq 8 (.binOp .neq 28 (tp 7) (ki 0) 28) 4])
 (.cond (tp 8) (.seq (.reg [] [
   Ap 9 4 28,
   rq 2 (.assign (.const (.slice none 0 0))) 22,
   AQ 3 9 28])
  (.ret))
 (.skip))))
 (.seq (.reg [] [
   Ce 10 1 24,rq 11 (cf 51 #[(tp 10)] #[24]) 80,rq 12 (cf 62 #[(tp 11)] #[80]) 22,AQ 2 12 22,Cz 3 0 28])
 (.ret)))
def c39:RC:=
 .seq (.reg [] [
  rq 0 (.alloc 24) 0])
 (.seq (.reg [] [
   rq 1 (.buildSlice 22 5 #[(0,(ki 0)),(1,(ki 1)),(2,(ki 2)),(3,(ki 0)),(4,(ki 1))]) 22,rq 2 (cf 42 #[(tp 1)] #[22]) 22,rq 3 (.buildSlice 22 5 #[(0,(ki 1)),(1,(ki 2)),(2,(ki 0)),(3,(ki 1)),(4,(ki 0))]) 22,rq 4 (cf 42 #[(tp 3)] #[22]) 22,rq 5 (.build 24 #[(0,(ki 3)),(1,(tp 2)),(2,(tp 4))]) 24,rn (.store 24 (tp 0) (tp 5)) 0])
 (.ret))
def c40:RC:=
 .seq (.reg [] [
  rq 0 (.alloc 24) 0])
 (.seq (.reg [] [
   rq 1 (.buildSlice 22 4 #[(0,(ki 0)),(1,(ki 0)),(2,(ki 1)),(3,(ki 1))]) 22,rq 2 (cf 42 #[(tp 1)] #[22]) 22,rq 3 (.buildSlice 22 4 #[(0,(ki 1)),(1,(ki 1)),(2,(ki 0)),(3,(ki 0))]) 22,rq 4 (cf 42 #[(tp 3)] #[22]) 22,rq 5 (.build 24 #[(0,(ki 2)),(1,(tp 2)),(2,(tp 4))]) 24,rn (.store 24 (tp 0) (tp 5)) 0])
 (.ret))
def c41:RC:=
 .seq (.reg [] [
  rq 2 (.assign (.const (.slice none 0 0))) 34])
 (.seq (.reg [] [
   Ap 3 0 34,AQ 2 3 34])
 (.ret))
def c42:RC:=
 .seq (.reg [] [
  rq 2 (.assign (.const (.slice none 0 0))) 22])
 (.seq (.reg [] [
   Ap 3 0 22,AQ 2 3 22])
 (.ret))
def c43:RC:=Yr
def c44:RC:=Yt
def c47:RC:=UN
def c48:RC:=UO
def c51:RC:=UQ
def c52:RC:=Yu
def c53:RC:=Yv
def c57:RC:=UT
def c58:RC:=
 .seq (.reg [] [
  rq 1 (.box 24 (tp 0)) 0,rq 2 (.assign (.const (.slice none 0 0))) 22])
 (.seq (.reg [] [
   rq 3 (.alloc 101) 0])
 (.seq (.seq (.reg [] [
   DR 9 24 1 1,Ce 10 9 22,EN 11 10 22,rq 12 (.move (ki 0)) 3])
 (.block 0 (.loop (.seq (.reg [] [
   L8 13 12 11])
   (.seq (.cond (tp 13) (.skip)
   (.exit 0))
   (.seq (.block 1 (.seq (.reg [] [
     Ap 14 12 3,
     D5 15 22 10 12,
     Ce 16 15 3,
     AQ 4 14 3,
     AQ 5 16 3])
    (.reg [] [
      Ap 17 5 3,
      Ap 18 5 3,
      D5 19 101 3 18,
      Ce 20 19 22,
      Ap 21 4 3,
      rq 22 (.buildSlice 22 1 #[(0,(tp 21))]) 22,
      rq 23 (cb .append #[(tp 20),(tp 22)] #[22,22]) 22,
      D5 24 101 3 17,
      rn (.store 22 (tp 24) (tp 23)) 0])))
   (.reg [] [
     FB 25 12,
     Ap 12 25 3])))))))
 (.seq (.reg [] [
   rq 6 (.assign (.const (.slice none 0 0))) 22])
 (.seq (.seq (.reg [] [
   DR 26 24 1 2,Ce 27 26 22,EN 28 27 22,rq 29 (.move (ki 0)) 3])
 (.block 2 (.loop (.seq (.reg [] [
   L8 30 29 28])
   (.seq (.cond (tp 30) (.skip)
   (.exit 2))
   (.seq (.block 3 (.seq (.reg [] [
     D5 31 22 27 29,
     Ce 32 31 3,
     AQ 8 32 3])
    (.reg [0, 1, 2, 3, 4, 5, 6, 7, 9, 10, 11, 12, 8, 13, 14, 15] [
      Ap 33 8 3,
      Ap 34 6 22,
      Ap 35 8 3,
      D5 36 101 3 35,
      Ce 37 36 22,
      rq 38 (.indexAddr 22 (tp 37) (ki 0)) 0,
      Ce 39 38 3,
      rq 40 (.buildSlice 22 1 #[(0,(tp 39))]) 22,
      Ap 42 8 3,
      D5 43 101 3 42,
      Ce 44 43 22,
      rq 45 (.slice 22 (tp 44) (some (ki 1)) none none) 22,
      ⟨(some 41),cb .append #[(tp 34),(tp 40)] #[22,22],22,none,[(tp 44),(tp 43)]⟩,
      AQ 6 41 22,
      D5 46 101 3 33,
      rn (.store 22 (tp 46) (tp 45)) 0])))
   (.reg [] [
     FB 47 29,
     Ap 29 47 3])))))))
 (.seq (.reg [] [
   Ap 48 6 22,AQ 2 48 22])
 (.ret))))))
def c60:RC:=QE
def c61:RC:=UU
def c62:RC:=UV
def c63:RC:=
 .seq (.reg [] [
  rq 2 (.assign (.const (.slice none 0 0))) 22])
 (.seq (.seq (.reg [] [
   Ap 3 0 22,rq 4 (.binOp .eql 22 (tp 3) (.const (.slice none 0 0)) 22) 4])
 (.cond (tp 4) (.seq (.reg [] [
   rq 2 (.assign (.const (.slice none 0 0))) 22])
  (.ret))
 (.skip)))
 (.seq (.reg [] [
   rq 5 (.buildSlice 22 0 #[]) 22,Ap 6 0 22,rq 7 (cb .append #[(tp 5),(tp 6)] #[22,22]) 22,AQ 2 7 22])
 (.ret)))
def c64:RC:=Yw
def c65:RC:=Wn
def c66:RC:=QF
def c67:RC:=Yx
def c68:RC:=QG
def c71:RC:=UW
def c72:RC:=Yy
def ti3:TI:=⟨.int .i64,1,8,(some (.int .i64 0)),false⟩
def ti4:TI:=⟨.bool,1,1,(some (.bool false)),false⟩
def ti5:TI:=⟨.int .u8,1,1,(some (.int .u8 0)),false⟩
def ti9:TI:=⟨.string,1,16,(some (.string ⟨#[]⟩)),false⟩
def Ae8:TI:=⟨.slice 3,1,24,(some (.slice none 0 0)),false⟩
def Ae9 : TI := ⟨.struct #[⟨ "Kinds", 3, 0, false, "", "", 0⟩, ⟨ "Has", 22, 1, false, "", "", 8⟩, ⟨ "Wants", 22, 2, false, "", "", 32⟩], 3, 56, (some (.agg #[(.int .i64 0), (.slice none 0 0), (.slice none 0 0)])), false⟩
def Afa:TI:=⟨.slice 51,1,24,(some (.slice none 0 0)),false⟩
def Afb:TI:=⟨.int .i64,1,8,(some (.int .i64 0)),false⟩
def Afc:TI:=⟨.slice 22,1,24,(some (.slice none 0 0)),false⟩
def Afd:TI:=⟨.array 10 5,10,10,(some (.agg #[(.int .u8 0),(.int .u8 0),(.int .u8 0),(.int .u8 0),(.int .u8 0),(.int .u8 0),(.int .u8 0),(.int .u8 0),(.int .u8 0),(.int .u8 0)])),true⟩
def Afe : TI := ⟨.struct #[⟨ "Kinds", 5, 0, false, "", "", 0⟩, ⟨ "Places", 5, 1, false, "", "", 1⟩, ⟨ "Wants", 43, 2, false, "", "", 2⟩, ⟨ "Order", 43, 12, false, "", "", 12⟩], 22, 22, (some (.agg #[(.int .u8 0), (.int .u8 0), (.int .u8 0), (.int .u8 0), (.int .u8 0), (.int .u8 0), (.int .u8 0), (.int .u8 0), (.int .u8 0), (.int .u8 0), (.int .u8 0), (.int .u8 0), (.int .u8 0), (.int .u8 0), (.int .u8 0), (.int .u8 0), (.int .u8 0), (.int .u8 0), (.int .u8 0), (.int .u8 0), (.int .u8 0), (.int .u8 0)])), true⟩
def Aff:TI:=⟨.map 3 3,1,8,(some (.map none)),false⟩
def Afg:TI:=⟨.array 2 3,2,16,(some (.agg #[(.int .i64 0),(.int .i64 0)])),true⟩
def Afh:TI:=⟨.func #[3] #[] false,1,8,(some .nilFunc),false⟩
def Afi:TI:=⟨.int .u16,1,2,(some (.int .u16 0)),false⟩
def Afj:TI:=⟨.int .u16,1,2,(some (.int .u16 0)),false⟩
def Afk:TI:=⟨.map 3 4,1,8,(some (.map none)),false⟩
def Afl:TI:=⟨.pointer 105,1,8,(some (.pointer none)),false⟩
def Afm:TI:=⟨.array 5 3,5,40,(some (.agg #[(.int .i64 0),(.int .i64 0),(.int .i64 0),(.int .i64 0),(.int .i64 0)])),true⟩
def pK:TI:=⟨.array 5 22,5,120,(some (.agg #[(.slice none 0 0),(.slice none 0 0),(.slice none 0 0),(.slice none 0 0),(.slice none 0 0)])),false⟩
def pM:TI:=⟨.int .u64,1,8,(some (.int .u64 0)),false⟩
def pO:TI:=⟨.map 80 3,1,8,(some (.map none)),false⟩
def pQ : TI := ⟨.struct #[⟨ "Tray", 24, 0, true, "", "", 0⟩, ⟨ "known", 103, 3, false, "", "spadille/mend", 56⟩], 4, 64, (some (.agg #[(.int .i64 0), (.slice none 0 0), (.slice none 0 0), (.map none)])), false⟩
def pR:TI:=⟨.array 32 5,32,32,(some (.agg #[(.int .u8 0),(.int .u8 0),(.int .u8 0),(.int .u8 0),(.int .u8 0),(.int .u8 0),(.int .u8 0),(.int .u8 0),(.int .u8 0),(.int .u8 0),(.int .u8 0),(.int .u8 0),(.int .u8 0),(.int .u8 0),(.int .u8 0),(.int .u8 0),(.int .u8 0),(.int .u8 0),(.int .u8 0),(.int .u8 0),(.int .u8 0),(.int .u8 0),(.int .u8 0),(.int .u8 0),(.int .u8 0),(.int .u8 0),(.int .u8 0),(.int .u8 0),(.int .u8 0),(.int .u8 0),(.int .u8 0),(.int .u8 0)])),true⟩
def pV:TI:=⟨.int .u32,1,4,(some (.int .u32 0)),false⟩
def Afn:Tr TI:=(.node none (.node none (.node (some ti3) (.node none (.node none .nil (.node (some Aff) (.node (some Afi) .nil .nil) .nil)) (.node none (.node none .nil (.node (some pO) .nil .nil)) .nil)) (.node none (.node none .nil (.node (some Afg) .nil .nil)) (.node (some Afa) (.node (some Afd) .nil (.node (some pR) .nil .nil)) (.node none (.node (some Afk) .nil .nil) .nil)))) (.node (some ti5) (.node (some ti9) (.node none (.node none .nil (.node (some Afm) .nil .nil)) .nil) (.node none (.node none .nil (.node (some pQ) .nil .nil)) (.node (some Afh) .nil .nil))) (.node none (.node none (.node none .nil (.node (some pK) .nil .nil)) .nil) (.node none (.node (some Afe) .nil .nil) .nil)))) (.node none (.node (some ti4) (.node none (.node none .nil (.node none (.node (some Afj) .nil .nil) .nil)) (.node (some Ae9) .nil .nil)) (.node none .nil (.node (some Afb) (.node none .nil (.node (some pV) .nil .nil)) .nil))) (.node none (.node none (.node none (.node (some Afc) .nil .nil) .nil) .nil) (.node none (.node (some Ae8) (.node none .nil (.node (some pM) .nil .nil)) .nil) (.node none .nil (.node none (.node (some Afl) .nil .nil) .nil))))))
noncomputable def tt:TT:=Afn.get
def Afo:Tr Xq:=(.node none (.node none (.node none (.node none (.node (some ⟨26,c15,[.tmp 4]⟩) (.node (some ⟨12,c31,[.tmp 2,.tmp 3]⟩) (.node (some ⟨8,c63,[.tmp 2]⟩) .nil .nil) .nil) (.node (some ⟨73,c47,[.tmp 2]⟩) .nil .nil)) (.node (some ⟨18,c23,[.tmp 2]⟩) (.node (some ⟨6,c39,[.cell 0 24]⟩) (.node (some ⟨38,c71,[.tmp 4]⟩) .nil .nil) .nil) .nil)) (.node none (.node none (.node none (.node (some ⟨15,c67,[.tmp 2]⟩) .nil .nil) .nil) (.node (some ⟨27,c51,[.tmp 2]⟩) .nil .nil)) (.node (some ⟨22,c27,[.tmp 4,.tmp 5]⟩) (.node (some ⟨36,c43,[.cell 6 24]⟩) .nil .nil) .nil))) (.node none (.node none (.node none (.node (some ⟨53,c33,[.tmp 2,.tmp 3]⟩) (.node (some ⟨8,c65,[.tmp 2]⟩) .nil .nil) .nil) .nil) (.node (some ⟨25,c25,[.cell 6 24,.tmp 7]⟩) (.node (some ⟨4,c41,[.tmp 2]⟩) .nil .nil) (.node (some ⟨25,c57,[.tmp 6]⟩) .nil .nil))) (.node (some ⟨47,c13,[.tmp 2,.tmp 3]⟩) (.node (some ⟨83,c21,[.cell 6 24]⟩) (.node (some ⟨26,c37,[.tmp 2]⟩) .nil .nil) (.node (some ⟨10,c53,[.tmp 4]⟩) .nil .nil)) (.node (some ⟨12,c29,[.tmp 2,.tmp 3]⟩) .nil (.node (some ⟨70,c61,[.tmp 4]⟩) .nil .nil))))) (.node none (.node none (.node none (.node (some ⟨12,c16,[.tmp 2,.tmp 3]⟩) (.node none (.node (some ⟨11,c64,[.tmp 2]⟩) .nil .nil) .nil) (.node (some ⟨46,c48,[.tmp 2]⟩) .nil .nil)) (.node (some ⟨26,c24,[.tmp 6]⟩) (.node (some ⟨6,c40,[.cell 0 24]⟩) (.node (some ⟨9,c72,[.tmp 2]⟩) .nil .nil) .nil) .nil)) (.node (some ⟨218,c12,[.tmp 0]⟩) (.node (some ⟨27,c20,[.tmp 4]⟩) (.node (some ⟨37,c36,[.tmp 2]⟩) (.node (some ⟨94,c68,[.tmp 8]⟩) .nil .nil) .nil) (.node (some ⟨15,c52,[.tmp 6]⟩) .nil .nil)) (.node none (.node (some ⟨13,c44,[.tmp 2]⟩) .nil .nil) (.node (some ⟨108,c60,[]⟩) .nil .nil)))) (.node none (.node (some ⟨137,c10,[.tmp 2]⟩) (.node (some ⟨91,c18,[.tmp 4,.tmp 5]⟩) (.node (some ⟨39,c34,[.tmp 4]⟩) (.node (some ⟨52,c66,[.tmp 4]⟩) .nil .nil) .nil) .nil) (.node (some ⟨26,c26,[.tmp 4]⟩) (.node (some ⟨4,c42,[.tmp 2]⟩) .nil .nil) (.node (some ⟨49,c58,[.tmp 2]⟩) .nil .nil))) (.node none (.node (some ⟨77,c22,[.tmp 4]⟩) (.node (some ⟨13,c38,[.tmp 2,.tmp 3]⟩) .nil .nil) .nil) (.node (some ⟨44,c30,[.tmp 2,.tmp 3]⟩) .nil (.node (some ⟨16,c62,[.tmp 2]⟩) .nil .nil))))))
noncomputable def Pf:FuncId→Option Xq:=Afo.get
end Go.MnS
set_option maxRecDepth 100000
namespace Go.Sp
theorem PG.cap (id off sz ln m:Nat):PG (.slice (some ⟨id,off,some sz⟩) ln (2*m+1)) (.slice (some ⟨id,off,some sz⟩) ln (2*m)):=fun R u h=>by
 have e1:(2*m+1) / 2=m:=by omega
 have e2:2*m / 2=m:=by omega
 cases h with
 | sl h h1 h2 h3 h4 =>
  rw[e1] at h1 h2
  exact .sl h (by rw[e2];exact h1) (by rw[e2];exact h2) (λh=>by omega) h4
 | slE h=>exact .slE (by omega)
 | slN h=>exact .slN (by omega)
end Go.Sp
namespace Go.MnSM
open Go.Sp Go.MnS
noncomputable section
def X9 (sz by':Nat) (args:List Value) (H:Aa):Option (Value×Aa):=
 ll args none fun x r => ll r (oo (Bj sz x) none fun s => Aa.rec (motive := fun _ => Option (Value × Aa)) (fun k T z => bb z (bb (EQ (0 + s.n) by')
  (some (.slice (some ⟨Nat.succ k,0,some sz⟩) s.n (2*s.n+bb false 1 0),((⟨k,T,true⟩:Aa).push (.cells [] false false [])).push (.cells (Aq (s.n*sz) s.cs) false false []))) none) none) H) λ_ _=>none
def o63:List Fs:=[
 ⟨(some 5),.buildSlice 22 0 #[],22,none,[]⟩,
 ⟨(some 6),.move (.tmp 0),22,none,[]⟩,
 ⟨(some 7),.call ⟨.builtin .append,#[(.tmp 5),(.tmp 6)],#[22,22]⟩,22,none,[]⟩,
 ⟨(some 2),.assign (.tmp 7),22,none,[]⟩]
def H1 (k:Nat) (T:Tr AJ):Aa:=(⟨k,T,true⟩:Aa).push (.cells [] false false [])
def F1 (a:Value):Fr:=Fr.puts (Fr.made 8 [a]) [(2,.slice none 0 0),(3,a),(4,.bool false)]
def F2 (a:Value) (k:Nat):Fr:=Fr.puts (F1 a) [(5,.slice (some ⟨k,0,some 1⟩) 0 1)]
def Ay (a:Value) (k:Nat):Fr:=Fr.puts (F2 a k) [(6,a)]
def AO (a:Value) (k:Nat) (v:Value):Fr:=Fr.puts (Ay a k) [(7,v)]
def A7 (a:Value) (k:Nat) (v:Value):Fr:=Fr.puts (AO a k v) [(2,v)]
theorem Abw (k:Nat) (T:Tr AJ):Bv ((H1 k T).get k)=some ⟨[],false,false,[]⟩:=by
 unfold H1
 rw[Aa.get_push,if_pos rfl];rfl
theorem mI (k:Nat) (T:Tr AJ):(H1 k T).next=k+1:=by
 unfold H1;rw[Aa.next_push]
theorem fO (k:Nat) (T:Tr AJ):Cr tt Pf 2 63 [FP 1 0 2 []] ⟨k,T,true⟩=some (.slice none 0 0,⟨k,T,true⟩):=by kernel_rfl
theorem ops (call:A8) (k:Nat) (T:Tr AJ) (a v:Value) (H2:Aa) (s:Sl) (ha:a=s.v 1) (hD:Ql (H1 k T) 1 8 (.slice (some ⟨k,0,some 1⟩) 0 1) s=some (v,H2)) :
 BD tt call o63 (F1 a) ⟨k,T,true⟩=some (A7 a k v,H2):=by
 subst ha
 refine Ob (some (.slice (some ⟨k,0,some 1⟩) 0 1,H1 k T)) (by kernel_rfl) rfl (by kernel_rfl) ?_
 refine Ob (some (s.v 1,H1 k T)) (by kernel_rfl) rfl (by kernel_rfl) ?_
 refine Ob (Ql (H1 k T) 1 8 (.slice (some ⟨k,0,some 1⟩) 0 1) s) (by kernel_rfl) hD (by kernel_rfl) ?_
 refine Ob (some (v,H2)) (by kernel_rfl) rfl (by kernel_rfl) ?_
 rfl
theorem ev (k:Nat) (T:Tr AJ) (a v:Value) (H2:Aa) (h1:MZ tt (Cr tt Pf 1) 1 c63 (Fr.made 8 [a]) ⟨k,T,true⟩=MZ tt (Cr tt Pf 1) 1 (.seq (.reg [] o63) .ret) (F1 a) ⟨k,T,true⟩)
 (h:BD tt (Cr tt Pf 1) o63 (F1 a) ⟨k,T,true⟩=some (A7 a k v,H2)):Cr tt Pf 2 63 [a] ⟨k,T,true⟩=some (v,H2):=by
 show Xr tt [.tmp 2] (MZ tt (Cr tt Pf 1) 1 c63 (Fr.made 8 [a]) ⟨k,T,true⟩)=_
 rw[h1]
 show Xr tt [.tmp 2] (IK (Ab2 (BD tt (Cr tt Pf 1) o63 (F1 a) ⟨k,T,true⟩)) _)=_
 rw[h]
 kernel_rfl
theorem Abx (k:Nat) (T:Tr AJ):Cr tt Pf 2 63 [FP 1 0 3 []] ⟨k,T,true⟩=some (.slice (some ⟨k,0,some 1⟩) 0 1,H1 k T):=
 ev k T _ _ _ (by kernel_rfl) (ops _ k T _ _ _ ⟨0,3,[]⟩ rfl (Ze rfl))
theorem Aby (k:Nat) (T:Tr AJ) (n:Nat) (cs:List Value) (hr:EQ (0+(n+1)) 8=true) :
 Cr tt Pf 2 63 [FP 1 (n+1) 0 cs] ⟨k,T,true⟩=some (sliceAt (k+1) 0 1 (0+(n+1)) (0+(n+1)) false,(H1 k T).push (.cells (Aq ((n+1)*1) cs) false false [])):=
 ev k T _ _ _ (by kernel_rfl) (ops _ k T _ _ _ ⟨n+1,0,cs⟩ rfl (by rw[Zf rfl hr (Abw k T),mI]))
theorem Ya {P:Program} (hT:Jm P tt) (hf:∀ f r,Pf f=some r→Ar P [0] f r) (hm:P.follows .mixedOrders=true) {args:List Value} {H H':Aa} {v:Value} (h:X9 1 8 args H=some (v,H')) :
 (∀ (as:Array Value) (w:World),(callFunc 63 as).run P w = .ok (.enter 63 as) w) ∧
 ∀ R w args',Ck H R w→JH [0] R→Cf R args args'→Calls P 63 ⟨args'⟩ w λe w'=>∃ u R',e = .returned u∧VR R' v u∧Ba H R w H' R' w':=by
 refine⟨((Rx hT hf hm 2) 63 _ _ _ _ (fO 0 .nil)).1,λR w args' hs hgl ha=>?_⟩
 obtain⟨x,r,rfl,h⟩:=Ad h
 obtain⟨rfl,h⟩:=AC h
 obtain⟨s,hsl,h⟩:=Ab h
 obtain rfl:=Qh hsl
 obtain⟨k,T,z⟩:=H
 obtain⟨hz,h⟩:=Ae (show bb z _ none=some _ from h)
 subst hz
 obtain⟨hr,h⟩:=Ae h
 injection h with h;injection h with e1 e2;subst e1;subst e2
 obtain⟨u,us,rfl,hu,hnil⟩:=ha.uncons
 obtain rfl:=hnil.unnil
 obtain⟨n,fl,cs⟩:=s
 have run:∀ (a v1:Value) (H2:Aa),Cr tt Pf 2 63 [a] ⟨k,T,true⟩=some (v1,H2)→VR R a u→Calls P 63 ⟨[u]⟩ w λe w'=>∃ u' R',e = .returned u'∧VR R' v1 u'∧Ba ⟨k,T,true⟩ R w H2 R' w':=λa v1 H2 he hau=>
  ((Rx hT hf hm 2) 63 _ _ _ _ he).2 R w [u] hs hgl (.one hau)
 have empty : ∀ (a : Value), VR R a u → (a = FP 1 0 2 [] ∨ a = FP 1 0 3 []) → ∀ o, o = AJ.cells (Aq (0 * 1) cs) false false [] → Calls P 63 ⟨[u]⟩ w fun e w' => ∃ u' R', e = .returned u' ∧ VR R' (.slice (some ⟨Nat.succ k, 0, some 1⟩) 0 (2 * 0 + bb false 1 0)) u' ∧
  Ba ⟨k,T,true⟩ R w ((H1 k T).push o) R' w':=λa hau hcase o ho=>by
  rcases hcase with rfl | rfl
  ·refine(run _ _ _ (fO k T) hau).mono λe w' ⟨u',R',h1,h2,h3⟩=>⟨u',R',h1,?_,(h3.absPush (obj:=.cells [] false false []) rfl).absPush (by rw[ho];rfl)⟩
   rw[h2.slNil_l];exact .slN rfl
  ·refine(run _ _ _ (Abx k T) hau).mono λe w' ⟨u',R',h1,h2,h3⟩=>⟨u',R',h1,?_,h3.absPush (by rw[ho];rfl)⟩
   cases h2 with
   | sl _ _ _ h3 _=>have:=h3 rfl;subst this;exact .slE rfl
   | slE=>exact .slE rfl
   | slN=>exact .slN rfl
 rcases hu.fs_l (f:=⟨1,n,fl,cs⟩) rfl with⟨h1,h2,rfl⟩|⟨_,h1,h2,c,o,sp,rfl⟩|⟨c,o,cap,C,hro,rfl,hn,k1,k2,k3,hfit,hcr,hcl⟩
 ·have h1:n=0:=h1
  subst h1
  exact empty _ (.fsN 1 2 (by decide)) (.inl rfl) _ rfl
 ·have h1:n=0:=h1
  subst h1
  exact empty _ (.fsE (by decide)) (.inr rfl) _ rfl
 ·cases n with
  | zero =>
   have hc0:cs=[]:=by simpa using hn
   subst hc0
   exact empty (FP 1 0 3 []) (.mkFs hro rfl (Nat.zero_le _) (λh=>by cases h) (by decide) hfit hcr hcl) (.inr rfl) _ rfl
  | succ n =>
   refine(run _ _ _ (Aby k T n cs hr) (.mkFs hro hn k1 (λh=>by cases h) (by decide) hfit hcr hcl)).mono λe w' ⟨u',R',g1,g2,g3⟩=>⟨u',R',g1,?_,g3⟩
   rwa [Nat.zero_add] at g2
end
end Go.MnSM
set_option maxRecDepth 100000
set_option maxHeartbeats 20000000
set_option linter.unusedVariables false
namespace Go.MnSM
open Go.Sp Go.MnS
noncomputable section
def UY:List Value:=[.int .u8 0,.int .u8 1,.int .u8 28,.int .u8 2,.int .u8 29,.int .u8 14,.int .u8 24,.int .u8 3,.int .u8 30,.int .u8 22,.int .u8 20,.int .u8 15,.int .u8 25,.int .u8 17,.int .u8 4,.int .u8 8,.int .u8 31,.int .u8 27,.int .u8 13,.int .u8 23,.int .u8 21,.int .u8 19,.int .u8 16,.int .u8 7,.int .u8 26,.int .u8 12,.int .u8 18,.int .u8 6,.int .u8 11,.int .u8 5,.int .u8 10,.int .u8 9]
def tabs:List (List Value):=[UY]
theorem Fp {tt:TT} {n0:Nat} {rs:List ResultVar} {v:Value} {F:Fr} {H:Aa} (r:Value) (hm:some r=some v) (h:DV tt F H rs=some r:=by kernel_rfl) (hc:Fe r=true:=by kernel_rfl):Fin tt n0 rs v .ret F H:=kI r h hc hm
theorem Hw {α:Type} {k:IntKind} {o:Option Value} {s:Int→Option α} {w:α} (h:oo o none (fun v=>oo (Bi k v) none s)=some w):∃ x,o=some (.int k x)∧s x=some w:=by
 obtain⟨v,h1,h2⟩:=Ab h
 obtain⟨x,hx,h3⟩:=Ab h2
 obtain rfl:=Eh hx
 exact⟨x,h1,h3⟩
theorem Sm {α:Type} {k:Nat} {o:Option Value} {s:Sl→Option α} {w:α} (h:oo o none (fun v=>oo (Bj k v) none s)=some w):∃ x,o=some (Sl.v k x)∧s x=some w:=by
 obtain⟨v,h1,h2⟩:=Ab h
 obtain⟨x,hx,h3⟩:=Ab h2
 obtain rfl:=Qh hx
 exact⟨x,h1,h3⟩
theorem bW {α:Type} {o:Option Value} {s:Bool→Option α} {w:α} (h:oo o none (fun v=>oo (Bf v) none s)=some w):∃ x,o=some (.bool x)∧s x=some w:=by
 obtain⟨v,h1,h2⟩:=Ab h
 obtain⟨x,hx,h3⟩:=Ab h2
 obtain rfl:=BV hx
 exact⟨x,h1,h3⟩
theorem Gq {tt:TT} {call:A8} {n0:Nat} {c:Operand} {a b:RC} {F:Fr} {H:Aa} {Q:Ex→Fr→Aa→Prop} (e:Bool) (hb:e=true) (h:BN tt call n0 a F H Q) (he:Bf (F.eval c)=some e:=by kernel_rfl):BN tt call n0 (.cond c a b) F H Q:=.ifT e he hb h
theorem Gs {tt:TT} {call:A8} {n0:Nat} {c:Operand} {a b:RC} {F:Fr} {H:Aa} {Q:Ex→Fr→Aa→Prop} (e:Bool) (hb:e=false) (h:BN tt call n0 b F H Q) (he:Bf (F.eval c)=some e:=by kernel_rfl):BN tt call n0 (.cond c a b) F H Q:=.ifF e he hb h
abbrev FD:Aa:=hp 1 [oT UY]
abbrev hT (n:Nat) (l:List AJ):Aa:=hp n (oT UY::l)
theorem Fb {a b:Bool} (h:b=true) (e:a=b:=by kernel_rfl):a=true:=e.trans h
abbrev OV:=Option Value
abbrev LV:=List Value
def Wo:List Nat:=[10,12,16,18,20,21,23,24,26,29,33,34,36,37,43,44,47,48,51,52,53,57,61,62,64,67,71,72]
def Ir:FuncId→Bool:=λg=>ED g Wo
def inl (pu:Af):A8:=λg args H=>bb (Nat.beq g 63) (X9 1 8 args H) (bb (Nat.beq g 22) (EK tabs [[some 1],[none]] 2 [] [false] (pu 10220) args H) (bb (Nat.beq g 60) (EK tabs [[none],[none],[none],[none],[none],[none],[none]] 7 [.tmp 1 false,.tmp 2 true,.tmp 3 false,.tmp 4 true,.tmp 5 true,.tmp 6 false,.cell 2 0 false,.cell 4 0 false] [false,true,false,true,true,false,false,false] (pu 10600) args H) (bb (Nat.beq g 65) (EK tabs [[none,some 1,some 1]] 1 [] [true,false] (pu 10650) args H) (bb (Nat.beq g 66) (EK tabs [[none],[none]] 2 [.tmp 0 true,.cell 1 3 false] [true,false] (pu 10660) args H) (bb (Nat.beq g 68) (EK tabs [[none],[some 1],[none],[none]] 4 [.tmp 0 true,.cell 1 3 false] [true,false] (pu 10680) args H) (none))))))
def mK:List UInt8:=[0,1,1,2,1,2,2,3,1,2,2,3,2,3,3,4,1,2,2,3,2,3,3,4,2,3,3,4,3,4,4,5,1,2,2,3,2,3,3,4,2,3,3,4,3,4,4,5,2,3,3,4,3,4,4,5,3,4,4,5,4,5,5,6,1,2,2,3,2,3,3,4,2,3,3,4,3,4,4,5,2,3,3,4,3,4,4,5,3,4,4,5,4,5,5,6,2,3,3,4,3,4,4,5,3,4,4,5,4,5,5,6,3,4,4,5,4,5,5,6,4,5,5,6,5,6,6,7,1,2,2,3,2,3,3,4,2,3,3,4,3,4,4,5,2,3,3,4,3,4,4,5,3,4,4,5,4,5,5,6,2,3,3,4,3,4,4,5,3,4,4,5,4,5,5,6,3,4,4,5,4,5,5,6,4,5,5,6,5,6,6,7,2,3,3,4,3,4,4,5,3,4,4,5,4,5,5,6,3,4,4,5,4,5,5,6,4,5,5,6,5,6,6,7,3,4,4,5,4,5,5,6,4,5,5,6,5,6,6,7,4,5,5,6,5,6,6,7,5,6,6,7,6,7,7,8]
abbrev AaW {A0 A1 A2 A3 A4 A5:Type} (y:A0×A1×A2×A3×A4×A5):=y.2.2.2.2.1
abbrev AaX {A0 A1 A2 A3 A4 A5:Type} (y:A0×A1×A2×A3×A4×A5):=y.2.2.2.2.2
abbrev Acq {A0 A1 A2 A3 A4 A5 A6:Type} (y:A0×A1×A2×A3×A4×A5×A6):=y.2.2.2.2.2.1
abbrev AcK {A0 A1 A2 A3 A4 A5 A6:Type} (y:A0×A1×A2×A3×A4×A5×A6):=y.2.2.2.2.2.2
abbrev Ac3 {A0 A1 A2 A3 A4 A5 A6 A7:Type} (y:A0×A1×A2×A3×A4×A5×A6×A7):=y.2.2.2.2.2.2.1
abbrev Ac4 {A0 A1 A2 A3 A4 A5 A6 A7 A8:Type} (y:A0×A1×A2×A3×A4×A5×A6×A7×A8):=y.2.2.2.2.2.2.2.1
abbrev Ac5 {A0 A1 A2 A3 A4 A5 A6 A7 A8 A9:Type} (y:A0×A1×A2×A3×A4×A5×A6×A7×A8×A9):=y.2.2.2.2.2.2.2.2.1
abbrev Ac6 {A0 A1 A2 A3 A4 A5 A6 A7 A8 A9:Type} (y:A0×A1×A2×A3×A4×A5×A6×A7×A8×A9):=y.2.2.2.2.2.2.2.2.2
abbrev Ac7 {A0 A1 A2 A3 A4 A5 A6 A7 A8 A9 A10:Type} (y:A0×A1×A2×A3×A4×A5×A6×A7×A8×A9×A10):=y.2.2.2.2.2.2.2.2.2.1
abbrev Ac8 {A0 A1 A2 A3 A4 A5 A6 A7 A8 A9 A10 A11:Type} (y:A0×A1×A2×A3×A4×A5×A6×A7×A8×A9×A10×A11):=y.2.2.2.2.2.2.2.2.2.2.1
abbrev Ac9 {A0 A1 A2 A3 A4 A5 A6 A7 A8 A9 A10 A11 A12:Type} (y:A0×A1×A2×A3×A4×A5×A6×A7×A8×A9×A10×A11×A12):=y.2.2.2.2.2.2.2.2.2.2.2.1
abbrev Ada {A0 A1 A2 A3 A4 A5 A6 A7 A8 A9 A10 A11 A12:Type} (y:A0×A1×A2×A3×A4×A5×A6×A7×A8×A9×A10×A11×A12):=y.2.2.2.2.2.2.2.2.2.2.2.2
abbrev Adb {A0 A1 A2 A3 A4 A5 A6 A7 A8:Type} (y:A0×A1×A2×A3×A4×A5×A6×A7×A8):=y.2.2.2.2.2.2.2.2
abbrev Adc {A0 A1 A2 A3 A4 A5 A6 A7:Type} (y:A0×A1×A2×A3×A4×A5×A6×A7):=y.2.2.2.2.2.2.2
abbrev Add {A0 A1 A2 A3 A4 A5 A6 A7 A8 A9 A10:Type} (y:A0×A1×A2×A3×A4×A5×A6×A7×A8×A9×A10):=y.2.2.2.2.2.2.2.2.2.2
abbrev Aex {A0 A1 A2 A3 A4 A5 A6 A7 A8 A9 A10 A11:Type} (y:A0×A1×A2×A3×A4×A5×A6×A7×A8×A9×A10×A11):=y.2.2.2.2.2.2.2.2.2.2.2
abbrev Aft {A0 A1 A2 A3 A4 A5 A6 A7 A8 A9 A10 A11 A12 A13:Type} (y:A0×A1×A2×A3×A4×A5×A6×A7×A8×A9×A10×A11×A12×A13):=y.2.2.2.2.2.2.2.2.2.2.2.2.1
abbrev Afx {A0 A1 A2 A3 A4 A5 A6 A7 A8 A9 A10 A11 A12 A13 A14:Type} (y:A0×A1×A2×A3×A4×A5×A6×A7×A8×A9×A10×A11×A12×A13×A14):=y.2.2.2.2.2.2.2.2.2.2.2.2.2.1
abbrev Age {A0 A1 A2 A3 A4 A5 A6 A7 A8 A9 A10 A11 A12 A13 A14 A15:Type} (y:A0×A1×A2×A3×A4×A5×A6×A7×A8×A9×A10×A11×A12×A13×A14×A15):=y.2.2.2.2.2.2.2.2.2.2.2.2.2.2.1
abbrev AgZ {A0 A1 A2 A3 A4 A5 A6 A7 A8 A9 A10 A11 A12 A13 A14 A15 A16:Type} (y:A0×A1×A2×A3×A4×A5×A6×A7×A8×A9×A10×A11×A12×A13×A14×A15×A16):=y.2.2.2.2.2.2.2.2.2.2.2.2.2.2.2.1
abbrev Ag3 {A0 A1 A2 A3 A4 A5 A6 A7 A8 A9 A10 A11 A12 A13 A14 A15 A16:Type} (y:A0×A1×A2×A3×A4×A5×A6×A7×A8×A9×A10×A11×A12×A13×A14×A15×A16):=y.2.2.2.2.2.2.2.2.2.2.2.2.2.2.2.2
abbrev Ag8 {A0 A1 A2 A3 A4 A5 A6 A7 A8 A9 A10 A11 A12 A13 A14 A15 A16 A17:Type} (y:A0×A1×A2×A3×A4×A5×A6×A7×A8×A9×A10×A11×A12×A13×A14×A15×A16×A17):=y.2.2.2.2.2.2.2.2.2.2.2.2.2.2.2.2.1
abbrev Ahc {A0 A1 A2 A3 A4 A5 A6 A7 A8 A9 A10 A11 A12 A13 A14 A15 A16 A17 A18:Type} (y:A0×A1×A2×A3×A4×A5×A6×A7×A8×A9×A10×A11×A12×A13×A14×A15×A16×A17×A18):=y.2.2.2.2.2.2.2.2.2.2.2.2.2.2.2.2.2.1
abbrev Ahl {A0 A1 A2 A3 A4 A5 A6 A7 A8 A9 A10 A11 A12 A13 A14 A15 A16 A17 A18 A19:Type} (y:A0×A1×A2×A3×A4×A5×A6×A7×A8×A9×A10×A11×A12×A13×A14×A15×A16×A17×A18×A19):=y.2.2.2.2.2.2.2.2.2.2.2.2.2.2.2.2.2.2.1
abbrev Ahm {A0 A1 A2 A3 A4 A5 A6 A7 A8 A9 A10 A11 A12 A13 A14 A15 A16 A17 A18 A19:Type} (y:A0×A1×A2×A3×A4×A5×A6×A7×A8×A9×A10×A11×A12×A13×A14×A15×A16×A17×A18×A19):=y.2.2.2.2.2.2.2.2.2.2.2.2.2.2.2.2.2.2.2
abbrev Ahn {A0 A1 A2 A3 A4 A5 A6 A7 A8 A9 A10 A11 A12 A13 A14 A15 A16 A17 A18 A19 A20:Type} (y:A0×A1×A2×A3×A4×A5×A6×A7×A8×A9×A10×A11×A12×A13×A14×A15×A16×A17×A18×A19×A20):=y.2.2.2.2.2.2.2.2.2.2.2.2.2.2.2.2.2.2.2.1
abbrev Aho {A0 A1 A2 A3 A4 A5 A6 A7 A8 A9 A10 A11 A12 A13 A14 A15 A16 A17 A18 A19 A20:Type} (y:A0×A1×A2×A3×A4×A5×A6×A7×A8×A9×A10×A11×A12×A13×A14×A15×A16×A17×A18×A19×A20):=y.2.2.2.2.2.2.2.2.2.2.2.2.2.2.2.2.2.2.2.2
abbrev Ahp {A0 A1 A2 A3 A4 A5 A6 A7 A8 A9 A10 A11 A12 A13 A14:Type} (y:A0×A1×A2×A3×A4×A5×A6×A7×A8×A9×A10×A11×A12×A13×A14):=y.2.2.2.2.2.2.2.2.2.2.2.2.2.2
abbrev Ahq:=(oC [(Value.func (.func 60) ⟨[]⟩ ⟨[pt 1 0,(pt 2 0),(pt 3 0),(pt 4 0),(pt 5 0),(pt 6 0)]⟩)])
abbrev Ahr (a0 a1 a2):=(oC [zI a0,Sl.v 1 a1,Sl.v 1 a2])
abbrev Ahs (a0 a1 a2 a3 a4 a5 a6 a7 a8 a9):=(hT 8 [oC a0,(oC [zI a1,(Value.slice none 0 0),(Value.slice none 0 0)]),(oC [zI a2,(sc 5 0 1 (a3+1) (d2 (a3+1))),sc 6 0 1 a4 a5]),oC a6,(oC (Br (Am 0 a7) [zI a8])),oC a9,(oC [])])
abbrev Aht (a0 a1):=(bb (an (Nat.blt a0 (Sl.n a1)) true) (some (Cv (a0*1) (Sl.cs a1))) none)
abbrev Ahu (a0 a1 a2 a3 a4 a5 a6 a7 a8):=[(oC [Sl.v 1 a0]),(oC [(Value.map (some 7))]),(Ahr a1 a2 a3),(oC [(Value.map (some 8))]),Ahq,(oC [Sl.v 1 a4]),(AJ.map a5 a6),(AJ.map a7 a8)]
abbrev Ahv (a0):=(AJ.map (Akd.es a0) (Akd.clock a0))
abbrev Ahw:=[false,false,true,false,true,true,false,false,false]
abbrev Ahx (a0 a1):=(Sl.mk a0 0 (Aq (a0*1) (Am 0 a1)))
abbrev Ahy (a0):=(Aq ((Sl.n a0)*1) (Sl.cs a0))
abbrev Ahz:=(oC [(zI (0:Int)),(Value.slice none 0 0),(Value.slice none 0 0)])
abbrev AhA (a0):=(oC [zI a0,(Value.slice none 0 0),(Value.slice none 0 0)])
abbrev AhB (a0 a1 a2):=(oC [zI a0,Sl.v 1 a1,Sl.v 1 a2,(Value.map (some 3))])
abbrev AhC (a0 a1 a2):=(Value.agg ⟨[zI a0,Sl.v 1 a1,Sl.v 1 a2]⟩)
abbrev AhD:=[Rt.tmp 3 false,Rt.tmp 6 false,Rt.tmp 7 true,Rt.tmp 8 false,Rt.cell 3 1 false,Rt.cell 3 2 false]
abbrev AhE (a0):=(Aj .i64 (Int.add a0 (1:Int)))
abbrev AhF (a0 a1 a2):=(oC [(zI a0),(Sl.v 1 a1),(Sl.v 1 a2)])
abbrev AhG (a0 a1 a2 a3 a4 a5 a6 a7 a8):=(hT 10 [(oC [Sl.v 1 a0]),(oC [(Value.map (some 7))]),(Ahr a1 a2 a3),(oC [(Value.map (some 8))]),Ahq,(oC [Sl.v 1 a4]),(AJ.map a5 a6),(AJ.map a7 a8),AJ.dead])
abbrev AhH (a0 a1 a2):=(oC [zI a0,(sc 3 0 1 (Sl.n a1) (d2 (Sl.n a1))),(sc 4 0 1 (Sl.n a2) (d2 (Sl.n a2)))])
abbrev AhI (a0):=(Dp false (Nat.beq (a0 % 2) 1))
abbrev AhJ:=[Rt.tmp 5 false,Rt.tmp 6 false]
abbrev AhK (a0 a1 a2 a3 a4 a5 a6):=[(oC [Sl.v 1 a0]),(oC [(Value.map (some 7))]),(Ahr a1 a2 a3),(oC [(Value.map (some 8))]),Ahq,(oC [Sl.v 1 a4]),(Ahv a5),(Ahv a6)]
abbrev AhL (a0 a1 a2 a3 a4 a5 a6 a7 a8 a9 a10 a11 a12 a13):=[(oC [Sl.v 1 a0]),(oC [(Value.map (some 7))]),(Ahr a1 a2 a3),(oC [(Value.map (some 8))]),Ahq,(oC [Sl.v 1 a4]),(AJ.map (Gr (zI a5) (zB true) a6 a7 a8) (Ja a6 a8)),(AJ.map (QH (zI a5) a9 (LP (zI a10) (zI (0:Int)) a11 a12 a13)) (Ja a11 a13))]
abbrev AhM (a0 a1 a2):=(Sl.mk (a0 - a1) 0 (Aq ((a0 - a1)*1) (Am (0+a1*1) a2)))
abbrev AhN (a0 a1 a2 a3 a4):=(BM ([zI a0]:LV) (0+a1*1) (BM ([zI a2]:LV) (0+a3*1) (Ahy a4)))
abbrev AhO:=(oC [(Value.func (.func 60) ⟨[]⟩ ⟨[(pt 3 0),(pt 4 0),(pt 5 0),(pt 6 0),(pt 2 0),pt 1 0]⟩)])
abbrev AhP (a0):=(Aj .i64 (Int.add (Int.ofNat a0) (1:Int)))
abbrev AhQ:=[Rt.tmp 3 false,Rt.tmp 6 false,Rt.tmp 7 true,Rt.tmp 8 false,Rt.cell 3 2 false]
abbrev AhR:=[Rt.tmp 3 true,Rt.tmp 4 false,Rt.cell 1 3 false]
abbrev AhS (a0 a1 a2 a3 a4 a5 a6 a7 a8 a9 a10 a11 a12):=(hT 12 [(oC [Sl.v 1 a0]),(oC [(Value.map (some 7))]),(Ahr a1 a2 a3),(oC [(Value.map (some 8))]),Ahq,(oC [Sl.v 1 a4]),(AJ.map a5 a6),(AJ.map a7 a8),oC a9,(AJ.map a10 a11),oC a12])
abbrev AhT (a0 a1 a2):=[zI a0,Sl.v 1 a1,Sl.v 1 a2,(Value.map (some 2))]
abbrev AhU (a0 a1 a2 a3 a4 a5 a6 a7 a8 a9 a10 a11):=(hT 11 [(oC [Sl.v 1 a0]),(oC [(Value.map (some 7))]),(Ahr a1 a2 a3),(oC [(Value.map (some 8))]),Ahq,(oC [Sl.v 1 a4]),(AJ.map a5 a6),(AJ.map a7 a8),oC a9,(AJ.map a10 a11)])
abbrev AhV (a0 a1 a2 a3 a4 a5):=(hT 3 [(Ahr a0 a1 a2),(oC (BM ([(zI (AhE a3))]:LV) (0+a4*1) a5))])
abbrev AhW (a0 a1 a2 a3 a4 a5 a6 a7 a8):=(hT 9 [(oC [(Sl.v 1 a0)]),(oC [(Value.map (some 7))]),(AhF a1 a2 a3),(oC [(Value.map (some 8))]),Ahq,(oC [(Sl.v 1 a4)]),(AJ.map a5 a6),(AJ.map a7 a8)])
abbrev AhX (a0 a1 a2):=(Value.slice (some ⟨4,(0+a0*1),some 1⟩) (a1 - a0) (2*(a2 / 2 - a0)+bb (AhI a2) 1 0))
abbrev AhY (a0 a1 a2):=(Value.slice (some ⟨2,a0,some 1⟩) a1 a2)
abbrev AhZ (a0):=(bb (Nat.blt a0 5) (some (Value.pointer (some ⟨2,(0+a0*1),none⟩))) none)
abbrev Ah0 (a0 a1 a2 a3):=(hT 3 [(Ahr a0 a1 a2),(Ahv a3)])
abbrev Ah1 (a0 a1 a2 a3 a4 a5 a6 a7 a8 a9):=(hT 7 [oC a0,(AhA a1),(oC [zI a2,sc 5 0 1 a3 a4,sc 6 0 1 a5 a6]),oC a7,oC a8,oC a9])
abbrev Ah2 (a0):=(Value.pointer (some ⟨1,(0+a0*1),none⟩))
abbrev Ah3:=[Rt.tmp 1 false,Rt.tmp 3 false]
abbrev Ah4 (a0 a1 a2 a3 a4):=(an (Bd a0 (0:Int)) (an (Bd a1 (0:Int)) (an (Bd a2 (0:Int)) (an (Bd a3 (0:Int)) (an (Bd a4 (0:Int)) true)))))
abbrev Ah5 (a0 a1 a2):=(hT 3 [(AJ.map a0 a1),oC a2])
abbrev Ah6 (a0):=(zI (Int.ofNat (Sl.n a0)))
abbrev Ah7 (a0 a1):=(nt (Bd (Int.ofNat (Sl.n a0)) (Int.ofNat (Sl.n a1))))
abbrev Ah8 (a0 a1):=(sc 4 0 1 a0 (2*(a1 / 2)+bb (AhI a1) 1 0))
abbrev Ah9:=[(zI (0:Int)),(zI (0:Int)),(zI (0:Int)),(zI (0:Int)),(zI (0:Int))]
abbrev Aia (a0 a1):=(keep FD (AL (Sl.cs a0) (a1*1)))
abbrev Aib:=[Rt.tmp 1 false,Rt.tmp 3 true,Rt.cell 2 0 false]
abbrev Aic (a0 a1 a2):=(hT 2 [(Ahr a0 a1 a2)])
abbrev Aid (a0):=(sc 1 0 1 (0+(Sl.n a0)) (d2 (0+(Sl.n a0))))
abbrev Aie (a0 a1):=(AY a0 (Int.ofNat (Sl.n a1)))
abbrev Aii (a0 a1 a2 a3 a4):=(hT 10 [(oC [(Sl.v 1 (Sl.mk 0 2 []))]),AhO,(oC [(Sl.v 1 (Ahx a0 a1))]),(oC [(Value.map (some 8))]),(Ahr a2 a3 a4),(oC [(Value.map (some 9))]),AJ.dead,(AJ.map ([]:List EO) 0),(AJ.map ([]:List EO) 0)])
abbrev Aij (a0 a1):=(an (Nat.ble (0+a0*1) (len a1)) (Au Ah (Aq (a0*1) (Am 0 a1))))
abbrev Ail (a0 a1 a2 a3 a4 a5 a6):=(hT 6 [oC a0,(AhA a1),(oC [zI a2,(Value.slice none 0 0),sc 5 0 1 a3 a4]),oC a5,oC a6])
abbrev Aim (a0 a1 a2 a3):=(BM ([zI a0]:LV) (0+a1*1) (BM ([zI a2]:LV) (0+a3*1) ([]:LV)))
abbrev Ain:=[Rt.tmp 10 false,Rt.tmp 11 false,Rt.tmp 14 false]
abbrev Ais (a0 a1 a2 a3):=(hT 3 [(Ahr a0 a1 a2),oC a3])
abbrev Aiu (a0 a1 a2 a3 a4):=(BM ([(zI (Aj .i64 (Int.sub a0 (1:Int))))]:LV) (0+a1*1) (BM ([(zI (AhE a2))]:LV) (0+a3*1) a4))
abbrev AiD (a0 a1 a2 a3):=(AJ.map (Gr (zI a0) (zB true) a1 a2 a3) (Ja a1 a3))
abbrev AiE (a0 a1 a2 a3 a4 a5 a6):=(fr 108 [(4,(pt 4 0)),(6,(pt 6 0)),(10,sc 9 0 1 a0 a1),(11,(Value.map (some 10))),(14,sc 11 0 1 a2 a3),(63,Sl.v 1 a4),(64,zI a5),(65,zI a6),(84,(zB (AY (0:Int) (Int.ofNat a2))))])
abbrev AiF (a0 a1 a2 a3):=(oC [zI a0,(sc 5 0 1 (a1+1) (d2 (a1+1))),sc 6 0 1 a2 a3])
abbrev AiG (a0 a1 a2 a3 a4):=(hT 3 [(Ahr a0 a1 a2),(oC [zI a3,zI a4])])
abbrev AiH (a0 a1 a2 a3):=(keep (hT 5 [Ahz,(AhH a0 a1 a2),(oC (Ahy a1)),(oC (Ahy a2))]) (bb (an (Nat.blt a3 (Sl.n a1)) true) (some (Value.pointer (some ⟨3,(0+a3*1),none⟩))) none))
abbrev AiI:=[Rt.tmp 2 false,Rt.tmp 5 false]
abbrev AiJ (a0 a1):=(Aq ((Sl.n (Ahx a0 a1))*1) (Sl.cs (Ahx a0 a1)))
abbrev AiK (a0 a1 a2):=(AY (Int.ofNat (Sl.n a0)) (Int.ofNat (Sl.n (Ahx a1 a2))))
abbrev AiL (a0 a1):=(oC [zI a0,(Value.slice none 0 0),(sc 5 0 1 (a1+1) (d2 (a1+1)))])
abbrev AiM:=[Rt.tmp 10 false,Rt.tmp 11 false]
abbrev AiN (a0):=(sc 3 0 1 (Sl.n a0) (d2 (Sl.n a0)))
abbrev AiO (a0 a1):=(oC (Br (Am 0 a0) [zI a1]))
abbrev AiP (a0 a1 a2 a3 a4 a5):=(hT 4 [(Ahr a0 a1 a2),(oC [sc 3 0 1 a3 a4]),oC a5])
abbrev AiQ (a0 a1):=(keep (hT 2 [(oC (Ahy a0))]) (bb (an (Nat.blt a1 (0+(Sl.n a0))) true) (some (Ah2 a1)) none))
abbrev AiR:=(oC [(Value.slice none 0 0)])
abbrev AiS (a0 a1 a2 a3 a4 a5):=(fr 137 [(3,pt 1 0),(4,(Value.map (some 2))),(5,zI a0),(6,zI a1),(7,(Sl.v 2 a2)),(8,zI a3),(9,Sl.v 1 a4),(10,zI a5)])
abbrev AiT (a0 a1 a2 a3 a4 a5 a6 a7 a8 a9 a10):=(hT 9 [(oC [Sl.v 1 a0]),(oC [(Value.map (some 7))]),(Ahr a1 a2 a3),(oC [(Value.map (some 8))]),Ahq,(oC [Sl.v 1 a4]),(AiD a5 a6 a7 a8),(AJ.map a9 a10)])
abbrev AiU (a0 a1 a2 a3 a4 a5):=(hT 4 [(AhB a0 a1 a2),oC a3,(AJ.map a4 a5)])
abbrev AiV (a0):=(keep (hT 2 [(oC [])]) (bb (an (Nat.blt a0 0) true) (some (Ah2 a0)) none))
abbrev AiW (a0):=(AY (0:Int) (Int.ofNat a0))
abbrev AiX (a0):=(Bd (Int.ofNat (Sl.n a0)) (0:Int))
abbrev AiY (a0):=(oC [(zI a0),(Value.slice none 0 0),(Value.slice none 0 0)])
abbrev AiZ:=[4,6,10,11,13,14,63,64,65]
abbrev Ai0:=[Rt.tmp 6 false,Rt.tmp 7 true,Rt.cell 2 1 false,Rt.cell 2 2 false]
abbrev Ai1 (a0 a1 a2):=(Bd (Int.ofNat (Sl.n (Ahx a0 a1))) (Int.ofNat (Sl.n a2)))
abbrev Ai2 (a0 a1):=[(0,Sl.v 1 a0),(1,Sl.v 1 a1)]
abbrev Ai3:=[1,2,7,8,13,23,24,25,66,67,68]
abbrev Ai4:=[1,2,7,8,10,23,24,25,32,33,34]
abbrev Ai5 (a0):=(Sl.v 1 (Sl.mk 1 0 (Aq (1*1) (Am 0 ([(zI (Int.ofNat a0))]:LV)))))
abbrev Ai7 (a0 a1 a2):=(hT 2 [(AhF a0 a1 a2)])
abbrev Ajb:=[Rt.tmp 3 false,Rt.tmp 13 false]
abbrev Ajc (a0 a1 a2):=(keep (hT 2 [oC a0]) (AL (Sl.cs a1) (a2*1)))
abbrev Ajd (a0 a1 a2 a3 a4 a5 a6):=(hT 4 [(Ahr a0 a1 a2),(AhB a3 a4 a5),(Ahv a6)])
abbrev Aje (a0):=(zI (Aj .i64 (Int.sub a0 (1:Int))))
abbrev Ajf (a0 a1 a2):=(hT 5 [Ahz,(AhH a0 a1 a2),(oC (Ahy a1)),(oC (Ahy a2))])
abbrev Ajg (a0 a1 a2 a3 a4 a5 a6 a7 a8):=(hT 9 (Ahu a0 a1 a2 a3 a4 a5 a6 a7 a8))
abbrev Ajh (a0):=[(Value.agg ⟨(Aq 22 (Am 0 a0))⟩),(zI (6:Int)),(zI (4:Int))]
abbrev Aji (a0 a1):=(Bd a0 (Int.ofNat (Sl.n a1)))
abbrev Ajj (a0 a1 a2):=[zI a0,(sc 2 0 1 (Sl.n a1) (d2 (Sl.n a1))),(AiN a2)]
abbrev Ajk (a0 a1 a2 a3 a4):=(Sl.v 1 (Sl.mk (0+(Sl.n a0)) 0 (Aq ((0+(Sl.n a0))*1) (Am 0 (AhN a1 a2 a3 a4 a0)))))
abbrev Ajl (a0 a1 a2):=(Aq ((Sl.n (AhM a0 a1 a2))*1) (Sl.cs (AhM a0 a1 a2)))
abbrev Ajm (a0 a1):=(Value.int .u16 (QV .u16 a0 (QW .u16 (1:Int) a1)))
abbrev Ajn (a0 a1 a2):=(sliceAt 4 (0+a0*1) 1 (a1 - a0) (a2 / 2 - a0) (AhI a2))
abbrev Ajo (a0 a1 a2 a3):=[(true,(oC (AhT a0 a1 a2))),(false,(Ahv a3))]
abbrev Ajp (a0 a1 a2):=(BM ([zI a0]:LV) (0+a1*1) (Ahy a2))
abbrev Ajq:=(okV false (zI (0:Int)) false)
abbrev Ajr (a0):=(oC [(zI (Int.ofNat a0))])
abbrev Ajs:Type:=Nat→Nat→Sl→Int→Int→Sl→Int→Sl→Sl→Sl→List EO→Nat→List EO→Nat→LV→List EO→Nat→OV
abbrev Ajt:Type:=Bool→Nat→Nat→Nat→List EO→Nat→LV→OV
abbrev Aju:Type:=Bool→Nat→Nat→Nat→Sl→Int→Int→List EO→Nat→LV→OV
abbrev Ajv:Type:=Sl→Int→Int→Sl→Int→Int→Int→Sl→Sl→OV
abbrev Ajw:Type:=Int→Sl→Int→Int→Sl→Int→Sl→Sl→Sl→List EO→Nat→List EO→Nat→OV
abbrev Ajx:Type:=Nat→Nat→Int→Nat→Nat→Sl→Int→Int→Sl→Int→Sl→Sl→Sl→List EO→Nat→List EO→Nat→LV→List EO→Nat→LV→OV
abbrev Ajy:Type:=Bool→Nat→Nat→Nat→Sl→Int→Int→Int→Int→List EO→Nat→LV→OV
abbrev Ajz:Type:=Nat→Nat→Int→Int→Sl→Sl→LV→List EO→Nat→OV
abbrev AjA:Type:=Nat→Nat→Int→LV→Int→Int→Nat→Nat→Nat→Nat→LV→LV→LV→OV
abbrev AjB:Type:=Sl→Int→Int→Int→Sl→Int→Int→Sl→Int→Int→Int→Sl→Sl→OV
abbrev AjC:Type:=Int→Sl→Sl→Sl→Sl→Int→Int→Int→Sl→Sl→OV
abbrev AjD:Type:=Sl→Int→Int→Sl→Sl→Int→Int→Sl→Int→Int→Int→Sl→Sl→OV
abbrev AjE:Type:=Nat→Nat→Int→Sl→Int→Int→Int→Sl→Sl→LV→List EO→Nat→OV
abbrev AjF:Type:=Nat→Nat→Sl→Int→Int→LV→OV
abbrev AjG:Type:=Nat→Nat→Int→Int→LV→Int→Int→Nat→Nat→LV→LV→OV
abbrev AjH:Type:=Int→Int→Int→Sl→Sl→Nat→Nat→LV→OV
abbrev AjI:Type:=Sl→Sl→Int→Int→OV
abbrev AjJ:Type:=Int→Sl→Int→Int→Int→Sl→Sl→OV
abbrev AjK:Type:=Int→Int→Int→Int→Sl→Sl→LV→OV
abbrev AjL:Type:=Sl→Int→Int→Int→Sl→Sl→LV→OV
abbrev AjM:Type:=Int→Int→Int→Int→Sl→Sl→OV
abbrev AjN:Type:=Nat→Nat→Sl→Int→Sl→Int→Int→LV→OV
end
end Go.MnSM
