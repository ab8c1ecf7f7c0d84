/- Made from wip. -/
import Derived.Test.YtokbaaeimejjlaaGreatDoorSpFramex
import Derived.Test.YtokbaaeimejjlaaGreatDoorBkVNodesx
import Derived.Test.YtokbaaeimejjlaaGreatDoorSpClo3x
import Derived.KernelRfl

set_option maxRecDepth 100000
namespace Go.BkV
open Go.Sp
def c6:RC:=XT
def c9:RC:=lT
def c10:RC:=
 .seq (.reg [] [
  rq 0 (.assign (kb false)) 4])
 (.seq (.reg [] [
   rq 21 (cf 33 #[(ki 1),(ki 4)] #[3,3]) 32,Ap 20 21 32,EM 22 20 0 3,EM 23 20 1 28,AQ 1 22 3,AQ 2 23 28])
 (.seq (.reg [] [
   rq 25 (cf 33 #[(ki 4),(ki 1)] #[3,3]) 32,Ap 24 25 32,EM 26 24 0 3,EM 27 24 1 28,AQ 3 26 3,AQ 4 27 28])
 (.seq (.reg [] [
   rq 29 (cf 39 #[] #[]) 24,rq 30 (cf 25 #[(tp 29)] #[24]) 32,Ap 28 30 32,EM 31 28 0 3,EM 32 28 1 28,AQ 5 31 3,AQ 6 32 28])
 (.seq (.reg [] [
   rq 34 (cf 39 #[] #[]) 24,rq 35 (.buildSlice 22 2 #[(0,(ki 2)),(1,(ki 2))]) 22,rq 36 (cf 40 #[(tp 35)] #[22]) 22,rq 37 (cf 27 #[(tp 34),(tp 36)] #[24,22]) 32,Ap 33 37 32,EM 38 33 0 3,EM 39 33 1 28,AQ 7 38 3,AQ 8 39 28])
 (.seq (.reg [] [
   rq 41 (cf 41 #[] #[]) 24,rq 42 (cf 23 #[(tp 41),(ki 2)] #[24,3]) 32,Ap 40 42 32,EM 43 40 0 3,EM 44 40 1 28,AQ 9 43 3,AQ 10 44 28])
 (.seq (.reg [] [
   rq 46 (cf 39 #[] #[]) 24,rq 47 (.buildSlice 22 4 #[(0,(ki 0)),(1,(ki 1)),(2,(ki 0)),(3,(ki 0))]) 22,rq 48 (cf 40 #[(tp 47)] #[22]) 22,rq 49 (cf 11 #[(tp 46),(tp 48),(ki 1)] #[24,22,3]) 29,Ap 45 49 29,EM 50 45 0 22,EM 51 45 1 28,AQ 11 50 22,AQ 12 51 28])
 (.seq (.reg [] [
   rq 53 (cf 39 #[] #[]) 24,rq 54 (.buildSlice 22 4 #[(0,(ki 0)),(1,(ki 1)),(2,(ki 1)),(3,(ki 0))]) 22,rq 55 (cf 40 #[(tp 54)] #[22]) 22,rq 56 (cf 20 #[(tp 53),(tp 55)] #[24,22]) 40,Ap 52 56 40,EM 57 52 0 39,EM 58 52 1 28,AQ 13 57 39,AQ 14 58 28])
 (.seq (.seq (.reg [] [
   Ap 59 2 28,rq 60 (.binOp .neq 28 (tp 59) (ki 0) 28) 4,Ap 61 60 4,DD 62 4 28 61 false,rg 63 (.binOp .neq 28 (tp 62) (ki 0) 28) 4 61 false,rq 64 (.pick (tp 61) (kb true) (tp 63)) 4,Ap 65 64 4,DD 66 6 28 65 false,rg 67 (.binOp .neq 28 (tp 66) (ki 0) 28) 4 65 false,rq 68 (.pick (tp 65) (kb true) (tp 67)) 4,Ap 69 68 4,DD 70 8 28 69 false,rg 71 (.binOp .neq 28 (tp 70) (ki 0) 28) 4 69 false,rq 72 (.pick (tp 69) (kb true) (tp 71)) 4,Ap 73 72 4,DD 74 10 28 73 false,rg 75 (.binOp .neq 28 (tp 74) (ki 0) 28) 4 73 false,rq 76 (.pick (tp 73) (kb true) (tp 75)) 4,Ap 77 76 4,DD 78 12 28 77 false,rg 79 (.binOp .neq 28 (tp 78) (ki 0) 28) 4 77 false,rq 80 (.pick (tp 77) (kb true) (tp 79)) 4,Ap 81 80 4,DD 82 14 28 81 false,rg 83 (.binOp .neq 28 (tp 82) (ki 0) 28) 4 81 false,rq 84 (.pick (tp 81) (kb true) (tp 83)) 4])
 (.cond (tp 84) (.seq (.reg [] [
   rq 0 (.assign (kb false)) 4])
  (.ret))
 (.skip)))
 (.seq (.reg [] [
   rq 86 (cf 39 #[] #[]) 24,rq 87 (.buildSlice 22 4 #[(0,(ki 1)),(1,(ki 0)),(2,(ki 1)),(3,(ki 0))]) 22,rq 88 (cf 40 #[(tp 87)] #[22]) 22,rq 89 (cf 18 #[(tp 86),(tp 88)] #[24,22]) 29,Ap 85 89 29,EM 90 85 0 22,EM 91 85 1 28,AQ 15 90 22,AQ 2 91 28])
 (.seq (.reg [] [
   rq 93 (cf 39 #[] #[]) 24,rq 94 (.buildSlice 22 4 #[(0,(ki 0)),(1,(ki 1)),(2,(ki 1)),(3,(ki 0))]) 22,rq 95 (cf 40 #[(tp 94)] #[22]) 22,rq 96 (cf 15 #[(tp 93),(tp 95)] #[24,22]) 29,Ap 92 96 29,EM 97 92 0 22,EM 98 92 1 28,AQ 16 97 22,AQ 4 98 28])
 (.seq (.reg [] [
   rq 100 (cf 39 #[] #[]) 24,rq 101 (.buildSlice 22 4 #[(0,(ki 0)),(1,(ki 1)),(2,(ki 0)),(3,(ki 0))]) 22,rq 102 (cf 40 #[(tp 101)] #[22]) 22,rq 103 (.buildSlice 22 4 #[(0,(ki 0)),(1,(ki 0)),(2,(ki 1)),(3,(ki 0))]) 22,rq 104 (cf 40 #[(tp 103)] #[22]) 22,rq 105 (cf 13 #[(tp 100),(tp 102),(tp 104)] #[24,22,22]) 32,Ap 99 105 32,EM 106 99 0 3,EM 107 99 1 28,AQ 17 106 3,AQ 6 107 28])
 (.seq (.reg [] [
   rq 109 (cf 39 #[] #[]) 24,rq 110 (.buildSlice 22 4 #[(0,(ki 0)),(1,(ki 1)),(2,(ki 0)),(3,(ki 0))]) 22,rq 111 (cf 40 #[(tp 110)] #[22]) 22,rq 112 (cf 29 #[(tp 109),(tp 111)] #[24,22]) 29,Ap 108 112 29,EM 113 108 0 22,EM 114 108 1 28,AQ 18 113 22,AQ 8 114 28])
 (.seq (.reg [] [
   rq 116 (cf 41 #[] #[]) 24,rq 117 (cf 25 #[(tp 116)] #[24]) 32,Ap 115 117 32,EM 118 115 0 3,EM 119 115 1 28,AQ 19 118 3,AQ 10 119 28])
 (.seq (.reg [] [
   Ap 120 2 28,rq 121 (.binOp .eql 28 (tp 120) (ki 0) 28) 4,Ap 122 121 4,DD 123 4 28 122 true,rg 124 (.binOp .eql 28 (tp 123) (ki 0) 28) 4 122 true,rq 125 (.pick (tp 122) (tp 124) (kb false)) 4,Ap 126 125 4,DD 127 6 28 126 true,rg 128 (.binOp .eql 28 (tp 127) (ki 0) 28) 4 126 true,rq 129 (.pick (tp 126) (tp 128) (kb false)) 4,Ap 130 129 4,DD 131 8 28 130 true,rg 132 (.binOp .eql 28 (tp 131) (ki 0) 28) 4 130 true,rq 133 (.pick (tp 130) (tp 132) (kb false)) 4,Ap 134 133 4,DD 135 10 28 134 true,rg 136 (.binOp .eql 28 (tp 135) (ki 0) 28) 4 134 true,rq 137 (.pick (tp 134) (tp 136) (kb false)) 4,Ap 138 137 4,DD 139 1 3 138 true,rg 140 (.binOp .eql 3 (tp 139) (ki 6) 3) 4 138 true,rq 141 (.pick (tp 138) (tp 140) (kb false)) 4,Ap 142 141 4,DD 143 3 3 142 true,rg 144 (.binOp .eql 3 (tp 143) (ki 7) 3) 4 142 true,rq 145 (.pick (tp 142) (tp 144) (kb false)) 4,Ap 146 145 4,DD 147 5 3 146 true,rg 148 (.binOp .eql 3 (tp 147) (ki 6) 3) 4 146 true,rq 149 (.pick (tp 146) (tp 148) (kb false)) 4,Ap 150 149 4,DD 151 7 3 150 true,rg 152 (.binOp .eql 3 (tp 151) (ki 2) 3) 4 150 true,rq 153 (.pick (tp 150) (tp 152) (kb false)) 4,Ap 154 153 4,DD 155 9 3 154 true,rg 156 (.binOp .eql 3 (tp 155) (ki 8) 3) 4 154 true,rq 157 (.pick (tp 154) (tp 156) (kb false)) 4,Ap 158 157 4,DD 159 17 3 158 true,rg 160 (.binOp .eql 3 (tp 159) (ki 2) 3) 4 158 true,rq 161 (.pick (tp 158) (tp 160) (kb false)) 4,Ap 162 161 4,DD 163 19 3 162 true,rg 164 (.binOp .eql 3 (tp 163) (ki 36) 3) 4 162 true,rq 165 (.pick (tp 162) (tp 164) (kb false)) 4,Ap 166 165 4,DD 167 11 22 166 true,rg 168 (.buildSlice 22 4 #[(0,(ki 0)),(1,(ki 0)),(2,(ki 0)),(3,(ki 1))]) 22 166 true,rg 169 (cf 40 #[(tp 168)] #[22]) 22 166 true,rg 170 (cf 17 #[(tp 167),(tp 169)] #[22,22]) 4 166 true,rq 171 (.pick (tp 166) (tp 170) (kb false)) 4,Ap 172 171 4,DD 173 13 39 172 true,rg 174 (.buildSlice 22 4 #[(0,(ki 0)),(1,(ki 1)),(2,(ki 1)),(3,(ki 0))]) 22 172 true,rg 175 (cf 40 #[(tp 174)] #[22]) 22 172 true,rg 176 (.buildSlice 22 4 #[(0,(ki 1)),(1,(ki 0)),(2,(ki 0)),(3,(ki 1))]) 22 172 true,rg 177 (cf 40 #[(tp 176)] #[22]) 22 172 true,rg 178 (.buildSlice 39 2 #[(0,(tp 175)),(1,(tp 177))]) 39 172 true,rg 179 (cf 42 #[(tp 178)] #[39]) 39 172 true,rg 180 (cf 22 #[(tp 173),(tp 179)] #[39,39]) 4 172 true,rq 181 (.pick (tp 172) (tp 180) (kb false)) 4,Ap 182 181 4,DD 183 15 22 182 true,rg 184 (.buildSlice 22 4 #[(0,(ki 0)),(1,(ki 0)),(2,(ki 1)),(3,(ki 1))]) 22 182 true,rg 185 (cf 40 #[(tp 184)] #[22]) 22 182 true,rg 186 (cf 17 #[(tp 183),(tp 185)] #[22,22]) 4 182 true,rq 187 (.pick (tp 182) (tp 186) (kb false)) 4,Ap 188 187 4,DD 189 16 22 188 true,rg 190 (.buildSlice 22 2 #[(0,(ki 0)),(1,(ki 2))]) 22 188 true,rg 191 (cf 40 #[(tp 190)] #[22]) 22 188 true,rg 192 (cf 17 #[(tp 189),(tp 191)] #[22,22]) 4 188 true,rq 193 (.pick (tp 188) (tp 192) (kb false)) 4,Ap 194 193 4,DD 195 18 22 194 true,rg 196 (.buildSlice 22 1 #[(0,(ki 1))]) 22 194 true,rg 197 (cf 40 #[(tp 196)] #[22]) 22 194 true,rg 198 (cf 17 #[(tp 195),(tp 197)] #[22,22]) 4 194 true,rq 199 (.pick (tp 194) (tp 198) (kb false)) 4,Ap 200 199 4,rg 201 (cf 39 #[] #[]) 24 200 true,rg 202 (.buildSlice 22 4 #[(0,(ki 0)),(1,(ki 1)),(2,(ki 0)),(3,(ki 0))]) 22 200 true,rg 203 (cf 40 #[(tp 202)] #[22]) 22 200 true,rg 204 (.buildSlice 22 2 #[(0,(ki 0)),(1,(ki 2))]) 22 200 true,rg 205 (cf 40 #[(tp 204)] #[22]) 22 200 true,rg 206 (cf 31 #[(tp 201),(tp 203),(tp 205)] #[24,22,22]) 28 200 true,rg 207 (.binOp .eql 28 (tp 206) (ki 14) 28) 4 200 true,rq 208 (.pick (tp 200) (tp 207) (kb false)) 4,AQ 0 208 4])
 (.ret)))))))))))))))
def c11:RC:=
 .seq (.reg [] [
  rq 3 (.box 24 (tp 0)) 0,rq 6 (.assign (.const (.slice none 0 0))) 22,Cz 7 0 28])
 (.seq (.reg [] [
   Ce 12 3 24,Ap 13 1 22,rq 14 (.buildSlice 39 1 #[(0,(tp 13))]) 39,rq 15 (cf 43 #[(tp 12),(tp 14)] #[24,39]) 65,Ap 11 15 65,EM 16 11 0 64,EM 17 11 1 28,AQ 8 16 64,AQ 9 17 28])
 (.seq (.seq (.reg [] [
   Ap 18 9 28,rq 19 (.binOp .neq 28 (tp 18) (ki 0) 28) 4])
 (.cond (tp 19) (.seq (.reg [] [
   Ap 20 9 28,
   rq 6 (.assign (.const (.slice none 0 0))) 22,
   AQ 7 20 28])
  (.ret))
 (.skip)))
 (.seq (.reg [] [
   Ap 21 8 64,rq 22 (.nilCheck (tp 21)) 0,DR 23 69 22 0,DR 24 24 23 3,Ce 25 24 22,Ap 26 2 3,rq 27 (cf 44 #[(tp 25),(tp 26)] #[22,3]) 3,AQ 10 27 3])
 (.seq (.seq (.reg [] [
   Ap 28 10 3,rq 29 (.binOp .lss 3 (tp 28) (ki 0) 3) 4])
 (.cond (tp 29) (.seq (.reg [] [
   rq 6 (.assign (.const (.slice none 0 0))) 22,
   Cz 7 2 28])
  (.ret))
 (.skip)))
 (.seq (.reg [] [
   Ap 30 8 64,Ap 31 1 22,Ap 32 10 3,rq 33 (cf 45 #[(tp 30),(tp 31),(tp 32)] #[64,22,3]) 22,AQ 6 33 22,Cz 7 0 28])
 (.ret))))))
def c13:RC:=
 .seq (.reg [] [
  rq 3 (.box 24 (tp 0)) 0,Cz 6 0 3,Cz 7 0 28])
 (.seq (.reg [] [
   Ce 13 3 24,Ap 14 1 22,Ap 15 2 22,rq 16 (.buildSlice 39 2 #[(0,(tp 14)),(1,(tp 15))]) 39,rq 17 (cf 43 #[(tp 13),(tp 16)] #[24,39]) 65,Ap 12 17 65,EM 18 12 0 64,EM 19 12 1 28,AQ 8 18 64,AQ 9 19 28])
 (.seq (.seq (.reg [] [
   Ap 20 9 28,rq 21 (.binOp .neq 28 (tp 20) (ki 0) 28) 4])
 (.cond (tp 21) (.seq (.reg [] [
   Ap 22 9 28,
   Cz 6 0 3,
   AQ 7 22 28])
  (.ret))
 (.skip)))
 (.seq (.seq (.reg [] [
   Ap 23 8 64,rq 24 (.nilCheck (tp 23)) 0,DR 25 69 24 0,DR 26 24 25 3,Ce 27 26 22,EN 28 27 22,rq 29 (.move (ki 0)) 3])
 (.block 0 (.loop (.seq (.reg [] [
   L8 30 29 28])
   (.seq (.cond (tp 30) (.skip)
   (.exit 0))
   (.seq (.block 1 (.seq (.reg [] [
     Ap 31 29 3,
     D5 32 22 27 29,
     Ce 33 32 3,
     AQ 10 31 3,
     AQ 11 33 3])
    (.seq (.reg [] [
      Ap 34 8 64,
      Ap 35 1 22,
      Ap 36 10 3,
      rq 37 (cf 45 #[(tp 34),(tp 35),(tp 36)] #[64,22,3]) 22,
      Ap 38 2 22,
      rq 39 (cf 49 #[(tp 37),(tp 38)] #[22,22]) 4])
    (.cond (tp 39) (.seq (.reg [] [
      Ap 40 11 3,
      AQ 6 40 3,
      Cz 7 0 28])
     (.ret))
    (.skip)))))
   (.reg [] [
     FB 41 29,
     Ap 29 41 3])))))))
 (.seq (.reg [] [
   Cz 6 0 3,Cz 7 12 28])
 (.ret)))))
def c15:RC:=
 .seq (.reg [] [
  rq 2 (.box 24 (tp 0)) 0,rq 4 (.assign (.const (.slice none 0 0))) 22,Cz 5 0 28])
 (.seq (.reg [] [
   Ce 12 2 24,Ap 13 1 22,rq 14 (.buildSlice 39 1 #[(0,(tp 13))]) 39,rq 15 (cf 43 #[(tp 12),(tp 14)] #[24,39]) 65,Ap 11 15 65,EM 16 11 0 64,EM 17 11 1 28,AQ 6 16 64,AQ 7 17 28])
 (.seq (.seq (.reg [] [
   Ap 18 7 28,rq 19 (.binOp .neq 28 (tp 18) (ki 0) 28) 4])
 (.cond (tp 19) (.seq (.reg [] [
   Ap 20 7 28,
   rq 4 (.assign (.const (.slice none 0 0))) 22,
   AQ 5 20 28])
  (.ret))
 (.skip)))
 (.seq (.reg [] [
   rq 8 (.assign (.const (.slice none 0 0))) 22])
 (.seq (.seq (.reg [] [
   Ap 21 6 64,rq 22 (.nilCheck (tp 21)) 0,DR 23 69 22 0,DR 24 24 23 3,Ce 25 24 22,EN 26 25 22,rq 27 (.move (ki 0)) 3])
 (.block 0 (.loop (.seq (.reg [] [
   L8 28 27 26])
   (.seq (.cond (tp 28) (.skip)
   (.exit 0))
   (.seq (.block 1 (.seq (.reg [] [
     Ap 29 27 3,
     D5 30 22 25 27,
     Ce 31 30 3,
     AQ 9 29 3,
     AQ 10 31 3])
    (.seq (.reg [] [
      Ap 32 6 64,
      Ap 33 1 22,
      Ap 34 9 3,
      rq 35 (cf 51 #[(tp 32),(tp 33),(tp 34)] #[64,22,3]) 74,
      rq 36 (.binOp .eql 74 (tp 35) (.const (.int .u16 0)) 74) 4])
    (.cond (tp 36) (.reg [] [
      Ap 37 8 22,
      Ap 38 10 3,
      rq 39 (.buildSlice 22 1 #[(0,(tp 38))]) 22,
      rq 40 (cb .append #[(tp 37),(tp 39)] #[22,22]) 22,
      AQ 8 40 22])
    (.skip)))))
   (.reg [] [
     FB 41 27,
     Ap 27 41 3])))))))
 (.seq (.reg [] [
   Ap 42 8 22,AQ 4 42 22,Cz 5 0 28])
 (.ret))))))
def c17:RC:=TZ
def c18:RC:=
 .seq (.reg [] [
  rq 2 (.box 24 (tp 0)) 0,rq 4 (.assign (.const (.slice none 0 0))) 22,Cz 5 0 28])
 (.seq (.reg [] [
   Ce 9 2 24,Ap 10 1 22,rq 11 (.buildSlice 39 1 #[(0,(tp 10))]) 39,rq 12 (cf 43 #[(tp 9),(tp 11)] #[24,39]) 65,Ap 8 12 65,EM 13 8 0 64,EM 14 8 1 28,AQ 6 13 64,AQ 7 14 28])
 (.seq (.seq (.reg [] [
   Ap 15 7 28,rq 16 (.binOp .neq 28 (tp 15) (ki 0) 28) 4])
 (.cond (tp 16) (.seq (.reg [] [
   Ap 17 7 28,
   rq 4 (.assign (.const (.slice none 0 0))) 22,
   AQ 5 17 28])
  (.ret))
 (.skip)))
 (.seq (.reg [] [
   Ap 18 6 64,Ap 19 1 22,rq 20 (cf 52 #[(tp 18),(tp 19)] #[64,22]) 39,rq 21 (.indexAddr 39 (tp 20) (ki 0)) 0,Ce 22 21 22,AQ 4 22 22,Cz 5 0 28])
 (.ret))))
def c20:RC:=
 .seq (.reg [] [
  rq 2 (.box 24 (tp 0)) 0,rq 4 (.assign (.const (.slice none 0 0))) 39,Cz 5 0 28])
 (.seq (.reg [] [
   Ce 9 2 24,Ap 10 1 22,rq 11 (.buildSlice 39 1 #[(0,(tp 10))]) 39,rq 12 (cf 43 #[(tp 9),(tp 11)] #[24,39]) 65,Ap 8 12 65,EM 13 8 0 64,EM 14 8 1 28,AQ 6 13 64,AQ 7 14 28])
 (.seq (.seq (.reg [] [
   Ap 15 7 28,rq 16 (.binOp .neq 28 (tp 15) (ki 0) 28) 4])
 (.cond (tp 16) (.seq (.reg [] [
   Ap 17 7 28,
   rq 4 (.assign (.const (.slice none 0 0))) 39,
   AQ 5 17 28])
  (.ret))
 (.skip)))
 (.seq (.reg [] [
   Ap 18 6 64,Ap 19 1 22,rq 20 (cf 52 #[(tp 18),(tp 19)] #[64,22]) 39,AQ 4 20 39,Cz 5 0 28])
 (.ret))))
def c22:RC:=
 .seq (.reg [] [
  rq 4 (.assign (kb false)) 4])
 (.seq (.seq (.reg [] [
   Ap 6 0 39,EN 7 6 39,Ap 8 1 39,EN 9 8 39,rq 10 (.binOp .neq 3 (tp 7) (tp 9) 3) 4])
 (.cond (tp 10) (.seq (.reg [] [
   rq 4 (.assign (kb false)) 4])
  (.ret))
 (.skip)))
 (.seq (.seq (.reg [] [
   Cz 5 0 3])
 (.block 0 (.loop (.seq (.seq (.reg [] [
   Ap 11 5 3,
   Ap 12 0 39,
   EN 13 12 39,
   rq 14 (.binOp .lss 3 (tp 11) (tp 13) 3) 4])
   (.cond (tp 14) (.skip)
   (.exit 0)))
   (.seq (.block 1 (.seq (.reg [0, 1, 2, 3, 4, 5, 6, 7, 8, 9] [
     Ap 17 0 39,
     Ap 18 5 3,
     D5 19 39 17 18,
     Ce 20 19 22,
     Ap 21 1 39,
     Ap 22 5 3,
     D5 23 39 21 22,
     Ce 24 23 22,
     rq 25 (cf 17 #[(tp 20),(tp 24)] #[22,22]) 4,
     rq 26 (.unOp .not 4 (tp 25)) 4])
    (.cond (tp 26) (.seq (.reg [] [
      rq 4 (.assign (kb false)) 4])
     (.ret))
    (.skip))))
   (.reg [] [
     Ap 15 5 3,
     FB 16 15,
     AQ 5 16 3]))))))
 (.seq (.reg [] [
   rq 4 (.assign (kb true)) 4])
 (.ret))))
def c23:RC:=
 .seq (.reg [] [
  rq 2 (.box 24 (tp 0)) 0,Cz 4 0 3,Cz 5 0 28])
 (.seq (.reg [] [
   Ce 10 2 24,rq 11 (cf 55 #[(tp 10)] #[24]) 65,Ap 9 11 65,EM 12 9 0 64,EM 13 9 1 28,AQ 6 12 64,AQ 7 13 28])
 (.seq (.seq (.reg [] [
   Ap 14 7 28,rq 15 (.binOp .neq 28 (tp 14) (ki 0) 28) 4])
 (.cond (tp 15) (.seq (.reg [] [
   Ap 16 7 28,
   Cz 4 0 3,
   AQ 5 16 28])
  (.ret))
 (.skip)))
 (.seq (.reg [] [
   Ap 17 6 64,rq 18 (.nilCheck (tp 17)) 0,DR 19 69 18 0,DR 20 24 19 3,Ce 21 20 22,Ap 22 1 3,rq 23 (cf 44 #[(tp 21),(tp 22)] #[22,3]) 3,AQ 8 23 3])
 (.seq (.seq (.reg [] [
   Ap 24 8 3,rq 25 (.binOp .lss 3 (tp 24) (ki 0) 3) 4])
 (.cond (tp 25) (.seq (.reg [] [
   Cz 4 0 3,
   Cz 5 2 28])
  (.ret))
 (.skip)))
 (.seq (.reg [] [
   Ap 26 6 64,Ap 27 8 3,rq 28 (cf 56 #[(tp 26),(tp 27)] #[64,3]) 3,AQ 4 28 3,Cz 5 0 28])
 (.ret))))))
def c25:RC:=
 .seq (.reg [] [
  rq 1 (.box 24 (tp 0)) 0,Cz 2 0 3,Cz 3 0 28])
 (.seq (.reg [] [
   Ce 9 1 24,rq 10 (cf 55 #[(tp 9)] #[24]) 65,Ap 8 10 65,EM 11 8 0 64,EM 12 8 1 28,AQ 4 11 64,AQ 5 12 28])
 (.seq (.seq (.reg [] [
   Ap 13 5 28,rq 14 (.binOp .neq 28 (tp 13) (ki 0) 28) 4])
 (.cond (tp 14) (.seq (.reg [] [
   Ap 15 5 28,
   Cz 2 0 3,
   AQ 3 15 28])
  (.ret))
 (.skip)))
 (.seq (.reg [] [
   Cz 6 0 3])
 (.seq (.seq (.reg [] [
   Ap 16 4 64,rq 17 (.nilCheck (tp 16)) 0,DR 18 69 17 0,DR 19 24 18 3,Ce 20 19 22,EN 21 20 22,rq 22 (.move (ki 0)) 3])
 (.block 0 (.loop (.seq (.reg [] [
   L8 23 22 21])
   (.seq (.cond (tp 23) (.skip)
   (.exit 0))
   (.seq (.block 1 (.seq (.reg [] [
     Ap 24 22 3,
     AQ 7 24 3])
    (.reg [] [
      Ap 25 6 3,
      Ap 26 4 64,
      Ap 27 7 3,
      rq 28 (cf 56 #[(tp 26),(tp 27)] #[64,3]) 3,
      rq 29 (.binOp .add 3 (tp 25) (tp 28) 3) 3,
      AQ 6 29 3])))
   (.reg [] [
     FB 30 22,
     Ap 22 30 3])))))))
 (.seq (.reg [] [
   Ap 31 6 3,Ap 32 4 64,rq 33 (.nilCheck (tp 32)) 0,DR 34 69 33 0,DR 35 24 34 3,Ce 36 35 22,EN 37 36 22,rq 38 (.binOp .quo 3 (tp 31) (tp 37) 3) 3,AQ 2 38 3,Cz 3 0 28])
 (.ret))))))
def c27:RC:=
 .seq (.reg [] [
  rq 2 (.box 24 (tp 0)) 0,Cz 4 0 3,Cz 5 0 28])
 (.seq (.reg [] [
   Ce 14 2 24,rq 15 (cf 55 #[(tp 14)] #[24]) 65,Ap 13 15 65,EM 16 13 0 64,EM 17 13 1 28,AQ 6 16 64,AQ 7 17 28])
 (.seq (.block 0 (.seq (.reg [] [
   Ap 19 7 28,
   rq 20 (.binOp .neq 28 (tp 19) (ki 0) 28) 4,
   AQ 18 20 4])
  (.cond (tp 18) (.seq (.reg [] [
    Ap 21 7 28,
    Cz 4 0 3,
    AQ 5 21 28])
   (.ret))
  (.seq (.reg [] [
    Ap 23 1 22,
    EN 24 23 22,
    Ap 25 6 64,
    rq 26 (.nilCheck (tp 25)) 0,
    DR 27 69 26 0,
    DR 28 24 27 2,
    Ce 29 28 3,
    rq 30 (.binOp .neq 3 (tp 24) (tp 29) 3) 4,
    AQ 22 30 4])
   (.cond (tp 22) (.seq (.reg [] [
     Cz 4 0 3,
     Cz 5 5 28])
    (.ret))
   (.skip))))))
 (.seq (.reg [] [
   Cz 8 0 3])
 (.seq (.seq (.reg [] [
   Ap 31 1 22,EN 32 31 22,rq 33 (.move (ki 0)) 3])
 (.block 1 (.loop (.seq (.reg [] [
   L8 34 33 32])
   (.seq (.cond (tp 34) (.skip)
   (.exit 1))
   (.seq (.block 2 (.seq (.reg [] [
     D5 35 22 31 33,
     Ce 36 35 3,
     AQ 10 36 3])
    (.seq (.seq (.reg [0, 1, 2, 3, 4, 5, 6, 7, 8, 9, 10, 11, 12, 13] [
      Ap 37 10 3,
      Ap 38 6 64,
      rq 39 (.nilCheck (tp 38)) 0,
      DR 40 69 39 0,
      DR 41 24 40 0,
      Ce 42 41 3,
      Ap 43 6 64,
      rq 44 (.nilCheck (tp 43)) 0,
      DR 45 69 44 0,
      DR 46 24 45 1,
      Ce 47 46 3,
      rq 48 (.binOp .mul 3 (tp 42) (tp 47) 3) 3,
      rq 49 (cf 59 #[(ki 0),(tp 37),(tp 48)] #[3,3,3]) 4,
      rq 50 (.unOp .not 4 (tp 49)) 4])
    (.cond (tp 50) (.seq (.reg [] [
      Cz 4 0 3,
      Cz 5 1 28])
     (.ret))
    (.skip)))
    (.reg [] [
      Ap 51 8 3,
      Ap 52 10 3,
      rq 53 (.binOp .add 3 (tp 51) (tp 52) 3) 3,
      AQ 8 53 3]))))
   (.reg [] [
     FB 54 33,
     Ap 33 54 3])))))))
 (.seq (.seq (.reg [0, 1, 2, 3, 4, 5, 6, 7, 8, 9, 10, 11, 12] [
   Ap 55 8 3,Ap 56 6 64,rq 57 (.nilCheck (tp 56)) 0,DR 58 69 57 0,DR 59 24 58 0,Ce 60 59 3,Ap 61 6 64,rq 62 (.nilCheck (tp 61)) 0,DR 63 69 62 0,DR 64 24 63 1,Ce 65 64 3,rq 66 (.binOp .mul 3 (tp 60) (tp 65) 3) 3,rq 67 (.binOp .neq 3 (tp 55) (tp 66) 3) 4])
 (.cond (tp 67) (.seq (.reg [] [
   Cz 4 0 3,
   Cz 5 17 28])
  (.ret))
 (.skip)))
 (.seq (.reg [] [
   Cz 11 0 3])
 (.seq (.seq (.reg [] [
   Ap 68 6 64,rq 69 (.nilCheck (tp 68)) 0,DR 70 69 69 0,DR 71 24 70 3,Ce 72 71 22,EN 73 72 22,rq 74 (.move (ki 0)) 3])
 (.block 3 (.loop (.seq (.reg [] [
   L8 75 74 73])
   (.seq (.cond (tp 75) (.skip)
   (.exit 3))
   (.seq (.block 4 (.seq (.reg [] [
     Ap 76 74 3,
     AQ 12 76 3])
    (.reg [] [
      Ap 77 11 3,
      Ap 78 6 64,
      Ap 79 12 3,
      rq 80 (cf 61 #[(tp 78),(tp 79)] #[64,3]) 84,
      Ap 81 1 22,
      rq 82 (cf 60 #[(tp 80),(tp 81)] #[84,22]) 3,
      rq 83 (.binOp .add 3 (tp 77) (tp 82) 3) 3,
      AQ 11 83 3])))
   (.reg [] [
     FB 84 74,
     Ap 74 84 3])))))))
 (.seq (.reg [] [
   Ap 85 11 3,Ap 86 6 64,rq 87 (.nilCheck (tp 86)) 0,DR 88 69 87 0,DR 89 24 88 3,Ce 90 89 22,EN 91 90 22,rq 92 (.binOp .quo 3 (tp 85) (tp 91) 3) 3,AQ 4 92 3,Cz 5 0 28])
 (.ret)))))))))
def c29:RC:=T9
def c30:RC:=Ua
def c31:RC:=Ub
def c32:RC:=Ud
def c33:RC:=
 .seq (.reg [] [
  Cz 4 0 3,Cz 5 0 28])
 (.seq (.seq (.reg [] [
   Ap 6 0 3,rq 7 (cf 59 #[(ki 0),(tp 6),(ki 7)] #[3,3,3]) 4,rq 8 (.unOp .not 4 (tp 7)) 4,Ap 9 8 4,DD 10 1 3 9 false,rg 11 (cf 59 #[(ki 0),(tp 10),(ki 7)] #[3,3,3]) 4 9 false,rg 12 (.unOp .not 4 (tp 11)) 4 9 false,rq 13 (.pick (tp 9) (kb true) (tp 12)) 4])
 (.cond (tp 13) (.seq (.reg [] [
   Cz 4 0 3,
   Cz 5 2 28])
  (.ret))
 (.skip)))
 (.seq (.reg [] [
   Ap 14 0 3,rq 15 (cf 75 #[(tp 14)] #[3]) 99,Ap 16 1 3,rq 17 (cf 75 #[(tp 16)] #[3]) 99,rq 18 (cf 76 #[(tp 15),(tp 17)] #[99,99]) 99,rq 19 (cf 77 #[(tp 18)] #[99]) 3,AQ 4 19 3,Cz 5 0 28])
 (.ret)))
def c34:RC:=Ue
def c36:RC:=Uf
def c39:RC:=
 .seq (.reg [] [
  rq 0 (.alloc 24) 0])
 (.seq (.reg [] [
   rq 1 (.buildSlice 22 4 #[(0,(ki 0)),(1,(ki 1)),(2,(ki 2)),(3,(ki 3))]) 22,rq 2 (cf 40 #[(tp 1)] #[22]) 22,rq 3 (.build 24 #[(0,(ki 2)),(1,(ki 2)),(2,(ki 2)),(3,(tp 2))]) 24,rn (.store 24 (tp 0) (tp 3)) 0])
 (.ret))
def c40:RC:=
 .seq (.reg [] [
  rq 2 (.assign (.const (.slice none 0 0))) 22])
 (.seq (.reg [] [
   Ap 3 0 22,AQ 2 3 22])
 (.ret))
def c41:RC:=
 .seq (.reg [] [
  rq 0 (.alloc 24) 0])
 (.seq (.reg [] [
   rq 1 (.buildSlice 22 2 #[(0,(ki 0)),(1,(ki 2))]) 22,rq 2 (cf 40 #[(tp 1)] #[22]) 22,rq 3 (.build 24 #[(0,(ki 2)),(1,(ki 3)),(2,(ki 2)),(3,(tp 2))]) 24,rn (.store 24 (tp 0) (tp 3)) 0])
 (.ret))
def c42:RC:=
 .seq (.reg [] [
  rq 2 (.assign (.const (.slice none 0 0))) 39])
 (.seq (.reg [] [
   Ap 3 0 39,AQ 2 3 39])
 (.ret))
def c43:RC:=Ug
def c44:RC:=
 .seq (.reg [] [
  Cz 4 0 3])
 (.seq (.seq (.reg [] [
   Ap 6 0 22,EN 7 6 22,rq 8 (.move (ki 0)) 3])
 (.block 0 (.loop (.seq (.reg [] [
   L8 9 8 7])
   (.seq (.cond (tp 9) (.skip)
   (.exit 0))
   (.seq (.block 1 (.seq (.reg [] [
     Ap 10 8 3,
     AQ 5 10 3])
    (.seq (.reg [] [
      Ap 11 1 3,
      Ap 12 0 22,
      Ap 13 5 3,
      D5 14 22 12 13,
      Ce 15 14 3,
      rq 16 (.binOp .eql 3 (tp 11) (tp 15) 3) 4])
    (.cond (tp 16) (.seq (.reg [] [
      Ap 17 5 3,
      AQ 4 17 3])
     (.ret))
    (.skip)))))
   (.reg [] [
     FB 18 8,
     Ap 8 18 3])))))))
 (.seq (.reg [] [
   rq 4 (.assign (ki (-1))) 3])
 (.ret)))
def c45:RC:=
 .seq (.reg [] [
  rq 6 (.assign (.const (.slice none 0 0))) 22])
 (.seq (.reg [] [
   Ap 10 1 22,EN 11 10 22,rq 12 (.makeSlice 22 (tp 11) (tp 11)) 22,AQ 7 12 22])
 (.seq (.seq (.reg [] [
   Ap 13 0 64,rq 14 (.nilCheck (tp 13)) 0,DR 15 69 14 1,Ce 16 15 39,Ap 17 2 3,D5 18 39 16 17,Ce 19 18 22,EN 20 19 22,rq 21 (.move (ki 0)) 3])
 (.block 0 (.loop (.seq (.reg [] [
   L8 22 21 20])
   (.seq (.cond (tp 22) (.skip)
   (.exit 0))
   (.seq (.block 1 (.seq (.reg [] [
     Ap 23 21 3,
     D5 24 22 19 21,
     Ce 25 24 3,
     AQ 8 23 3,
     AQ 9 25 3])
    (.reg [] [
      Ap 26 7 22,
      Ap 27 8 3,
      Ap 28 1 22,
      Ap 29 9 3,
      D5 30 22 28 29,
      Ce 31 30 3,
      D5 32 22 26 27,
      rn (.store 3 (tp 32) (tp 31)) 0])))
   (.reg [] [
     FB 33 21,
     Ap 21 33 3])))))))
 (.seq (.reg [] [
   Ap 34 7 22,AQ 6 34 22])
 (.ret))))
def c46:RC:=Uh
def c47:RC:=Ui
def c48:RC:=MF
def c49:RC:=
 .seq (.reg [] [
  rq 4 (.assign (kb false)) 4])
 (.seq (.seq (.reg [] [
   Ap 6 0 22,EN 7 6 22,Ap 8 1 22,EN 9 8 22,rq 10 (.binOp .neq 3 (tp 7) (tp 9) 3) 4])
 (.cond (tp 10) (.seq (.reg [] [
   rq 4 (.assign (kb false)) 4])
  (.ret))
 (.skip)))
 (.seq (.seq (.reg [] [
   Ap 11 0 22,EN 12 11 22,rq 13 (.move (ki 0)) 3])
 (.block 0 (.loop (.seq (.reg [] [
   L8 14 13 12])
   (.seq (.cond (tp 14) (.skip)
   (.exit 0))
   (.seq (.block 1 (.seq (.reg [] [
     Ap 15 13 3,
     AQ 5 15 3])
    (.seq (.reg [0, 1, 2, 3, 4, 5, 6, 7, 8] [
      Ap 16 0 22,
      Ap 17 5 3,
      D5 18 22 16 17,
      Ce 19 18 3,
      Ap 20 1 22,
      Ap 21 5 3,
      D5 22 22 20 21,
      Ce 23 22 3,
      rq 24 (.binOp .neq 3 (tp 19) (tp 23) 3) 4])
    (.cond (tp 24) (.seq (.reg [] [
      rq 4 (.assign (kb false)) 4])
     (.ret))
    (.skip)))))
   (.reg [] [
     FB 25 13,
     Ap 13 25 3])))))))
 (.seq (.reg [] [
   rq 4 (.assign (kb true)) 4])
 (.ret))))
def c50:RC:=Uj
def c51:RC:=Uk
def c52:RC:=
 .seq (.reg [] [
  rq 4 (.assign (.const (.slice none 0 0))) 39])
 (.seq (.reg [] [
   rq 5 (.assign (.const (.slice none 0 0))) 39])
 (.seq (.seq (.reg [] [
   Ap 7 0 64,rq 8 (.nilCheck (tp 7)) 0,DR 9 69 8 0,DR 10 24 9 3,Ce 11 10 22,EN 12 11 22,rq 13 (.move (ki 0)) 3])
 (.block 0 (.loop (.seq (.reg [] [
   L8 14 13 12])
   (.seq (.cond (tp 14) (.skip)
   (.exit 0))
   (.seq (.block 1 (.seq (.reg [] [
     Ap 15 13 3,
     AQ 6 15 3])
    (.reg [] [
      Ap 16 5 39,
      Ap 17 0 64,
      Ap 18 1 22,
      Ap 19 6 3,
      rq 20 (cf 45 #[(tp 17),(tp 18),(tp 19)] #[64,22,3]) 22,
      rq 21 (.buildSlice 39 1 #[(0,(tp 20))]) 39,
      rq 22 (cb .append #[(tp 16),(tp 21)] #[39,39]) 39,
      AQ 5 22 39])))
   (.reg [] [
     FB 23 13,
     Ap 13 23 3])))))))
 (.seq (.reg [] [
   Ap 24 5 39,rq 25 (cf 82 #[(tp 24),(.func 70)] #[39,86]) 0])
 (.seq (.reg [] [
   Ap 26 5 39,rq 27 (cf 83 #[(tp 26),(.func 49)] #[39,37]) 39,AQ 4 27 39])
 (.ret)))))
def c55:RC:=Ul
def c56:RC:=
 .seq (.reg [] [
  Cz 4 0 3])
 (.seq (.reg [] [
   Cz 5 1 3])
 (.seq (.seq (.reg [] [
   Ap 8 0 64,Ap 9 1 3,rq 10 (cf 61 #[(tp 8),(tp 9)] #[64,3]) 84,rq 11 (.move (ki 0)) 3])
 (.block 0 (.loop (.seq (.reg [] [
   rq 12 (.binOp .lss 3 (tp 11) (ki 17) 3) 0])
   (.seq (.cond (tp 12) (.skip)
   (.exit 0))
   (.seq (.block 1 (.seq (.reg [] [
     rq 13 (.index 84 (tp 10) (tp 11)) 3,
     AQ 7 13 3])
    (.seq (.reg [] [
      Ap 14 7 3,
      rq 15 (.move (ki 0)) 3])
    (.block 2 (.loop (.seq (.reg [] [
      rq 16 (.binOp .lss 3 (tp 15) (tp 14) 3) 4])
      (.seq (.cond (tp 16) (.skip)
      (.exit 2))
      (.seq (.block 3 (.reg [] [
        Ap 17 5 3,
        Ap 18 0 64,
        rq 19 (.nilCheck (tp 18)) 0,
        DR 20 69 19 0,
        DR 21 24 20 2,
        Ce 22 21 3,
        rq 23 (.binOp .mul 3 (tp 17) (tp 22) 3) 3,
        AQ 5 23 3]))
      (.reg [] [
        FB 24 15,
        Ap 15 24 3])))))))))
   (.reg [] [
     FB 25 11,
     Ap 11 25 3])))))))
 (.seq (.reg [] [
   Ap 26 5 3,AQ 4 26 3])
 (.ret))))
def c59:RC:=XU
def c60:RC:=
 .seq (.reg [] [
  rq 2 (.box 84 (tp 0)) 0,rq 3 (.box 22 (tp 1)) 0,Cz 4 0 3])
 (.seq (.seq (.reg [] [
   Ce 6 3 22,EN 7 6 22,rq 8 (.binOp .eql 3 (tp 7) (ki 1) 3) 4])
 (.cond (tp 8) (.seq (.reg [] [
   Cz 4 1 3])
  (.ret))
 (.skip)))
 (.seq (.reg [] [
   rq 5 (.alloc 110) 0])
 (.seq (.reg [] [
   rq 9 (.makeFunc (.func 85) #[] #[(tp 2),(tp 3),(tp 5)]) 110,rn (.store 110 (tp 5) (tp 9)) 0])
 (.seq (.reg [0, 1, 2, 3, 4, 5] [
   Ce 10 5 110,Ce 11 3 22,rq 12 (.indexAddr 22 (tp 11) (ki 0)) 0,Ce 13 12 3,rq 14 (.call ⟨.value (tp 10),#[(ki 1),(tp 13),(ki 1)],#[3,3,3]⟩) 3,AQ 4 14 3])
 (.ret)))))
def c61:RC:=
 .seq (.reg [] [
  rq 4 (.alloc 84) 0])
 (.seq (.reg [] [
   rq 5 (.assign (.const (.int .u16 0))) 74])
 (.seq (.seq (.reg [] [
   Ap 9 0 64,rq 10 (.nilCheck (tp 9)) 0,DR 11 69 10 1,Ce 12 11 39,Ap 13 1 3,D5 14 39 12 13,Ce 15 14 22,EN 16 15 22,rq 17 (.move (ki 0)) 3])
 (.block 0 (.loop (.seq (.reg [] [
   L8 18 17 16])
   (.seq (.cond (tp 18) (.skip)
   (.exit 0))
   (.seq (.block 1 (.seq (.reg [] [
     Ap 19 17 3,
     AQ 6 19 3])
    (.seq (.reg [] [
      Cz 7 0 3])
    (.seq (.seq (.reg [] [
      Ap 20 6 3,
      AQ 8 20 3])
    (.block 2 (.loop (.seq (.seq (.reg [] [
      Ap 21 5 74,
      Ap 22 8 3,
      rq 23 (.binOp .shr 74 (tp 21) (tp 22) 3) 74,
      rq 24 (.binOp .and 74 (tp 23) (.const (.int .u16 1)) 74) 74,
      rq 25 (.binOp .eql 74 (tp 24) (.const (.int .u16 0)) 74) 4])
      (.cond (tp 25) (.skip)
      (.exit 2)))
      (.seq (.block 3 (.seq (.reg [] [
        Ap 36 5 74,
        Ap 37 8 3,
        rq 38 (.binOp .shl 74 (.const (.int .u16 1)) (tp 37) 3) 74,
        rq 39 (.binOp .or 74 (tp 36) (tp 38) 74) 74,
        AQ 5 39 74])
       (.reg [] [
         Ap 40 7 3,
         FB 41 40,
         AQ 7 41 3])))
      (.reg [] [
        Ap 26 0 64,
        rq 27 (.nilCheck (tp 26)) 0,
        DR 28 69 27 1,
        Ce 29 28 39,
        Ap 30 1 3,
        D5 31 39 29 30,
        Ce 32 31 22,
        Ap 33 8 3,
        D5 34 22 32 33,
        Ce 35 34 3,
        AQ 8 35 3]))))))
    (.reg [] [
      Ap 42 7 3,
      D5 43 84 4 42,
      Ce 44 43 3,
      FB 45 44,
      D5 46 84 4 42,
      rn (.store 3 (tp 46) (tp 45)) 0])))))
   (.reg [] [
     FB 47 17,
     Ap 17 47 3])))))))
 (.seq (.reg [] [
   rq 48 (.indexAddr 84 (tp 4) (ki 0)) 0,rn (.store 3 (tp 48) (ki 0)) 0])
 (.seq (.reg [] [
   Ce 49 4 84,rn (.store 84 (tp 4) (tp 49)) 0])
 (.ret)))))
def c62:RC:=XZ
def c65:RC:=Po
def c66:RC:=UV
def c67:RC:=UW
def c68:RC:=
 .seq (.reg [] [
  rq 2 (.assign (.const (.slice none 0 0))) 22])
 (.seq (.reg [] [
   Ap 4 0 92,rq 5 (cf 87 #[(tp 4)] #[92]) 22,AQ 3 5 22])
 (.seq (.reg [] [
   Ap 6 3 22,rq 7 (cf 88 #[(tp 6)] #[22]) 0])
 (.seq (.reg [] [
   Ap 8 3 22,AQ 2 8 22])
 (.ret))))
def c69:RC:=UX
def c70:RC:=Um
def c71:RC:=X0
def c72:RC:=X3
def c73:RC:=Pq
def c74:RC:=Un
def c75:RC:=Uo
def c76:RC:=X4
def c77:RC:=Uq
def c79:RC:=
 .seq (.reg [] [
  rq 2 (.assign (.const (.slice none 0 0))) 22])
 (.seq (.seq (.reg [] [
   Ap 3 0 22,rq 4 (.binOp .eql 22 (tp 3) (.const (.slice none 0 0)) 22) 4])
 (.cond (tp 4) (.seq (.reg [] [
   rq 2 (.assign (.const (.slice none 0 0))) 22])
  (.ret))
 (.skip)))
 (.seq (.reg [] [
   rq 5 (.buildSlice 22 0 #[]) 22,Ap 6 0 22,rq 7 (cb .append #[(tp 5),(tp 6)] #[22,22]) 22,AQ 2 7 22])
 (.ret)))
def c80:RC:=Uw
def c81:RC:=X5
def c82:RC:=
 .seq (.reg [] [
  Ap 5 0 39,EN 6 5 39,AQ 4 6 3])
 (.reg [] [
   Ap 7 0 39,Ap 8 4 3,Ap 9 4 3,rq 10 (.convert 3 114 (tp 9)) 114,rq 11 (cf 95 #[(tp 10)] #[114]) 3,Ap 12 1 86,rq 13 (cf 94 #[(tp 7),(ki 0),(tp 8),(tp 11),(tp 12)] #[39,3,3,3,86]) 0])
def c83:RC:=
 .seq (.reg [] [
  rq 4 (.assign (.const (.slice none 0 0))) 39])
 (.seq (.seq (.reg [] [
   Ap 8 0 39,EN 9 8 39,rq 10 (.binOp .lss 3 (tp 9) (ki 2) 3) 4])
 (.cond (tp 10) (.seq (.reg [] [
   Ap 11 0 39,
   AQ 4 11 39])
  (.ret))
 (.skip)))
 (.seq (.seq (.reg [] [
   Cz 5 1 3])
 (.block 0 (.loop (.seq (.seq (.reg [] [
   Ap 12 5 3,
   Ap 13 0 39,
   EN 14 13 39,
   rq 15 (.binOp .lss 3 (tp 12) (tp 14) 3) 4])
   (.cond (tp 15) (.skip)
   (.exit 0)))
   (.seq (.block 1 (.seq (.reg [0, 1, 2, 3, 4, 5, 6, 7, 8, 9, 10] [
     Ap 18 1 37,
     Ap 19 0 39,
     Ap 20 5 3,
     D5 21 39 19 20,
     Ce 22 21 22,
     Ap 23 0 39,
     Ap 24 5 3,
     rq 25 (.binOp .sub 3 (tp 24) (ki 1) 3) 3,
     D5 26 39 23 25,
     Ce 27 26 22,
     rq 28 (.call ⟨.value (tp 18),#[(tp 22),(tp 27)],#[22,22]⟩) 4])
    (.cond (tp 28) (.seq (.reg [] [
      Ap 29 0 39,
      Ap 30 5 3,
      rq 31 (.slice 39 (tp 29) (some (tp 30)) none none) 39,
      AQ 6 31 39])
     (.seq (.seq (.reg [] [
       Cz 7 1 3])
     (.block 2 (.loop (.seq (.seq (.reg [] [
       Ap 32 7 3,
       Ap 33 6 39,
       EN 34 33 39,
       rq 35 (.binOp .lss 3 (tp 32) (tp 34) 3) 4])
       (.cond (tp 35) (.skip)
       (.exit 2)))
       (.seq (.block 3 (.seq (.reg [0, 1, 2, 3, 4, 5, 6, 7, 8, 9, 10, 11] [
         Ap 38 1 37,
         Ap 39 6 39,
         Ap 40 7 3,
         D5 41 39 39 40,
         Ce 42 41 22,
         Ap 43 6 39,
         Ap 44 7 3,
         rq 45 (.binOp .sub 3 (tp 44) (ki 1) 3) 3,
         D5 46 39 43 45,
         Ce 47 46 22,
         rq 48 (.call ⟨.value (tp 38),#[(tp 42),(tp 47)],#[22,22]⟩) 4,
         rq 49 (.unOp .not 4 (tp 48)) 4])
        (.cond (tp 49) (.seq (.reg [] [
          Ap 50 0 39,
          Ap 51 5 3,
          Ap 52 6 39,
          Ap 53 7 3,
          D5 54 39 52 53,
          Ce 55 54 22,
          D5 56 39 50 51,
          rn (.store 22 (tp 56) (tp 55)) 0])
         (.reg [] [
           Ap 57 5 3,
           FB 58 57,
           AQ 5 58 3]))
        (.skip))))
       (.reg [] [
         Ap 36 7 3,
         FB 37 36,
         AQ 7 37 3]))))))
     (.seq (.reg [] [
       Ap 59 0 39,
       Ap 60 5 3,
       rq 61 (.slice 39 (tp 59) (some (tp 60)) none none) 39,
       rn (cb .clear #[(tp 61)] #[39]) 0])
     (.seq (.reg [] [
       Ap 62 0 39,
       Ap 63 5 3,
       rq 64 (.slice 39 (tp 62) none (some (tp 63)) none) 39,
       AQ 4 64 39])
     (.ret)))))
    (.skip))))
   (.reg [] [
     Ap 16 5 3,
     FB 17 16,
     AQ 5 17 3]))))))
 (.seq (.reg [] [
   Ap 65 0 39,AQ 4 65 39])
 (.ret))))
def c84:RC:=
 .seq (.reg [] [
  rq 2 (.box 24 (tp 0)) 0,rq 4 (.assign (.const (.slice none 0 0))) 22])
 (.seq (.reg [] [
   DR 8 24 2 0,Ce 9 8 3,DR 10 24 2 1,Ce 11 10 3,rq 12 (.binOp .mul 3 (tp 9) (tp 11) 3) 3,rq 13 (.makeSlice 22 (tp 12) (tp 12)) 22,AQ 5 13 22])
 (.seq (.seq (.reg [] [
   Ap 14 5 22,EN 15 14 22,rq 16 (.move (ki 0)) 3])
 (.block 0 (.loop (.seq (.reg [] [
   L8 17 16 15])
   (.seq (.cond (tp 17) (.skip)
   (.exit 0))
   (.seq (.block 1 (.seq (.reg [] [
     Ap 18 16 3,
     AQ 6 18 3])
    (.reg [] [
      Ap 19 5 22,
      Ap 20 6 3,
      Ap 21 6 3,
      D5 22 22 19 20,
      rn (.store 3 (tp 22) (tp 21)) 0])))
   (.reg [] [
     FB 23 16,
     Ap 16 23 3])))))))
 (.seq (.reg [] [
   Ap 24 1 3,rq 25 (cf 75 #[(tp 24)] #[3]) 99,rq 7 (.alloc 99) 0,rn (.store 99 (tp 7) (tp 25)) 0])
 (.seq (.seq (.reg [] [
   DR 26 99 7 0,Ce 27 26 3,rq 28 (.binOp .eql 3 (tp 27) (ki 2) 3) 4])
 (.cond (tp 28) (.reg [] [
   Ap 29 5 22,
   rq 30 (cf 96 #[(tp 29)] #[22]) 0])
 (.seq (.reg [] [
   DR 31 99 7 0,
   Ce 32 31 3,
   rq 33 (.move (ki 0)) 3])
  (.block 2 (.loop (.seq (.reg [] [
    rq 34 (.binOp .lss 3 (tp 33) (tp 32) 3) 4])
    (.seq (.cond (tp 34) (.skip)
    (.exit 2))
    (.seq (.block 3 (.reg [] [
      Ap 35 5 22,
      DR 36 24 2 0,
      Ce 37 36 3,
      rq 38 (cf 97 #[(tp 35),(tp 37)] #[22,3]) 22,
      AQ 5 38 22]))
    (.reg [] [
      FB 39 33,
      Ap 33 39 3])))))))))
 (.seq (.seq (.reg [] [
   DR 40 99 7 1,Ce 41 40 4])
 (.cond (tp 41) (.reg [] [
   Ap 42 5 22,
   DR 43 24 2 1,
   Ce 44 43 3,
   rq 45 (cf 98 #[(tp 42),(tp 44)] #[22,3]) 22,
   AQ 5 45 22])
 (.skip)))
 (.seq (.reg [] [
   Ap 46 5 22,AQ 4 46 22])
 (.ret)))))))
def c85:RC:=
 .seq (.reg [] [
  Cz 9 0 3])
 (.seq (.seq (.reg [] [
   Ap 14 0 3,rq 15 (.binOp .eql 3 (tp 14) (ki 17) 3) 4])
 (.cond (tp 15) (.seq (.seq (.reg [] [
   Ap 16 1 3,
   rq 17 (.binOp .gtr 3 (tp 16) (ki 0) 3) 4])
  (.cond (tp 17) (.seq (.reg [] [
    Cz 9 0 3])
   (.ret))
  (.skip)))
  (.seq (.reg [0, 1, 2, 3, 4, 5, 6] [
    Ap 18 2 3,
    Ce 19 3 84,
    Ce 20 4 22,
    rq 21 (.slice 22 (tp 20) (some (ki 1)) none none) 22,
    rq 22 (cf 60 #[(tp 19),(tp 21)] #[84,22]) 3,
    rq 23 (.binOp .mul 3 (tp 18) (tp 22) 3) 3,
    AQ 9 23 3])
  (.ret)))
 (.skip)))
 (.seq (.reg [0, 1, 2, 3, 4] [
   Ap 24 0 3,D5 25 84 3 24,Ce 26 25 3,Cz 10 0 3,AQ 11 26 3])
 (.seq (.seq (.reg [] [
   Cz 12 0 3,Cz 13 1 3])
 (.block 0 (.loop (.seq (.seq (.reg [] [
   Ap 27 12 3,
   Ap 28 11 3,
   rq 29 (.binOp .leq 3 (tp 27) (tp 28) 3) 4,
   Ap 30 29 4,
   DD 31 12 3 30 true,
   DD 32 0 3 30 true,
   rg 33 (.binOp .mul 3 (tp 31) (tp 32) 3) 3 30 true,
   DD 34 1 3 30 true,
   rg 35 (.binOp .leq 3 (tp 33) (tp 34) 3) 4 30 true,
   rq 36 (.pick (tp 30) (tp 35) (kb false)) 4])
   (.cond (tp 36) (.skip)
   (.exit 0)))
   (.seq (.block 1 (.seq (.reg [] [
     Ap 39 0 3,
     Ap 40 11 3,
     Ap 41 12 3,
     rq 42 (.binOp .sub 3 (tp 40) (tp 41) 3) 3,
     D5 43 84 3 39,
     rn (.store 3 (tp 43) (tp 42)) 0])
    (.seq (.reg [] [
      Ap 44 10 3,
      Ce 45 5 110,
      Ap 46 0 3,
      FB 47 46,
      Ap 48 1 3,
      Ap 49 12 3,
      Ap 50 0 3,
      rq 51 (.binOp .mul 3 (tp 49) (tp 50) 3) 3,
      rq 52 (.binOp .sub 3 (tp 48) (tp 51) 3) 3,
      Ap 53 2 3,
      Ap 54 13 3,
      rq 55 (.binOp .mul 3 (tp 53) (tp 54) 3) 3,
      rq 56 (.call ⟨.value (tp 45),#[(tp 47),(tp 52),(tp 55)],#[3,3,3]⟩) 3,
      rq 57 (.binOp .add 3 (tp 44) (tp 56) 3) 3,
      AQ 10 57 3])
    (.reg [] [
      Ap 58 13 3,
      Ap 59 11 3,
      Ap 60 12 3,
      rq 61 (.binOp .sub 3 (tp 59) (tp 60) 3) 3,
      rq 62 (.binOp .mul 3 (tp 58) (tp 61) 3) 3,
      Ap 63 12 3,
      FB 64 63,
      rq 65 (.binOp .quo 3 (tp 62) (tp 64) 3) 3,
      AQ 13 65 3]))))
   (.reg [] [
     Ap 37 12 3,
     FB 38 37,
     AQ 12 38 3]))))))
 (.seq (.reg [] [
   Ap 66 0 3,Ap 67 11 3,D5 68 84 3 66,rn (.store 3 (tp 68) (tp 67)) 0])
 (.seq (.reg [] [
   Ap 69 10 3,AQ 9 69 3])
 (.ret))))))
def c86:RC:=Pp
def c87:RC:=
 .seq (.reg [] [
  rq 2 (.assign (.const (.slice none 0 0))) 22])
 (.seq (.reg [] [
   Ap 3 0 92,rq 4 (cf 99 #[(.const (.slice none 0 0)),(tp 3)] #[22,92]) 22,AQ 2 4 22])
 (.ret))
def c88:RC:=
 .seq (.reg [] [
  Ap 3 0 22,EN 4 3 22,AQ 2 4 3])
 (.reg [] [
   Ap 5 0 22,Ap 6 2 3,Ap 7 2 3,rq 8 (.convert 3 114 (tp 7)) 114,rq 9 (cf 95 #[(tp 8)] #[114]) 3,rq 10 (cf 100 #[(tp 5),(ki 0),(tp 6),(tp 9)] #[22,3,3,3]) 0])
def c89:RC:=
 .seq (.reg [] [
  Ce 5 1 22,EN 6 5 22,rq 7 (.move (ki 0)) 3])
 (.block 0 (.loop (.seq (.reg [] [
   L8 8 7 6])
   (.seq (.cond (tp 8) (.skip)
   (.exit 0))
   (.seq (.block 1 (.seq (.reg [] [
     D5 9 22 5 7,
     Ce 10 9 3,
     AQ 4 10 3])
    (.seq (.reg [] [
      Ap 11 0 89,
      Ap 12 4 3,
      rq 13 (.call ⟨.value (tp 11),#[(tp 12)],#[3]⟩) 4,
      rq 14 (.unOp .not 4 (tp 13)) 4])
    (.cond (tp 14) (.ret)
    (.skip)))))
   (.reg [] [
     FB 15 7,
     Ap 7 15 3]))))))
def c90:RC:=Ux
def c91:RC:=Uy
def c92:RC:=Uz
def c93:RC:=UA
def c94:RC:=
 .seq (.reg [] [
  rq 10 (.assign (kb true)) 4])
 (.seq (.reg [] [
   rq 11 (.assign (kb true)) 4])
 (.block 0 (.loop (.block 1 (.seq (.reg [] [
   Ap 21 2 3,
   Ap 22 1 3,
   rq 23 (.binOp .sub 3 (tp 21) (tp 22) 3) 3,
   AQ 12 23 3])
   (.seq (.seq (.reg [] [
     Ap 24 12 3,
     rq 25 (.binOp .leq 3 (tp 24) (ki 12) 3) 4])
   (.cond (tp 25) (.seq (.reg [] [
     Ap 26 0 39,
     Ap 27 1 3,
     Ap 28 2 3,
     Ap 29 4 86,
     rq 30 (cf 102 #[(tp 26),(tp 27),(tp 28),(tp 29)] #[39,3,3,86]) 0])
    (.ret))
   (.skip)))
   (.seq (.seq (.reg [] [
     Ap 31 3 3,
     rq 32 (.binOp .eql 3 (tp 31) (ki 0) 3) 4])
   (.cond (tp 32) (.seq (.reg [] [
     Ap 33 0 39,
     Ap 34 1 3,
     Ap 35 2 3,
     Ap 36 4 86,
     rq 37 (cf 103 #[(tp 33),(tp 34),(tp 35),(tp 36)] #[39,3,3,86]) 0])
    (.ret))
   (.skip)))
   (.seq (.seq (.reg [] [
     Ap 38 10 4,
     rq 39 (.unOp .not 4 (tp 38)) 4])
   (.cond (tp 39) (.seq (.reg [] [
     Ap 40 0 39,
     Ap 41 1 3,
     Ap 42 2 3,
     Ap 43 4 86,
     rq 44 (cf 104 #[(tp 40),(tp 41),(tp 42),(tp 43)] #[39,3,3,86]) 0])
    (.reg [] [
      Ap 45 3 3,
      rq 46 (.binOp .sub 3 (tp 45) (ki 1) 3) 3,
      AQ 3 46 3]))
   (.skip)))
   (.seq (.reg [] [
     Ap 48 0 39,
     Ap 49 1 3,
     Ap 50 2 3,
     Ap 51 4 86,
     rq 52 (cf 105 #[(tp 48),(tp 49),(tp 50),(tp 51)] #[39,3,3,86]) 124,
     Ap 47 52 124,
     EM 53 47 0 3,
     EM 54 47 1 123,
     AQ 13 53 3,
     AQ 14 54 123])
   (.seq (.seq (.reg [] [
     Ap 55 14 123,
     rq 56 (.binOp .eql 123 (tp 55) (ki 2) 123) 4])
   (.cond (tp 56) (.seq (.reg [] [
     Ap 57 0 39,
     Ap 58 1 3,
     Ap 59 2 3,
     Ap 60 4 86,
     rq 61 (cf 106 #[(tp 57),(tp 58),(tp 59),(tp 60)] #[39,3,3,86]) 0])
    (.seq (.reg [] [
      Ap 62 2 3,
      rq 63 (.binOp .sub 3 (tp 62) (ki 1) 3) 3,
      Ap 64 13 3,
      Ap 65 1 3,
      rq 66 (.binOp .sub 3 (tp 64) (tp 65) 3) 3,
      rq 67 (.binOp .sub 3 (tp 63) (tp 66) 3) 3,
      AQ 13 67 3])
    (.reg [] [
      Cz 14 1 123])))
   (.skip)))
   (.seq (.seq (.reg [] [
     Ap 68 10 4,
     Ap 69 68 4,
     DD 70 11 4 69 true,
     rq 71 (.pick (tp 69) (tp 70) (kb false)) 4,
     Ap 72 71 4,
     DD 73 14 123 72 true,
     rg 74 (.binOp .eql 123 (tp 73) (ki 1) 123) 4 72 true,
     rq 75 (.pick (tp 72) (tp 74) (kb false)) 4])
   (.cond (tp 75) (.seq (.reg [] [
     Ap 76 0 39,
     Ap 77 1 3,
     Ap 78 2 3,
     Ap 79 4 86,
     rq 80 (cf 107 #[(tp 76),(tp 77),(tp 78),(tp 79)] #[39,3,3,86]) 4])
    (.cond (tp 80) (.ret)
    (.skip)))
   (.skip)))
   (.seq (.seq (.reg [0, 1, 2, 3, 4, 5, 6, 7, 8, 9, 10, 11, 12, 13, 14, 15, 16] [
     Ap 81 1 3,
     rq 82 (.binOp .gtr 3 (tp 81) (ki 0) 3) 4,
     Ap 83 82 4,
     DD 84 4 86 83 true,
     DD 85 0 39 83 true,
     DD 86 1 3 83 true,
     rg 87 (.binOp .sub 3 (tp 86) (ki 1) 3) 3 83 true,
     rg 88 (.indexAddr 39 (tp 85) (tp 87)) 0 83 true,
     rg 89 (.load 22 (tp 88)) 22 83 true,
     DD 90 0 39 83 true,
     DD 91 13 3 83 true,
     rg 92 (.indexAddr 39 (tp 90) (tp 91)) 0 83 true,
     rg 93 (.load 22 (tp 92)) 22 83 true,
     rg 94 (.call ⟨.value (tp 84),#[(tp 89),(tp 93)],#[22,22]⟩) 3 83 true,
     rg 95 (.binOp .lss 3 (tp 94) (ki 0) 3) 4 83 true,
     rg 96 (.unOp .not 4 (tp 95)) 4 83 true,
     rq 97 (.pick (tp 83) (tp 96) (kb false)) 4])
   (.cond (tp 97) (.seq (.reg [] [
     Ap 98 0 39,
     Ap 99 1 3,
     Ap 100 2 3,
     Ap 101 13 3,
     Ap 102 4 86,
     rq 103 (cf 108 #[(tp 98),(tp 99),(tp 100),(tp 101),(tp 102)] #[39,3,3,3,86]) 3,
     AQ 15 103 3])
    (.seq (.reg [] [
      Ap 104 15 3,
      AQ 1 104 3])
    (.exit 1)))
   (.skip)))
   (.seq (.reg [] [
     Ap 106 0 39,
     Ap 107 1 3,
     Ap 108 2 3,
     Ap 109 13 3,
     Ap 110 4 86,
     rq 111 (cf 109 #[(tp 106),(tp 107),(tp 108),(tp 109),(tp 110)] #[39,3,3,3,86]) 128,
     Ap 105 111 128,
     EM 112 105 0 3,
     EM 113 105 1 4,
     AQ 16 112 3,
     AQ 17 113 4])
   (.seq (.reg [] [
     Ap 114 17 4,
     AQ 11 114 4])
   (.seq (.reg [] [
     Ap 115 16 3,
     Ap 116 1 3,
     rq 117 (.binOp .sub 3 (tp 115) (tp 116) 3) 3,
     Ap 118 2 3,
     Ap 119 16 3,
     rq 120 (.binOp .sub 3 (tp 118) (tp 119) 3) 3,
     AQ 18 117 3,
     AQ 19 120 3])
   (.seq (.reg [] [
     Ap 121 12 3,
     rq 122 (.binOp .quo 3 (tp 121) (ki 8) 3) 3,
     AQ 20 122 3])
   (.seq (.reg [] [
     Ap 123 18 3,
     Ap 124 19 3,
     rq 125 (.binOp .lss 3 (tp 123) (tp 124) 3) 4])
   (.cond (tp 125) (.seq (.reg [] [
     Ap 126 18 3,
     Ap 127 20 3,
     rq 128 (.binOp .geq 3 (tp 126) (tp 127) 3) 4,
     AQ 10 128 4])
    (.seq (.reg [] [
      Ap 129 0 39,
      Ap 130 1 3,
      Ap 131 16 3,
      Ap 132 3 3,
      Ap 133 4 86,
      rq 134 (cf 94 #[(tp 129),(tp 130),(tp 131),(tp 132),(tp 133)] #[39,3,3,3,86]) 0])
    (.reg [] [
      Ap 135 16 3,
      FB 136 135,
      AQ 1 136 3])))
   (.seq (.reg [] [
     Ap 137 19 3,
     Ap 138 20 3,
     rq 139 (.binOp .geq 3 (tp 137) (tp 138) 3) 4,
     AQ 10 139 4])
    (.seq (.reg [] [
      Ap 140 0 39,
      Ap 141 16 3,
      FB 142 141,
      Ap 143 2 3,
      Ap 144 3 3,
      Ap 145 4 86,
      rq 146 (cf 94 #[(tp 140),(tp 142),(tp 143),(tp 144),(tp 145)] #[39,3,3,3,86]) 0])
    (.reg [] [
      Ap 147 16 3,
      AQ 2 147 3])))))))))))))))))))))
def c95:RC:=
 .seq (.reg [] [
  Cz 2 0 3])
 (.seq (.cond (kb false) (.seq (.reg [] [
   Ap 3 0 114,
   rq 4 (.convert 114 113 (tp 3)) 113,
   rq 5 (cf 110 #[(tp 4)] #[113]) 3,
   AQ 2 5 3])
  (.ret))
 (.skip))
 (.seq (.reg [] [
   Ap 6 0 114,rq 7 (cf 111 #[(tp 6)] #[132]) 3,AQ 2 7 3])
 (.ret)))
def c96:RC:=
 .seq (.reg [] [
  Ap 4 0 22,EN 5 4 22,rq 6 (.binOp .sub 3 (tp 5) (ki 1) 3) 3,Cz 2 0 3,AQ 3 6 3])
 (.block 0 (.loop (.seq (.seq (.reg [] [
   Ap 7 2 3,
   Ap 8 3 3,
   rq 9 (.binOp .lss 3 (tp 7) (tp 8) 3) 4])
   (.cond (tp 9) (.skip)
   (.exit 0)))
   (.seq (.block 1 (.reg [0, 1, 2, 3, 4, 5, 6, 7, 8, 9, 10, 11, 12, 13, 14, 15] [
     Ap 14 0 22,
     Ap 15 2 3,
     Ap 16 0 22,
     Ap 17 3 3,
     Ap 18 0 22,
     Ap 19 3 3,
     D5 20 22 18 19,
     Ce 21 20 3,
     Ap 22 0 22,
     Ap 23 2 3,
     D5 24 22 22 23,
     Ce 25 24 3,
     D5 26 22 14 15,
     rn (.store 3 (tp 26) (tp 21)) 0,
     D5 27 22 16 17,
     rn (.store 3 (tp 27) (tp 25)) 0]))
   (.reg [] [
     Ap 10 2 3,
     FB 11 10,
     Ap 12 3 3,
     rq 13 (.binOp .sub 3 (tp 12) (ki 1) 3) 3,
     AQ 2 11 3,
     AQ 3 13 3])))))
def c97:RC:=
 .seq (.reg [] [
  rq 4 (.assign (.const (.slice none 0 0))) 22])
 (.seq (.reg [] [
   Ap 8 0 22,EN 9 8 22,rq 10 (.makeSlice 22 (ki 0) (tp 9)) 22,AQ 5 10 22])
 (.seq (.seq (.reg [] [
   Ap 11 1 3,rq 12 (.move (ki 0)) 3])
 (.block 0 (.loop (.seq (.reg [] [
   rq 13 (.binOp .lss 3 (tp 12) (tp 11) 3) 4])
   (.seq (.cond (tp 13) (.skip)
   (.exit 0))
   (.seq (.block 1 (.seq (.reg [] [
     Ap 14 12 3,
     AQ 6 14 3])
    (.seq (.reg [] [
      Ap 15 1 3,
      rq 16 (.binOp .sub 3 (tp 15) (ki 1) 3) 3,
      AQ 7 16 3])
    (.block 2 (.loop (.seq (.seq (.reg [] [
      Ap 17 7 3,
      rq 18 (.binOp .geq 3 (tp 17) (ki 0) 3) 4])
      (.cond (tp 18) (.skip)
      (.exit 2)))
      (.seq (.block 3 (.reg [] [
        Ap 21 5 22,
        Ap 22 0 22,
        Ap 23 7 3,
        Ap 24 1 3,
        rq 25 (.binOp .mul 3 (tp 23) (tp 24) 3) 3,
        Ap 26 6 3,
        rq 27 (.binOp .add 3 (tp 25) (tp 26) 3) 3,
        D5 28 22 22 27,
        Ce 29 28 3,
        rq 30 (.buildSlice 22 1 #[(0,(tp 29))]) 22,
        rq 31 (cb .append #[(tp 21),(tp 30)] #[22,22]) 22,
        AQ 5 31 22]))
      (.reg [] [
        Ap 19 7 3,
        rq 20 (.binOp .sub 3 (tp 19) (ki 1) 3) 3,
        AQ 7 20 3]))))))))
   (.reg [] [
     FB 32 12,
     Ap 12 32 3])))))))
 (.seq (.reg [] [
   Ap 33 5 22,AQ 4 33 22])
 (.ret))))
def lU:RC:=
 .seq (.reg [] [
  rq 8 (.assign (kb true)) 4])
 (.seq (.reg [] [
   rq 9 (.assign (kb true)) 4])
 (.block 0 (.loop (.block 1 (.seq (.reg [] [
   Ap 19 2 3,
   Ap 20 1 3,
   rq 21 (.binOp .sub 3 (tp 19) (tp 20) 3) 3,
   AQ 10 21 3])
   (.seq (.seq (.reg [] [
     Ap 22 10 3,
     rq 23 (.binOp .leq 3 (tp 22) (ki 12) 3) 4])
   (.cond (tp 23) (.seq (.reg [] [
     Ap 24 0 22,
     Ap 25 1 3,
     Ap 26 2 3,
     rq 27 (cf 113 #[(tp 24),(tp 25),(tp 26)] #[22,3,3]) 0])
    (.ret))
   (.skip)))
   (.seq (.seq (.reg [] [
     Ap 28 3 3,
     rq 29 (.binOp .eql 3 (tp 28) (ki 0) 3) 4])
   (.cond (tp 29) (.seq (.reg [] [
     Ap 30 0 22,
     Ap 31 1 3,
     Ap 32 2 3,
     rq 33 (cf 114 #[(tp 30),(tp 31),(tp 32)] #[22,3,3]) 0])
    (.ret))
   (.skip)))
   (.seq (.seq (.reg [] [
     Ap 34 8 4,
     rq 35 (.unOp .not 4 (tp 34)) 4])
   (.cond (tp 35) (.seq (.reg [] [
     Ap 36 0 22,
     Ap 37 1 3,
     Ap 38 2 3,
     rq 39 (cf 115 #[(tp 36),(tp 37),(tp 38)] #[22,3,3]) 0])
    (.reg [] [
      Ap 40 3 3,
      rq 41 (.binOp .sub 3 (tp 40) (ki 1) 3) 3,
      AQ 3 41 3]))
   (.skip)))
   (.seq (.reg [] [
     Ap 43 0 22,
     Ap 44 1 3,
     Ap 45 2 3,
     rq 46 (cf 116 #[(tp 43),(tp 44),(tp 45)] #[22,3,3]) 124,
     Ap 42 46 124,
     EM 47 42 0 3,
     EM 48 42 1 123,
     AQ 11 47 3,
     AQ 12 48 123])
   (.seq (.seq (.reg [] [
     Ap 49 12 123,
     rq 50 (.binOp .eql 123 (tp 49) (ki 2) 123) 4])
   (.cond (tp 50) (.seq (.reg [] [
     Ap 51 0 22,
     Ap 52 1 3,
     Ap 53 2 3,
     rq 54 (cf 117 #[(tp 51),(tp 52),(tp 53)] #[22,3,3]) 0])
    (.seq (.reg [] [
      Ap 55 2 3,
      rq 56 (.binOp .sub 3 (tp 55) (ki 1) 3) 3,
      Ap 57 11 3,
      Ap 58 1 3,
      rq 59 (.binOp .sub 3 (tp 57) (tp 58) 3) 3,
      rq 60 (.binOp .sub 3 (tp 56) (tp 59) 3) 3,
      AQ 11 60 3])
    (.reg [] [
      Cz 12 1 123])))
   (.skip)))
   (.seq (.seq (.reg [] [
     Ap 61 8 4,
     Ap 62 61 4,
     DD 63 9 4 62 true,
     rq 64 (.pick (tp 62) (tp 63) (kb false)) 4,
     Ap 65 64 4,
     DD 66 12 123 65 true,
     rg 67 (.binOp .eql 123 (tp 66) (ki 1) 123) 4 65 true,
     rq 68 (.pick (tp 65) (tp 67) (kb false)) 4])
   (.cond (tp 68) (.seq (.reg [] [
     Ap 69 0 22,
     Ap 70 1 3,
     Ap 71 2 3,
     rq 72 (cf 118 #[(tp 69),(tp 70),(tp 71)] #[22,3,3]) 4])
    (.cond (tp 72) (.ret)
    (.skip)))
   (.skip)))
   (.seq (.seq (.reg [0, 1, 2, 3, 4, 5, 6, 7, 8, 9, 10, 11, 12, 13, 14] [
     Ap 73 1 3,
     rq 74 (.binOp .gtr 3 (tp 73) (ki 0) 3) 4,
     Ap 75 74 4,
     DD 76 0 22 75 true,
     DD 77 1 3 75 true,
     rg 78 (.binOp .sub 3 (tp 77) (ki 1) 3) 3 75 true,
     rg 79 (.indexAddr 22 (tp 76) (tp 78)) 0 75 true,
     rg 80 (.load 3 (tp 79)) 3 75 true,
     DD 81 0 22 75 true,
     DD 82 11 3 75 true,
     rg 83 (.indexAddr 22 (tp 81) (tp 82)) 0 75 true,
     rg 84 (.load 3 (tp 83)) 3 75 true,
     rg 85 (cf 119 #[(tp 80),(tp 84)] #[3,3]) 4 75 true,
     rg 86 (.unOp .not 4 (tp 85)) 4 75 true,
     rq 87 (.pick (tp 75) (tp 86) (kb false)) 4])
   (.cond (tp 87) (.seq (.reg [] [
     Ap 88 0 22,
     Ap 89 1 3,
     Ap 90 2 3,
     Ap 91 11 3,
     rq 92 (cf 120 #[(tp 88),(tp 89),(tp 90),(tp 91)] #[22,3,3,3]) 3,
     AQ 13 92 3])
    (.seq (.reg [] [
      Ap 93 13 3,
      AQ 1 93 3])
    (.exit 1)))
   (.skip)))
   (.seq (.reg [] [
     Ap 95 0 22,
     Ap 96 1 3,
     Ap 97 2 3,
     Ap 98 11 3,
     rq 99 (cf 121 #[(tp 95),(tp 96),(tp 97),(tp 98)] #[22,3,3,3]) 128,
     Ap 94 99 128,
     EM 100 94 0 3,
     EM 101 94 1 4,
     AQ 14 100 3,
     AQ 15 101 4])
   (.seq (.reg [] [
     Ap 102 15 4,
     AQ 9 102 4])
   (.seq (.reg [] [
     Ap 103 14 3,
     Ap 104 1 3,
     rq 105 (.binOp .sub 3 (tp 103) (tp 104) 3) 3,
     Ap 106 2 3,
     Ap 107 14 3,
     rq 108 (.binOp .sub 3 (tp 106) (tp 107) 3) 3,
     AQ 16 105 3,
     AQ 17 108 3])
   (.seq (.reg [] [
     Ap 109 10 3,
     rq 110 (.binOp .quo 3 (tp 109) (ki 8) 3) 3,
     AQ 18 110 3])
   (.seq (.reg [] [
     Ap 111 16 3,
     Ap 112 17 3,
     rq 113 (.binOp .lss 3 (tp 111) (tp 112) 3) 4])
   (.cond (tp 113) (.seq (.reg [] [
     Ap 114 16 3,
     Ap 115 18 3,
     rq 116 (.binOp .geq 3 (tp 114) (tp 115) 3) 4,
     AQ 8 116 4])
    (.seq (.reg [] [
      Ap 117 0 22,
      Ap 118 1 3,
      Ap 119 14 3,
      Ap 120 3 3,
      rq 121 (cf 100 #[(tp 117),(tp 118),(tp 119),(tp 120)] #[22,3,3,3]) 0])
    (.reg [] [
      Ap 122 14 3,
      FB 123 122,
      AQ 1 123 3])))
   (.seq (.reg [] [
     Ap 124 17 3,
     Ap 125 18 3,
     rq 126 (.binOp .geq 3 (tp 124) (tp 125) 3) 4,
     AQ 8 126 4])
    (.seq (.reg [] [
      Ap 127 0 22,
      Ap 128 14 3,
      FB 129 128,
      Ap 130 2 3,
      Ap 131 3 3,
      rq 132 (cf 100 #[(tp 127),(tp 129),(tp 130),(tp 131)] #[22,3,3,3]) 0])
    (.reg [] [
      Ap 133 14 3,
      AQ 2 133 3])))))))))))))))))))))
def fC:RC:=UB
def lV:RC:=
 .seq (.reg [] [
  Ap 10 1 3,FB 11 10,AQ 8 11 3])
 (.block 0 (.loop (.seq (.seq (.reg [] [
   Ap 12 8 3,
   Ap 13 2 3,
   rq 14 (.binOp .lss 3 (tp 12) (tp 13) 3) 4])
   (.cond (tp 14) (.skip)
   (.exit 0)))
   (.seq (.block 1 (.seq (.reg [] [
     Ap 17 8 3,
     AQ 9 17 3])
    (.block 2 (.loop (.seq (.seq (.reg [0, 1, 2, 3, 4, 5, 6, 7, 8, 9, 10, 11, 12, 13, 14, 15, 16] [
      Ap 18 9 3,
      Ap 19 1 3,
      rq 20 (.binOp .gtr 3 (tp 18) (tp 19) 3) 4,
      Ap 21 20 4,
      DD 22 3 86 21 true,
      DD 23 0 39 21 true,
      DD 24 9 3 21 true,
      rg 25 (.indexAddr 39 (tp 23) (tp 24)) 0 21 true,
      rg 26 (.load 22 (tp 25)) 22 21 true,
      DD 27 0 39 21 true,
      DD 28 9 3 21 true,
      rg 29 (.binOp .sub 3 (tp 28) (ki 1) 3) 3 21 true,
      rg 30 (.indexAddr 39 (tp 27) (tp 29)) 0 21 true,
      rg 31 (.load 22 (tp 30)) 22 21 true,
      rg 32 (.call ⟨.value (tp 22),#[(tp 26),(tp 31)],#[22,22]⟩) 3 21 true,
      rg 33 (.binOp .lss 3 (tp 32) (ki 0) 3) 4 21 true,
      rq 34 (.pick (tp 21) (tp 33) (kb false)) 4])
      (.cond (tp 34) (.skip)
      (.exit 2)))
      (.seq (.block 3 (.reg [0, 1, 2, 3, 4, 5, 6, 7, 8, 9, 10, 11, 12, 13, 14, 15, 16, 17] [
        Ap 37 0 39,
        Ap 38 9 3,
        Ap 39 0 39,
        Ap 40 9 3,
        rq 41 (.binOp .sub 3 (tp 40) (ki 1) 3) 3,
        Ap 42 0 39,
        Ap 43 9 3,
        rq 44 (.binOp .sub 3 (tp 43) (ki 1) 3) 3,
        D5 45 39 42 44,
        Ce 46 45 22,
        Ap 47 0 39,
        Ap 48 9 3,
        D5 49 39 47 48,
        Ce 50 49 22,
        D5 51 39 37 38,
        rn (.store 22 (tp 51) (tp 46)) 0,
        D5 52 39 39 41,
        rn (.store 22 (tp 52) (tp 50)) 0]))
      (.reg [] [
        Ap 35 9 3,
        rq 36 (.binOp .sub 3 (tp 35) (ki 1) 3) 3,
        AQ 9 36 3])))))))
   (.reg [] [
     Ap 15 8 3,
     FB 16 15,
     AQ 8 16 3])))))
def lW:RC:=
 .seq (.reg [] [
  Cz 2 0 3])
 (.seq (.seq (.reg [] [
   Ap 3 0 113,rq 4 (.binOp .geq 113 (tp 3) (.const (.int .u32 65536)) 113) 4])
 (.cond (tp 4) (.seq (.reg [] [
   Ap 5 0 113,
   rq 6 (.binOp .shr 113 (tp 5) (.const (.int .u64 16)) 114) 113,
   AQ 0 6 113])
  (.reg [] [
    Cz 2 16 3]))
 (.skip)))
 (.seq (.seq (.reg [] [
   Ap 7 0 113,rq 8 (.binOp .geq 113 (tp 7) (.const (.int .u32 256)) 113) 4])
 (.cond (tp 8) (.seq (.reg [] [
   Ap 9 0 113,
   rq 10 (.binOp .shr 113 (tp 9) (.const (.int .u64 8)) 114) 113,
   AQ 0 10 113])
  (.reg [] [
    Ap 11 2 3,
    rq 12 (.binOp .add 3 (tp 11) (ki 8) 3) 3,
    AQ 2 12 3]))
 (.skip)))
 (.seq (.reg [] [
   Ap 13 2 3,Ap 14 0 113,rq 15 (.convert 113 5 (tp 14)) 5,rq 16 (.index 9 (.const (.string ⟨#[0,1,2,2,3,3,3,3,4,4,4,4,4,4,4,4,5,5,5,5,5,5,5,5,5,5,5,5,5,5,5,5,6,6,6,6,6,6,6,6,6,6,6,6,6,6,6,6,6,6,6,6,6,6,6,6,6,6,6,6,6,6,6,6,7,7,7,7,7,7,7,7,7,7,7,7,7,7,7,7,7,7,7,7,7,7,7,7,7,7,7,7,7,7,7,7,7,7,7,7,7,7,7,7,7,7,7,7,7,7,7,7,7,7,7,7,7,7,7,7,7,7,7,7,7,7,7,7,8,8,8,8,8,8,8,8,8,8,8,8,8,8,8,8,8,8,8,8,8,8,8,8,8,8,8,8,8,8,8,8,8,8,8,8,8,8,8,8,8,8,8,8,8,8,8,8,8,8,8,8,8,8,8,8,8,8,8,8,8,8,8,8,8,8,8,8,8,8,8,8,8,8,8,8,8,8,8,8,8,8,8,8,8,8,8,8,8,8,8,8,8,8,8,8,8,8,8,8,8,8,8,8,8,8,8,8,8,8,8,8,8,8,8,8,8,8,8,8,8,8,8,8,8,8,8,8]⟩)) (tp 15)) 5,rq 17 (.convert 5 3 (tp 16)) 3,rq 18 (.binOp .add 3 (tp 13) (tp 17) 3) 3,AQ 2 18 3])
 (.ret))))
def lX:RC:=
 .seq (.reg [] [
  Cz 2 0 3])
 (.seq (.seq (.reg [] [
   Ap 3 0 132,rq 4 (.binOp .geq 132 (tp 3) (.const (.int .u64 4294967296)) 132) 4])
 (.cond (tp 4) (.seq (.reg [] [
   Ap 5 0 132,
   rq 6 (.binOp .shr 132 (tp 5) (.const (.int .u64 32)) 114) 132,
   AQ 0 6 132])
  (.reg [] [
    Cz 2 32 3]))
 (.skip)))
 (.seq (.seq (.reg [] [
   Ap 7 0 132,rq 8 (.binOp .geq 132 (tp 7) (.const (.int .u64 65536)) 132) 4])
 (.cond (tp 8) (.seq (.reg [] [
   Ap 9 0 132,
   rq 10 (.binOp .shr 132 (tp 9) (.const (.int .u64 16)) 114) 132,
   AQ 0 10 132])
  (.reg [] [
    Ap 11 2 3,
    rq 12 (.binOp .add 3 (tp 11) (ki 16) 3) 3,
    AQ 2 12 3]))
 (.skip)))
 (.seq (.seq (.reg [] [
   Ap 13 0 132,rq 14 (.binOp .geq 132 (tp 13) (.const (.int .u64 256)) 132) 4])
 (.cond (tp 14) (.seq (.reg [] [
   Ap 15 0 132,
   rq 16 (.binOp .shr 132 (tp 15) (.const (.int .u64 8)) 114) 132,
   AQ 0 16 132])
  (.reg [] [
    Ap 17 2 3,
    rq 18 (.binOp .add 3 (tp 17) (ki 8) 3) 3,
    AQ 2 18 3]))
 (.skip)))
 (.seq (.reg [] [
   Ap 19 2 3,Ap 20 0 132,rq 21 (.convert 132 5 (tp 20)) 5,rq 22 (.index 9 (.const (.string ⟨#[0,1,2,2,3,3,3,3,4,4,4,4,4,4,4,4,5,5,5,5,5,5,5,5,5,5,5,5,5,5,5,5,6,6,6,6,6,6,6,6,6,6,6,6,6,6,6,6,6,6,6,6,6,6,6,6,6,6,6,6,6,6,6,6,7,7,7,7,7,7,7,7,7,7,7,7,7,7,7,7,7,7,7,7,7,7,7,7,7,7,7,7,7,7,7,7,7,7,7,7,7,7,7,7,7,7,7,7,7,7,7,7,7,7,7,7,7,7,7,7,7,7,7,7,7,7,7,7,8,8,8,8,8,8,8,8,8,8,8,8,8,8,8,8,8,8,8,8,8,8,8,8,8,8,8,8,8,8,8,8,8,8,8,8,8,8,8,8,8,8,8,8,8,8,8,8,8,8,8,8,8,8,8,8,8,8,8,8,8,8,8,8,8,8,8,8,8,8,8,8,8,8,8,8,8,8,8,8,8,8,8,8,8,8,8,8,8,8,8,8,8,8,8,8,8,8,8,8,8,8,8,8,8,8,8,8,8,8,8,8,8,8,8,8,8,8,8,8,8,8,8,8,8,8,8,8]⟩)) (tp 21)) 5,rq 23 (.convert 5 3 (tp 22)) 3,rq 24 (.binOp .add 3 (tp 19) (tp 23) 3) 3,AQ 2 24 3])
 (.ret)))))
def lY:RC:=
 .seq (.reg [] [
  Ap 8 1 3,FB 9 8,AQ 6 9 3])
 (.block 0 (.loop (.seq (.seq (.reg [] [
   Ap 10 6 3,
   Ap 11 2 3,
   rq 12 (.binOp .lss 3 (tp 10) (tp 11) 3) 4])
   (.cond (tp 12) (.skip)
   (.exit 0)))
   (.seq (.block 1 (.seq (.reg [] [
     Ap 15 6 3,
     AQ 7 15 3])
    (.block 2 (.loop (.seq (.seq (.reg [0, 1, 2, 3, 4, 5, 6, 7, 8, 9, 10, 11, 12, 13, 14] [
      Ap 16 7 3,
      Ap 17 1 3,
      rq 18 (.binOp .gtr 3 (tp 16) (tp 17) 3) 4,
      Ap 19 18 4,
      DD 20 0 22 19 true,
      DD 21 7 3 19 true,
      rg 22 (.indexAddr 22 (tp 20) (tp 21)) 0 19 true,
      rg 23 (.load 3 (tp 22)) 3 19 true,
      DD 24 0 22 19 true,
      DD 25 7 3 19 true,
      rg 26 (.binOp .sub 3 (tp 25) (ki 1) 3) 3 19 true,
      rg 27 (.indexAddr 22 (tp 24) (tp 26)) 0 19 true,
      rg 28 (.load 3 (tp 27)) 3 19 true,
      rg 29 (cf 119 #[(tp 23),(tp 28)] #[3,3]) 4 19 true,
      rq 30 (.pick (tp 19) (tp 29) (kb false)) 4])
      (.cond (tp 30) (.skip)
      (.exit 2)))
      (.seq (.block 3 (.reg [0, 1, 2, 3, 4, 5, 6, 7, 8, 9, 10, 11, 12, 13, 14, 15, 16, 17] [
        Ap 33 0 22,
        Ap 34 7 3,
        Ap 35 0 22,
        Ap 36 7 3,
        rq 37 (.binOp .sub 3 (tp 36) (ki 1) 3) 3,
        Ap 38 0 22,
        Ap 39 7 3,
        rq 40 (.binOp .sub 3 (tp 39) (ki 1) 3) 3,
        D5 41 22 38 40,
        Ce 42 41 3,
        Ap 43 0 22,
        Ap 44 7 3,
        D5 45 22 43 44,
        Ce 46 45 3,
        D5 47 22 33 34,
        rn (.store 3 (tp 47) (tp 42)) 0,
        D5 48 22 35 37,
        rn (.store 3 (tp 48) (tp 46)) 0]))
      (.reg [] [
        Ap 31 7 3,
        rq 32 (.binOp .sub 3 (tp 31) (ki 1) 3) 3,
        AQ 7 32 3])))))))
   (.reg [] [
     Ap 13 6 3,
     FB 14 13,
     AQ 6 14 3])))))
def lZ:RC:=
 .seq (.reg [] [
  rq 4 (.assign (kb false)) 4])
 (.seq (.reg [] [
   Ap 5 0 3,rq 6 (cf 101 #[(tp 5)] #[3]) 4,Ap 7 6 4,DD 8 1 3 7 true,rg 9 (cf 101 #[(tp 8)] #[3]) 4 7 true,rg 10 (.unOp .not 4 (tp 9)) 4 7 true,rq 11 (.pick (tp 7) (tp 10) (kb false)) 4,Ap 12 11 4,DD 13 0 3 12 false,DD 14 1 3 12 false,rg 15 (.binOp .lss 3 (tp 13) (tp 14) 3) 4 12 false,rq 16 (.pick (tp 12) (kb true) (tp 15)) 4,AQ 4 16 4])
 (.ret))
def ti3:TI:=⟨.int .i64,1,8,(some (.int .i64 0)),false⟩
def ti4:TI:=⟨.bool,1,1,(some (.bool false)),false⟩
def ti5:TI:=⟨.int .u8,1,1,(some (.int .u8 0)),false⟩
def ti9:TI:=⟨.string,1,16,(some (.string ⟨#[]⟩)),false⟩
def AeP:TI:=⟨.slice 3,1,24,(some (.slice none 0 0)),false⟩
def AeQ : TI := ⟨.struct #[⟨ "Rows", 3, 0, false, "", "", 0⟩, ⟨ "Columns", 3, 1, false, "", "", 8⟩, ⟨ "Colours", 3, 2, false, "", "", 16⟩, ⟨ "Turns", 22, 3, false, "", "", 24⟩], 4, 48, (some (.agg #[(.int .i64 0), (.int .i64 0), (.int .i64 0), (.slice none 0 0)])), false⟩
def AeR : TI := ⟨.struct #[⟨ "Rows", 3, 0, false, "", "", 0⟩, ⟨ "Columns", 3, 1, false, "", "", 8⟩, ⟨ "Colours", 3, 2, false, "", "", 16⟩, ⟨ "Turns", 22, 3, false, "", "", 24⟩], 4, 48, (some (.agg #[(.int .i64 0), (.int .i64 0), (.int .i64 0), (.slice none 0 0)])), false⟩
def AeS:TI:=⟨.int .i64,1,8,(some (.int .i64 0)),false⟩
def AeT:TI:=⟨.func #[22,22] #[4] false,1,8,(some .nilFunc),false⟩
def AeU:TI:=⟨.slice 22,1,24,(some (.slice none 0 0)),false⟩
def AeV:TI:=⟨.pointer 69,1,8,(some (.pointer none)),false⟩
def AeW : TI := ⟨.struct #[⟨ "Press", 24, 0, true, "", "", 0⟩, ⟨ "from", 39, 4, false, "", "spadille/back", 48⟩], 5, 72, (some (.agg #[(.int .i64 0), (.int .i64 0), (.int .i64 0), (.slice none 0 0), (.slice none 0 0)])), false⟩
def AeX:TI:=⟨.int .u16,1,2,(some (.int .u16 0)),false⟩
def AeY:TI:=⟨.array 17 3,17,136,(some (.agg #[(.int .i64 0),(.int .i64 0),(.int .i64 0),(.int .i64 0),(.int .i64 0),(.int .i64 0),(.int .i64 0),(.int .i64 0),(.int .i64 0),(.int .i64 0),(.int .i64 0),(.int .i64 0),(.int .i64 0),(.int .i64 0),(.int .i64 0),(.int .i64 0),(.int .i64 0)])),true⟩
def AeZ:TI:=⟨.func #[22,22] #[3] false,1,8,(some .nilFunc),false⟩
def Ae0:TI:=⟨.func #[22,3] #[] false,1,8,(some .nilFunc),false⟩
def Ae1:TI:=⟨.func #[3] #[4] false,1,8,(some .nilFunc),false⟩
def Ae2:TI:=⟨.func #[89] #[] false,1,8,(some .nilFunc),false⟩
def Ae3 : TI := ⟨.struct #[⟨ "quarters", 3, 0, false, "", "spadille/back", 0⟩, ⟨ "flipped", 4, 1, false, "", "spadille/back", 8⟩], 2, 16, (some (.agg #[(.int .i64 0), (.bool false)])), true⟩
def nW:TI:=⟨.func #[3,3,3] #[3] false,1,8,(some .nilFunc),false⟩
def nX:TI:=⟨.array 32 5,32,32,(some (.agg #[(.int .u8 0),(.int .u8 0),(.int .u8 0),(.int .u8 0),(.int .u8 0),(.int .u8 0),(.int .u8 0),(.int .u8 0),(.int .u8 0),(.int .u8 0),(.int .u8 0),(.int .u8 0),(.int .u8 0),(.int .u8 0),(.int .u8 0),(.int .u8 0),(.int .u8 0),(.int .u8 0),(.int .u8 0),(.int .u8 0),(.int .u8 0),(.int .u8 0),(.int .u8 0),(.int .u8 0),(.int .u8 0),(.int .u8 0),(.int .u8 0),(.int .u8 0),(.int .u8 0),(.int .u8 0),(.int .u8 0),(.int .u8 0)])),true⟩
def nY:TI:=⟨.int .u32,1,4,(some (.int .u32 0)),false⟩
def nZ:TI:=⟨.int .u64,1,8,(some (.int .u64 0)),false⟩
def oD:TI:=⟨.int .i64,1,8,(some (.int .i64 0)),false⟩
def oF:TI:=⟨.int .u64,1,8,(some (.int .u64 0)),false⟩
def Ae4:Tr TI:=(.node none (.node none (.node (some ti3) (.node none .nil (.node none (.node (some AeU) .nil .nil) (.node none (.node (some Ae0) .nil .nil) .nil))) (.node none (.node none (.node none .nil (.node (some Ae3) .nil .nil)) .nil) (.node (some AeR) .nil (.node none .nil (.node (some oD) .nil .nil))))) (.node (some ti5) (.node (some ti9) (.node none .nil (.node none .nil (.node (some nY) .nil .nil))) (.node none .nil (.node none (.node (some Ae1) .nil .nil) .nil))) (.node none (.node none (.node (some AeT) (.node (some AeW) .nil .nil) .nil) .nil) .nil))) (.node none (.node (some ti4) (.node none (.node none (.node none (.node (some AeV) .nil .nil) .nil) (.node none .nil (.node (some nX) .nil .nil))) (.node (some AeQ) .nil .nil)) (.node none (.node none (.node none (.node none (.node (some oF) .nil .nil) .nil) .nil) (.node none (.node (some AeY) .nil .nil) .nil)) (.node (some AeS) .nil (.node none (.node (some Ae2) .nil .nil) .nil)))) (.node none (.node none (.node none .nil (.node none .nil (.node (some nZ) .nil .nil))) (.node none (.node none (.node (some AeX) .nil .nil) .nil) .nil)) (.node none (.node (some AeP) .nil (.node none (.node (some AeZ) .nil .nil) .nil)) (.node none (.node none .nil (.node (some nW) .nil .nil)) .nil)))))
noncomputable def tt:TT:=Ae4.get
def Ae5:Tr Xq:=(.node none (.node none (.node none (.node none (.node (some ⟨43,c15,[.tmp 4,.tmp 5]⟩) (.node (some ⟨70,c31,[.tmp 6]⟩) .nil (.node (some ⟨8,c95,[.tmp 2]⟩) .nil .nil)) (.node (some ⟨18,c47,[.tmp 4]⟩) (.node (some ⟨8,c79,[.tmp 2]⟩) .nil .nil) (.node (some ⟨25,lX,[.tmp 2]⟩) .nil .nil))) (.node (some ⟨29,c23,[.tmp 4,.tmp 5]⟩) (.node (some ⟨4,c39,[.cell 0 24]⟩) (.node (some ⟨9,c71,[.tmp 2]⟩) .nil .nil) .nil) (.node (some ⟨110,c55,[.tmp 2,.tmp 3]⟩) (.node (some ⟨5,c87,[.tmp 2]⟩) .nil .nil) (.node (some ⟨17,lZ,[.tmp 4]⟩) .nil .nil)))) (.node (some ⟨34,c11,[.tmp 6,.tmp 7]⟩) (.node none (.node none (.node (some ⟨9,c67,[.tmp 3]⟩) .nil .nil) .nil) (.node (some ⟨38,c51,[.tmp 6]⟩) (.node (some ⟨66,c83,[.tmp 4]⟩) .nil .nil) .nil)) (.node (some ⟨93,c27,[.tmp 4,.tmp 5]⟩) (.node (some ⟨33,c43,[.tmp 4,.tmp 5]⟩) (.node (some ⟨18,c75,[.cell 2 99]⟩) .nil .nil) .nil) (.node (some ⟨15,c59,[.tmp 6]⟩) (.node (some ⟨25,c91,[.tmp 2]⟩) .nil .nil) .nil)))) (.node none (.node (some ⟨21,c9,[.tmp 6]⟩) (.node (some ⟨26,c17,[.tmp 4]⟩) (.node (some ⟨20,c33,[.tmp 4,.tmp 5]⟩) (.node (some ⟨88,c65,[]⟩) .nil .nil) (.node (some ⟨34,c97,[.tmp 4]⟩) .nil .nil)) (.node (some ⟨26,c49,[.tmp 4]⟩) (.node (some ⟨32,c81,[.tmp 6]⟩) .nil .nil) (.node (some ⟨49,lY,[]⟩) .nil .nil))) (.node (some ⟨39,c25,[.tmp 2,.tmp 3]⟩) (.node (some ⟨4,c41,[.cell 0 24]⟩) (.node (some ⟨44,c73,[.tmp 6]⟩) .nil .nil) .nil) (.node none (.node (some ⟨16,c89,[]⟩) .nil .nil) .nil))) (.node (some ⟨42,c13,[.tmp 6,.tmp 7]⟩) (.node none (.node none (.node (some ⟨4,c69,[.tmp 2]⟩) .nil .nil) (.node (some ⟨6,fC,[.tmp 2]⟩) .nil .nil)) (.node none (.node (some ⟨70,c85,[.tmp 9]⟩) .nil .nil) .nil)) (.node (some ⟨25,c29,[.tmp 4,.tmp 5]⟩) (.node (some ⟨35,c45,[.tmp 6]⟩) (.node (some ⟨22,c77,[.tmp 2]⟩) .nil .nil) .nil) (.node (some ⟨50,c61,[.cell 4 84]⟩) (.node (some ⟨67,c93,[.tmp 10,.tmp 11]⟩) .nil .nil) .nil))))) (.node none (.node none (.node none (.node none (.node (some ⟨55,c32,[.tmp 6]⟩) .nil (.node (some ⟨28,c96,[]⟩) .nil .nil)) (.node (some ⟨26,c48,[.tmp 6]⟩) (.node (some ⟨34,c80,[.tmp 4]⟩) .nil .nil) .nil)) (.node none (.node (some ⟨4,c40,[.tmp 2]⟩) (.node (some ⟨15,c72,[.tmp 2]⟩) .nil .nil) .nil) (.node (some ⟨27,c56,[.tmp 4]⟩) (.node (some ⟨11,c88,[]⟩) .nil .nil) .nil))) (.node none (.node (some ⟨21,c20,[.tmp 4,.tmp 5]⟩) (.node (some ⟨106,c36,[.tmp 2]⟩) (.node (some ⟨9,c68,[.tmp 2]⟩) .nil .nil) (.node (some ⟨134,lU,[]⟩) .nil .nil)) (.node (some ⟨28,c52,[.tmp 4]⟩) (.node (some ⟨47,c84,[.tmp 4]⟩) .nil .nil) .nil)) (.node none (.node (some ⟨19,c44,[.tmp 4]⟩) (.node (some ⟨22,c76,[.cell 4 99]⟩) .nil .nil) .nil) (.node (some ⟨15,c60,[.tmp 4]⟩) (.node (some ⟨25,c92,[.tmp 2]⟩) .nil .nil) .nil)))) (.node (some ⟨52,c6,[.tmp 6]⟩) (.node (some ⟨209,c10,[.tmp 0]⟩) (.node (some ⟨23,c18,[.tmp 4,.tmp 5]⟩) (.node (some ⟨37,c34,[.tmp 4,.tmp 5]⟩) (.node (some ⟨9,c66,[.tmp 4]⟩) .nil .nil) .nil) (.node (some ⟨21,c50,[.tmp 4]⟩) (.node (some ⟨14,c82,[]⟩) .nil .nil) .nil)) (.node none (.node (some ⟨4,c42,[.tmp 2]⟩) (.node (some ⟨55,c74,[.tmp 6]⟩) .nil .nil) .nil) (.node none (.node (some ⟨20,c90,[.tmp 4]⟩) .nil .nil) .nil))) (.node none (.node (some ⟨27,c22,[.tmp 4]⟩) (.node none (.node (some ⟨36,c70,[.tmp 4]⟩) .nil .nil) (.node (some ⟨53,lV,[]⟩) .nil .nil)) (.node none (.node (some ⟨19,c86,[.tmp 4]⟩) .nil .nil) .nil)) (.node (some ⟨39,c30,[.tmp 4,.tmp 5]⟩) (.node (some ⟨41,c46,[.tmp 4]⟩) .nil (.node (some ⟨19,lW,[.tmp 2]⟩) .nil .nil)) (.node (some ⟨15,c62,[.tmp 6]⟩) (.node (some ⟨148,c94,[]⟩) .nil .nil) .nil))))))
noncomputable def KT:FuncId→Option Xq:=Ae5.get
end Go.BkV
set_option maxRecDepth 100000
namespace Go.BkVM
open Go.Sp Go.BkV
noncomputable section
def UY:List Value→Option Value:=Go.BkQ.trueF
def UZ:List Value→Option Value:=Go.BkQ.cellsM
def U0:List Value→Option Value:=fun _=>none
end
end Go.BkVM
