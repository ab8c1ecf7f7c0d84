/- Made from wip. -/
import Derived.Test.YtciohfkjabeooaaGreatDoorSpFramex
import Derived.Test.YtciohfkjabeooaaGreatDoorBaANodes

set_option maxRecDepth 100000
namespace Go.BaA
open Go.Sp
def c3:RC:=WO
def c4:RC:=ZR
def c5:RC:=
 .seq (.reg [] [
  rq 0 (.assign (kb false)) 4])
 (.seq (.reg [] [
   rq 21 (cf 9 #[(ki 1),(ki 4)] #[3,3]) 35,Ap 20 21 35,EM 22 20 0 3,EM 23 20 1 28,AQ 1 22 3,AQ 2 23 28])
 (.seq (.reg [] [
   rq 25 (cf 9 #[(ki 4),(ki 1)] #[3,3]) 35,Ap 24 25 35,EM 26 24 0 3,EM 27 24 1 28,AQ 3 26 3,AQ 4 27 28])
 (.seq (.reg [] [
   rq 29 (cf 11 #[] #[]) 24,rq 30 (cf 10 #[(tp 29)] #[24]) 35,Ap 28 30 35,EM 31 28 0 3,EM 32 28 1 28,AQ 5 31 3,AQ 6 32 28])
 (.seq (.reg [] [
   rq 34 (cf 11 #[] #[]) 24,rq 35 (.buildSlice 22 2 #[(0,(ki 2)),(1,(ki 2))]) 22,rq 36 (cf 13 #[(tp 35)] #[22]) 22,rq 37 (cf 12 #[(tp 34),(tp 36)] #[24,22]) 35,Ap 33 37 35,EM 38 33 0 3,EM 39 33 1 28,AQ 7 38 3,AQ 8 39 28])
 (.seq (.reg [] [
   rq 41 (cf 15 #[] #[]) 24,rq 42 (cf 14 #[(tp 41),(ki 2)] #[24,3]) 35,Ap 40 42 35,EM 43 40 0 3,EM 44 40 1 28,AQ 9 43 3,AQ 10 44 28])
 (.seq (.reg [] [
   rq 46 (cf 11 #[] #[]) 24,rq 47 (.buildSlice 22 4 #[(0,(ki 0)),(1,(ki 1)),(2,(ki 0)),(3,(ki 0))]) 22,rq 48 (cf 13 #[(tp 47)] #[22]) 22,rq 49 (cf 16 #[(tp 46),(tp 48),(ki 1)] #[24,22,3]) 42,Ap 45 49 42,EM 50 45 0 22,EM 51 45 1 28,AQ 11 50 22,AQ 12 51 28])
 (.seq (.reg [] [
   rq 53 (cf 11 #[] #[]) 24,rq 54 (.buildSlice 22 4 #[(0,(ki 0)),(1,(ki 1)),(2,(ki 1)),(3,(ki 0))]) 22,rq 55 (cf 13 #[(tp 54)] #[22]) 22,rq 56 (cf 17 #[(tp 53),(tp 55)] #[24,22]) 29,Ap 52 56 29,EM 57 52 0 27,EM 58 52 1 28,AQ 13 57 27,AQ 14 58 28])
 (.seq (.seq (.reg [] [
   Ap 59 2 28,rq 60 (.binOp .neq 28 (tp 59) (ki 0) 28) 4,Ap 61 60 4,DD 62 4 28 61 false,rg 63 (.binOp .neq 28 (tp 62) (ki 0) 28) 4 61 false,rq 64 (.pick (tp 61) (kb true) (tp 63)) 4,Ap 65 64 4,DD 66 6 28 65 false,rg 67 (.binOp .neq 28 (tp 66) (ki 0) 28) 4 65 false,rq 68 (.pick (tp 65) (kb true) (tp 67)) 4,Ap 69 68 4,DD 70 8 28 69 false,rg 71 (.binOp .neq 28 (tp 70) (ki 0) 28) 4 69 false,rq 72 (.pick (tp 69) (kb true) (tp 71)) 4,Ap 73 72 4,DD 74 10 28 73 false,rg 75 (.binOp .neq 28 (tp 74) (ki 0) 28) 4 73 false,rq 76 (.pick (tp 73) (kb true) (tp 75)) 4,Ap 77 76 4,DD 78 12 28 77 false,rg 79 (.binOp .neq 28 (tp 78) (ki 0) 28) 4 77 false,rq 80 (.pick (tp 77) (kb true) (tp 79)) 4,Ap 81 80 4,DD 82 14 28 81 false,rg 83 (.binOp .neq 28 (tp 82) (ki 0) 28) 4 81 false,rq 84 (.pick (tp 81) (kb true) (tp 83)) 4])
 (.cond (tp 84) (.seq (.reg [] [
   rq 0 (.assign (kb false)) 4])
  (.ret))
 (.skip)))
 (.seq (.reg [] [
   rq 86 (cf 11 #[] #[]) 24,rq 87 (.buildSlice 22 4 #[(0,(ki 1)),(1,(ki 0)),(2,(ki 1)),(3,(ki 0))]) 22,rq 88 (cf 13 #[(tp 87)] #[22]) 22,rq 89 (cf 18 #[(tp 86),(tp 88)] #[24,22]) 42,Ap 85 89 42,EM 90 85 0 22,EM 91 85 1 28,AQ 15 90 22,AQ 2 91 28])
 (.seq (.reg [] [
   rq 93 (cf 11 #[] #[]) 24,rq 94 (.buildSlice 22 4 #[(0,(ki 0)),(1,(ki 1)),(2,(ki 1)),(3,(ki 0))]) 22,rq 95 (cf 13 #[(tp 94)] #[22]) 22,rq 96 (cf 19 #[(tp 93),(tp 95)] #[24,22]) 42,Ap 92 96 42,EM 97 92 0 22,EM 98 92 1 28,AQ 16 97 22,AQ 4 98 28])
 (.seq (.reg [] [
   rq 100 (cf 11 #[] #[]) 24,rq 101 (.buildSlice 22 4 #[(0,(ki 0)),(1,(ki 1)),(2,(ki 0)),(3,(ki 0))]) 22,rq 102 (cf 13 #[(tp 101)] #[22]) 22,rq 103 (.buildSlice 22 4 #[(0,(ki 0)),(1,(ki 0)),(2,(ki 1)),(3,(ki 0))]) 22,rq 104 (cf 13 #[(tp 103)] #[22]) 22,rq 105 (cf 20 #[(tp 100),(tp 102),(tp 104)] #[24,22,22]) 35,Ap 99 105 35,EM 106 99 0 3,EM 107 99 1 28,AQ 17 106 3,AQ 6 107 28])
 (.seq (.reg [] [
   rq 109 (cf 11 #[] #[]) 24,rq 110 (.buildSlice 22 4 #[(0,(ki 0)),(1,(ki 1)),(2,(ki 0)),(3,(ki 0))]) 22,rq 111 (cf 13 #[(tp 110)] #[22]) 22,rq 112 (cf 21 #[(tp 109),(tp 111)] #[24,22]) 42,Ap 108 112 42,EM 113 108 0 22,EM 114 108 1 28,AQ 18 113 22,AQ 8 114 28])
 (.seq (.reg [] [
   rq 116 (cf 15 #[] #[]) 24,rq 117 (cf 10 #[(tp 116)] #[24]) 35,Ap 115 117 35,EM 118 115 0 3,EM 119 115 1 28,AQ 19 118 3,AQ 10 119 28])
 (.seq (.reg [] [
   Ap 120 2 28,rq 121 (.binOp .eql 28 (tp 120) (ki 0) 28) 4,Ap 122 121 4,DD 123 4 28 122 true,rg 124 (.binOp .eql 28 (tp 123) (ki 0) 28) 4 122 true,rq 125 (.pick (tp 122) (tp 124) (kb false)) 4,Ap 126 125 4,DD 127 6 28 126 true,rg 128 (.binOp .eql 28 (tp 127) (ki 0) 28) 4 126 true,rq 129 (.pick (tp 126) (tp 128) (kb false)) 4,Ap 130 129 4,DD 131 8 28 130 true,rg 132 (.binOp .eql 28 (tp 131) (ki 0) 28) 4 130 true,rq 133 (.pick (tp 130) (tp 132) (kb false)) 4,Ap 134 133 4,DD 135 10 28 134 true,rg 136 (.binOp .eql 28 (tp 135) (ki 0) 28) 4 134 true,rq 137 (.pick (tp 134) (tp 136) (kb false)) 4,Ap 138 137 4,DD 139 1 3 138 true,rg 140 (.binOp .eql 3 (tp 139) (ki 6) 3) 4 138 true,rq 141 (.pick (tp 138) (tp 140) (kb false)) 4,Ap 142 141 4,DD 143 3 3 142 true,rg 144 (.binOp .eql 3 (tp 143) (ki 7) 3) 4 142 true,rq 145 (.pick (tp 142) (tp 144) (kb false)) 4,Ap 146 145 4,DD 147 5 3 146 true,rg 148 (.binOp .eql 3 (tp 147) (ki 6) 3) 4 146 true,rq 149 (.pick (tp 146) (tp 148) (kb false)) 4,Ap 150 149 4,DD 151 7 3 150 true,rg 152 (.binOp .eql 3 (tp 151) (ki 2) 3) 4 150 true,rq 153 (.pick (tp 150) (tp 152) (kb false)) 4,Ap 154 153 4,DD 155 9 3 154 true,rg 156 (.binOp .eql 3 (tp 155) (ki 8) 3) 4 154 true,rq 157 (.pick (tp 154) (tp 156) (kb false)) 4,Ap 158 157 4,DD 159 17 3 158 true,rg 160 (.binOp .eql 3 (tp 159) (ki 2) 3) 4 158 true,rq 161 (.pick (tp 158) (tp 160) (kb false)) 4,Ap 162 161 4,DD 163 19 3 162 true,rg 164 (.binOp .eql 3 (tp 163) (ki 36) 3) 4 162 true,rq 165 (.pick (tp 162) (tp 164) (kb false)) 4,Ap 166 165 4,DD 167 11 22 166 true,rg 168 (.buildSlice 22 4 #[(0,(ki 0)),(1,(ki 0)),(2,(ki 0)),(3,(ki 1))]) 22 166 true,rg 169 (cf 13 #[(tp 168)] #[22]) 22 166 true,rg 170 (cf 22 #[(tp 167),(tp 169)] #[22,22]) 4 166 true,rq 171 (.pick (tp 166) (tp 170) (kb false)) 4,Ap 172 171 4,DD 173 13 27 172 true,rg 174 (.buildSlice 22 4 #[(0,(ki 0)),(1,(ki 1)),(2,(ki 1)),(3,(ki 0))]) 22 172 true,rg 175 (cf 13 #[(tp 174)] #[22]) 22 172 true,rg 176 (.buildSlice 22 4 #[(0,(ki 1)),(1,(ki 0)),(2,(ki 0)),(3,(ki 1))]) 22 172 true,rg 177 (cf 13 #[(tp 176)] #[22]) 22 172 true,rg 178 (.buildSlice 27 2 #[(0,(tp 175)),(1,(tp 177))]) 27 172 true,rg 179 (cf 23 #[(tp 178)] #[27]) 27 172 true,rg 180 (cf 8 #[(tp 173),(tp 179)] #[27,27]) 4 172 true,rq 181 (.pick (tp 172) (tp 180) (kb false)) 4,Ap 182 181 4,DD 183 15 22 182 true,rg 184 (.buildSlice 22 4 #[(0,(ki 0)),(1,(ki 0)),(2,(ki 1)),(3,(ki 1))]) 22 182 true,rg 185 (cf 13 #[(tp 184)] #[22]) 22 182 true,rg 186 (cf 22 #[(tp 183),(tp 185)] #[22,22]) 4 182 true,rq 187 (.pick (tp 182) (tp 186) (kb false)) 4,Ap 188 187 4,DD 189 16 22 188 true,rg 190 (.buildSlice 22 2 #[(0,(ki 0)),(1,(ki 2))]) 22 188 true,rg 191 (cf 13 #[(tp 190)] #[22]) 22 188 true,rg 192 (cf 22 #[(tp 189),(tp 191)] #[22,22]) 4 188 true,rq 193 (.pick (tp 188) (tp 192) (kb false)) 4,Ap 194 193 4,DD 195 18 22 194 true,rg 196 (.buildSlice 22 1 #[(0,(ki 1))]) 22 194 true,rg 197 (cf 13 #[(tp 196)] #[22]) 22 194 true,rg 198 (cf 22 #[(tp 195),(tp 197)] #[22,22]) 4 194 true,rq 199 (.pick (tp 194) (tp 198) (kb false)) 4,Ap 200 199 4,rg 201 (cf 11 #[] #[]) 24 200 true,rg 202 (.buildSlice 22 4 #[(0,(ki 0)),(1,(ki 1)),(2,(ki 0)),(3,(ki 0))]) 22 200 true,rg 203 (cf 13 #[(tp 202)] #[22]) 22 200 true,rg 204 (.buildSlice 22 2 #[(0,(ki 0)),(1,(ki 2))]) 22 200 true,rg 205 (cf 13 #[(tp 204)] #[22]) 22 200 true,rg 206 (cf 24 #[(tp 201),(tp 203),(tp 205)] #[24,22,22]) 28 200 true,rg 207 (.binOp .eql 28 (tp 206) (ki 14) 28) 4 200 true,rq 208 (.pick (tp 200) (tp 207) (kb false)) 4,AQ 0 208 4])
 (.ret)))))))))))))))
def c6:RC:=WP
def c7:RC:=WQ
def c8:RC:=WR
def c9:RC:=
 .seq (.reg [] [
  Cz 4 0 3,Cz 5 0 28])
 (.seq (.seq (.reg [] [
   Ap 6 0 3,rq 7 (cf 34 #[(ki 0),(tp 6),(ki 7)] #[3,3,3]) 4,rq 8 (.unOp .not 4 (tp 7)) 4,Ap 9 8 4,DD 10 1 3 9 false,rg 11 (cf 34 #[(ki 0),(tp 10),(ki 7)] #[3,3,3]) 4 9 false,rg 12 (.unOp .not 4 (tp 11)) 4 9 false,rq 13 (.pick (tp 9) (kb true) (tp 12)) 4])
 (.cond (tp 13) (.seq (.reg [] [
   Cz 4 0 3,
   Cz 5 2 28])
  (.ret))
 (.skip)))
 (.seq (.reg [] [
   Ap 14 0 3,rq 15 (cf 35 #[(tp 14)] #[3]) 64,Ap 16 1 3,rq 17 (cf 35 #[(tp 16)] #[3]) 64,rq 18 (cf 36 #[(tp 15),(tp 17)] #[64,64]) 64,rq 19 (cf 37 #[(tp 18)] #[64]) 3,AQ 4 19 3,Cz 5 0 28])
 (.ret)))
def c10:RC:=
 .seq (.reg [] [
  rq 1 (.box 24 (tp 0)) 0,Cz 2 0 3,Cz 3 0 28])
 (.seq (.reg [] [
   Ce 9 1 24,rq 10 (cf 25 #[(tp 9)] #[24]) 51,Ap 8 10 51,EM 11 8 0 50,EM 12 8 1 28,AQ 4 11 50,AQ 5 12 28])
 (.seq (.seq (.reg [] [
   Ap 13 5 28,rq 14 (.binOp .neq 28 (tp 13) (ki 0) 28) 4])
 (.cond (tp 14) (.seq (.reg [] [
   Ap 15 5 28,
   Cz 2 0 3,
   AQ 3 15 28])
  (.ret))
 (.skip)))
 (.seq (.reg [] [
   Cz 6 0 3])
 (.seq (.seq (.reg [] [
   Ap 16 4 50,rq 17 (.nilCheck (tp 16)) 0,DR 18 54 17 0,DR 19 24 18 3,Ce 20 19 22,EN 21 20 22,rq 22 (.move (ki 0)) 3])
 (.block 0 (.loop (.seq (.reg [] [
   L8 23 22 21])
   (.seq (.cond (tp 23) (.skip)
   (.exit 0))
   (.seq (.block 1 (.seq (.reg [] [
     Ap 24 22 3,
     AQ 7 24 3])
    (.reg [] [
      Ap 25 6 3,
      Ap 26 4 50,
      Ap 27 7 3,
      rq 28 (cf 38 #[(tp 26),(tp 27)] #[50,3]) 3,
      rq 29 (.binOp .add 3 (tp 25) (tp 28) 3) 3,
      AQ 6 29 3])))
   (.reg [] [
     FB 30 22,
     Ap 22 30 3])))))))
 (.seq (.reg [] [
   Ap 31 6 3,Ap 32 4 50,rq 33 (.nilCheck (tp 32)) 0,DR 34 54 33 0,DR 35 24 34 3,Ce 36 35 22,EN 37 36 22,rq 38 (.binOp .quo 3 (tp 31) (tp 37) 3) 3,AQ 2 38 3,Cz 3 0 28])
 (.ret))))))
def c11:RC:=
 .seq (.reg [] [
  rq 0 (.alloc 24) 0])
 (.seq (.reg [] [
   rq 1 (.buildSlice 22 4 #[(0,(ki 0)),(1,(ki 1)),(2,(ki 2)),(3,(ki 3))]) 22,rq 2 (cf 13 #[(tp 1)] #[22]) 22,rq 3 (.build 24 #[(0,(ki 2)),(1,(ki 2)),(2,(ki 2)),(3,(tp 2))]) 24,rn (.store 24 (tp 0) (tp 3)) 0])
 (.ret))
def c12:RC:=
 .seq (.reg [] [
  rq 2 (.box 24 (tp 0)) 0,Cz 4 0 3,Cz 5 0 28])
 (.seq (.reg [] [
   Ce 14 2 24,rq 15 (cf 25 #[(tp 14)] #[24]) 51,Ap 13 15 51,EM 16 13 0 50,EM 17 13 1 28,AQ 6 16 50,AQ 7 17 28])
 (.seq (.block 0 (.seq (.reg [] [
   Ap 19 7 28,
   rq 20 (.binOp .neq 28 (tp 19) (ki 0) 28) 4,
   AQ 18 20 4])
  (.cond (tp 18) (.seq (.reg [] [
    Ap 21 7 28,
    Cz 4 0 3,
    AQ 5 21 28])
   (.ret))
  (.seq (.reg [] [
    Ap 23 1 22,
    EN 24 23 22,
    Ap 25 6 50,
    rq 26 (.nilCheck (tp 25)) 0,
    DR 27 54 26 0,
    DR 28 24 27 2,
    Ce 29 28 3,
    rq 30 (.binOp .neq 3 (tp 24) (tp 29) 3) 4,
    AQ 22 30 4])
   (.cond (tp 22) (.seq (.reg [] [
     Cz 4 0 3,
     Cz 5 5 28])
    (.ret))
   (.skip))))))
 (.seq (.reg [] [
   Cz 8 0 3])
 (.seq (.seq (.reg [] [
   Ap 31 1 22,EN 32 31 22,rq 33 (.move (ki 0)) 3])
 (.block 1 (.loop (.seq (.reg [] [
   L8 34 33 32])
   (.seq (.cond (tp 34) (.skip)
   (.exit 1))
   (.seq (.block 2 (.seq (.reg [] [
     D5 35 22 31 33,
     Ce 36 35 3,
     AQ 10 36 3])
    (.seq (.seq (.reg [0, 1, 2, 3, 4, 5, 6, 7, 8, 9, 10, 11, 12, 13] [
      Ap 37 10 3,
      Ap 38 6 50,
      rq 39 (.nilCheck (tp 38)) 0,
      DR 40 54 39 0,
      DR 41 24 40 0,
      Ce 42 41 3,
      Ap 43 6 50,
      rq 44 (.nilCheck (tp 43)) 0,
      DR 45 54 44 0,
      DR 46 24 45 1,
      Ce 47 46 3,
      rq 48 (.binOp .mul 3 (tp 42) (tp 47) 3) 3,
      rq 49 (cf 34 #[(ki 0),(tp 37),(tp 48)] #[3,3,3]) 4,
      rq 50 (.unOp .not 4 (tp 49)) 4])
    (.cond (tp 50) (.seq (.reg [] [
      Cz 4 0 3,
      Cz 5 1 28])
     (.ret))
    (.skip)))
    (.reg [] [
      Ap 51 8 3,
      Ap 52 10 3,
      rq 53 (.binOp .add 3 (tp 51) (tp 52) 3) 3,
      AQ 8 53 3]))))
   (.reg [] [
     FB 54 33,
     Ap 33 54 3])))))))
 (.seq (.seq (.reg [0, 1, 2, 3, 4, 5, 6, 7, 8, 9, 10, 11, 12] [
   Ap 55 8 3,Ap 56 6 50,rq 57 (.nilCheck (tp 56)) 0,DR 58 54 57 0,DR 59 24 58 0,Ce 60 59 3,Ap 61 6 50,rq 62 (.nilCheck (tp 61)) 0,DR 63 54 62 0,DR 64 24 63 1,Ce 65 64 3,rq 66 (.binOp .mul 3 (tp 60) (tp 65) 3) 3,rq 67 (.binOp .neq 3 (tp 55) (tp 66) 3) 4])
 (.cond (tp 67) (.seq (.reg [] [
   Cz 4 0 3,
   Cz 5 17 28])
  (.ret))
 (.skip)))
 (.seq (.reg [] [
   Cz 11 0 3])
 (.seq (.seq (.reg [] [
   Ap 68 6 50,rq 69 (.nilCheck (tp 68)) 0,DR 70 54 69 0,DR 71 24 70 3,Ce 72 71 22,EN 73 72 22,rq 74 (.move (ki 0)) 3])
 (.block 3 (.loop (.seq (.reg [] [
   L8 75 74 73])
   (.seq (.cond (tp 75) (.skip)
   (.exit 3))
   (.seq (.block 4 (.seq (.reg [] [
     Ap 76 74 3,
     AQ 12 76 3])
    (.reg [] [
      Ap 77 11 3,
      Ap 78 6 50,
      Ap 79 12 3,
      rq 80 (cf 40 #[(tp 78),(tp 79)] #[50,3]) 70,
      Ap 81 1 22,
      rq 82 (cf 39 #[(tp 80),(tp 81)] #[70,22]) 3,
      rq 83 (.binOp .add 3 (tp 77) (tp 82) 3) 3,
      AQ 11 83 3])))
   (.reg [] [
     FB 84 74,
     Ap 74 84 3])))))))
 (.seq (.reg [] [
   Ap 85 11 3,Ap 86 6 50,rq 87 (.nilCheck (tp 86)) 0,DR 88 54 87 0,DR 89 24 88 3,Ce 90 89 22,EN 91 90 22,rq 92 (.binOp .quo 3 (tp 85) (tp 91) 3) 3,AQ 4 92 3,Cz 5 0 28])
 (.ret)))))))))
def c13:RC:=
 .seq (.reg [] [
  rq 2 (.assign (.const (.slice none 0 0))) 22])
 (.seq (.reg [] [
   Ap 3 0 22,AQ 2 3 22])
 (.ret))
def c14:RC:=
 .seq (.reg [] [
  rq 2 (.box 24 (tp 0)) 0,Cz 4 0 3,Cz 5 0 28])
 (.seq (.reg [] [
   Ce 10 2 24,rq 11 (cf 25 #[(tp 10)] #[24]) 51,Ap 9 11 51,EM 12 9 0 50,EM 13 9 1 28,AQ 6 12 50,AQ 7 13 28])
 (.seq (.seq (.reg [] [
   Ap 14 7 28,rq 15 (.binOp .neq 28 (tp 14) (ki 0) 28) 4])
 (.cond (tp 15) (.seq (.reg [] [
   Ap 16 7 28,
   Cz 4 0 3,
   AQ 5 16 28])
  (.ret))
 (.skip)))
 (.seq (.reg [] [
   Ap 17 6 50,rq 18 (.nilCheck (tp 17)) 0,DR 19 54 18 0,DR 20 24 19 3,Ce 21 20 22,Ap 22 1 3,rq 23 (cf 41 #[(tp 21),(tp 22)] #[22,3]) 3,AQ 8 23 3])
 (.seq (.seq (.reg [] [
   Ap 24 8 3,rq 25 (.binOp .lss 3 (tp 24) (ki 0) 3) 4])
 (.cond (tp 25) (.seq (.reg [] [
   Cz 4 0 3,
   Cz 5 2 28])
  (.ret))
 (.skip)))
 (.seq (.reg [] [
   Ap 26 6 50,Ap 27 8 3,rq 28 (cf 38 #[(tp 26),(tp 27)] #[50,3]) 3,AQ 4 28 3,Cz 5 0 28])
 (.ret))))))
def c15:RC:=
 .seq (.reg [] [
  rq 0 (.alloc 24) 0])
 (.seq (.reg [] [
   rq 1 (.buildSlice 22 2 #[(0,(ki 0)),(1,(ki 2))]) 22,rq 2 (cf 13 #[(tp 1)] #[22]) 22,rq 3 (.build 24 #[(0,(ki 2)),(1,(ki 3)),(2,(ki 2)),(3,(tp 2))]) 24,rn (.store 24 (tp 0) (tp 3)) 0])
 (.ret))
def c16:RC:=
 .seq (.reg [] [
  rq 3 (.box 24 (tp 0)) 0,rq 6 (.assign (.const (.slice none 0 0))) 22,Cz 7 0 28])
 (.seq (.reg [] [
   Ce 12 3 24,Ap 13 1 22,rq 14 (.buildSlice 27 1 #[(0,(tp 13))]) 27,rq 15 (cf 42 #[(tp 12),(tp 14)] #[24,27]) 51,Ap 11 15 51,EM 16 11 0 50,EM 17 11 1 28,AQ 8 16 50,AQ 9 17 28])
 (.seq (.seq (.reg [] [
   Ap 18 9 28,rq 19 (.binOp .neq 28 (tp 18) (ki 0) 28) 4])
 (.cond (tp 19) (.seq (.reg [] [
   Ap 20 9 28,
   rq 6 (.assign (.const (.slice none 0 0))) 22,
   AQ 7 20 28])
  (.ret))
 (.skip)))
 (.seq (.reg [] [
   Ap 21 8 50,rq 22 (.nilCheck (tp 21)) 0,DR 23 54 22 0,DR 24 24 23 3,Ce 25 24 22,Ap 26 2 3,rq 27 (cf 41 #[(tp 25),(tp 26)] #[22,3]) 3,AQ 10 27 3])
 (.seq (.seq (.reg [] [
   Ap 28 10 3,rq 29 (.binOp .lss 3 (tp 28) (ki 0) 3) 4])
 (.cond (tp 29) (.seq (.reg [] [
   rq 6 (.assign (.const (.slice none 0 0))) 22,
   Cz 7 2 28])
  (.ret))
 (.skip)))
 (.seq (.reg [] [
   Ap 30 8 50,Ap 31 1 22,Ap 32 10 3,rq 33 (cf 28 #[(tp 30),(tp 31),(tp 32)] #[50,22,3]) 22,AQ 6 33 22,Cz 7 0 28])
 (.ret))))))
def c17:RC:=
 .seq (.reg [] [
  rq 2 (.box 24 (tp 0)) 0,rq 4 (.assign (.const (.slice none 0 0))) 27,Cz 5 0 28])
 (.seq (.reg [] [
   Ce 9 2 24,Ap 10 1 22,rq 11 (.buildSlice 27 1 #[(0,(tp 10))]) 27,rq 12 (cf 42 #[(tp 9),(tp 11)] #[24,27]) 51,Ap 8 12 51,EM 13 8 0 50,EM 14 8 1 28,AQ 6 13 50,AQ 7 14 28])
 (.seq (.seq (.reg [] [
   Ap 15 7 28,rq 16 (.binOp .neq 28 (tp 15) (ki 0) 28) 4])
 (.cond (tp 16) (.seq (.reg [] [
   Ap 17 7 28,
   rq 4 (.assign (.const (.slice none 0 0))) 27,
   AQ 5 17 28])
  (.ret))
 (.skip)))
 (.seq (.reg [] [
   Ap 18 6 50,Ap 19 1 22,rq 20 (cf 43 #[(tp 18),(tp 19)] #[50,22]) 27,AQ 4 20 27,Cz 5 0 28])
 (.ret))))
def c18:RC:=
 .seq (.reg [] [
  rq 2 (.box 24 (tp 0)) 0,rq 4 (.assign (.const (.slice none 0 0))) 22,Cz 5 0 28])
 (.seq (.reg [] [
   Ce 9 2 24,Ap 10 1 22,rq 11 (.buildSlice 27 1 #[(0,(tp 10))]) 27,rq 12 (cf 42 #[(tp 9),(tp 11)] #[24,27]) 51,Ap 8 12 51,EM 13 8 0 50,EM 14 8 1 28,AQ 6 13 50,AQ 7 14 28])
 (.seq (.seq (.reg [] [
   Ap 15 7 28,rq 16 (.binOp .neq 28 (tp 15) (ki 0) 28) 4])
 (.cond (tp 16) (.seq (.reg [] [
   Ap 17 7 28,
   rq 4 (.assign (.const (.slice none 0 0))) 22,
   AQ 5 17 28])
  (.ret))
 (.skip)))
 (.seq (.reg [] [
   Ap 18 6 50,Ap 19 1 22,rq 20 (cf 43 #[(tp 18),(tp 19)] #[50,22]) 27,rq 21 (.indexAddr 27 (tp 20) (ki 0)) 0,Ce 22 21 22,AQ 4 22 22,Cz 5 0 28])
 (.ret))))
def c19:RC:=
 .seq (.reg [] [
  rq 2 (.box 24 (tp 0)) 0,rq 4 (.assign (.const (.slice none 0 0))) 22,Cz 5 0 28])
 (.seq (.reg [] [
   Ce 12 2 24,Ap 13 1 22,rq 14 (.buildSlice 27 1 #[(0,(tp 13))]) 27,rq 15 (cf 42 #[(tp 12),(tp 14)] #[24,27]) 51,Ap 11 15 51,EM 16 11 0 50,EM 17 11 1 28,AQ 6 16 50,AQ 7 17 28])
 (.seq (.seq (.reg [] [
   Ap 18 7 28,rq 19 (.binOp .neq 28 (tp 18) (ki 0) 28) 4])
 (.cond (tp 19) (.seq (.reg [] [
   Ap 20 7 28,
   rq 4 (.assign (.const (.slice none 0 0))) 22,
   AQ 5 20 28])
  (.ret))
 (.skip)))
 (.seq (.reg [] [
   rq 8 (.assign (.const (.slice none 0 0))) 22])
 (.seq (.seq (.reg [] [
   Ap 21 6 50,rq 22 (.nilCheck (tp 21)) 0,DR 23 54 22 0,DR 24 24 23 3,Ce 25 24 22,EN 26 25 22,rq 27 (.move (ki 0)) 3])
 (.block 0 (.loop (.seq (.reg [] [
   L8 28 27 26])
   (.seq (.cond (tp 28) (.skip)
   (.exit 0))
   (.seq (.block 1 (.seq (.reg [] [
     Ap 29 27 3,
     D5 30 22 25 27,
     Ce 31 30 3,
     AQ 9 29 3,
     AQ 10 31 3])
    (.seq (.reg [] [
      Ap 32 6 50,
      Ap 33 1 22,
      Ap 34 9 3,
      rq 35 (cf 44 #[(tp 32),(tp 33),(tp 34)] #[50,22,3]) 75,
      rq 36 (.binOp .eql 75 (tp 35) (.const (.int .u16 0)) 75) 4])
    (.cond (tp 36) (.reg [] [
      Ap 37 8 22,
      Ap 38 10 3,
      rq 39 (.buildSlice 22 1 #[(0,(tp 38))]) 22,
      rq 40 (cb .append #[(tp 37),(tp 39)] #[22,22]) 22,
      AQ 8 40 22])
    (.skip)))))
   (.reg [] [
     FB 41 27,
     Ap 27 41 3])))))))
 (.seq (.reg [] [
   Ap 42 8 22,AQ 4 42 22,Cz 5 0 28])
 (.ret))))))
def c20:RC:=
 .seq (.reg [] [
  rq 3 (.box 24 (tp 0)) 0,Cz 6 0 3,Cz 7 0 28])
 (.seq (.reg [] [
   Ce 13 3 24,Ap 14 1 22,Ap 15 2 22,rq 16 (.buildSlice 27 2 #[(0,(tp 14)),(1,(tp 15))]) 27,rq 17 (cf 42 #[(tp 13),(tp 16)] #[24,27]) 51,Ap 12 17 51,EM 18 12 0 50,EM 19 12 1 28,AQ 8 18 50,AQ 9 19 28])
 (.seq (.seq (.reg [] [
   Ap 20 9 28,rq 21 (.binOp .neq 28 (tp 20) (ki 0) 28) 4])
 (.cond (tp 21) (.seq (.reg [] [
   Ap 22 9 28,
   Cz 6 0 3,
   AQ 7 22 28])
  (.ret))
 (.skip)))
 (.seq (.seq (.reg [] [
   Ap 23 8 50,rq 24 (.nilCheck (tp 23)) 0,DR 25 54 24 0,DR 26 24 25 3,Ce 27 26 22,EN 28 27 22,rq 29 (.move (ki 0)) 3])
 (.block 0 (.loop (.seq (.reg [] [
   L8 30 29 28])
   (.seq (.cond (tp 30) (.skip)
   (.exit 0))
   (.seq (.block 1 (.seq (.reg [] [
     Ap 31 29 3,
     D5 32 22 27 29,
     Ce 33 32 3,
     AQ 10 31 3,
     AQ 11 33 3])
    (.seq (.reg [] [
      Ap 34 8 50,
      Ap 35 1 22,
      Ap 36 10 3,
      rq 37 (cf 28 #[(tp 34),(tp 35),(tp 36)] #[50,22,3]) 22,
      Ap 38 2 22,
      rq 39 (cf 45 #[(tp 37),(tp 38)] #[22,22]) 4])
    (.cond (tp 39) (.seq (.reg [] [
      Ap 40 11 3,
      AQ 6 40 3,
      Cz 7 0 28])
     (.ret))
    (.skip)))))
   (.reg [] [
     FB 41 29,
     Ap 29 41 3])))))))
 (.seq (.reg [] [
   Cz 6 0 3,Cz 7 12 28])
 (.ret)))))
def c21:RC:=
 .seq (.reg [] [
  rq 2 (.box 24 (tp 0)) 0,rq 3 (.box 22 (tp 1)) 0,rq 4 (.assign (.const (.slice none 0 0))) 22,Cz 5 0 28])
 (.seq (.reg [] [
   Ce 12 2 24,Ce 13 3 22,rq 14 (.buildSlice 27 1 #[(0,(tp 13))]) 27,rq 15 (cf 42 #[(tp 12),(tp 14)] #[24,27]) 51,Ap 11 15 51,EM 16 11 0 50,EM 17 11 1 28,rq 6 (.alloc 50) 0,rn (.store 50 (tp 6) (tp 16)) 0,AQ 7 17 28])
 (.seq (.seq (.reg [] [
   Ap 18 7 28,rq 19 (.binOp .neq 28 (tp 18) (ki 0) 28) 4])
 (.cond (tp 19) (.seq (.reg [] [
   Ap 20 7 28,
   rq 4 (.assign (.const (.slice none 0 0))) 22,
   AQ 5 20 28])
  (.ret))
 (.skip)))
 (.seq (.reg [] [
   rq 8 (.alloc 22) 0])
 (.seq (.reg [] [
   rq 9 (.alloc 3) 0,rn (.store 3 (tp 9) (ki 64)) 0])
 (.seq (.reg [] [
   rq 10 (.alloc 77) 0])
 (.seq (.reg [] [
   rq 21 (.makeFunc (.func 46) #[] #[(tp 6),(tp 3),(tp 9),(tp 8),(tp 10)]) 77,rn (.store 77 (tp 10) (tp 21)) 0])
 (.seq (.reg [] [
   Ce 22 10 77,rq 23 (.call ⟨.value (tp 22),#[(.const (.slice none 0 0)),(ki 0)],#[22,3]⟩) 0])
 (.seq (.reg [] [
   Ce 24 8 22,AQ 4 24 22,Cz 5 0 28])
 (.ret)))))))))
def c22:RC:=Sc
def c23:RC:=
 .seq (.reg [] [
  rq 2 (.assign (.const (.slice none 0 0))) 27])
 (.seq (.reg [] [
   Ap 3 0 27,AQ 2 3 27])
 (.ret))
def c24:RC:=
 .seq (.reg [] [
  rq 3 (.box 24 (tp 0)) 0,Cz 6 0 28])
 (.seq (.reg [] [
   Ce 16 3 24,Ap 17 1 22,rq 18 (.buildSlice 27 1 #[(0,(tp 17))]) 27,rq 19 (cf 42 #[(tp 16),(tp 18)] #[24,27]) 51,Ap 15 19 51,EM 20 15 0 50,EM 21 15 1 28,AQ 7 20 50,AQ 8 21 28])
 (.seq (.seq (.reg [] [
   Ap 22 8 28,rq 23 (.binOp .neq 28 (tp 22) (ki 0) 28) 4])
 (.cond (tp 23) (.seq (.reg [] [
   Ap 24 8 28,
   AQ 6 24 28])
  (.ret))
 (.skip)))
 (.seq (.reg [] [
   rq 9 (.assign (ki (-1))) 3])
 (.seq (.reg [] [
   rq 10 (.assign (.const (.int .u16 0))) 75])
 (.seq (.seq (.reg [] [
   Ap 25 2 22,EN 26 25 22,rq 27 (.move (ki 0)) 3])
 (.block 0 (.loop (.seq (.reg [] [
   L8 28 27 26])
   (.seq (.cond (tp 28) (.skip)
   (.exit 0))
   (.seq (.block 1 (.seq (.reg [] [
     D5 29 22 25 27,
     Ce 30 29 3,
     AQ 12 30 3])
    (.seq (.block 2 (.seq (.reg [] [
      Ap 32 12 3,
      Ap 33 1 22,
      EN 34 33 22,
      rq 35 (.binOp .sub 3 (tp 34) (ki 1) 3) 3,
      rq 36 (cf 34 #[(ki 0),(tp 32),(tp 35)] #[3,3,3]) 4,
      rq 37 (.unOp .not 4 (tp 36)) 4,
      AQ 31 37 4])
     (.cond (tp 31) (.seq (.reg [] [
       Cz 6 2 28])
      (.ret))
     (.seq (.reg [] [
       Ap 39 12 3,
       Ap 40 9 3,
       rq 41 (.binOp .leq 3 (tp 39) (tp 40) 3) 4,
       AQ 38 41 4])
      (.cond (tp 38) (.seq (.reg [] [
        Cz 6 7 28])
       (.ret))
      (.skip))))))
    (.seq (.reg [] [
      Ap 42 12 3,
      AQ 9 42 3])
    (.reg [] [
      Ap 43 10 75,
      Ap 44 12 3,
      rq 45 (.binOp .shl 75 (.const (.int .u16 1)) (tp 44) 3) 75,
      rq 46 (.binOp .or 75 (tp 43) (tp 45) 75) 75,
      AQ 10 46 75])))))
   (.reg [] [
     FB 47 27,
     Ap 27 47 3])))))))
 (.seq (.seq (.reg [] [
   Ap 48 7 50,rq 49 (.nilCheck (tp 48)) 0,DR 50 54 49 0,DR 51 24 50 3,Ce 52 51 22,EN 53 52 22,rq 54 (.move (ki 0)) 3])
 (.block 3 (.loop (.seq (.reg [] [
   L8 55 54 53])
   (.seq (.cond (tp 55) (.skip)
   (.exit 3))
   (.seq (.block 4 (.seq (.reg [] [
     Ap 56 54 3,
     AQ 13 56 3])
    (.seq (.reg [] [
      Ap 57 7 50,
      Ap 58 1 22,
      Ap 59 13 3,
      rq 60 (cf 44 #[(tp 57),(tp 58),(tp 59)] #[50,22,3]) 75,
      AQ 14 60 75])
    (.seq (.reg [] [
      Ap 61 14 75,
      rq 62 (.binOp .neq 75 (tp 61) (.const (.int .u16 0)) 75) 4,
      Ap 63 62 4,
      DD 64 14 75 63 true,
      DD 65 10 75 63 true,
      rg 66 (.binOp .and 75 (tp 64) (tp 65) 75) 75 63 true,
      rg 67 (.binOp .eql 75 (tp 66) (.const (.int .u16 0)) 75) 4 63 true,
      rq 68 (.pick (tp 63) (tp 67) (kb false)) 4])
    (.cond (tp 68) (.seq (.reg [] [
      Cz 6 14 28])
     (.ret))
    (.skip))))))
   (.reg [] [
     FB 69 54,
     Ap 54 69 3])))))))
 (.seq (.reg [] [
   Cz 6 0 28])
 (.ret))))))))
def c25:RC:=Sd
def c26:RC:=MR
def c27:RC:=Sg
def c28:RC:=Si
def c29:RC:=WS
def c30:RC:=Sj
def c31:RC:=Sk
def c32:RC:=Sm
def c33:RC:=Sn
def c34:RC:=WT
def c35:RC:=Sq
def c36:RC:=WV
def c37:RC:=Sz
def c38:RC:=
 .seq (.reg [] [
  Cz 4 0 3])
 (.seq (.reg [] [
   Cz 5 1 3])
 (.seq (.seq (.reg [] [
   Ap 8 0 50,Ap 9 1 3,rq 10 (cf 40 #[(tp 8),(tp 9)] #[50,3]) 70,rq 11 (.move (ki 0)) 3])
 (.block 0 (.loop (.seq (.reg [] [
   rq 12 (.binOp .lss 3 (tp 11) (ki 17) 3) 0])
   (.seq (.cond (tp 12) (.skip)
   (.exit 0))
   (.seq (.block 1 (.seq (.reg [] [
     rq 13 (.index 70 (tp 10) (tp 11)) 3,
     AQ 7 13 3])
    (.seq (.reg [] [
      Ap 14 7 3,
      rq 15 (.move (ki 0)) 3])
    (.block 2 (.loop (.seq (.reg [] [
      rq 16 (.binOp .lss 3 (tp 15) (tp 14) 3) 4])
      (.seq (.cond (tp 16) (.skip)
      (.exit 2))
      (.seq (.block 3 (.reg [] [
        Ap 17 5 3,
        Ap 18 0 50,
        rq 19 (.nilCheck (tp 18)) 0,
        DR 20 54 19 0,
        DR 21 24 20 2,
        Ce 22 21 3,
        rq 23 (.binOp .mul 3 (tp 17) (tp 22) 3) 3,
        AQ 5 23 3]))
      (.reg [] [
        FB 24 15,
        Ap 15 24 3])))))))))
   (.reg [] [
     FB 25 11,
     Ap 11 25 3])))))))
 (.seq (.reg [] [
   Ap 26 5 3,AQ 4 26 3])
 (.ret))))
def c39:RC:=
 .seq (.reg [] [
  rq 2 (.box 70 (tp 0)) 0,rq 3 (.box 22 (tp 1)) 0,Cz 4 0 3])
 (.seq (.seq (.reg [] [
   Ce 6 3 22,EN 7 6 22,rq 8 (.binOp .eql 3 (tp 7) (ki 1) 3) 4])
 (.cond (tp 8) (.seq (.reg [] [
   Cz 4 1 3])
  (.ret))
 (.skip)))
 (.seq (.reg [] [
   rq 5 (.alloc 88) 0])
 (.seq (.reg [] [
   rq 9 (.makeFunc (.func 60) #[] #[(tp 2),(tp 3),(tp 5)]) 88,rn (.store 88 (tp 5) (tp 9)) 0])
 (.seq (.reg [0, 1, 2, 3, 4, 5] [
   Ce 10 5 88,Ce 11 3 22,rq 12 (.indexAddr 22 (tp 11) (ki 0)) 0,Ce 13 12 3,rq 14 (.call ⟨.value (tp 10),#[(ki 1),(tp 13),(ki 1)],#[3,3,3]⟩) 3,AQ 4 14 3])
 (.ret)))))
def c40:RC:=
 .seq (.reg [] [
  rq 4 (.alloc 70) 0])
 (.seq (.reg [] [
   rq 5 (.assign (.const (.int .u16 0))) 75])
 (.seq (.seq (.reg [] [
   Ap 9 0 50,rq 10 (.nilCheck (tp 9)) 0,DR 11 54 10 1,Ce 12 11 27,Ap 13 1 3,D5 14 27 12 13,Ce 15 14 22,EN 16 15 22,rq 17 (.move (ki 0)) 3])
 (.block 0 (.loop (.seq (.reg [] [
   L8 18 17 16])
   (.seq (.cond (tp 18) (.skip)
   (.exit 0))
   (.seq (.block 1 (.seq (.reg [] [
     Ap 19 17 3,
     AQ 6 19 3])
    (.seq (.reg [] [
      Cz 7 0 3])
    (.seq (.seq (.reg [] [
      Ap 20 6 3,
      AQ 8 20 3])
    (.block 2 (.loop (.seq (.seq (.reg [] [
      Ap 21 5 75,
      Ap 22 8 3,
      rq 23 (.binOp .shr 75 (tp 21) (tp 22) 3) 75,
      rq 24 (.binOp .and 75 (tp 23) (.const (.int .u16 1)) 75) 75,
      rq 25 (.binOp .eql 75 (tp 24) (.const (.int .u16 0)) 75) 4])
      (.cond (tp 25) (.skip)
      (.exit 2)))
      (.seq (.block 3 (.seq (.reg [] [
        Ap 36 5 75,
        Ap 37 8 3,
        rq 38 (.binOp .shl 75 (.const (.int .u16 1)) (tp 37) 3) 75,
        rq 39 (.binOp .or 75 (tp 36) (tp 38) 75) 75,
        AQ 5 39 75])
       (.reg [] [
         Ap 40 7 3,
         FB 41 40,
         AQ 7 41 3])))
      (.reg [] [
        Ap 26 0 50,
        rq 27 (.nilCheck (tp 26)) 0,
        DR 28 54 27 1,
        Ce 29 28 27,
        Ap 30 1 3,
        D5 31 27 29 30,
        Ce 32 31 22,
        Ap 33 8 3,
        D5 34 22 32 33,
        Ce 35 34 3,
        AQ 8 35 3]))))))
    (.reg [] [
      Ap 42 7 3,
      D5 43 70 4 42,
      Ce 44 43 3,
      FB 45 44,
      D5 46 70 4 42,
      rn (.store 3 (tp 46) (tp 45)) 0])))))
   (.reg [] [
     FB 47 17,
     Ap 17 47 3])))))))
 (.seq (.reg [] [
   rq 48 (.indexAddr 70 (tp 4) (ki 0)) 0,rn (.store 3 (tp 48) (ki 0)) 0])
 (.seq (.reg [] [
   Ce 49 4 70,rn (.store 70 (tp 4) (tp 49)) 0])
 (.ret)))))
def c41:RC:=
 .seq (.reg [] [
  Cz 4 0 3])
 (.seq (.seq (.reg [] [
   Ap 6 0 22,EN 7 6 22,rq 8 (.move (ki 0)) 3])
 (.block 0 (.loop (.seq (.reg [] [
   L8 9 8 7])
   (.seq (.cond (tp 9) (.skip)
   (.exit 0))
   (.seq (.block 1 (.seq (.reg [] [
     Ap 10 8 3,
     AQ 5 10 3])
    (.seq (.reg [] [
      Ap 11 1 3,
      Ap 12 0 22,
      Ap 13 5 3,
      D5 14 22 12 13,
      Ce 15 14 3,
      rq 16 (.binOp .eql 3 (tp 11) (tp 15) 3) 4])
    (.cond (tp 16) (.seq (.reg [] [
      Ap 17 5 3,
      AQ 4 17 3])
     (.ret))
    (.skip)))))
   (.reg [] [
     FB 18 8,
     Ap 8 18 3])))))))
 (.seq (.reg [] [
   rq 4 (.assign (ki (-1))) 3])
 (.ret)))
def c42:RC:=
 .seq (.reg [] [
  rq 2 (.box 24 (tp 0)) 0,rq 4 (.assign (.const (.pointer none))) 50,Cz 5 0 28])
 (.seq (.reg [] [
   Ce 12 2 24,rq 13 (cf 25 #[(tp 12)] #[24]) 51,Ap 11 13 51,EM 14 11 0 50,EM 15 11 1 28,AQ 6 14 50,AQ 7 15 28])
 (.seq (.seq (.reg [] [
   Ap 16 7 28,rq 17 (.binOp .neq 28 (tp 16) (ki 0) 28) 4])
 (.cond (tp 17) (.seq (.reg [] [
   Ap 18 7 28,
   rq 4 (.assign (.const (.pointer none))) 50,
   AQ 5 18 28])
  (.ret))
 (.skip)))
 (.seq (.seq (.reg [] [
   Ap 19 1 27,EN 20 19 27,rq 21 (.move (ki 0)) 3])
 (.block 0 (.loop (.seq (.reg [] [
   L8 22 21 20])
   (.seq (.cond (tp 22) (.skip)
   (.exit 0))
   (.seq (.block 1 (.seq (.reg [] [
     D5 23 27 19 21,
     Ce 24 23 22,
     AQ 9 24 22])
    (.seq (.reg [] [
      Ap 25 6 50,
      Ap 26 9 22,
      rq 27 (cf 61 #[(tp 25),(tp 26)] #[50,22]) 28,
      AQ 10 27 28])
    (.seq (.reg [] [
      Ap 28 10 28,
      rq 29 (.binOp .neq 28 (tp 28) (ki 0) 28) 4])
    (.cond (tp 29) (.seq (.reg [] [
      Ap 30 10 28,
      rq 4 (.assign (.const (.pointer none))) 50,
      AQ 5 30 28])
     (.ret))
    (.skip))))))
   (.reg [] [
     FB 31 21,
     Ap 21 31 3])))))))
 (.seq (.reg [] [
   Ap 32 6 50,AQ 4 32 50,Cz 5 0 28])
 (.ret)))))
def c43:RC:=
 .seq (.reg [] [
  rq 4 (.assign (.const (.slice none 0 0))) 27])
 (.seq (.reg [] [
   rq 5 (.assign (.const (.slice none 0 0))) 27])
 (.seq (.seq (.reg [] [
   Ap 7 0 50,rq 8 (.nilCheck (tp 7)) 0,DR 9 54 8 0,DR 10 24 9 3,Ce 11 10 22,EN 12 11 22,rq 13 (.move (ki 0)) 3])
 (.block 0 (.loop (.seq (.reg [] [
   L8 14 13 12])
   (.seq (.cond (tp 14) (.skip)
   (.exit 0))
   (.seq (.block 1 (.seq (.reg [] [
     Ap 15 13 3,
     AQ 6 15 3])
    (.reg [] [
      Ap 16 5 27,
      Ap 17 0 50,
      Ap 18 1 22,
      Ap 19 6 3,
      rq 20 (cf 28 #[(tp 17),(tp 18),(tp 19)] #[50,22,3]) 22,
      rq 21 (.buildSlice 27 1 #[(0,(tp 20))]) 27,
      rq 22 (cb .append #[(tp 16),(tp 21)] #[27,27]) 27,
      AQ 5 22 27])))
   (.reg [] [
     FB 23 13,
     Ap 13 23 3])))))))
 (.seq (.reg [] [
   Ap 24 5 27,rq 25 (cf 62 #[(tp 24),(.func 27)] #[27,56]) 0])
 (.seq (.reg [] [
   Ap 26 5 27,rq 27 (cf 63 #[(tp 26),(.func 45)] #[27,47]) 27,AQ 4 27 27])
 (.ret)))))
def c44:RC:=
 .seq (.reg [] [
  rq 6 (.assign (.const (.int .u16 0))) 75])
 (.seq (.reg [] [
   rq 7 (.assign (.const (.int .u16 0))) 75])
 (.seq (.seq (.reg [] [
   Ap 10 0 50,rq 11 (.nilCheck (tp 10)) 0,DR 12 54 11 1,Ce 13 12 27,Ap 14 2 3,D5 15 27 13 14,Ce 16 15 22,EN 17 16 22,rq 18 (.move (ki 0)) 3])
 (.block 0 (.loop (.seq (.reg [] [
   L8 19 18 17])
   (.seq (.cond (tp 19) (.skip)
   (.exit 0))
   (.seq (.block 1 (.seq (.reg [] [
     Ap 20 18 3,
     D5 21 22 16 18,
     Ce 22 21 3,
     AQ 8 20 3,
     AQ 9 22 3])
    (.seq (.reg [0, 1, 2, 3, 4, 5, 6, 7, 8] [
      Ap 23 1 22,
      Ap 24 9 3,
      D5 25 22 23 24,
      Ce 26 25 3,
      Ap 27 1 22,
      Ap 28 8 3,
      D5 29 22 27 28,
      Ce 30 29 3,
      rq 31 (.binOp .neq 3 (tp 26) (tp 30) 3) 4])
    (.cond (tp 31) (.reg [] [
      Ap 32 7 75,
      Ap 33 8 3,
      rq 34 (.binOp .shl 75 (.const (.int .u16 1)) (tp 33) 3) 75,
      rq 35 (.binOp .or 75 (tp 32) (tp 34) 75) 75,
      AQ 7 35 75])
    (.skip)))))
   (.reg [] [
     FB 36 18,
     Ap 18 36 3])))))))
 (.seq (.reg [] [
   Ap 37 7 75,AQ 6 37 75])
 (.ret))))
def c45:RC:=
 .seq (.reg [] [
  rq 4 (.assign (kb false)) 4])
 (.seq (.seq (.reg [] [
   Ap 6 0 22,EN 7 6 22,Ap 8 1 22,EN 9 8 22,rq 10 (.binOp .neq 3 (tp 7) (tp 9) 3) 4])
 (.cond (tp 10) (.seq (.reg [] [
   rq 4 (.assign (kb false)) 4])
  (.ret))
 (.skip)))
 (.seq (.seq (.reg [] [
   Ap 11 0 22,EN 12 11 22,rq 13 (.move (ki 0)) 3])
 (.block 0 (.loop (.seq (.reg [] [
   L8 14 13 12])
   (.seq (.cond (tp 14) (.skip)
   (.exit 0))
   (.seq (.block 1 (.seq (.reg [] [
     Ap 15 13 3,
     AQ 5 15 3])
    (.seq (.reg [0, 1, 2, 3, 4, 5, 6, 7, 8] [
      Ap 16 0 22,
      Ap 17 5 3,
      D5 18 22 16 17,
      Ce 19 18 3,
      Ap 20 1 22,
      Ap 21 5 3,
      D5 22 22 20 21,
      Ce 23 22 3,
      rq 24 (.binOp .neq 3 (tp 19) (tp 23) 3) 4])
    (.cond (tp 24) (.seq (.reg [] [
      rq 4 (.assign (kb false)) 4])
     (.ret))
    (.skip)))))
   (.reg [] [
     FB 25 13,
     Ap 13 25 3])))))))
 (.seq (.reg [] [
   rq 4 (.assign (kb true)) 4])
 (.ret))))
def c46:RC:=
 .seq (.block 0 (.loop (.seq (.seq (.reg [] [
  Ap 12 1 3,
  Ce 13 2 50,
  rq 14 (.nilCheck (tp 13)) 0,
  DR 15 54 14 0,
  DR 16 24 15 3,
  Ce 17 16 22,
  EN 18 17 22,
  rq 19 (.binOp .lss 3 (tp 12) (tp 18) 3) 4])
  (.cond (tp 19) (.skip)
  (.exit 0)))
  (.block 1 (.seq (.reg [] [
    Ce 20 2 50,
    Ce 21 3 22,
    Ap 22 1 3,
    rq 23 (cf 44 #[(tp 20),(tp 21),(tp 22)] #[50,22,3]) 75,
    rq 9 (.alloc 75) 0,
    rn (.store 75 (tp 9) (tp 23)) 0])
   (.seq (.seq (.reg [] [
     Ce 24 9 75,
     rq 25 (.binOp .neq 75 (tp 24) (.const (.int .u16 0)) 75) 4,
     Ap 26 25 4,
     DD 27 0 22 26 true,
     rg 28 (.makeFunc (.func 48) #[] #[(tp 9)]) 79 26 true,
     rg 29 (cf 47 #[(tp 27),(tp 28)] #[22,79]) 4 26 true,
     rg 30 (.unOp .not 4 (tp 29)) 4 26 true,
     rq 31 (.pick (tp 26) (tp 30) (kb false)) 4])
   (.cond (tp 31) (.exit 0)
   (.skip)))
   (.reg [] [
     Ap 32 1 3,
     FB 33 32,
     AQ 1 33 3])))))))
 (.seq (.seq (.reg [] [
   Ap 34 1 3,Ce 35 2 50,rq 36 (.nilCheck (tp 35)) 0,DR 37 54 36 0,DR 38 24 37 3,Ce 39 38 22,EN 40 39 22,rq 41 (.binOp .eql 3 (tp 34) (tp 40) 3) 4])
 (.cond (tp 41) (.seq (.reg [] [
   Ap 42 0 22,
   rq 43 (cf 50 #[(tp 42)] #[22]) 82,
   rq 44 (cf 49 #[(tp 43)] #[82]) 22,
   AQ 10 44 22])
  (.seq (.seq (.reg [] [
    Ap 45 10 22,
    EN 46 45 22,
    Ce 47 4 3,
    rq 48 (.binOp .lss 3 (tp 46) (tp 47) 3) 4,
    Ap 49 48 4,
    DD 50 10 22 49 false,
    rg 51 (cb .len #[(tp 50)] #[22]) 3 49 false,
    rg 52 (.load 3 (tp 4)) 3 49 false,
    rg 53 (.binOp .eql 3 (tp 51) (tp 52) 3) 4 49 false,
    DD 54 53 4 49 false,
    DD 55 10 22 54 true,
    rg 56 (.load 22 (tp 5)) 22 54 true,
    rg 57 (cf 27 #[(tp 55),(tp 56)] #[22,22]) 3 54 true,
    rg 58 (.binOp .lss 3 (tp 57) (ki 0) 3) 4 54 true,
    rg 59 (.pick (tp 54) (tp 58) (kb false)) 4 49 false,
    rq 60 (.pick (tp 49) (kb true) (tp 59)) 4])
  (.cond (tp 60) (.reg [] [
    Ap 61 10 22,
    Ap 62 10 22,
    EN 63 62 22,
    rn (.store 22 (tp 5) (tp 61)) 0,
    rn (.store 3 (tp 4) (tp 63)) 0])
  (.skip)))
  (.ret)))
 (.skip)))
 (.seq (.seq (.reg [] [
   Ap 64 0 22,EN 65 64 22,Ce 66 4 3,rq 67 (.binOp .eql 3 (tp 65) (tp 66) 3) 4])
 (.cond (tp 67) (.ret)
 (.skip)))
 (.seq (.reg [] [
   Ce 68 2 50,Ce 69 3 22,Ap 70 1 3,rq 71 (cf 44 #[(tp 68),(tp 69),(tp 70)] #[50,22,3]) 75,AQ 11 71 75])
 (.block 2 (.loop (.seq (.seq (.reg [] [
   Ap 72 11 75,
   rq 73 (.binOp .neq 75 (tp 72) (.const (.int .u16 0)) 75) 4])
   (.cond (tp 73) (.skip)
   (.exit 2)))
   (.seq (.block 3 (.reg [0, 1, 3, 7, 8, 2, 4, 5, 6, 9] [
     Ce 78 6 77,
     Ap 79 0 22,
     Ap 81 11 75,
     Ap 85 1 3,
     FB 86 85,
     ⟨(some 80),cf 51 #[(tp 79)] #[22],22,none,[(tp 6)]⟩,
     ⟨(some 82),cf 52 #[(tp 81)] #[75],3,none,[(tp 6)]⟩,
     rq 83 (.buildSlice 22 1 #[(0,(tp 82))]) 22,
     ⟨(some 84),cb .append #[(tp 80),(tp 83)] #[22,22],22,none,[(tp 6)]⟩,
     rq 87 (.call ⟨.value (tp 78),#[(tp 84),(tp 86)],#[22,3]⟩) 0]))
   (.reg [] [
     Ap 74 11 75,
     Ap 75 11 75,
     rq 76 (.binOp .sub 75 (tp 75) (.const (.int .u16 1)) 75) 75,
     rq 77 (.binOp .and 75 (tp 74) (tp 76) 75) 75,
     AQ 11 77 75]))))))))
def c47:RC:=
 .seq (.reg [] [
  rq 4 (.assign (kb false)) 4])
 (.seq (.reg [] [
   Ap 5 0 22,Ap 6 1 79,rq 7 (cf 64 #[(tp 5),(tp 6)] #[22,79]) 3,rq 8 (.binOp .geq 3 (tp 7) (ki 0) 3) 4,AQ 4 8 4])
 (.ret))
def c48:RC:=
 .seq (.reg [] [
  rq 3 (.assign (kb false)) 4])
 (.seq (.reg [] [
   Ce 4 1 75,Ap 5 0 3,rq 6 (.binOp .shr 75 (tp 4) (tp 5) 3) 75,rq 7 (.binOp .and 75 (tp 6) (.const (.int .u16 1)) 75) 75,rq 8 (.binOp .eql 75 (tp 7) (.const (.int .u16 1)) 75) 4,AQ 3 8 4])
 (.ret))
def c49:RC:=
 .seq (.reg [] [
  rq 2 (.assign (.const (.slice none 0 0))) 22])
 (.seq (.reg [] [
   Ap 4 0 82,rq 5 (cf 65 #[(tp 4)] #[82]) 22,AQ 3 5 22])
 (.seq (.reg [] [
   Ap 6 3 22,rq 7 (cf 66 #[(tp 6)] #[22]) 0])
 (.seq (.reg [] [
   Ap 8 3 22,AQ 2 8 22])
 (.ret))))
def c50:RC:=
 .seq (.reg [] [
  rq 1 (.box 22 (tp 0)) 0,rq 2 (.assign (.const .nilFunc)) 82])
 (.seq (.reg [] [
   rq 3 (.makeFunc (.func 67) #[] #[(tp 1)]) 81,AQ 2 3 82])
 (.ret))
def c51:RC:=
 .seq (.reg [] [
  rq 2 (.assign (.const (.slice none 0 0))) 22])
 (.seq (.reg [] [
   Ap 3 0 22,Ap 4 0 22,EN 5 4 22,Ap 6 0 22,EN 7 6 22,rq 8 (.slice 22 (tp 3) none (some (tp 5)) (some (tp 7))) 22,AQ 2 8 22])
 (.ret))
def c52:RC:=
 .seq (.reg [] [
  Cz 2 0 3])
 (.seq (.seq (.reg [] [
   Ap 3 0 75,rq 4 (.binOp .eql 75 (tp 3) (.const (.int .u16 0)) 75) 4])
 (.cond (tp 4) (.seq (.reg [] [
   Cz 2 16 3])
  (.ret))
 (.skip)))
 (.seq (.reg [] [
   Ap 5 0 75,Ap 6 0 75,rq 7 (.unOp .neg 75 (tp 6)) 75,rq 8 (.binOp .and 75 (tp 5) (tp 7) 75) 75,rq 9 (.convert 75 94 (tp 8)) 94,rq 10 (.binOp .mul 94 (tp 9) (.const (.int .u32 125613361)) 94) 94,rq 11 (.binOp .shr 94 (tp 10) (.const (.int .u64 27)) 95) 94,rq 12 (.indexAddr 93 (.global 0) (tp 11)) 0,Ce 13 12 5,rq 14 (.convert 5 3 (tp 13)) 3,AQ 2 14 3])
 (.ret)))
def c53:RC:=
 .seq (.reg [] [
  rq 2 (.box 24 (tp 0)) 0,rq 4 (.assign (.const (.slice none 0 0))) 22])
 (.seq (.reg [] [
   DR 8 24 2 0,Ce 9 8 3,DR 10 24 2 1,Ce 11 10 3,rq 12 (.binOp .mul 3 (tp 9) (tp 11) 3) 3,rq 13 (.makeSlice 22 (tp 12) (tp 12)) 22,AQ 5 13 22])
 (.seq (.seq (.reg [] [
   Ap 14 5 22,EN 15 14 22,rq 16 (.move (ki 0)) 3])
 (.block 0 (.loop (.seq (.reg [] [
   L8 17 16 15])
   (.seq (.cond (tp 17) (.skip)
   (.exit 0))
   (.seq (.block 1 (.seq (.reg [] [
     Ap 18 16 3,
     AQ 6 18 3])
    (.reg [] [
      Ap 19 5 22,
      Ap 20 6 3,
      Ap 21 6 3,
      D5 22 22 19 20,
      rn (.store 3 (tp 22) (tp 21)) 0])))
   (.reg [] [
     FB 23 16,
     Ap 16 23 3])))))))
 (.seq (.reg [] [
   Ap 24 1 3,rq 25 (cf 35 #[(tp 24)] #[3]) 64,rq 7 (.alloc 64) 0,rn (.store 64 (tp 7) (tp 25)) 0])
 (.seq (.seq (.reg [] [
   DR 26 64 7 0,Ce 27 26 3,rq 28 (.binOp .eql 3 (tp 27) (ki 2) 3) 4])
 (.cond (tp 28) (.reg [] [
   Ap 29 5 22,
   rq 30 (cf 68 #[(tp 29)] #[22]) 0])
 (.seq (.reg [] [
   DR 31 64 7 0,
   Ce 32 31 3,
   rq 33 (.move (ki 0)) 3])
  (.block 2 (.loop (.seq (.reg [] [
    rq 34 (.binOp .lss 3 (tp 33) (tp 32) 3) 4])
    (.seq (.cond (tp 34) (.skip)
    (.exit 2))
    (.seq (.block 3 (.reg [] [
      Ap 35 5 22,
      DR 36 24 2 0,
      Ce 37 36 3,
      rq 38 (cf 69 #[(tp 35),(tp 37)] #[22,3]) 22,
      AQ 5 38 22]))
    (.reg [] [
      FB 39 33,
      Ap 33 39 3])))))))))
 (.seq (.seq (.reg [] [
   DR 40 64 7 1,Ce 41 40 4])
 (.cond (tp 41) (.reg [] [
   Ap 42 5 22,
   DR 43 24 2 1,
   Ce 44 43 3,
   rq 45 (cf 70 #[(tp 42),(tp 44)] #[22,3]) 22,
   AQ 5 45 22])
 (.skip)))
 (.seq (.reg [] [
   Ap 46 5 22,AQ 4 46 22])
 (.ret)))))))
def c54:RC:=SA
def c55:RC:=WW
def c56:RC:=SB
def c57:RC:=SE
def c58:RC:=SF
def c59:RC:=Ph
def c60:RC:=
 .seq (.reg [] [
  Cz 9 0 3])
 (.seq (.seq (.reg [] [
   Ap 14 0 3,rq 15 (.binOp .eql 3 (tp 14) (ki 17) 3) 4])
 (.cond (tp 15) (.seq (.seq (.reg [] [
   Ap 16 1 3,
   rq 17 (.binOp .gtr 3 (tp 16) (ki 0) 3) 4])
  (.cond (tp 17) (.seq (.reg [] [
    Cz 9 0 3])
   (.ret))
  (.skip)))
  (.seq (.reg [0, 1, 2, 3, 4, 5, 6] [
    Ap 18 2 3,
    Ce 19 3 70,
    Ce 20 4 22,
    rq 21 (.slice 22 (tp 20) (some (ki 1)) none none) 22,
    rq 22 (cf 39 #[(tp 19),(tp 21)] #[70,22]) 3,
    rq 23 (.binOp .mul 3 (tp 18) (tp 22) 3) 3,
    AQ 9 23 3])
  (.ret)))
 (.skip)))
 (.seq (.reg [0, 1, 2, 3, 4] [
   Ap 24 0 3,D5 25 70 3 24,Ce 26 25 3,Cz 10 0 3,AQ 11 26 3])
 (.seq (.seq (.reg [] [
   Cz 12 0 3,Cz 13 1 3])
 (.block 0 (.loop (.seq (.seq (.reg [] [
   Ap 27 12 3,
   Ap 28 11 3,
   rq 29 (.binOp .leq 3 (tp 27) (tp 28) 3) 4,
   Ap 30 29 4,
   DD 31 12 3 30 true,
   DD 32 0 3 30 true,
   rg 33 (.binOp .mul 3 (tp 31) (tp 32) 3) 3 30 true,
   DD 34 1 3 30 true,
   rg 35 (.binOp .leq 3 (tp 33) (tp 34) 3) 4 30 true,
   rq 36 (.pick (tp 30) (tp 35) (kb false)) 4])
   (.cond (tp 36) (.skip)
   (.exit 0)))
   (.seq (.block 1 (.seq (.reg [] [
     Ap 39 0 3,
     Ap 40 11 3,
     Ap 41 12 3,
     rq 42 (.binOp .sub 3 (tp 40) (tp 41) 3) 3,
     D5 43 70 3 39,
     rn (.store 3 (tp 43) (tp 42)) 0])
    (.seq (.reg [] [
      Ap 44 10 3,
      Ce 45 5 88,
      Ap 46 0 3,
      FB 47 46,
      Ap 48 1 3,
      Ap 49 12 3,
      Ap 50 0 3,
      rq 51 (.binOp .mul 3 (tp 49) (tp 50) 3) 3,
      rq 52 (.binOp .sub 3 (tp 48) (tp 51) 3) 3,
      Ap 53 2 3,
      Ap 54 13 3,
      rq 55 (.binOp .mul 3 (tp 53) (tp 54) 3) 3,
      rq 56 (.call ⟨.value (tp 45),#[(tp 47),(tp 52),(tp 55)],#[3,3,3]⟩) 3,
      rq 57 (.binOp .add 3 (tp 44) (tp 56) 3) 3,
      AQ 10 57 3])
    (.reg [] [
      Ap 58 13 3,
      Ap 59 11 3,
      Ap 60 12 3,
      rq 61 (.binOp .sub 3 (tp 59) (tp 60) 3) 3,
      rq 62 (.binOp .mul 3 (tp 58) (tp 61) 3) 3,
      Ap 63 12 3,
      FB 64 63,
      rq 65 (.binOp .quo 3 (tp 62) (tp 64) 3) 3,
      AQ 13 65 3]))))
   (.reg [] [
     Ap 37 12 3,
     FB 38 37,
     AQ 12 38 3]))))))
 (.seq (.reg [] [
   Ap 66 0 3,Ap 67 11 3,D5 68 70 3 66,rn (.store 3 (tp 68) (tp 67)) 0])
 (.seq (.reg [] [
   Ap 69 10 3,AQ 9 69 3])
 (.ret))))))
def c61:RC:=
 .seq (.reg [] [
  Cz 4 0 28])
 (.seq (.block 0 (.seq (.reg [0, 1, 2, 3, 4, 5, 6, 7, 8, 9, 10, 11, 12, 13, 14] [
   Ap 6 1 22,
   EN 7 6 22,
   Ap 8 0 50,
   rq 9 (.nilCheck (tp 8)) 0,
   DR 10 54 9 0,
   DR 11 24 10 0,
   Ce 12 11 3,
   Ap 13 0 50,
   rq 14 (.nilCheck (tp 13)) 0,
   DR 15 54 14 0,
   DR 16 24 15 1,
   Ce 17 16 3,
   rq 18 (.binOp .mul 3 (tp 12) (tp 17) 3) 3,
   rq 19 (.binOp .neq 3 (tp 7) (tp 18) 3) 4,
   AQ 5 19 4])
  (.cond (tp 5) (.seq (.reg [] [
    Cz 4 5 28])
   (.ret))
  (.seq (.reg [0, 1, 2, 3, 4, 6, 7, 8, 9, 10, 5, 11, 12, 13] [
    Ap 21 1 22,
    rq 22 (cf 73 #[(tp 21)] #[22]) 3,
    rq 23 (.binOp .lss 3 (tp 22) (ki 0) 3) 4,
    Ap 24 23 4,
    DD 25 1 22 24 false,
    DD 27 0 50 24 false,
    rg 28 (.nilCheck (tp 27)) 0 24 false,
    rg 29 (.fieldAddr 54 (tp 28) 0) 0 24 false,
    rg 30 (.fieldAddr 24 (tp 29) 2) 0 24 false,
    rg 31 (.load 3 (tp 30)) 3 24 false,
    ⟨(some 26),cf 74 #[(tp 25)] #[22],3,(some ((some 24),false)),[(tp 30)]⟩,
    rg 32 (.binOp .geq 3 (tp 26) (tp 31) 3) 4 24 false,
    rq 33 (.pick (tp 24) (kb true) (tp 32)) 4,
    AQ 20 33 4])
   (.cond (tp 20) (.seq (.reg [] [
     Cz 4 1 28])
    (.ret))
   (.skip))))))
 (.seq (.reg [] [
   Cz 4 0 28])
 (.ret)))
def c62:RC:=
 .seq (.reg [] [
  Ap 5 0 27,EN 6 5 27,AQ 4 6 3])
 (.reg [] [
   Ap 7 0 27,Ap 8 4 3,Ap 9 4 3,rq 10 (.convert 3 95 (tp 9)) 95,rq 11 (cf 76 #[(tp 10)] #[95]) 3,Ap 12 1 56,rq 13 (cf 75 #[(tp 7),(ki 0),(tp 8),(tp 11),(tp 12)] #[27,3,3,3,56]) 0])
def c63:RC:=
 .seq (.reg [] [
  rq 4 (.assign (.const (.slice none 0 0))) 27])
 (.seq (.seq (.reg [] [
   Ap 8 0 27,EN 9 8 27,rq 10 (.binOp .lss 3 (tp 9) (ki 2) 3) 4])
 (.cond (tp 10) (.seq (.reg [] [
   Ap 11 0 27,
   AQ 4 11 27])
  (.ret))
 (.skip)))
 (.seq (.seq (.reg [] [
   Cz 5 1 3])
 (.block 0 (.loop (.seq (.seq (.reg [] [
   Ap 12 5 3,
   Ap 13 0 27,
   EN 14 13 27,
   rq 15 (.binOp .lss 3 (tp 12) (tp 14) 3) 4])
   (.cond (tp 15) (.skip)
   (.exit 0)))
   (.seq (.block 1 (.seq (.reg [0, 1, 2, 3, 4, 5, 6, 7, 8, 9, 10] [
     Ap 18 1 47,
     Ap 19 0 27,
     Ap 20 5 3,
     D5 21 27 19 20,
     Ce 22 21 22,
     Ap 23 0 27,
     Ap 24 5 3,
     rq 25 (.binOp .sub 3 (tp 24) (ki 1) 3) 3,
     D5 26 27 23 25,
     Ce 27 26 22,
     rq 28 (.call ⟨.value (tp 18),#[(tp 22),(tp 27)],#[22,22]⟩) 4])
    (.cond (tp 28) (.seq (.reg [] [
      Ap 29 0 27,
      Ap 30 5 3,
      rq 31 (.slice 27 (tp 29) (some (tp 30)) none none) 27,
      AQ 6 31 27])
     (.seq (.seq (.reg [] [
       Cz 7 1 3])
     (.block 2 (.loop (.seq (.seq (.reg [] [
       Ap 32 7 3,
       Ap 33 6 27,
       EN 34 33 27,
       rq 35 (.binOp .lss 3 (tp 32) (tp 34) 3) 4])
       (.cond (tp 35) (.skip)
       (.exit 2)))
       (.seq (.block 3 (.seq (.reg [0, 1, 2, 3, 4, 5, 6, 7, 8, 9, 10, 11] [
         Ap 38 1 47,
         Ap 39 6 27,
         Ap 40 7 3,
         D5 41 27 39 40,
         Ce 42 41 22,
         Ap 43 6 27,
         Ap 44 7 3,
         rq 45 (.binOp .sub 3 (tp 44) (ki 1) 3) 3,
         D5 46 27 43 45,
         Ce 47 46 22,
         rq 48 (.call ⟨.value (tp 38),#[(tp 42),(tp 47)],#[22,22]⟩) 4,
         rq 49 (.unOp .not 4 (tp 48)) 4])
        (.cond (tp 49) (.seq (.reg [] [
          Ap 50 0 27,
          Ap 51 5 3,
          Ap 52 6 27,
          Ap 53 7 3,
          D5 54 27 52 53,
          Ce 55 54 22,
          D5 56 27 50 51,
          rn (.store 22 (tp 56) (tp 55)) 0])
         (.reg [] [
           Ap 57 5 3,
           FB 58 57,
           AQ 5 58 3]))
        (.skip))))
       (.reg [] [
         Ap 36 7 3,
         FB 37 36,
         AQ 7 37 3]))))))
     (.seq (.reg [] [
       Ap 59 0 27,
       Ap 60 5 3,
       rq 61 (.slice 27 (tp 59) (some (tp 60)) none none) 27,
       rn (cb .clear #[(tp 61)] #[27]) 0])
     (.seq (.reg [] [
       Ap 62 0 27,
       Ap 63 5 3,
       rq 64 (.slice 27 (tp 62) none (some (tp 63)) none) 27,
       AQ 4 64 27])
     (.ret)))))
    (.skip))))
   (.reg [] [
     Ap 16 5 3,
     FB 17 16,
     AQ 5 17 3]))))))
 (.seq (.reg [] [
   Ap 65 0 27,AQ 4 65 27])
 (.ret))))
def c64:RC:=
 .seq (.reg [] [
  Cz 4 0 3])
 (.seq (.seq (.reg [] [
   Ap 6 0 22,EN 7 6 22,rq 8 (.move (ki 0)) 3])
 (.block 0 (.loop (.seq (.reg [] [
   L8 9 8 7])
   (.seq (.cond (tp 9) (.skip)
   (.exit 0))
   (.seq (.block 1 (.seq (.reg [] [
     Ap 10 8 3,
     AQ 5 10 3])
    (.seq (.reg [] [
      Ap 11 1 79,
      Ap 12 0 22,
      Ap 13 5 3,
      D5 14 22 12 13,
      Ce 15 14 3,
      rq 16 (.call ⟨.value (tp 11),#[(tp 15)],#[3]⟩) 4])
    (.cond (tp 16) (.seq (.reg [] [
      Ap 17 5 3,
      AQ 4 17 3])
     (.ret))
    (.skip)))))
   (.reg [] [
     FB 18 8,
     Ap 8 18 3])))))))
 (.seq (.reg [] [
   rq 4 (.assign (ki (-1))) 3])
 (.ret)))
def c65:RC:=
 .seq (.reg [] [
  rq 2 (.assign (.const (.slice none 0 0))) 22])
 (.seq (.reg [] [
   Ap 3 0 82,rq 4 (cf 77 #[(.const (.slice none 0 0)),(tp 3)] #[22,82]) 22,AQ 2 4 22])
 (.ret))
def c66:RC:=
 .seq (.reg [] [
  Ap 3 0 22,EN 4 3 22,AQ 2 4 3])
 (.reg [] [
   Ap 5 0 22,Ap 6 2 3,Ap 7 2 3,rq 8 (.convert 3 95 (tp 7)) 95,rq 9 (cf 76 #[(tp 8)] #[95]) 3,rq 10 (cf 78 #[(tp 5),(ki 0),(tp 6),(tp 9)] #[22,3,3,3]) 0])
def c67:RC:=
 .seq (.reg [] [
  Ce 5 1 22,EN 6 5 22,rq 7 (.move (ki 0)) 3])
 (.block 0 (.loop (.seq (.reg [] [
   L8 8 7 6])
   (.seq (.cond (tp 8) (.skip)
   (.exit 0))
   (.seq (.block 1 (.seq (.reg [] [
     D5 9 22 5 7,
     Ce 10 9 3,
     AQ 4 10 3])
    (.seq (.reg [] [
      Ap 11 0 79,
      Ap 12 4 3,
      rq 13 (.call ⟨.value (tp 11),#[(tp 12)],#[3]⟩) 4,
      rq 14 (.unOp .not 4 (tp 13)) 4])
    (.cond (tp 14) (.ret)
    (.skip)))))
   (.reg [] [
     FB 15 7,
     Ap 7 15 3]))))))
def c68:RC:=
 .seq (.reg [] [
  Ap 4 0 22,EN 5 4 22,rq 6 (.binOp .sub 3 (tp 5) (ki 1) 3) 3,Cz 2 0 3,AQ 3 6 3])
 (.block 0 (.loop (.seq (.seq (.reg [] [
   Ap 7 2 3,
   Ap 8 3 3,
   rq 9 (.binOp .lss 3 (tp 7) (tp 8) 3) 4])
   (.cond (tp 9) (.skip)
   (.exit 0)))
   (.seq (.block 1 (.reg [0, 1, 2, 3, 4, 5, 6, 7, 8, 9, 10, 11, 12, 13, 14, 15] [
     Ap 14 0 22,
     Ap 15 2 3,
     Ap 16 0 22,
     Ap 17 3 3,
     Ap 18 0 22,
     Ap 19 3 3,
     D5 20 22 18 19,
     Ce 21 20 3,
     Ap 22 0 22,
     Ap 23 2 3,
     D5 24 22 22 23,
     Ce 25 24 3,
     D5 26 22 14 15,
     rn (.store 3 (tp 26) (tp 21)) 0,
     D5 27 22 16 17,
     rn (.store 3 (tp 27) (tp 25)) 0]))
   (.reg [] [
     Ap 10 2 3,
     FB 11 10,
     Ap 12 3 3,
     rq 13 (.binOp .sub 3 (tp 12) (ki 1) 3) 3,
     AQ 2 11 3,
     AQ 3 13 3])))))
def c69:RC:=
 .seq (.reg [] [
  rq 4 (.assign (.const (.slice none 0 0))) 22])
 (.seq (.reg [] [
   Ap 8 0 22,EN 9 8 22,rq 10 (.makeSlice 22 (ki 0) (tp 9)) 22,AQ 5 10 22])
 (.seq (.seq (.reg [] [
   Ap 11 1 3,rq 12 (.move (ki 0)) 3])
 (.block 0 (.loop (.seq (.reg [] [
   rq 13 (.binOp .lss 3 (tp 12) (tp 11) 3) 4])
   (.seq (.cond (tp 13) (.skip)
   (.exit 0))
   (.seq (.block 1 (.seq (.reg [] [
     Ap 14 12 3,
     AQ 6 14 3])
    (.seq (.reg [] [
      Ap 15 1 3,
      rq 16 (.binOp .sub 3 (tp 15) (ki 1) 3) 3,
      AQ 7 16 3])
    (.block 2 (.loop (.seq (.seq (.reg [] [
      Ap 17 7 3,
      rq 18 (.binOp .geq 3 (tp 17) (ki 0) 3) 4])
      (.cond (tp 18) (.skip)
      (.exit 2)))
      (.seq (.block 3 (.reg [] [
        Ap 21 5 22,
        Ap 22 0 22,
        Ap 23 7 3,
        Ap 24 1 3,
        rq 25 (.binOp .mul 3 (tp 23) (tp 24) 3) 3,
        Ap 26 6 3,
        rq 27 (.binOp .add 3 (tp 25) (tp 26) 3) 3,
        D5 28 22 22 27,
        Ce 29 28 3,
        rq 30 (.buildSlice 22 1 #[(0,(tp 29))]) 22,
        rq 31 (cb .append #[(tp 21),(tp 30)] #[22,22]) 22,
        AQ 5 31 22]))
      (.reg [] [
        Ap 19 7 3,
        rq 20 (.binOp .sub 3 (tp 19) (ki 1) 3) 3,
        AQ 7 20 3]))))))))
   (.reg [] [
     FB 32 12,
     Ap 12 32 3])))))))
 (.seq (.reg [] [
   Ap 33 5 22,AQ 4 33 22])
 (.ret))))
def c71:RC:=WX
def c72:RC:=WY
def c73:RC:=
 .seq (.reg [] [
  Cz 2 0 3])
 (.seq (.seq (.reg [] [
   Ap 5 0 22,EN 6 5 22,rq 7 (.binOp .lss 3 (tp 6) (ki 1) 3) 4])
 (.cond (tp 7) (.reg [] [
   rq 8 (.makeInterface 9 (.const (.string ⟨#[115,108,105,99,101,115,46,77,105,110,58,32,101,109,112,116,121,32,108,105,115,116]⟩))) 20,
   rn (.panic (tp 8)) 0])
 (.skip)))
 (.seq (.reg [] [
   Ap 9 0 22,rq 10 (.indexAddr 22 (tp 9) (ki 0)) 0,Ce 11 10 3,AQ 3 11 3])
 (.seq (.seq (.reg [] [
   Cz 4 1 3])
 (.block 0 (.loop (.seq (.seq (.reg [] [
   Ap 12 4 3,
   Ap 13 0 22,
   EN 14 13 22,
   rq 15 (.binOp .lss 3 (tp 12) (tp 14) 3) 4])
   (.cond (tp 15) (.skip)
   (.exit 0)))
   (.seq (.block 1 (.reg [] [
     Ap 18 3 3,
     Ap 19 0 22,
     Ap 20 4 3,
     D5 21 22 19 20,
     Ce 22 21 3,
     rq 23 (cb .min #[(tp 18),(tp 22)] #[3,3]) 3,
     AQ 3 23 3]))
   (.reg [] [
     Ap 16 4 3,
     FB 17 16,
     AQ 4 17 3]))))))
 (.seq (.reg [] [
   Ap 24 3 3,AQ 2 24 3])
 (.ret)))))
def c74:RC:=
 .seq (.reg [] [
  Cz 2 0 3])
 (.seq (.seq (.reg [] [
   Ap 5 0 22,EN 6 5 22,rq 7 (.binOp .lss 3 (tp 6) (ki 1) 3) 4])
 (.cond (tp 7) (.reg [] [
   rq 8 (.makeInterface 9 (.const (.string ⟨#[115,108,105,99,101,115,46,77,97,120,58,32,101,109,112,116,121,32,108,105,115,116]⟩))) 20,
   rn (.panic (tp 8)) 0])
 (.skip)))
 (.seq (.reg [] [
   Ap 9 0 22,rq 10 (.indexAddr 22 (tp 9) (ki 0)) 0,Ce 11 10 3,AQ 3 11 3])
 (.seq (.seq (.reg [] [
   Cz 4 1 3])
 (.block 0 (.loop (.seq (.seq (.reg [] [
   Ap 12 4 3,
   Ap 13 0 22,
   EN 14 13 22,
   rq 15 (.binOp .lss 3 (tp 12) (tp 14) 3) 4])
   (.cond (tp 15) (.skip)
   (.exit 0)))
   (.seq (.block 1 (.reg [] [
     Ap 18 3 3,
     Ap 19 0 22,
     Ap 20 4 3,
     D5 21 22 19 20,
     Ce 22 21 3,
     rq 23 (cb .max #[(tp 18),(tp 22)] #[3,3]) 3,
     AQ 3 23 3]))
   (.reg [] [
     Ap 16 4 3,
     FB 17 16,
     AQ 4 17 3]))))))
 (.seq (.reg [] [
   Ap 24 3 3,AQ 2 24 3])
 (.ret)))))
def c75:RC:=
 .seq (.reg [] [
  rq 10 (.assign (kb true)) 4])
 (.seq (.reg [] [
   rq 11 (.assign (kb true)) 4])
 (.block 0 (.loop (.block 1 (.seq (.reg [] [
   Ap 21 2 3,
   Ap 22 1 3,
   rq 23 (.binOp .sub 3 (tp 21) (tp 22) 3) 3,
   AQ 12 23 3])
   (.seq (.seq (.reg [] [
     Ap 24 12 3,
     rq 25 (.binOp .leq 3 (tp 24) (ki 12) 3) 4])
   (.cond (tp 25) (.seq (.reg [] [
     Ap 26 0 27,
     Ap 27 1 3,
     Ap 28 2 3,
     Ap 29 4 56,
     rq 30 (cf 81 #[(tp 26),(tp 27),(tp 28),(tp 29)] #[27,3,3,56]) 0])
    (.ret))
   (.skip)))
   (.seq (.seq (.reg [] [
     Ap 31 3 3,
     rq 32 (.binOp .eql 3 (tp 31) (ki 0) 3) 4])
   (.cond (tp 32) (.seq (.reg [] [
     Ap 33 0 27,
     Ap 34 1 3,
     Ap 35 2 3,
     Ap 36 4 56,
     rq 37 (cf 82 #[(tp 33),(tp 34),(tp 35),(tp 36)] #[27,3,3,56]) 0])
    (.ret))
   (.skip)))
   (.seq (.seq (.reg [] [
     Ap 38 10 4,
     rq 39 (.unOp .not 4 (tp 38)) 4])
   (.cond (tp 39) (.seq (.reg [] [
     Ap 40 0 27,
     Ap 41 1 3,
     Ap 42 2 3,
     Ap 43 4 56,
     rq 44 (cf 83 #[(tp 40),(tp 41),(tp 42),(tp 43)] #[27,3,3,56]) 0])
    (.reg [] [
      Ap 45 3 3,
      rq 46 (.binOp .sub 3 (tp 45) (ki 1) 3) 3,
      AQ 3 46 3]))
   (.skip)))
   (.seq (.reg [] [
     Ap 48 0 27,
     Ap 49 1 3,
     Ap 50 2 3,
     Ap 51 4 56,
     rq 52 (cf 84 #[(tp 48),(tp 49),(tp 50),(tp 51)] #[27,3,3,56]) 109,
     Ap 47 52 109,
     EM 53 47 0 3,
     EM 54 47 1 108,
     AQ 13 53 3,
     AQ 14 54 108])
   (.seq (.seq (.reg [] [
     Ap 55 14 108,
     rq 56 (.binOp .eql 108 (tp 55) (ki 2) 108) 4])
   (.cond (tp 56) (.seq (.reg [] [
     Ap 57 0 27,
     Ap 58 1 3,
     Ap 59 2 3,
     Ap 60 4 56,
     rq 61 (cf 85 #[(tp 57),(tp 58),(tp 59),(tp 60)] #[27,3,3,56]) 0])
    (.seq (.reg [] [
      Ap 62 2 3,
      rq 63 (.binOp .sub 3 (tp 62) (ki 1) 3) 3,
      Ap 64 13 3,
      Ap 65 1 3,
      rq 66 (.binOp .sub 3 (tp 64) (tp 65) 3) 3,
      rq 67 (.binOp .sub 3 (tp 63) (tp 66) 3) 3,
      AQ 13 67 3])
    (.reg [] [
      Cz 14 1 108])))
   (.skip)))
   (.seq (.seq (.reg [] [
     Ap 68 10 4,
     Ap 69 68 4,
     DD 70 11 4 69 true,
     rq 71 (.pick (tp 69) (tp 70) (kb false)) 4,
     Ap 72 71 4,
     DD 73 14 108 72 true,
     rg 74 (.binOp .eql 108 (tp 73) (ki 1) 108) 4 72 true,
     rq 75 (.pick (tp 72) (tp 74) (kb false)) 4])
   (.cond (tp 75) (.seq (.reg [] [
     Ap 76 0 27,
     Ap 77 1 3,
     Ap 78 2 3,
     Ap 79 4 56,
     rq 80 (cf 86 #[(tp 76),(tp 77),(tp 78),(tp 79)] #[27,3,3,56]) 4])
    (.cond (tp 80) (.ret)
    (.skip)))
   (.skip)))
   (.seq (.seq (.reg [0, 1, 2, 3, 4, 5, 6, 7, 8, 9, 10, 11, 12, 13, 14, 15, 16] [
     Ap 81 1 3,
     rq 82 (.binOp .gtr 3 (tp 81) (ki 0) 3) 4,
     Ap 83 82 4,
     DD 84 4 56 83 true,
     DD 85 0 27 83 true,
     DD 86 1 3 83 true,
     rg 87 (.binOp .sub 3 (tp 86) (ki 1) 3) 3 83 true,
     rg 88 (.indexAddr 27 (tp 85) (tp 87)) 0 83 true,
     rg 89 (.load 22 (tp 88)) 22 83 true,
     DD 90 0 27 83 true,
     DD 91 13 3 83 true,
     rg 92 (.indexAddr 27 (tp 90) (tp 91)) 0 83 true,
     rg 93 (.load 22 (tp 92)) 22 83 true,
     rg 94 (.call ⟨.value (tp 84),#[(tp 89),(tp 93)],#[22,22]⟩) 3 83 true,
     rg 95 (.binOp .lss 3 (tp 94) (ki 0) 3) 4 83 true,
     rg 96 (.unOp .not 4 (tp 95)) 4 83 true,
     rq 97 (.pick (tp 83) (tp 96) (kb false)) 4])
   (.cond (tp 97) (.seq (.reg [] [
     Ap 98 0 27,
     Ap 99 1 3,
     Ap 100 2 3,
     Ap 101 13 3,
     Ap 102 4 56,
     rq 103 (cf 87 #[(tp 98),(tp 99),(tp 100),(tp 101),(tp 102)] #[27,3,3,3,56]) 3,
     AQ 15 103 3])
    (.seq (.reg [] [
      Ap 104 15 3,
      AQ 1 104 3])
    (.exit 1)))
   (.skip)))
   (.seq (.reg [] [
     Ap 106 0 27,
     Ap 107 1 3,
     Ap 108 2 3,
     Ap 109 13 3,
     Ap 110 4 56,
     rq 111 (cf 88 #[(tp 106),(tp 107),(tp 108),(tp 109),(tp 110)] #[27,3,3,3,56]) 113,
     Ap 105 111 113,
     EM 112 105 0 3,
     EM 113 105 1 4,
     AQ 16 112 3,
     AQ 17 113 4])
   (.seq (.reg [] [
     Ap 114 17 4,
     AQ 11 114 4])
   (.seq (.reg [] [
     Ap 115 16 3,
     Ap 116 1 3,
     rq 117 (.binOp .sub 3 (tp 115) (tp 116) 3) 3,
     Ap 118 2 3,
     Ap 119 16 3,
     rq 120 (.binOp .sub 3 (tp 118) (tp 119) 3) 3,
     AQ 18 117 3,
     AQ 19 120 3])
   (.seq (.reg [] [
     Ap 121 12 3,
     rq 122 (.binOp .quo 3 (tp 121) (ki 8) 3) 3,
     AQ 20 122 3])
   (.seq (.reg [] [
     Ap 123 18 3,
     Ap 124 19 3,
     rq 125 (.binOp .lss 3 (tp 123) (tp 124) 3) 4])
   (.cond (tp 125) (.seq (.reg [] [
     Ap 126 18 3,
     Ap 127 20 3,
     rq 128 (.binOp .geq 3 (tp 126) (tp 127) 3) 4,
     AQ 10 128 4])
    (.seq (.reg [] [
      Ap 129 0 27,
      Ap 130 1 3,
      Ap 131 16 3,
      Ap 132 3 3,
      Ap 133 4 56,
      rq 134 (cf 75 #[(tp 129),(tp 130),(tp 131),(tp 132),(tp 133)] #[27,3,3,3,56]) 0])
    (.reg [] [
      Ap 135 16 3,
      FB 136 135,
      AQ 1 136 3])))
   (.seq (.reg [] [
     Ap 137 19 3,
     Ap 138 20 3,
     rq 139 (.binOp .geq 3 (tp 137) (tp 138) 3) 4,
     AQ 10 139 4])
    (.seq (.reg [] [
      Ap 140 0 27,
      Ap 141 16 3,
      FB 142 141,
      Ap 143 2 3,
      Ap 144 3 3,
      Ap 145 4 56,
      rq 146 (cf 75 #[(tp 140),(tp 142),(tp 143),(tp 144),(tp 145)] #[27,3,3,3,56]) 0])
    (.reg [] [
      Ap 147 16 3,
      AQ 2 147 3])))))))))))))))))))))
def c76:RC:=
 .seq (.reg [] [
  Cz 2 0 3])
 (.seq (.cond (kb false) (.seq (.reg [] [
   Ap 3 0 95,
   rq 4 (.convert 95 94 (tp 3)) 94,
   rq 5 (cf 89 #[(tp 4)] #[94]) 3,
   AQ 2 5 3])
  (.ret))
 (.skip))
 (.seq (.reg [] [
   Ap 6 0 95,rq 7 (cf 90 #[(tp 6)] #[117]) 3,AQ 2 7 3])
 (.ret)))
def c78:RC:=
 .seq (.reg [] [
  rq 8 (.assign (kb true)) 4])
 (.seq (.reg [] [
   rq 9 (.assign (kb true)) 4])
 (.block 0 (.loop (.block 1 (.seq (.reg [] [
   Ap 19 2 3,
   Ap 20 1 3,
   rq 21 (.binOp .sub 3 (tp 19) (tp 20) 3) 3,
   AQ 10 21 3])
   (.seq (.seq (.reg [] [
     Ap 22 10 3,
     rq 23 (.binOp .leq 3 (tp 22) (ki 12) 3) 4])
   (.cond (tp 23) (.seq (.reg [] [
     Ap 24 0 22,
     Ap 25 1 3,
     Ap 26 2 3,
     rq 27 (cf 91 #[(tp 24),(tp 25),(tp 26)] #[22,3,3]) 0])
    (.ret))
   (.skip)))
   (.seq (.seq (.reg [] [
     Ap 28 3 3,
     rq 29 (.binOp .eql 3 (tp 28) (ki 0) 3) 4])
   (.cond (tp 29) (.seq (.reg [] [
     Ap 30 0 22,
     Ap 31 1 3,
     Ap 32 2 3,
     rq 33 (cf 92 #[(tp 30),(tp 31),(tp 32)] #[22,3,3]) 0])
    (.ret))
   (.skip)))
   (.seq (.seq (.reg [] [
     Ap 34 8 4,
     rq 35 (.unOp .not 4 (tp 34)) 4])
   (.cond (tp 35) (.seq (.reg [] [
     Ap 36 0 22,
     Ap 37 1 3,
     Ap 38 2 3,
     rq 39 (cf 93 #[(tp 36),(tp 37),(tp 38)] #[22,3,3]) 0])
    (.reg [] [
      Ap 40 3 3,
      rq 41 (.binOp .sub 3 (tp 40) (ki 1) 3) 3,
      AQ 3 41 3]))
   (.skip)))
   (.seq (.reg [] [
     Ap 43 0 22,
     Ap 44 1 3,
     Ap 45 2 3,
     rq 46 (cf 94 #[(tp 43),(tp 44),(tp 45)] #[22,3,3]) 109,
     Ap 42 46 109,
     EM 47 42 0 3,
     EM 48 42 1 108,
     AQ 11 47 3,
     AQ 12 48 108])
   (.seq (.seq (.reg [] [
     Ap 49 12 108,
     rq 50 (.binOp .eql 108 (tp 49) (ki 2) 108) 4])
   (.cond (tp 50) (.seq (.reg [] [
     Ap 51 0 22,
     Ap 52 1 3,
     Ap 53 2 3,
     rq 54 (cf 95 #[(tp 51),(tp 52),(tp 53)] #[22,3,3]) 0])
    (.seq (.reg [] [
      Ap 55 2 3,
      rq 56 (.binOp .sub 3 (tp 55) (ki 1) 3) 3,
      Ap 57 11 3,
      Ap 58 1 3,
      rq 59 (.binOp .sub 3 (tp 57) (tp 58) 3) 3,
      rq 60 (.binOp .sub 3 (tp 56) (tp 59) 3) 3,
      AQ 11 60 3])
    (.reg [] [
      Cz 12 1 108])))
   (.skip)))
   (.seq (.seq (.reg [] [
     Ap 61 8 4,
     Ap 62 61 4,
     DD 63 9 4 62 true,
     rq 64 (.pick (tp 62) (tp 63) (kb false)) 4,
     Ap 65 64 4,
     DD 66 12 108 65 true,
     rg 67 (.binOp .eql 108 (tp 66) (ki 1) 108) 4 65 true,
     rq 68 (.pick (tp 65) (tp 67) (kb false)) 4])
   (.cond (tp 68) (.seq (.reg [] [
     Ap 69 0 22,
     Ap 70 1 3,
     Ap 71 2 3,
     rq 72 (cf 96 #[(tp 69),(tp 70),(tp 71)] #[22,3,3]) 4])
    (.cond (tp 72) (.ret)
    (.skip)))
   (.skip)))
   (.seq (.seq (.reg [0, 1, 2, 3, 4, 5, 6, 7, 8, 9, 10, 11, 12, 13, 14] [
     Ap 73 1 3,
     rq 74 (.binOp .gtr 3 (tp 73) (ki 0) 3) 4,
     Ap 75 74 4,
     DD 76 0 22 75 true,
     DD 77 1 3 75 true,
     rg 78 (.binOp .sub 3 (tp 77) (ki 1) 3) 3 75 true,
     rg 79 (.indexAddr 22 (tp 76) (tp 78)) 0 75 true,
     rg 80 (.load 3 (tp 79)) 3 75 true,
     DD 81 0 22 75 true,
     DD 82 11 3 75 true,
     rg 83 (.indexAddr 22 (tp 81) (tp 82)) 0 75 true,
     rg 84 (.load 3 (tp 83)) 3 75 true,
     rg 85 (cf 97 #[(tp 80),(tp 84)] #[3,3]) 4 75 true,
     rg 86 (.unOp .not 4 (tp 85)) 4 75 true,
     rq 87 (.pick (tp 75) (tp 86) (kb false)) 4])
   (.cond (tp 87) (.seq (.reg [] [
     Ap 88 0 22,
     Ap 89 1 3,
     Ap 90 2 3,
     Ap 91 11 3,
     rq 92 (cf 98 #[(tp 88),(tp 89),(tp 90),(tp 91)] #[22,3,3,3]) 3,
     AQ 13 92 3])
    (.seq (.reg [] [
      Ap 93 13 3,
      AQ 1 93 3])
    (.exit 1)))
   (.skip)))
   (.seq (.reg [] [
     Ap 95 0 22,
     Ap 96 1 3,
     Ap 97 2 3,
     Ap 98 11 3,
     rq 99 (cf 99 #[(tp 95),(tp 96),(tp 97),(tp 98)] #[22,3,3,3]) 113,
     Ap 94 99 113,
     EM 100 94 0 3,
     EM 101 94 1 4,
     AQ 14 100 3,
     AQ 15 101 4])
   (.seq (.reg [] [
     Ap 102 15 4,
     AQ 9 102 4])
   (.seq (.reg [] [
     Ap 103 14 3,
     Ap 104 1 3,
     rq 105 (.binOp .sub 3 (tp 103) (tp 104) 3) 3,
     Ap 106 2 3,
     Ap 107 14 3,
     rq 108 (.binOp .sub 3 (tp 106) (tp 107) 3) 3,
     AQ 16 105 3,
     AQ 17 108 3])
   (.seq (.reg [] [
     Ap 109 10 3,
     rq 110 (.binOp .quo 3 (tp 109) (ki 8) 3) 3,
     AQ 18 110 3])
   (.seq (.reg [] [
     Ap 111 16 3,
     Ap 112 17 3,
     rq 113 (.binOp .lss 3 (tp 111) (tp 112) 3) 4])
   (.cond (tp 113) (.seq (.reg [] [
     Ap 114 16 3,
     Ap 115 18 3,
     rq 116 (.binOp .geq 3 (tp 114) (tp 115) 3) 4,
     AQ 8 116 4])
    (.seq (.reg [] [
      Ap 117 0 22,
      Ap 118 1 3,
      Ap 119 14 3,
      Ap 120 3 3,
      rq 121 (cf 78 #[(tp 117),(tp 118),(tp 119),(tp 120)] #[22,3,3,3]) 0])
    (.reg [] [
      Ap 122 14 3,
      FB 123 122,
      AQ 1 123 3])))
   (.seq (.reg [] [
     Ap 124 17 3,
     Ap 125 18 3,
     rq 126 (.binOp .geq 3 (tp 124) (tp 125) 3) 4,
     AQ 8 126 4])
    (.seq (.reg [] [
      Ap 127 0 22,
      Ap 128 14 3,
      FB 129 128,
      Ap 130 2 3,
      Ap 131 3 3,
      rq 132 (cf 78 #[(tp 127),(tp 129),(tp 130),(tp 131)] #[22,3,3,3]) 0])
    (.reg [] [
      Ap 133 14 3,
      AQ 2 133 3])))))))))))))))))))))
def c80:RC:=SG
def c81:RC:=
 .seq (.reg [] [
  Ap 10 1 3,FB 11 10,AQ 8 11 3])
 (.block 0 (.loop (.seq (.seq (.reg [] [
   Ap 12 8 3,
   Ap 13 2 3,
   rq 14 (.binOp .lss 3 (tp 12) (tp 13) 3) 4])
   (.cond (tp 14) (.skip)
   (.exit 0)))
   (.seq (.block 1 (.seq (.reg [] [
     Ap 17 8 3,
     AQ 9 17 3])
    (.block 2 (.loop (.seq (.seq (.reg [0, 1, 2, 3, 4, 5, 6, 7, 8, 9, 10, 11, 12, 13, 14, 15, 16] [
      Ap 18 9 3,
      Ap 19 1 3,
      rq 20 (.binOp .gtr 3 (tp 18) (tp 19) 3) 4,
      Ap 21 20 4,
      DD 22 3 56 21 true,
      DD 23 0 27 21 true,
      DD 24 9 3 21 true,
      rg 25 (.indexAddr 27 (tp 23) (tp 24)) 0 21 true,
      rg 26 (.load 22 (tp 25)) 22 21 true,
      DD 27 0 27 21 true,
      DD 28 9 3 21 true,
      rg 29 (.binOp .sub 3 (tp 28) (ki 1) 3) 3 21 true,
      rg 30 (.indexAddr 27 (tp 27) (tp 29)) 0 21 true,
      rg 31 (.load 22 (tp 30)) 22 21 true,
      rg 32 (.call ⟨.value (tp 22),#[(tp 26),(tp 31)],#[22,22]⟩) 3 21 true,
      rg 33 (.binOp .lss 3 (tp 32) (ki 0) 3) 4 21 true,
      rq 34 (.pick (tp 21) (tp 33) (kb false)) 4])
      (.cond (tp 34) (.skip)
      (.exit 2)))
      (.seq (.block 3 (.reg [0, 1, 2, 3, 4, 5, 6, 7, 8, 9, 10, 11, 12, 13, 14, 15, 16, 17] [
        Ap 37 0 27,
        Ap 38 9 3,
        Ap 39 0 27,
        Ap 40 9 3,
        rq 41 (.binOp .sub 3 (tp 40) (ki 1) 3) 3,
        Ap 42 0 27,
        Ap 43 9 3,
        rq 44 (.binOp .sub 3 (tp 43) (ki 1) 3) 3,
        D5 45 27 42 44,
        Ce 46 45 22,
        Ap 47 0 27,
        Ap 48 9 3,
        D5 49 27 47 48,
        Ce 50 49 22,
        D5 51 27 37 38,
        rn (.store 22 (tp 51) (tp 46)) 0,
        D5 52 27 39 41,
        rn (.store 22 (tp 52) (tp 50)) 0]))
      (.reg [] [
        Ap 35 9 3,
        rq 36 (.binOp .sub 3 (tp 35) (ki 1) 3) 3,
        AQ 9 36 3])))))))
   (.reg [] [
     Ap 15 8 3,
     FB 16 15,
     AQ 8 16 3])))))
def c82:RC:=
 .seq (.reg [] [
  Ap 13 1 3,AQ 8 13 3])
 (.seq (.reg [] [
   Cz 9 0 3])
 (.seq (.reg [] [
   Ap 14 2 3,Ap 15 1 3,rq 16 (.binOp .sub 3 (tp 14) (tp 15) 3) 3,AQ 10 16 3])
 (.seq (.seq (.reg [] [
   Ap 17 10 3,rq 18 (.binOp .sub 3 (tp 17) (ki 1) 3) 3,rq 19 (.binOp .quo 3 (tp 18) (ki 2) 3) 3,AQ 11 19 3])
 (.block 0 (.loop (.seq (.seq (.reg [] [
   Ap 20 11 3,
   rq 21 (.binOp .geq 3 (tp 20) (ki 0) 3) 4])
   (.cond (tp 21) (.skip)
   (.exit 0)))
   (.seq (.block 1 (.reg [] [
     Ap 24 0 27,
     Ap 25 11 3,
     Ap 26 10 3,
     Ap 27 8 3,
     Ap 28 3 56,
     rq 29 (cf 101 #[(tp 24),(tp 25),(tp 26),(tp 27),(tp 28)] #[27,3,3,3,56]) 0]))
   (.reg [] [
     Ap 22 11 3,
     rq 23 (.binOp .sub 3 (tp 22) (ki 1) 3) 3,
     AQ 11 23 3]))))))
 (.seq (.reg [] [
   Ap 30 10 3,rq 31 (.binOp .sub 3 (tp 30) (ki 1) 3) 3,AQ 12 31 3])
 (.block 2 (.loop (.seq (.seq (.reg [] [
   Ap 32 12 3,
   rq 33 (.binOp .geq 3 (tp 32) (ki 0) 3) 4])
   (.cond (tp 33) (.skip)
   (.exit 2)))
   (.seq (.block 3 (.seq (.reg [0, 1, 2, 3, 4, 5, 6, 7, 8, 9, 10, 11, 12, 13, 14, 15, 16, 17, 18, 19] [
     Ap 36 0 27,
     Ap 37 8 3,
     Ap 38 0 27,
     Ap 39 8 3,
     Ap 40 12 3,
     rq 41 (.binOp .add 3 (tp 39) (tp 40) 3) 3,
     Ap 42 0 27,
     Ap 43 8 3,
     Ap 44 12 3,
     rq 45 (.binOp .add 3 (tp 43) (tp 44) 3) 3,
     D5 46 27 42 45,
     Ce 47 46 22,
     Ap 48 0 27,
     Ap 49 8 3,
     D5 50 27 48 49,
     Ce 51 50 22,
     D5 52 27 36 37,
     rn (.store 22 (tp 52) (tp 47)) 0,
     D5 53 27 38 41,
     rn (.store 22 (tp 53) (tp 51)) 0])
    (.reg [] [
      Ap 54 0 27,
      Ap 55 9 3,
      Ap 56 12 3,
      Ap 57 8 3,
      Ap 58 3 56,
      rq 59 (cf 101 #[(tp 54),(tp 55),(tp 56),(tp 57),(tp 58)] #[27,3,3,3,56]) 0])))
   (.reg [] [
     Ap 34 12 3,
     rq 35 (.binOp .sub 3 (tp 34) (ki 1) 3) 3,
     AQ 12 35 3])))))))))
def c83:RC:=
 .seq (.reg [] [
  Ap 13 2 3,Ap 14 1 3,rq 15 (.binOp .sub 3 (tp 13) (tp 14) 3) 3,AQ 8 15 3])
 (.seq (.reg [] [
   Ap 16 8 3,rq 17 (.binOp .geq 3 (tp 16) (ki 8) 3) 4])
 (.cond (tp 17) (.seq (.reg [] [
   Ap 18 8 3,
   rq 19 (.convert 3 125 (tp 18)) 125,
   rq 9 (.alloc 125) 0,
   rn (.store 125 (tp 9) (tp 19)) 0])
  (.seq (.reg [] [
    Ap 20 8 3,
    rq 21 (cf 102 #[(tp 20)] #[3]) 95,
    AQ 10 21 95])
  (.seq (.reg [] [
    Ap 22 1 3,
    Ap 23 8 3,
    rq 24 (.binOp .quo 3 (tp 23) (ki 4) 3) 3,
    rq 25 (.binOp .mul 3 (tp 24) (ki 2) 3) 3,
    rq 26 (.binOp .add 3 (tp 22) (tp 25) 3) 3,
    rq 27 (.binOp .sub 3 (tp 26) (ki 1) 3) 3,
    AQ 11 27 3])
  (.block 0 (.loop (.seq (.seq (.reg [] [
    Ap 28 11 3,
    Ap 29 1 3,
    Ap 30 8 3,
    rq 31 (.binOp .quo 3 (tp 30) (ki 4) 3) 3,
    rq 32 (.binOp .mul 3 (tp 31) (ki 2) 3) 3,
    rq 33 (.binOp .add 3 (tp 29) (tp 32) 3) 3,
    FB 34 33,
    rq 35 (.binOp .leq 3 (tp 28) (tp 34) 3) 4])
    (.cond (tp 35) (.skip)
    (.exit 0)))
    (.seq (.block 1 (.seq (.reg [] [
      rq 38 (cf 103 #[(tp 9)] #[125]) 117,
      Ap 39 10 95,
      rq 40 (.binOp .sub 95 (tp 39) (.const (.int .u64 1)) 95) 95,
      rq 41 (.binOp .and 95 (tp 38) (tp 40) 95) 95,
      rq 42 (.convert 95 3 (tp 41)) 3,
      AQ 12 42 3])
     (.seq (.seq (.reg [] [
       Ap 43 12 3,
       Ap 44 8 3,
       rq 45 (.binOp .geq 3 (tp 43) (tp 44) 3) 4])
     (.cond (tp 45) (.reg [] [
       Ap 46 12 3,
       Ap 47 8 3,
       rq 48 (.binOp .sub 3 (tp 46) (tp 47) 3) 3,
       AQ 12 48 3])
     (.skip)))
     (.reg [0, 1, 2, 3, 4, 5, 6, 7, 8, 9, 10, 11, 12, 13, 14, 15, 16, 17, 18, 19] [
       Ap 49 0 27,
       Ap 50 11 3,
       Ap 51 0 27,
       Ap 52 1 3,
       Ap 53 12 3,
       rq 54 (.binOp .add 3 (tp 52) (tp 53) 3) 3,
       Ap 55 0 27,
       Ap 56 1 3,
       Ap 57 12 3,
       rq 58 (.binOp .add 3 (tp 56) (tp 57) 3) 3,
       D5 59 27 55 58,
       Ce 60 59 22,
       Ap 61 0 27,
       Ap 62 11 3,
       D5 63 27 61 62,
       Ce 64 63 22,
       D5 65 27 49 50,
       rn (.store 22 (tp 65) (tp 60)) 0,
       D5 66 27 51 54,
       rn (.store 22 (tp 66) (tp 64)) 0]))))
    (.reg [] [
      Ap 36 11 3,
      FB 37 36,
      AQ 11 37 3]))))))))
 (.skip)))
def c84:RC:=
 .seq (.reg [] [
  Cz 8 0 3,Cz 9 0 108])
 (.seq (.reg [] [
   Ap 15 2 3,Ap 16 1 3,rq 17 (.binOp .sub 3 (tp 15) (tp 16) 3) 3,AQ 10 17 3])
 (.seq (.reg [] [
   rq 11 (.alloc 3) 0])
 (.seq (.reg [] [
   Ap 18 1 3,Ap 19 10 3,rq 20 (.binOp .quo 3 (tp 19) (ki 4) 3) 3,rq 21 (.binOp .mul 3 (tp 20) (ki 1) 3) 3,rq 22 (.binOp .add 3 (tp 18) (tp 21) 3) 3,AQ 12 22 3])
 (.seq (.reg [] [
   Ap 23 1 3,Ap 24 10 3,rq 25 (.binOp .quo 3 (tp 24) (ki 4) 3) 3,rq 26 (.binOp .mul 3 (tp 25) (ki 2) 3) 3,rq 27 (.binOp .add 3 (tp 23) (tp 26) 3) 3,AQ 13 27 3])
 (.seq (.reg [] [
   Ap 28 1 3,Ap 29 10 3,rq 30 (.binOp .quo 3 (tp 29) (ki 4) 3) 3,rq 31 (.binOp .mul 3 (tp 30) (ki 3) 3) 3,rq 32 (.binOp .add 3 (tp 28) (tp 31) 3) 3,AQ 14 32 3])
 (.seq (.seq (.reg [] [
   Ap 33 10 3,rq 34 (.binOp .geq 3 (tp 33) (ki 8) 3) 4])
 (.cond (tp 34) (.seq (.seq (.reg [] [
   Ap 35 10 3,
   rq 36 (.binOp .geq 3 (tp 35) (ki 50) 3) 4])
  (.cond (tp 36) (.seq (.reg [] [
    Ap 37 0 27,
    Ap 38 12 3,
    Ap 39 3 56,
    rq 40 (cf 104 #[(tp 37),(tp 38),(tp 11),(tp 39)] #[27,3,129,56]) 3,
    AQ 12 40 3])
   (.seq (.reg [] [
     Ap 41 0 27,
     Ap 42 13 3,
     Ap 43 3 56,
     rq 44 (cf 104 #[(tp 41),(tp 42),(tp 11),(tp 43)] #[27,3,129,56]) 3,
     AQ 13 44 3])
   (.reg [] [
     Ap 45 0 27,
     Ap 46 14 3,
     Ap 47 3 56,
     rq 48 (cf 104 #[(tp 45),(tp 46),(tp 11),(tp 47)] #[27,3,129,56]) 3,
     AQ 14 48 3])))
  (.skip)))
  (.reg [] [
    Ap 49 0 27,
    Ap 50 12 3,
    Ap 51 13 3,
    Ap 52 14 3,
    Ap 53 3 56,
    rq 54 (cf 105 #[(tp 49),(tp 50),(tp 51),(tp 52),(tp 11),(tp 53)] #[27,3,3,3,129,56]) 3,
    AQ 13 54 3]))
 (.skip)))
 (.seq (.reg [] [
   Ce 55 11 3])
 (.block 0 (.seq (.reg [] [
   rq 58 (.binOp .eql 3 (tp 55) (ki 0) 3) 4,
   AQ 57 58 4])
  (.cond (tp 57) (.seq (.reg [] [
    Ap 59 13 3,
    AQ 8 59 3,
    Cz 9 1 108])
   (.ret))
  (.seq (.reg [] [
    rq 61 (.binOp .eql 3 (tp 55) (ki 12) 3) 4,
    AQ 60 61 4])
   (.cond (tp 60) (.seq (.reg [] [
     Ap 62 13 3,
     AQ 8 62 3,
     Cz 9 2 108])
    (.ret))
   (.seq (.reg [] [
     Ap 56 13 3,
     AQ 8 56 3,
     Cz 9 0 108])
    (.ret))))))))))))))
def c85:RC:=
 .seq (.reg [] [
  Ap 10 1 3,AQ 8 10 3])
 (.seq (.reg [] [
   Ap 11 2 3,rq 12 (.binOp .sub 3 (tp 11) (ki 1) 3) 3,AQ 9 12 3])
 (.block 0 (.loop (.seq (.seq (.reg [] [
   Ap 13 8 3,
   Ap 14 9 3,
   rq 15 (.binOp .lss 3 (tp 13) (tp 14) 3) 4])
   (.cond (tp 15) (.skip)
   (.exit 0)))
   (.block 1 (.seq (.reg [0, 1, 2, 3, 4, 5, 6, 7, 8, 9, 10, 11, 12, 13, 14, 15] [
     Ap 16 0 27,
     Ap 17 8 3,
     Ap 18 0 27,
     Ap 19 9 3,
     Ap 20 0 27,
     Ap 21 9 3,
     D5 22 27 20 21,
     Ce 23 22 22,
     Ap 24 0 27,
     Ap 25 8 3,
     D5 26 27 24 25,
     Ce 27 26 22,
     D5 28 27 16 17,
     rn (.store 22 (tp 28) (tp 23)) 0,
     D5 29 27 18 19,
     rn (.store 22 (tp 29) (tp 27)) 0])
    (.seq (.reg [] [
      Ap 30 8 3,
      FB 31 30,
      AQ 8 31 3])
    (.reg [] [
      Ap 32 9 3,
      rq 33 (.binOp .sub 3 (tp 32) (ki 1) 3) 3,
      AQ 9 33 3]))))))))
def c86:RC:=
 .seq (.reg [] [
  rq 8 (.assign (kb false)) 4])
 (.seq (.reg [] [
   Ap 13 1 3,FB 14 13,AQ 9 14 3])
 (.seq (.seq (.reg [] [
   Cz 10 0 3])
 (.block 0 (.loop (.seq (.seq (.reg [] [
   Ap 15 10 3,
   rq 16 (.binOp .lss 3 (tp 15) (ki 5) 3) 4])
   (.cond (tp 16) (.skip)
   (.exit 0)))
   (.seq (.block 1 (.seq (.block 2 (.loop (.seq (.seq (.reg [0, 1, 2, 3, 4, 5, 6, 7, 8, 9, 10, 11, 12, 13, 14, 15, 16, 17] [
     Ap 19 9 3,
     Ap 20 2 3,
     rq 21 (.binOp .lss 3 (tp 19) (tp 20) 3) 4,
     Ap 22 21 4,
     DD 23 3 56 22 true,
     DD 24 0 27 22 true,
     DD 25 9 3 22 true,
     rg 26 (.indexAddr 27 (tp 24) (tp 25)) 0 22 true,
     rg 27 (.load 22 (tp 26)) 22 22 true,
     DD 28 0 27 22 true,
     DD 29 9 3 22 true,
     rg 30 (.binOp .sub 3 (tp 29) (ki 1) 3) 3 22 true,
     rg 31 (.indexAddr 27 (tp 28) (tp 30)) 0 22 true,
     rg 32 (.load 22 (tp 31)) 22 22 true,
     rg 33 (.call ⟨.value (tp 23),#[(tp 27),(tp 32)],#[22,22]⟩) 3 22 true,
     rg 34 (.binOp .lss 3 (tp 33) (ki 0) 3) 4 22 true,
     rg 35 (.unOp .not 4 (tp 34)) 4 22 true,
     rq 36 (.pick (tp 22) (tp 35) (kb false)) 4])
     (.cond (tp 36) (.skip)
     (.exit 2)))
     (.block 3 (.reg [] [
       Ap 37 9 3,
       FB 38 37,
       AQ 9 38 3])))))
    (.seq (.seq (.reg [] [
      Ap 39 9 3,
      Ap 40 2 3,
      rq 41 (.binOp .eql 3 (tp 39) (tp 40) 3) 4])
    (.cond (tp 41) (.seq (.reg [] [
      rq 8 (.assign (kb true)) 4])
     (.ret))
    (.skip)))
    (.seq (.seq (.reg [] [
      Ap 42 2 3,
      Ap 43 1 3,
      rq 44 (.binOp .sub 3 (tp 42) (tp 43) 3) 3,
      rq 45 (.binOp .lss 3 (tp 44) (ki 50) 3) 4])
    (.cond (tp 45) (.seq (.reg [] [
      rq 8 (.assign (kb false)) 4])
     (.ret))
    (.skip)))
    (.seq (.reg [0, 1, 2, 3, 4, 5, 6, 7, 8, 9, 10, 11, 12, 13, 14, 15, 16, 17] [
      Ap 46 0 27,
      Ap 47 9 3,
      Ap 48 0 27,
      Ap 49 9 3,
      rq 50 (.binOp .sub 3 (tp 49) (ki 1) 3) 3,
      Ap 51 0 27,
      Ap 52 9 3,
      rq 53 (.binOp .sub 3 (tp 52) (ki 1) 3) 3,
      D5 54 27 51 53,
      Ce 55 54 22,
      Ap 56 0 27,
      Ap 57 9 3,
      D5 58 27 56 57,
      Ce 59 58 22,
      D5 60 27 46 47,
      rn (.store 22 (tp 60) (tp 55)) 0,
      D5 61 27 48 50,
      rn (.store 22 (tp 61) (tp 59)) 0])
    (.seq (.seq (.reg [] [
      Ap 62 9 3,
      Ap 63 1 3,
      rq 64 (.binOp .sub 3 (tp 62) (tp 63) 3) 3,
      rq 65 (.binOp .geq 3 (tp 64) (ki 2) 3) 4])
    (.cond (tp 65) (.seq (.reg [] [
      Ap 66 9 3,
      rq 67 (.binOp .sub 3 (tp 66) (ki 1) 3) 3,
      AQ 11 67 3])
     (.block 4 (.loop (.seq (.seq (.reg [] [
       Ap 68 11 3,
       rq 69 (.binOp .geq 3 (tp 68) (ki 1) 3) 4])
       (.cond (tp 69) (.skip)
       (.exit 4)))
       (.seq (.block 5 (.seq (.seq (.reg [0, 1, 2, 3, 4, 5, 6, 7, 8, 9, 10, 11, 12] [
         Ap 72 3 56,
         Ap 73 0 27,
         Ap 74 11 3,
         D5 75 27 73 74,
         Ce 76 75 22,
         Ap 77 0 27,
         Ap 78 11 3,
         rq 79 (.binOp .sub 3 (tp 78) (ki 1) 3) 3,
         D5 80 27 77 79,
         Ce 81 80 22,
         rq 82 (.call ⟨.value (tp 72),#[(tp 76),(tp 81)],#[22,22]⟩) 3,
         rq 83 (.binOp .lss 3 (tp 82) (ki 0) 3) 4,
         rq 84 (.unOp .not 4 (tp 83)) 4])
        (.cond (tp 84) (.exit 4)
        (.skip)))
        (.reg [0, 1, 2, 3, 4, 5, 6, 7, 8, 9, 10, 11, 12, 13, 14, 15, 16, 17] [
          Ap 85 0 27,
          Ap 86 11 3,
          Ap 87 0 27,
          Ap 88 11 3,
          rq 89 (.binOp .sub 3 (tp 88) (ki 1) 3) 3,
          Ap 90 0 27,
          Ap 91 11 3,
          rq 92 (.binOp .sub 3 (tp 91) (ki 1) 3) 3,
          D5 93 27 90 92,
          Ce 94 93 22,
          Ap 95 0 27,
          Ap 96 11 3,
          D5 97 27 95 96,
          Ce 98 97 22,
          D5 99 27 85 86,
          rn (.store 22 (tp 99) (tp 94)) 0,
          D5 100 27 87 89,
          rn (.store 22 (tp 100) (tp 98)) 0])))
       (.reg [] [
         Ap 70 11 3,
         rq 71 (.binOp .sub 3 (tp 70) (ki 1) 3) 3,
         AQ 11 71 3]))))))
    (.skip)))
    (.seq (.reg [] [
      Ap 101 2 3,
      Ap 102 9 3,
      rq 103 (.binOp .sub 3 (tp 101) (tp 102) 3) 3,
      rq 104 (.binOp .geq 3 (tp 103) (ki 2) 3) 4])
    (.cond (tp 104) (.seq (.reg [] [
      Ap 105 9 3,
      FB 106 105,
      AQ 12 106 3])
     (.block 6 (.loop (.seq (.seq (.reg [] [
       Ap 107 12 3,
       Ap 108 2 3,
       rq 109 (.binOp .lss 3 (tp 107) (tp 108) 3) 4])
       (.cond (tp 109) (.skip)
       (.exit 6)))
       (.seq (.block 7 (.seq (.seq (.reg [0, 1, 2, 3, 4, 5, 6, 7, 8, 9, 10, 11, 12] [
         Ap 112 3 56,
         Ap 113 0 27,
         Ap 114 12 3,
         D5 115 27 113 114,
         Ce 116 115 22,
         Ap 117 0 27,
         Ap 118 12 3,
         rq 119 (.binOp .sub 3 (tp 118) (ki 1) 3) 3,
         D5 120 27 117 119,
         Ce 121 120 22,
         rq 122 (.call ⟨.value (tp 112),#[(tp 116),(tp 121)],#[22,22]⟩) 3,
         rq 123 (.binOp .lss 3 (tp 122) (ki 0) 3) 4,
         rq 124 (.unOp .not 4 (tp 123)) 4])
        (.cond (tp 124) (.exit 6)
        (.skip)))
        (.reg [0, 1, 2, 3, 4, 5, 6, 7, 8, 9, 10, 11, 12, 13, 14, 15, 16, 17] [
          Ap 125 0 27,
          Ap 126 12 3,
          Ap 127 0 27,
          Ap 128 12 3,
          rq 129 (.binOp .sub 3 (tp 128) (ki 1) 3) 3,
          Ap 130 0 27,
          Ap 131 12 3,
          rq 132 (.binOp .sub 3 (tp 131) (ki 1) 3) 3,
          D5 133 27 130 132,
          Ce 134 133 22,
          Ap 135 0 27,
          Ap 136 12 3,
          D5 137 27 135 136,
          Ce 138 137 22,
          D5 139 27 125 126,
          rn (.store 22 (tp 139) (tp 134)) 0,
          D5 140 27 127 129,
          rn (.store 22 (tp 140) (tp 138)) 0])))
       (.reg [] [
         Ap 110 12 3,
         FB 111 110,
         AQ 12 111 3]))))))
    (.skip)))))))))
   (.reg [] [
     Ap 17 10 3,
     FB 18 17,
     AQ 10 18 3]))))))
 (.seq (.reg [] [
   rq 8 (.assign (kb false)) 4])
 (.ret))))
def c87:RC:=
 .seq (.reg [] [
  Cz 10 0 3])
 (.seq (.reg [0, 1, 2, 3, 4, 5, 6, 7, 8, 9, 10, 11, 12, 13, 14, 15] [
   Ap 13 0 27,Ap 14 1 3,Ap 15 0 27,Ap 16 3 3,Ap 17 0 27,Ap 18 3 3,D5 19 27 17 18,Ce 20 19 22,Ap 21 0 27,Ap 22 1 3,D5 23 27 21 22,Ce 24 23 22,D5 25 27 13 14,rn (.store 22 (tp 25) (tp 20)) 0,D5 26 27 15 16,rn (.store 22 (tp 26) (tp 24)) 0])
 (.seq (.reg [] [
   Ap 27 1 3,FB 28 27,Ap 29 2 3,rq 30 (.binOp .sub 3 (tp 29) (ki 1) 3) 3,AQ 11 28 3,AQ 12 30 3])
 (.seq (.block 0 (.loop (.block 1 (.seq (.block 2 (.loop (.seq (.seq (.reg [0, 1, 2, 3, 4, 5, 6, 7, 8, 9, 10, 11, 12, 13, 14, 15, 16] [
        Ap 31 11 3,
        Ap 32 12 3,
        rq 33 (.binOp .leq 3 (tp 31) (tp 32) 3) 4,
        Ap 34 33 4,
        DD 35 4 56 34 true,
        DD 36 0 27 34 true,
        DD 37 1 3 34 true,
        rg 38 (.indexAddr 27 (tp 36) (tp 37)) 0 34 true,
        rg 39 (.load 22 (tp 38)) 22 34 true,
        DD 40 0 27 34 true,
        DD 41 11 3 34 true,
        rg 42 (.indexAddr 27 (tp 40) (tp 41)) 0 34 true,
        rg 43 (.load 22 (tp 42)) 22 34 true,
        rg 44 (.call ⟨.value (tp 35),#[(tp 39),(tp 43)],#[22,22]⟩) 3 34 true,
        rg 45 (.binOp .lss 3 (tp 44) (ki 0) 3) 4 34 true,
        rg 46 (.unOp .not 4 (tp 45)) 4 34 true,
        rq 47 (.pick (tp 34) (tp 46) (kb false)) 4])
   (.cond (tp 47) (.skip)
   (.exit 2)))
   (.block 3 (.reg [] [
     Ap 48 11 3,
     FB 49 48,
     AQ 11 49 3])))))
   (.seq (.block 4 (.loop (.seq (.seq (.reg [0, 1, 2, 3, 4, 5, 6, 7, 8, 9, 10, 11, 12, 13, 14, 15] [
     Ap 50 11 3,
     Ap 51 12 3,
     rq 52 (.binOp .leq 3 (tp 50) (tp 51) 3) 4,
     Ap 53 52 4,
     DD 54 4 56 53 true,
     DD 55 0 27 53 true,
     DD 56 1 3 53 true,
     rg 57 (.indexAddr 27 (tp 55) (tp 56)) 0 53 true,
     rg 58 (.load 22 (tp 57)) 22 53 true,
     DD 59 0 27 53 true,
     DD 60 12 3 53 true,
     rg 61 (.indexAddr 27 (tp 59) (tp 60)) 0 53 true,
     rg 62 (.load 22 (tp 61)) 22 53 true,
     rg 63 (.call ⟨.value (tp 54),#[(tp 58),(tp 62)],#[22,22]⟩) 3 53 true,
     rg 64 (.binOp .lss 3 (tp 63) (ki 0) 3) 4 53 true,
     rq 65 (.pick (tp 53) (tp 64) (kb false)) 4])
     (.cond (tp 65) (.skip)
     (.exit 4)))
     (.block 5 (.reg [] [
       Ap 66 12 3,
       rq 67 (.binOp .sub 3 (tp 66) (ki 1) 3) 3,
       AQ 12 67 3])))))
   (.seq (.seq (.reg [] [
     Ap 68 11 3,
     Ap 69 12 3,
     rq 70 (.binOp .gtr 3 (tp 68) (tp 69) 3) 4])
   (.cond (tp 70) (.exit 0)
   (.skip)))
   (.seq (.reg [0, 1, 2, 3, 4, 5, 6, 7, 8, 9, 10, 11, 12, 13, 14, 15] [
     Ap 71 0 27,
     Ap 72 11 3,
     Ap 73 0 27,
     Ap 74 12 3,
     Ap 75 0 27,
     Ap 76 12 3,
     D5 77 27 75 76,
     Ce 78 77 22,
     Ap 79 0 27,
     Ap 80 11 3,
     D5 81 27 79 80,
     Ce 82 81 22,
     D5 83 27 71 72,
     rn (.store 22 (tp 83) (tp 78)) 0,
     D5 84 27 73 74,
     rn (.store 22 (tp 84) (tp 82)) 0])
   (.seq (.reg [] [
     Ap 85 11 3,
     FB 86 85,
     AQ 11 86 3])
   (.reg [] [
     Ap 87 12 3,
     rq 88 (.binOp .sub 3 (tp 87) (ki 1) 3) 3,
     AQ 12 88 3])))))))))
 (.seq (.reg [] [
   Ap 89 11 3,AQ 10 89 3])
 (.ret)))))
def c88:RC:=
 .seq (.reg [] [
  Cz 10 0 3,rq 11 (.assign (kb false)) 4])
 (.seq (.reg [0, 1, 2, 3, 4, 5, 6, 7, 8, 9, 10, 11, 12, 13, 14, 15] [
   Ap 14 0 27,Ap 15 1 3,Ap 16 0 27,Ap 17 3 3,Ap 18 0 27,Ap 19 3 3,D5 20 27 18 19,Ce 21 20 22,Ap 22 0 27,Ap 23 1 3,D5 24 27 22 23,Ce 25 24 22,D5 26 27 14 15,rn (.store 22 (tp 26) (tp 21)) 0,D5 27 27 16 17,rn (.store 22 (tp 27) (tp 25)) 0])
 (.seq (.reg [] [
   Ap 28 1 3,FB 29 28,Ap 30 2 3,rq 31 (.binOp .sub 3 (tp 30) (ki 1) 3) 3,AQ 12 29 3,AQ 13 31 3])
 (.seq (.block 0 (.loop (.seq (.seq (.reg [0, 1, 2, 3, 4, 5, 6, 7, 8, 9, 10, 11, 12, 13, 14, 15] [
   Ap 32 12 3,
   Ap 33 13 3,
   rq 34 (.binOp .leq 3 (tp 32) (tp 33) 3) 4,
   Ap 35 34 4,
   DD 36 4 56 35 true,
   DD 37 0 27 35 true,
   DD 38 12 3 35 true,
   rg 39 (.indexAddr 27 (tp 37) (tp 38)) 0 35 true,
   rg 40 (.load 22 (tp 39)) 22 35 true,
   DD 41 0 27 35 true,
   DD 42 1 3 35 true,
   rg 43 (.indexAddr 27 (tp 41) (tp 42)) 0 35 true,
   rg 44 (.load 22 (tp 43)) 22 35 true,
   rg 45 (.call ⟨.value (tp 36),#[(tp 40),(tp 44)],#[22,22]⟩) 3 35 true,
   rg 46 (.binOp .lss 3 (tp 45) (ki 0) 3) 4 35 true,
   rq 47 (.pick (tp 35) (tp 46) (kb false)) 4])
   (.cond (tp 47) (.skip)
   (.exit 0)))
   (.block 1 (.reg [] [
     Ap 48 12 3,
     FB 49 48,
     AQ 12 49 3])))))
 (.seq (.block 2 (.loop (.seq (.seq (.reg [0, 1, 2, 3, 4, 5, 6, 7, 8, 9, 10, 11, 12, 13, 14, 15, 16] [
   Ap 50 12 3,
   Ap 51 13 3,
   rq 52 (.binOp .leq 3 (tp 50) (tp 51) 3) 4,
   Ap 53 52 4,
   DD 54 4 56 53 true,
   DD 55 0 27 53 true,
   DD 56 13 3 53 true,
   rg 57 (.indexAddr 27 (tp 55) (tp 56)) 0 53 true,
   rg 58 (.load 22 (tp 57)) 22 53 true,
   DD 59 0 27 53 true,
   DD 60 1 3 53 true,
   rg 61 (.indexAddr 27 (tp 59) (tp 60)) 0 53 true,
   rg 62 (.load 22 (tp 61)) 22 53 true,
   rg 63 (.call ⟨.value (tp 54),#[(tp 58),(tp 62)],#[22,22]⟩) 3 53 true,
   rg 64 (.binOp .lss 3 (tp 63) (ki 0) 3) 4 53 true,
   rg 65 (.unOp .not 4 (tp 64)) 4 53 true,
   rq 66 (.pick (tp 53) (tp 65) (kb false)) 4])
   (.cond (tp 66) (.skip)
   (.exit 2)))
   (.block 3 (.reg [] [
     Ap 67 13 3,
     rq 68 (.binOp .sub 3 (tp 67) (ki 1) 3) 3,
     AQ 13 68 3])))))
 (.seq (.seq (.reg [] [
   Ap 69 12 3,Ap 70 13 3,rq 71 (.binOp .gtr 3 (tp 69) (tp 70) 3) 4])
 (.cond (tp 71) (.seq (.reg [0, 1, 2, 3, 4, 5, 6, 7, 8, 9, 10, 11, 12, 13, 14, 15] [
   Ap 72 0 27,
   Ap 73 13 3,
   Ap 74 0 27,
   Ap 75 1 3,
   Ap 76 0 27,
   Ap 77 1 3,
   D5 78 27 76 77,
   Ce 79 78 22,
   Ap 80 0 27,
   Ap 81 13 3,
   D5 82 27 80 81,
   Ce 83 82 22,
   D5 84 27 72 73,
   rn (.store 22 (tp 84) (tp 79)) 0,
   D5 85 27 74 75,
   rn (.store 22 (tp 85) (tp 83)) 0])
  (.seq (.reg [] [
    Ap 86 13 3,
    AQ 10 86 3,
    rq 11 (.assign (kb true)) 4])
  (.ret)))
 (.skip)))
 (.seq (.reg [0, 1, 2, 3, 4, 5, 6, 7, 8, 9, 10, 11, 12, 13, 14, 15] [
   Ap 87 0 27,Ap 88 12 3,Ap 89 0 27,Ap 90 13 3,Ap 91 0 27,Ap 92 13 3,D5 93 27 91 92,Ce 94 93 22,Ap 95 0 27,Ap 96 12 3,D5 97 27 95 96,Ce 98 97 22,D5 99 27 87 88,rn (.store 22 (tp 99) (tp 94)) 0,D5 100 27 89 90,rn (.store 22 (tp 100) (tp 98)) 0])
 (.seq (.reg [] [
   Ap 101 12 3,FB 102 101,AQ 12 102 3])
 (.seq (.reg [] [
   Ap 103 13 3,rq 104 (.binOp .sub 3 (tp 103) (ki 1) 3) 3,AQ 13 104 3])
 (.seq (.block 4 (.loop (.block 5 (.seq (.block 6 (.loop (.seq (.seq (.reg [0, 1, 2, 3, 4, 5, 6, 7, 8, 9, 10, 11, 12, 13, 14, 15] [
        Ap 105 12 3,
        Ap 106 13 3,
        rq 107 (.binOp .leq 3 (tp 105) (tp 106) 3) 4,
        Ap 108 107 4,
        DD 109 4 56 108 true,
        DD 110 0 27 108 true,
        DD 111 12 3 108 true,
        rg 112 (.indexAddr 27 (tp 110) (tp 111)) 0 108 true,
        rg 113 (.load 22 (tp 112)) 22 108 true,
        DD 114 0 27 108 true,
        DD 115 1 3 108 true,
        rg 116 (.indexAddr 27 (tp 114) (tp 115)) 0 108 true,
        rg 117 (.load 22 (tp 116)) 22 108 true,
        rg 118 (.call ⟨.value (tp 109),#[(tp 113),(tp 117)],#[22,22]⟩) 3 108 true,
        rg 119 (.binOp .lss 3 (tp 118) (ki 0) 3) 4 108 true,
        rq 120 (.pick (tp 108) (tp 119) (kb false)) 4])
   (.cond (tp 120) (.skip)
   (.exit 6)))
   (.block 7 (.reg [] [
     Ap 121 12 3,
     FB 122 121,
     AQ 12 122 3])))))
   (.seq (.block 8 (.loop (.seq (.seq (.reg [0, 1, 2, 3, 4, 5, 6, 7, 8, 9, 10, 11, 12, 13, 14, 15, 16] [
     Ap 123 12 3,
     Ap 124 13 3,
     rq 125 (.binOp .leq 3 (tp 123) (tp 124) 3) 4,
     Ap 126 125 4,
     DD 127 4 56 126 true,
     DD 128 0 27 126 true,
     DD 129 13 3 126 true,
     rg 130 (.indexAddr 27 (tp 128) (tp 129)) 0 126 true,
     rg 131 (.load 22 (tp 130)) 22 126 true,
     DD 132 0 27 126 true,
     DD 133 1 3 126 true,
     rg 134 (.indexAddr 27 (tp 132) (tp 133)) 0 126 true,
     rg 135 (.load 22 (tp 134)) 22 126 true,
     rg 136 (.call ⟨.value (tp 127),#[(tp 131),(tp 135)],#[22,22]⟩) 3 126 true,
     rg 137 (.binOp .lss 3 (tp 136) (ki 0) 3) 4 126 true,
     rg 138 (.unOp .not 4 (tp 137)) 4 126 true,
     rq 139 (.pick (tp 126) (tp 138) (kb false)) 4])
     (.cond (tp 139) (.skip)
     (.exit 8)))
     (.block 9 (.reg [] [
       Ap 140 13 3,
       rq 141 (.binOp .sub 3 (tp 140) (ki 1) 3) 3,
       AQ 13 141 3])))))
   (.seq (.seq (.reg [] [
     Ap 142 12 3,
     Ap 143 13 3,
     rq 144 (.binOp .gtr 3 (tp 142) (tp 143) 3) 4])
   (.cond (tp 144) (.exit 4)
   (.skip)))
   (.seq (.reg [0, 1, 2, 3, 4, 5, 6, 7, 8, 9, 10, 11, 12, 13, 14, 15] [
     Ap 145 0 27,
     Ap 146 12 3,
     Ap 147 0 27,
     Ap 148 13 3,
     Ap 149 0 27,
     Ap 150 13 3,
     D5 151 27 149 150,
     Ce 152 151 22,
     Ap 153 0 27,
     Ap 154 12 3,
     D5 155 27 153 154,
     Ce 156 155 22,
     D5 157 27 145 146,
     rn (.store 22 (tp 157) (tp 152)) 0,
     D5 158 27 147 148,
     rn (.store 22 (tp 158) (tp 156)) 0])
   (.seq (.reg [] [
     Ap 159 12 3,
     FB 160 159,
     AQ 12 160 3])
   (.reg [] [
     Ap 161 13 3,
     rq 162 (.binOp .sub 3 (tp 161) (ki 1) 3) 3,
     AQ 13 162 3])))))))))
 (.seq (.reg [0, 1, 2, 3, 4, 5, 6, 7, 8, 9, 10, 11, 12, 13, 14, 15] [
   Ap 163 0 27,Ap 164 13 3,Ap 165 0 27,Ap 166 1 3,Ap 167 0 27,Ap 168 1 3,D5 169 27 167 168,Ce 170 169 22,Ap 171 0 27,Ap 172 13 3,D5 173 27 171 172,Ce 174 173 22,D5 175 27 163 164,rn (.store 22 (tp 175) (tp 170)) 0,D5 176 27 165 166,rn (.store 22 (tp 176) (tp 174)) 0])
 (.seq (.reg [] [
   Ap 177 13 3,AQ 10 177 3,rq 11 (.assign (kb false)) 4])
 (.ret))))))))))))
def c89:RC:=
 .seq (.reg [] [
  Cz 2 0 3])
 (.seq (.seq (.reg [] [
   Ap 3 0 94,rq 4 (.binOp .geq 94 (tp 3) (.const (.int .u32 65536)) 94) 4])
 (.cond (tp 4) (.seq (.reg [] [
   Ap 5 0 94,
   rq 6 (.binOp .shr 94 (tp 5) (.const (.int .u64 16)) 95) 94,
   AQ 0 6 94])
  (.reg [] [
    Cz 2 16 3]))
 (.skip)))
 (.seq (.seq (.reg [] [
   Ap 7 0 94,rq 8 (.binOp .geq 94 (tp 7) (.const (.int .u32 256)) 94) 4])
 (.cond (tp 8) (.seq (.reg [] [
   Ap 9 0 94,
   rq 10 (.binOp .shr 94 (tp 9) (.const (.int .u64 8)) 95) 94,
   AQ 0 10 94])
  (.reg [] [
    Ap 11 2 3,
    rq 12 (.binOp .add 3 (tp 11) (ki 8) 3) 3,
    AQ 2 12 3]))
 (.skip)))
 (.seq (.reg [] [
   Ap 13 2 3,Ap 14 0 94,rq 15 (.convert 94 5 (tp 14)) 5,rq 16 (.index 9 (.const (.string ⟨#[0,1,2,2,3,3,3,3,4,4,4,4,4,4,4,4,5,5,5,5,5,5,5,5,5,5,5,5,5,5,5,5,6,6,6,6,6,6,6,6,6,6,6,6,6,6,6,6,6,6,6,6,6,6,6,6,6,6,6,6,6,6,6,6,7,7,7,7,7,7,7,7,7,7,7,7,7,7,7,7,7,7,7,7,7,7,7,7,7,7,7,7,7,7,7,7,7,7,7,7,7,7,7,7,7,7,7,7,7,7,7,7,7,7,7,7,7,7,7,7,7,7,7,7,7,7,7,7,8,8,8,8,8,8,8,8,8,8,8,8,8,8,8,8,8,8,8,8,8,8,8,8,8,8,8,8,8,8,8,8,8,8,8,8,8,8,8,8,8,8,8,8,8,8,8,8,8,8,8,8,8,8,8,8,8,8,8,8,8,8,8,8,8,8,8,8,8,8,8,8,8,8,8,8,8,8,8,8,8,8,8,8,8,8,8,8,8,8,8,8,8,8,8,8,8,8,8,8,8,8,8,8,8,8,8,8,8,8,8,8,8,8,8,8,8,8,8,8,8,8,8,8,8,8,8,8]⟩)) (tp 15)) 5,rq 17 (.convert 5 3 (tp 16)) 3,rq 18 (.binOp .add 3 (tp 13) (tp 17) 3) 3,AQ 2 18 3])
 (.ret))))
def c90:RC:=
 .seq (.reg [] [
  Cz 2 0 3])
 (.seq (.seq (.reg [] [
   Ap 3 0 117,rq 4 (.binOp .geq 117 (tp 3) (.const (.int .u64 4294967296)) 117) 4])
 (.cond (tp 4) (.seq (.reg [] [
   Ap 5 0 117,
   rq 6 (.binOp .shr 117 (tp 5) (.const (.int .u64 32)) 95) 117,
   AQ 0 6 117])
  (.reg [] [
    Cz 2 32 3]))
 (.skip)))
 (.seq (.seq (.reg [] [
   Ap 7 0 117,rq 8 (.binOp .geq 117 (tp 7) (.const (.int .u64 65536)) 117) 4])
 (.cond (tp 8) (.seq (.reg [] [
   Ap 9 0 117,
   rq 10 (.binOp .shr 117 (tp 9) (.const (.int .u64 16)) 95) 117,
   AQ 0 10 117])
  (.reg [] [
    Ap 11 2 3,
    rq 12 (.binOp .add 3 (tp 11) (ki 16) 3) 3,
    AQ 2 12 3]))
 (.skip)))
 (.seq (.seq (.reg [] [
   Ap 13 0 117,rq 14 (.binOp .geq 117 (tp 13) (.const (.int .u64 256)) 117) 4])
 (.cond (tp 14) (.seq (.reg [] [
   Ap 15 0 117,
   rq 16 (.binOp .shr 117 (tp 15) (.const (.int .u64 8)) 95) 117,
   AQ 0 16 117])
  (.reg [] [
    Ap 17 2 3,
    rq 18 (.binOp .add 3 (tp 17) (ki 8) 3) 3,
    AQ 2 18 3]))
 (.skip)))
 (.seq (.reg [] [
   Ap 19 2 3,Ap 20 0 117,rq 21 (.convert 117 5 (tp 20)) 5,rq 22 (.index 9 (.const (.string ⟨#[0,1,2,2,3,3,3,3,4,4,4,4,4,4,4,4,5,5,5,5,5,5,5,5,5,5,5,5,5,5,5,5,6,6,6,6,6,6,6,6,6,6,6,6,6,6,6,6,6,6,6,6,6,6,6,6,6,6,6,6,6,6,6,6,7,7,7,7,7,7,7,7,7,7,7,7,7,7,7,7,7,7,7,7,7,7,7,7,7,7,7,7,7,7,7,7,7,7,7,7,7,7,7,7,7,7,7,7,7,7,7,7,7,7,7,7,7,7,7,7,7,7,7,7,7,7,7,7,8,8,8,8,8,8,8,8,8,8,8,8,8,8,8,8,8,8,8,8,8,8,8,8,8,8,8,8,8,8,8,8,8,8,8,8,8,8,8,8,8,8,8,8,8,8,8,8,8,8,8,8,8,8,8,8,8,8,8,8,8,8,8,8,8,8,8,8,8,8,8,8,8,8,8,8,8,8,8,8,8,8,8,8,8,8,8,8,8,8,8,8,8,8,8,8,8,8,8,8,8,8,8,8,8,8,8,8,8,8,8,8,8,8,8,8,8,8,8,8,8,8,8,8,8,8,8,8]⟩)) (tp 21)) 5,rq 23 (.convert 5 3 (tp 22)) 3,rq 24 (.binOp .add 3 (tp 19) (tp 23) 3) 3,AQ 2 24 3])
 (.ret)))))
def c91:RC:=
 .seq (.reg [] [
  Ap 8 1 3,FB 9 8,AQ 6 9 3])
 (.block 0 (.loop (.seq (.seq (.reg [] [
   Ap 10 6 3,
   Ap 11 2 3,
   rq 12 (.binOp .lss 3 (tp 10) (tp 11) 3) 4])
   (.cond (tp 12) (.skip)
   (.exit 0)))
   (.seq (.block 1 (.seq (.reg [] [
     Ap 15 6 3,
     AQ 7 15 3])
    (.block 2 (.loop (.seq (.seq (.reg [0, 1, 2, 3, 4, 5, 6, 7, 8, 9, 10, 11, 12, 13, 14] [
      Ap 16 7 3,
      Ap 17 1 3,
      rq 18 (.binOp .gtr 3 (tp 16) (tp 17) 3) 4,
      Ap 19 18 4,
      DD 20 0 22 19 true,
      DD 21 7 3 19 true,
      rg 22 (.indexAddr 22 (tp 20) (tp 21)) 0 19 true,
      rg 23 (.load 3 (tp 22)) 3 19 true,
      DD 24 0 22 19 true,
      DD 25 7 3 19 true,
      rg 26 (.binOp .sub 3 (tp 25) (ki 1) 3) 3 19 true,
      rg 27 (.indexAddr 22 (tp 24) (tp 26)) 0 19 true,
      rg 28 (.load 3 (tp 27)) 3 19 true,
      rg 29 (cf 97 #[(tp 23),(tp 28)] #[3,3]) 4 19 true,
      rq 30 (.pick (tp 19) (tp 29) (kb false)) 4])
      (.cond (tp 30) (.skip)
      (.exit 2)))
      (.seq (.block 3 (.reg [0, 1, 2, 3, 4, 5, 6, 7, 8, 9, 10, 11, 12, 13, 14, 15, 16, 17] [
        Ap 33 0 22,
        Ap 34 7 3,
        Ap 35 0 22,
        Ap 36 7 3,
        rq 37 (.binOp .sub 3 (tp 36) (ki 1) 3) 3,
        Ap 38 0 22,
        Ap 39 7 3,
        rq 40 (.binOp .sub 3 (tp 39) (ki 1) 3) 3,
        D5 41 22 38 40,
        Ce 42 41 3,
        Ap 43 0 22,
        Ap 44 7 3,
        D5 45 22 43 44,
        Ce 46 45 3,
        D5 47 22 33 34,
        rn (.store 3 (tp 47) (tp 42)) 0,
        D5 48 22 35 37,
        rn (.store 3 (tp 48) (tp 46)) 0]))
      (.reg [] [
        Ap 31 7 3,
        rq 32 (.binOp .sub 3 (tp 31) (ki 1) 3) 3,
        AQ 7 32 3])))))))
   (.reg [] [
     Ap 13 6 3,
     FB 14 13,
     AQ 6 14 3])))))
def c92:RC:=
 .seq (.reg [] [
  Ap 11 1 3,AQ 6 11 3])
 (.seq (.reg [] [
   Cz 7 0 3])
 (.seq (.reg [] [
   Ap 12 2 3,Ap 13 1 3,rq 14 (.binOp .sub 3 (tp 12) (tp 13) 3) 3,AQ 8 14 3])
 (.seq (.seq (.reg [] [
   Ap 15 8 3,rq 16 (.binOp .sub 3 (tp 15) (ki 1) 3) 3,rq 17 (.binOp .quo 3 (tp 16) (ki 2) 3) 3,AQ 9 17 3])
 (.block 0 (.loop (.seq (.seq (.reg [] [
   Ap 18 9 3,
   rq 19 (.binOp .geq 3 (tp 18) (ki 0) 3) 4])
   (.cond (tp 19) (.skip)
   (.exit 0)))
   (.seq (.block 1 (.reg [] [
     Ap 22 0 22,
     Ap 23 9 3,
     Ap 24 8 3,
     Ap 25 6 3,
     rq 26 (cf 106 #[(tp 22),(tp 23),(tp 24),(tp 25)] #[22,3,3,3]) 0]))
   (.reg [] [
     Ap 20 9 3,
     rq 21 (.binOp .sub 3 (tp 20) (ki 1) 3) 3,
     AQ 9 21 3]))))))
 (.seq (.reg [] [
   Ap 27 8 3,rq 28 (.binOp .sub 3 (tp 27) (ki 1) 3) 3,AQ 10 28 3])
 (.block 2 (.loop (.seq (.seq (.reg [] [
   Ap 29 10 3,
   rq 30 (.binOp .geq 3 (tp 29) (ki 0) 3) 4])
   (.cond (tp 30) (.skip)
   (.exit 2)))
   (.seq (.block 3 (.seq (.reg [0, 1, 2, 3, 4, 5, 6, 7, 8, 9, 10, 11, 12, 13, 14, 15, 16, 17, 18, 19] [
     Ap 33 0 22,
     Ap 34 6 3,
     Ap 35 0 22,
     Ap 36 6 3,
     Ap 37 10 3,
     rq 38 (.binOp .add 3 (tp 36) (tp 37) 3) 3,
     Ap 39 0 22,
     Ap 40 6 3,
     Ap 41 10 3,
     rq 42 (.binOp .add 3 (tp 40) (tp 41) 3) 3,
     D5 43 22 39 42,
     Ce 44 43 3,
     Ap 45 0 22,
     Ap 46 6 3,
     D5 47 22 45 46,
     Ce 48 47 3,
     D5 49 22 33 34,
     rn (.store 3 (tp 49) (tp 44)) 0,
     D5 50 22 35 38,
     rn (.store 3 (tp 50) (tp 48)) 0])
    (.reg [] [
      Ap 51 0 22,
      Ap 52 7 3,
      Ap 53 10 3,
      Ap 54 6 3,
      rq 55 (cf 106 #[(tp 51),(tp 52),(tp 53),(tp 54)] #[22,3,3,3]) 0])))
   (.reg [] [
     Ap 31 10 3,
     rq 32 (.binOp .sub 3 (tp 31) (ki 1) 3) 3,
     AQ 10 32 3])))))))))
def c93:RC:=
 .seq (.reg [] [
  Ap 11 2 3,Ap 12 1 3,rq 13 (.binOp .sub 3 (tp 11) (tp 12) 3) 3,AQ 6 13 3])
 (.seq (.reg [] [
   Ap 14 6 3,rq 15 (.binOp .geq 3 (tp 14) (ki 8) 3) 4])
 (.cond (tp 15) (.seq (.reg [] [
   Ap 16 6 3,
   rq 17 (.convert 3 125 (tp 16)) 125,
   rq 7 (.alloc 125) 0,
   rn (.store 125 (tp 7) (tp 17)) 0])
  (.seq (.reg [] [
    Ap 18 6 3,
    rq 19 (cf 102 #[(tp 18)] #[3]) 95,
    AQ 8 19 95])
  (.seq (.reg [] [
    Ap 20 1 3,
    Ap 21 6 3,
    rq 22 (.binOp .quo 3 (tp 21) (ki 4) 3) 3,
    rq 23 (.binOp .mul 3 (tp 22) (ki 2) 3) 3,
    rq 24 (.binOp .add 3 (tp 20) (tp 23) 3) 3,
    rq 25 (.binOp .sub 3 (tp 24) (ki 1) 3) 3,
    AQ 9 25 3])
  (.block 0 (.loop (.seq (.seq (.reg [] [
    Ap 26 9 3,
    Ap 27 1 3,
    Ap 28 6 3,
    rq 29 (.binOp .quo 3 (tp 28) (ki 4) 3) 3,
    rq 30 (.binOp .mul 3 (tp 29) (ki 2) 3) 3,
    rq 31 (.binOp .add 3 (tp 27) (tp 30) 3) 3,
    FB 32 31,
    rq 33 (.binOp .leq 3 (tp 26) (tp 32) 3) 4])
    (.cond (tp 33) (.skip)
    (.exit 0)))
    (.seq (.block 1 (.seq (.reg [] [
      rq 36 (cf 103 #[(tp 7)] #[125]) 117,
      Ap 37 8 95,
      rq 38 (.binOp .sub 95 (tp 37) (.const (.int .u64 1)) 95) 95,
      rq 39 (.binOp .and 95 (tp 36) (tp 38) 95) 95,
      rq 40 (.convert 95 3 (tp 39)) 3,
      AQ 10 40 3])
     (.seq (.seq (.reg [] [
       Ap 41 10 3,
       Ap 42 6 3,
       rq 43 (.binOp .geq 3 (tp 41) (tp 42) 3) 4])
     (.cond (tp 43) (.reg [] [
       Ap 44 10 3,
       Ap 45 6 3,
       rq 46 (.binOp .sub 3 (tp 44) (tp 45) 3) 3,
       AQ 10 46 3])
     (.skip)))
     (.reg [0, 1, 2, 3, 4, 5, 6, 7, 8, 9, 10, 11, 12, 13, 14, 15, 16, 17, 18, 19] [
       Ap 47 0 22,
       Ap 48 9 3,
       Ap 49 0 22,
       Ap 50 1 3,
       Ap 51 10 3,
       rq 52 (.binOp .add 3 (tp 50) (tp 51) 3) 3,
       Ap 53 0 22,
       Ap 54 1 3,
       Ap 55 10 3,
       rq 56 (.binOp .add 3 (tp 54) (tp 55) 3) 3,
       D5 57 22 53 56,
       Ce 58 57 3,
       Ap 59 0 22,
       Ap 60 9 3,
       D5 61 22 59 60,
       Ce 62 61 3,
       D5 63 22 47 48,
       rn (.store 3 (tp 63) (tp 58)) 0,
       D5 64 22 49 52,
       rn (.store 3 (tp 64) (tp 62)) 0]))))
    (.reg [] [
      Ap 34 9 3,
      FB 35 34,
      AQ 9 35 3]))))))))
 (.skip)))
def c94:RC:=
 .seq (.reg [] [
  Cz 6 0 3,Cz 7 0 108])
 (.seq (.reg [] [
   Ap 13 2 3,Ap 14 1 3,rq 15 (.binOp .sub 3 (tp 13) (tp 14) 3) 3,AQ 8 15 3])
 (.seq (.reg [] [
   rq 9 (.alloc 3) 0])
 (.seq (.reg [] [
   Ap 16 1 3,Ap 17 8 3,rq 18 (.binOp .quo 3 (tp 17) (ki 4) 3) 3,rq 19 (.binOp .mul 3 (tp 18) (ki 1) 3) 3,rq 20 (.binOp .add 3 (tp 16) (tp 19) 3) 3,AQ 10 20 3])
 (.seq (.reg [] [
   Ap 21 1 3,Ap 22 8 3,rq 23 (.binOp .quo 3 (tp 22) (ki 4) 3) 3,rq 24 (.binOp .mul 3 (tp 23) (ki 2) 3) 3,rq 25 (.binOp .add 3 (tp 21) (tp 24) 3) 3,AQ 11 25 3])
 (.seq (.reg [] [
   Ap 26 1 3,Ap 27 8 3,rq 28 (.binOp .quo 3 (tp 27) (ki 4) 3) 3,rq 29 (.binOp .mul 3 (tp 28) (ki 3) 3) 3,rq 30 (.binOp .add 3 (tp 26) (tp 29) 3) 3,AQ 12 30 3])
 (.seq (.seq (.reg [] [
   Ap 31 8 3,rq 32 (.binOp .geq 3 (tp 31) (ki 8) 3) 4])
 (.cond (tp 32) (.seq (.seq (.reg [] [
   Ap 33 8 3,
   rq 34 (.binOp .geq 3 (tp 33) (ki 50) 3) 4])
  (.cond (tp 34) (.seq (.reg [] [
    Ap 35 0 22,
    Ap 36 10 3,
    rq 37 (cf 107 #[(tp 35),(tp 36),(tp 9)] #[22,3,129]) 3,
    AQ 10 37 3])
   (.seq (.reg [] [
     Ap 38 0 22,
     Ap 39 11 3,
     rq 40 (cf 107 #[(tp 38),(tp 39),(tp 9)] #[22,3,129]) 3,
     AQ 11 40 3])
   (.reg [] [
     Ap 41 0 22,
     Ap 42 12 3,
     rq 43 (cf 107 #[(tp 41),(tp 42),(tp 9)] #[22,3,129]) 3,
     AQ 12 43 3])))
  (.skip)))
  (.reg [] [
    Ap 44 0 22,
    Ap 45 10 3,
    Ap 46 11 3,
    Ap 47 12 3,
    rq 48 (cf 108 #[(tp 44),(tp 45),(tp 46),(tp 47),(tp 9)] #[22,3,3,3,129]) 3,
    AQ 11 48 3]))
 (.skip)))
 (.seq (.reg [] [
   Ce 49 9 3])
 (.block 0 (.seq (.reg [] [
   rq 52 (.binOp .eql 3 (tp 49) (ki 0) 3) 4,
   AQ 51 52 4])
  (.cond (tp 51) (.seq (.reg [] [
    Ap 53 11 3,
    AQ 6 53 3,
    Cz 7 1 108])
   (.ret))
  (.seq (.reg [] [
    rq 55 (.binOp .eql 3 (tp 49) (ki 12) 3) 4,
    AQ 54 55 4])
   (.cond (tp 54) (.seq (.reg [] [
     Ap 56 11 3,
     AQ 6 56 3,
     Cz 7 2 108])
    (.ret))
   (.seq (.reg [] [
     Ap 50 11 3,
     AQ 6 50 3,
     Cz 7 0 108])
    (.ret))))))))))))))
def c95:RC:=
 .seq (.reg [] [
  Ap 8 1 3,AQ 6 8 3])
 (.seq (.reg [] [
   Ap 9 2 3,rq 10 (.binOp .sub 3 (tp 9) (ki 1) 3) 3,AQ 7 10 3])
 (.block 0 (.loop (.seq (.seq (.reg [] [
   Ap 11 6 3,
   Ap 12 7 3,
   rq 13 (.binOp .lss 3 (tp 11) (tp 12) 3) 4])
   (.cond (tp 13) (.skip)
   (.exit 0)))
   (.block 1 (.seq (.reg [0, 1, 2, 3, 4, 5, 6, 7, 8, 9, 10, 11, 12, 13, 14, 15] [
     Ap 14 0 22,
     Ap 15 6 3,
     Ap 16 0 22,
     Ap 17 7 3,
     Ap 18 0 22,
     Ap 19 7 3,
     D5 20 22 18 19,
     Ce 21 20 3,
     Ap 22 0 22,
     Ap 23 6 3,
     D5 24 22 22 23,
     Ce 25 24 3,
     D5 26 22 14 15,
     rn (.store 3 (tp 26) (tp 21)) 0,
     D5 27 22 16 17,
     rn (.store 3 (tp 27) (tp 25)) 0])
    (.seq (.reg [] [
      Ap 28 6 3,
      FB 29 28,
      AQ 6 29 3])
    (.reg [] [
      Ap 30 7 3,
      rq 31 (.binOp .sub 3 (tp 30) (ki 1) 3) 3,
      AQ 7 31 3]))))))))
def c96:RC:=
 .seq (.reg [] [
  rq 6 (.assign (kb false)) 4])
 (.seq (.reg [] [
   Ap 11 1 3,FB 12 11,AQ 7 12 3])
 (.seq (.seq (.reg [] [
   Cz 8 0 3])
 (.block 0 (.loop (.seq (.seq (.reg [] [
   Ap 13 8 3,
   rq 14 (.binOp .lss 3 (tp 13) (ki 5) 3) 4])
   (.cond (tp 14) (.skip)
   (.exit 0)))
   (.seq (.block 1 (.seq (.block 2 (.loop (.seq (.seq (.reg [0, 1, 2, 3, 4, 5, 6, 7, 8, 9, 10, 11, 12, 13, 14, 15] [
     Ap 17 7 3,
     Ap 18 2 3,
     rq 19 (.binOp .lss 3 (tp 17) (tp 18) 3) 4,
     Ap 20 19 4,
     DD 21 0 22 20 true,
     DD 22 7 3 20 true,
     rg 23 (.indexAddr 22 (tp 21) (tp 22)) 0 20 true,
     rg 24 (.load 3 (tp 23)) 3 20 true,
     DD 25 0 22 20 true,
     DD 26 7 3 20 true,
     rg 27 (.binOp .sub 3 (tp 26) (ki 1) 3) 3 20 true,
     rg 28 (.indexAddr 22 (tp 25) (tp 27)) 0 20 true,
     rg 29 (.load 3 (tp 28)) 3 20 true,
     rg 30 (cf 97 #[(tp 24),(tp 29)] #[3,3]) 4 20 true,
     rg 31 (.unOp .not 4 (tp 30)) 4 20 true,
     rq 32 (.pick (tp 20) (tp 31) (kb false)) 4])
     (.cond (tp 32) (.skip)
     (.exit 2)))
     (.block 3 (.reg [] [
       Ap 33 7 3,
       FB 34 33,
       AQ 7 34 3])))))
    (.seq (.seq (.reg [] [
      Ap 35 7 3,
      Ap 36 2 3,
      rq 37 (.binOp .eql 3 (tp 35) (tp 36) 3) 4])
    (.cond (tp 37) (.seq (.reg [] [
      rq 6 (.assign (kb true)) 4])
     (.ret))
    (.skip)))
    (.seq (.seq (.reg [] [
      Ap 38 2 3,
      Ap 39 1 3,
      rq 40 (.binOp .sub 3 (tp 38) (tp 39) 3) 3,
      rq 41 (.binOp .lss 3 (tp 40) (ki 50) 3) 4])
    (.cond (tp 41) (.seq (.reg [] [
      rq 6 (.assign (kb false)) 4])
     (.ret))
    (.skip)))
    (.seq (.reg [0, 1, 2, 3, 4, 5, 6, 7, 8, 9, 10, 11, 12, 13, 14, 15, 16, 17] [
      Ap 42 0 22,
      Ap 43 7 3,
      Ap 44 0 22,
      Ap 45 7 3,
      rq 46 (.binOp .sub 3 (tp 45) (ki 1) 3) 3,
      Ap 47 0 22,
      Ap 48 7 3,
      rq 49 (.binOp .sub 3 (tp 48) (ki 1) 3) 3,
      D5 50 22 47 49,
      Ce 51 50 3,
      Ap 52 0 22,
      Ap 53 7 3,
      D5 54 22 52 53,
      Ce 55 54 3,
      D5 56 22 42 43,
      rn (.store 3 (tp 56) (tp 51)) 0,
      D5 57 22 44 46,
      rn (.store 3 (tp 57) (tp 55)) 0])
    (.seq (.seq (.reg [] [
      Ap 58 7 3,
      Ap 59 1 3,
      rq 60 (.binOp .sub 3 (tp 58) (tp 59) 3) 3,
      rq 61 (.binOp .geq 3 (tp 60) (ki 2) 3) 4])
    (.cond (tp 61) (.seq (.reg [] [
      Ap 62 7 3,
      rq 63 (.binOp .sub 3 (tp 62) (ki 1) 3) 3,
      AQ 9 63 3])
     (.block 4 (.loop (.seq (.seq (.reg [] [
       Ap 64 9 3,
       rq 65 (.binOp .geq 3 (tp 64) (ki 1) 3) 4])
       (.cond (tp 65) (.skip)
       (.exit 4)))
       (.seq (.block 5 (.seq (.seq (.reg [0, 1, 2, 3, 4, 5, 6, 7, 8, 9, 10] [
         Ap 68 0 22,
         Ap 69 9 3,
         D5 70 22 68 69,
         Ce 71 70 3,
         Ap 72 0 22,
         Ap 73 9 3,
         rq 74 (.binOp .sub 3 (tp 73) (ki 1) 3) 3,
         D5 75 22 72 74,
         Ce 76 75 3,
         rq 77 (cf 97 #[(tp 71),(tp 76)] #[3,3]) 4,
         rq 78 (.unOp .not 4 (tp 77)) 4])
        (.cond (tp 78) (.exit 4)
        (.skip)))
        (.reg [0, 1, 2, 3, 4, 5, 6, 7, 8, 9, 10, 11, 12, 13, 14, 15, 16, 17] [
          Ap 79 0 22,
          Ap 80 9 3,
          Ap 81 0 22,
          Ap 82 9 3,
          rq 83 (.binOp .sub 3 (tp 82) (ki 1) 3) 3,
          Ap 84 0 22,
          Ap 85 9 3,
          rq 86 (.binOp .sub 3 (tp 85) (ki 1) 3) 3,
          D5 87 22 84 86,
          Ce 88 87 3,
          Ap 89 0 22,
          Ap 90 9 3,
          D5 91 22 89 90,
          Ce 92 91 3,
          D5 93 22 79 80,
          rn (.store 3 (tp 93) (tp 88)) 0,
          D5 94 22 81 83,
          rn (.store 3 (tp 94) (tp 92)) 0])))
       (.reg [] [
         Ap 66 9 3,
         rq 67 (.binOp .sub 3 (tp 66) (ki 1) 3) 3,
         AQ 9 67 3]))))))
    (.skip)))
    (.seq (.reg [] [
      Ap 95 2 3,
      Ap 96 7 3,
      rq 97 (.binOp .sub 3 (tp 95) (tp 96) 3) 3,
      rq 98 (.binOp .geq 3 (tp 97) (ki 2) 3) 4])
    (.cond (tp 98) (.seq (.reg [] [
      Ap 99 7 3,
      FB 100 99,
      AQ 10 100 3])
     (.block 6 (.loop (.seq (.seq (.reg [] [
       Ap 101 10 3,
       Ap 102 2 3,
       rq 103 (.binOp .lss 3 (tp 101) (tp 102) 3) 4])
       (.cond (tp 103) (.skip)
       (.exit 6)))
       (.seq (.block 7 (.seq (.seq (.reg [0, 1, 2, 3, 4, 5, 6, 7, 8, 9, 10] [
         Ap 106 0 22,
         Ap 107 10 3,
         D5 108 22 106 107,
         Ce 109 108 3,
         Ap 110 0 22,
         Ap 111 10 3,
         rq 112 (.binOp .sub 3 (tp 111) (ki 1) 3) 3,
         D5 113 22 110 112,
         Ce 114 113 3,
         rq 115 (cf 97 #[(tp 109),(tp 114)] #[3,3]) 4,
         rq 116 (.unOp .not 4 (tp 115)) 4])
        (.cond (tp 116) (.exit 6)
        (.skip)))
        (.reg [0, 1, 2, 3, 4, 5, 6, 7, 8, 9, 10, 11, 12, 13, 14, 15, 16, 17] [
          Ap 117 0 22,
          Ap 118 10 3,
          Ap 119 0 22,
          Ap 120 10 3,
          rq 121 (.binOp .sub 3 (tp 120) (ki 1) 3) 3,
          Ap 122 0 22,
          Ap 123 10 3,
          rq 124 (.binOp .sub 3 (tp 123) (ki 1) 3) 3,
          D5 125 22 122 124,
          Ce 126 125 3,
          Ap 127 0 22,
          Ap 128 10 3,
          D5 129 22 127 128,
          Ce 130 129 3,
          D5 131 22 117 118,
          rn (.store 3 (tp 131) (tp 126)) 0,
          D5 132 22 119 121,
          rn (.store 3 (tp 132) (tp 130)) 0])))
       (.reg [] [
         Ap 104 10 3,
         FB 105 104,
         AQ 10 105 3]))))))
    (.skip)))))))))
   (.reg [] [
     Ap 15 8 3,
     FB 16 15,
     AQ 8 16 3]))))))
 (.seq (.reg [] [
   rq 6 (.assign (kb false)) 4])
 (.ret))))
def c97:RC:=
 .seq (.reg [] [
  rq 4 (.assign (kb false)) 4])
 (.seq (.reg [] [
   Ap 5 0 3,rq 6 (cf 71 #[(tp 5)] #[3]) 4,Ap 7 6 4,DD 8 1 3 7 true,rg 9 (cf 71 #[(tp 8)] #[3]) 4 7 true,rg 10 (.unOp .not 4 (tp 9)) 4 7 true,rq 11 (.pick (tp 7) (tp 10) (kb false)) 4,Ap 12 11 4,DD 13 0 3 12 false,DD 14 1 3 12 false,rg 15 (.binOp .lss 3 (tp 13) (tp 14) 3) 4 12 false,rq 16 (.pick (tp 12) (kb true) (tp 15)) 4,AQ 4 16 4])
 (.ret))
def c98:RC:=
 .seq (.reg [] [
  Cz 8 0 3])
 (.seq (.reg [0, 1, 2, 3, 4, 5, 6, 7, 8, 9, 10, 11, 12, 13, 14, 15] [
   Ap 11 0 22,Ap 12 1 3,Ap 13 0 22,Ap 14 3 3,Ap 15 0 22,Ap 16 3 3,D5 17 22 15 16,Ce 18 17 3,Ap 19 0 22,Ap 20 1 3,D5 21 22 19 20,Ce 22 21 3,D5 23 22 11 12,rn (.store 3 (tp 23) (tp 18)) 0,D5 24 22 13 14,rn (.store 3 (tp 24) (tp 22)) 0])
 (.seq (.reg [] [
   Ap 25 1 3,FB 26 25,Ap 27 2 3,rq 28 (.binOp .sub 3 (tp 27) (ki 1) 3) 3,AQ 9 26 3,AQ 10 28 3])
 (.seq (.block 0 (.loop (.block 1 (.seq (.block 2 (.loop (.seq (.seq (.reg [0, 1, 2, 3, 4, 5, 6, 7, 8, 9, 10, 11, 12, 13, 14] [
        Ap 29 9 3,
        Ap 30 10 3,
        rq 31 (.binOp .leq 3 (tp 29) (tp 30) 3) 4,
        Ap 32 31 4,
        DD 33 0 22 32 true,
        DD 34 1 3 32 true,
        rg 35 (.indexAddr 22 (tp 33) (tp 34)) 0 32 true,
        rg 36 (.load 3 (tp 35)) 3 32 true,
        DD 37 0 22 32 true,
        DD 38 9 3 32 true,
        rg 39 (.indexAddr 22 (tp 37) (tp 38)) 0 32 true,
        rg 40 (.load 3 (tp 39)) 3 32 true,
        rg 41 (cf 97 #[(tp 36),(tp 40)] #[3,3]) 4 32 true,
        rg 42 (.unOp .not 4 (tp 41)) 4 32 true,
        rq 43 (.pick (tp 32) (tp 42) (kb false)) 4])
   (.cond (tp 43) (.skip)
   (.exit 2)))
   (.block 3 (.reg [] [
     Ap 44 9 3,
     FB 45 44,
     AQ 9 45 3])))))
   (.seq (.block 4 (.loop (.seq (.seq (.reg [0, 1, 2, 3, 4, 5, 6, 7, 8, 9, 10, 11, 12, 13] [
     Ap 46 9 3,
     Ap 47 10 3,
     rq 48 (.binOp .leq 3 (tp 46) (tp 47) 3) 4,
     Ap 49 48 4,
     DD 50 0 22 49 true,
     DD 51 1 3 49 true,
     rg 52 (.indexAddr 22 (tp 50) (tp 51)) 0 49 true,
     rg 53 (.load 3 (tp 52)) 3 49 true,
     DD 54 0 22 49 true,
     DD 55 10 3 49 true,
     rg 56 (.indexAddr 22 (tp 54) (tp 55)) 0 49 true,
     rg 57 (.load 3 (tp 56)) 3 49 true,
     rg 58 (cf 97 #[(tp 53),(tp 57)] #[3,3]) 4 49 true,
     rq 59 (.pick (tp 49) (tp 58) (kb false)) 4])
     (.cond (tp 59) (.skip)
     (.exit 4)))
     (.block 5 (.reg [] [
       Ap 60 10 3,
       rq 61 (.binOp .sub 3 (tp 60) (ki 1) 3) 3,
       AQ 10 61 3])))))
   (.seq (.seq (.reg [] [
     Ap 62 9 3,
     Ap 63 10 3,
     rq 64 (.binOp .gtr 3 (tp 62) (tp 63) 3) 4])
   (.cond (tp 64) (.exit 0)
   (.skip)))
   (.seq (.reg [0, 1, 2, 3, 4, 5, 6, 7, 8, 9, 10, 11, 12, 13, 14, 15] [
     Ap 65 0 22,
     Ap 66 9 3,
     Ap 67 0 22,
     Ap 68 10 3,
     Ap 69 0 22,
     Ap 70 10 3,
     D5 71 22 69 70,
     Ce 72 71 3,
     Ap 73 0 22,
     Ap 74 9 3,
     D5 75 22 73 74,
     Ce 76 75 3,
     D5 77 22 65 66,
     rn (.store 3 (tp 77) (tp 72)) 0,
     D5 78 22 67 68,
     rn (.store 3 (tp 78) (tp 76)) 0])
   (.seq (.reg [] [
     Ap 79 9 3,
     FB 80 79,
     AQ 9 80 3])
   (.reg [] [
     Ap 81 10 3,
     rq 82 (.binOp .sub 3 (tp 81) (ki 1) 3) 3,
     AQ 10 82 3])))))))))
 (.seq (.reg [] [
   Ap 83 9 3,AQ 8 83 3])
 (.ret)))))
def c99:RC:=
 .seq (.reg [] [
  Cz 8 0 3,rq 9 (.assign (kb false)) 4])
 (.seq (.reg [0, 1, 2, 3, 4, 5, 6, 7, 8, 9, 10, 11, 12, 13, 14, 15] [
   Ap 12 0 22,Ap 13 1 3,Ap 14 0 22,Ap 15 3 3,Ap 16 0 22,Ap 17 3 3,D5 18 22 16 17,Ce 19 18 3,Ap 20 0 22,Ap 21 1 3,D5 22 22 20 21,Ce 23 22 3,D5 24 22 12 13,rn (.store 3 (tp 24) (tp 19)) 0,D5 25 22 14 15,rn (.store 3 (tp 25) (tp 23)) 0])
 (.seq (.reg [] [
   Ap 26 1 3,FB 27 26,Ap 28 2 3,rq 29 (.binOp .sub 3 (tp 28) (ki 1) 3) 3,AQ 10 27 3,AQ 11 29 3])
 (.seq (.block 0 (.loop (.seq (.seq (.reg [0, 1, 2, 3, 4, 5, 6, 7, 8, 9, 10, 11, 12, 13] [
   Ap 30 10 3,
   Ap 31 11 3,
   rq 32 (.binOp .leq 3 (tp 30) (tp 31) 3) 4,
   Ap 33 32 4,
   DD 34 0 22 33 true,
   DD 35 10 3 33 true,
   rg 36 (.indexAddr 22 (tp 34) (tp 35)) 0 33 true,
   rg 37 (.load 3 (tp 36)) 3 33 true,
   DD 38 0 22 33 true,
   DD 39 1 3 33 true,
   rg 40 (.indexAddr 22 (tp 38) (tp 39)) 0 33 true,
   rg 41 (.load 3 (tp 40)) 3 33 true,
   rg 42 (cf 97 #[(tp 37),(tp 41)] #[3,3]) 4 33 true,
   rq 43 (.pick (tp 33) (tp 42) (kb false)) 4])
   (.cond (tp 43) (.skip)
   (.exit 0)))
   (.block 1 (.reg [] [
     Ap 44 10 3,
     FB 45 44,
     AQ 10 45 3])))))
 (.seq (.block 2 (.loop (.seq (.seq (.reg [0, 1, 2, 3, 4, 5, 6, 7, 8, 9, 10, 11, 12, 13, 14] [
   Ap 46 10 3,
   Ap 47 11 3,
   rq 48 (.binOp .leq 3 (tp 46) (tp 47) 3) 4,
   Ap 49 48 4,
   DD 50 0 22 49 true,
   DD 51 11 3 49 true,
   rg 52 (.indexAddr 22 (tp 50) (tp 51)) 0 49 true,
   rg 53 (.load 3 (tp 52)) 3 49 true,
   DD 54 0 22 49 true,
   DD 55 1 3 49 true,
   rg 56 (.indexAddr 22 (tp 54) (tp 55)) 0 49 true,
   rg 57 (.load 3 (tp 56)) 3 49 true,
   rg 58 (cf 97 #[(tp 53),(tp 57)] #[3,3]) 4 49 true,
   rg 59 (.unOp .not 4 (tp 58)) 4 49 true,
   rq 60 (.pick (tp 49) (tp 59) (kb false)) 4])
   (.cond (tp 60) (.skip)
   (.exit 2)))
   (.block 3 (.reg [] [
     Ap 61 11 3,
     rq 62 (.binOp .sub 3 (tp 61) (ki 1) 3) 3,
     AQ 11 62 3])))))
 (.seq (.seq (.reg [] [
   Ap 63 10 3,Ap 64 11 3,rq 65 (.binOp .gtr 3 (tp 63) (tp 64) 3) 4])
 (.cond (tp 65) (.seq (.reg [0, 1, 2, 3, 4, 5, 6, 7, 8, 9, 10, 11, 12, 13, 14, 15] [
   Ap 66 0 22,
   Ap 67 11 3,
   Ap 68 0 22,
   Ap 69 1 3,
   Ap 70 0 22,
   Ap 71 1 3,
   D5 72 22 70 71,
   Ce 73 72 3,
   Ap 74 0 22,
   Ap 75 11 3,
   D5 76 22 74 75,
   Ce 77 76 3,
   D5 78 22 66 67,
   rn (.store 3 (tp 78) (tp 73)) 0,
   D5 79 22 68 69,
   rn (.store 3 (tp 79) (tp 77)) 0])
  (.seq (.reg [] [
    Ap 80 11 3,
    AQ 8 80 3,
    rq 9 (.assign (kb true)) 4])
  (.ret)))
 (.skip)))
 (.seq (.reg [0, 1, 2, 3, 4, 5, 6, 7, 8, 9, 10, 11, 12, 13, 14, 15] [
   Ap 81 0 22,Ap 82 10 3,Ap 83 0 22,Ap 84 11 3,Ap 85 0 22,Ap 86 11 3,D5 87 22 85 86,Ce 88 87 3,Ap 89 0 22,Ap 90 10 3,D5 91 22 89 90,Ce 92 91 3,D5 93 22 81 82,rn (.store 3 (tp 93) (tp 88)) 0,D5 94 22 83 84,rn (.store 3 (tp 94) (tp 92)) 0])
 (.seq (.reg [] [
   Ap 95 10 3,FB 96 95,AQ 10 96 3])
 (.seq (.reg [] [
   Ap 97 11 3,rq 98 (.binOp .sub 3 (tp 97) (ki 1) 3) 3,AQ 11 98 3])
 (.seq (.block 4 (.loop (.block 5 (.seq (.block 6 (.loop (.seq (.seq (.reg [0, 1, 2, 3, 4, 5, 6, 7, 8, 9, 10, 11, 12, 13] [
        Ap 99 10 3,
        Ap 100 11 3,
        rq 101 (.binOp .leq 3 (tp 99) (tp 100) 3) 4,
        Ap 102 101 4,
        DD 103 0 22 102 true,
        DD 104 10 3 102 true,
        rg 105 (.indexAddr 22 (tp 103) (tp 104)) 0 102 true,
        rg 106 (.load 3 (tp 105)) 3 102 true,
        DD 107 0 22 102 true,
        DD 108 1 3 102 true,
        rg 109 (.indexAddr 22 (tp 107) (tp 108)) 0 102 true,
        rg 110 (.load 3 (tp 109)) 3 102 true,
        rg 111 (cf 97 #[(tp 106),(tp 110)] #[3,3]) 4 102 true,
        rq 112 (.pick (tp 102) (tp 111) (kb false)) 4])
   (.cond (tp 112) (.skip)
   (.exit 6)))
   (.block 7 (.reg [] [
     Ap 113 10 3,
     FB 114 113,
     AQ 10 114 3])))))
   (.seq (.block 8 (.loop (.seq (.seq (.reg [0, 1, 2, 3, 4, 5, 6, 7, 8, 9, 10, 11, 12, 13, 14] [
     Ap 115 10 3,
     Ap 116 11 3,
     rq 117 (.binOp .leq 3 (tp 115) (tp 116) 3) 4,
     Ap 118 117 4,
     DD 119 0 22 118 true,
     DD 120 11 3 118 true,
     rg 121 (.indexAddr 22 (tp 119) (tp 120)) 0 118 true,
     rg 122 (.load 3 (tp 121)) 3 118 true,
     DD 123 0 22 118 true,
     DD 124 1 3 118 true,
     rg 125 (.indexAddr 22 (tp 123) (tp 124)) 0 118 true,
     rg 126 (.load 3 (tp 125)) 3 118 true,
     rg 127 (cf 97 #[(tp 122),(tp 126)] #[3,3]) 4 118 true,
     rg 128 (.unOp .not 4 (tp 127)) 4 118 true,
     rq 129 (.pick (tp 118) (tp 128) (kb false)) 4])
     (.cond (tp 129) (.skip)
     (.exit 8)))
     (.block 9 (.reg [] [
       Ap 130 11 3,
       rq 131 (.binOp .sub 3 (tp 130) (ki 1) 3) 3,
       AQ 11 131 3])))))
   (.seq (.seq (.reg [] [
     Ap 132 10 3,
     Ap 133 11 3,
     rq 134 (.binOp .gtr 3 (tp 132) (tp 133) 3) 4])
   (.cond (tp 134) (.exit 4)
   (.skip)))
   (.seq (.reg [0, 1, 2, 3, 4, 5, 6, 7, 8, 9, 10, 11, 12, 13, 14, 15] [
     Ap 135 0 22,
     Ap 136 10 3,
     Ap 137 0 22,
     Ap 138 11 3,
     Ap 139 0 22,
     Ap 140 11 3,
     D5 141 22 139 140,
     Ce 142 141 3,
     Ap 143 0 22,
     Ap 144 10 3,
     D5 145 22 143 144,
     Ce 146 145 3,
     D5 147 22 135 136,
     rn (.store 3 (tp 147) (tp 142)) 0,
     D5 148 22 137 138,
     rn (.store 3 (tp 148) (tp 146)) 0])
   (.seq (.reg [] [
     Ap 149 10 3,
     FB 150 149,
     AQ 10 150 3])
   (.reg [] [
     Ap 151 11 3,
     rq 152 (.binOp .sub 3 (tp 151) (ki 1) 3) 3,
     AQ 11 152 3])))))))))
 (.seq (.reg [0, 1, 2, 3, 4, 5, 6, 7, 8, 9, 10, 11, 12, 13, 14, 15] [
   Ap 153 0 22,Ap 154 11 3,Ap 155 0 22,Ap 156 1 3,Ap 157 0 22,Ap 158 1 3,D5 159 22 157 158,Ce 160 159 3,Ap 161 0 22,Ap 162 11 3,D5 163 22 161 162,Ce 164 163 3,D5 165 22 153 154,rn (.store 3 (tp 165) (tp 160)) 0,D5 166 22 155 156,rn (.store 3 (tp 166) (tp 164)) 0])
 (.seq (.reg [] [
   Ap 167 11 3,AQ 8 167 3,rq 9 (.assign (kb false)) 4])
 (.ret))))))))))))
def iH:RC:=
 .seq (.reg [] [
  Ap 12 1 3,AQ 10 12 3])
 (.block 0 (.loop (.block 1 (.seq (.reg [] [
   Ap 13 10 3,
   rq 14 (.binOp .mul 3 (ki 2) (tp 13) 3) 3,
   FB 15 14,
   AQ 11 15 3])
   (.seq (.seq (.reg [] [
     Ap 16 11 3,
     Ap 17 2 3,
     rq 18 (.binOp .geq 3 (tp 16) (tp 17) 3) 4])
   (.cond (tp 18) (.exit 0)
   (.skip)))
   (.seq (.seq (.reg [0, 1, 2, 3, 4, 5, 6, 7, 8, 9, 10, 11, 12, 13, 14, 15, 16, 17, 18, 19, 20, 21] [
     Ap 19 11 3,
     FB 20 19,
     Ap 21 2 3,
     rq 22 (.binOp .lss 3 (tp 20) (tp 21) 3) 4,
     Ap 23 22 4,
     DD 24 4 56 23 true,
     DD 25 0 27 23 true,
     DD 26 3 3 23 true,
     DD 27 11 3 23 true,
     rg 28 (.binOp .add 3 (tp 26) (tp 27) 3) 3 23 true,
     rg 29 (.indexAddr 27 (tp 25) (tp 28)) 0 23 true,
     rg 30 (.load 22 (tp 29)) 22 23 true,
     DD 31 0 27 23 true,
     DD 32 3 3 23 true,
     DD 33 11 3 23 true,
     rg 34 (.binOp .add 3 (tp 32) (tp 33) 3) 3 23 true,
     rg 35 (.binOp .add 3 (tp 34) (ki 1) 3) 3 23 true,
     rg 36 (.indexAddr 27 (tp 31) (tp 35)) 0 23 true,
     rg 37 (.load 22 (tp 36)) 22 23 true,
     rg 38 (.call ⟨.value (tp 24),#[(tp 30),(tp 37)],#[22,22]⟩) 3 23 true,
     rg 39 (.binOp .lss 3 (tp 38) (ki 0) 3) 4 23 true,
     rq 40 (.pick (tp 23) (tp 39) (kb false)) 4])
   (.cond (tp 40) (.reg [] [
     Ap 41 11 3,
     FB 42 41,
     AQ 11 42 3])
   (.skip)))
   (.seq (.seq (.reg [0, 1, 2, 3, 4, 5, 6, 7, 8, 9, 10, 11, 12, 13, 14, 15] [
     Ap 43 4 56,
     Ap 44 0 27,
     Ap 45 3 3,
     Ap 46 10 3,
     rq 47 (.binOp .add 3 (tp 45) (tp 46) 3) 3,
     D5 48 27 44 47,
     Ce 49 48 22,
     Ap 50 0 27,
     Ap 51 3 3,
     Ap 52 11 3,
     rq 53 (.binOp .add 3 (tp 51) (tp 52) 3) 3,
     D5 54 27 50 53,
     Ce 55 54 22,
     rq 56 (.call ⟨.value (tp 43),#[(tp 49),(tp 55)],#[22,22]⟩) 3,
     rq 57 (.binOp .lss 3 (tp 56) (ki 0) 3) 4,
     rq 58 (.unOp .not 4 (tp 57)) 4])
   (.cond (tp 58) (.ret)
   (.skip)))
   (.seq (.reg [0, 1, 2, 3, 4, 5, 6, 7, 8, 9, 10, 11, 12, 13, 14, 15, 16, 17, 18, 19, 20, 21, 22, 23] [
     Ap 59 0 27,
     Ap 60 3 3,
     Ap 61 10 3,
     rq 62 (.binOp .add 3 (tp 60) (tp 61) 3) 3,
     Ap 63 0 27,
     Ap 64 3 3,
     Ap 65 11 3,
     rq 66 (.binOp .add 3 (tp 64) (tp 65) 3) 3,
     Ap 67 0 27,
     Ap 68 3 3,
     Ap 69 11 3,
     rq 70 (.binOp .add 3 (tp 68) (tp 69) 3) 3,
     D5 71 27 67 70,
     Ce 72 71 22,
     Ap 73 0 27,
     Ap 74 3 3,
     Ap 75 10 3,
     rq 76 (.binOp .add 3 (tp 74) (tp 75) 3) 3,
     D5 77 27 73 76,
     Ce 78 77 22,
     D5 79 27 59 62,
     rn (.store 22 (tp 79) (tp 72)) 0,
     D5 80 27 63 66,
     rn (.store 22 (tp 80) (tp 78)) 0])
   (.reg [] [
     Ap 81 11 3,
     AQ 10 81 3])))))))))
def iI:RC:=
 .seq (.reg [] [
  rq 2 (.assign (.const (.int .u64 0))) 95])
 (.seq (.reg [] [
   Ap 3 0 3,rq 4 (.convert 3 95 (tp 3)) 95,rq 5 (cf 76 #[(tp 4)] #[95]) 3,rq 6 (.binOp .shl 95 (.const (.int .u64 1)) (tp 5) 3) 95,AQ 2 6 95])
 (.ret))
def iJ:RC:=
 .seq (.reg [] [
  rq 2 (.assign (.const (.int .u64 0))) 117])
 (.seq (.reg [0, 1, 2, 3, 4, 5, 6, 7, 8, 9] [
   Ap 3 0 133,rq 4 (.nilCheck (tp 3)) 0,Ce 5 4 125,Ap 6 0 133,rq 7 (.nilCheck (tp 6)) 0,Ce 8 7 125,rq 9 (.binOp .shl 125 (tp 8) (.const (.int .u64 13)) 95) 125,rq 10 (.binOp .xor 125 (tp 5) (tp 9) 125) 125,rq 11 (.nilCheck (tp 3)) 0,rn (.store 125 (tp 11) (tp 10)) 0])
 (.seq (.reg [0, 1, 2, 3, 4, 5, 6, 7, 8, 9] [
   Ap 12 0 133,rq 13 (.nilCheck (tp 12)) 0,Ce 14 13 125,Ap 15 0 133,rq 16 (.nilCheck (tp 15)) 0,Ce 17 16 125,rq 18 (.binOp .shr 125 (tp 17) (.const (.int .u64 7)) 95) 125,rq 19 (.binOp .xor 125 (tp 14) (tp 18) 125) 125,rq 20 (.nilCheck (tp 12)) 0,rn (.store 125 (tp 20) (tp 19)) 0])
 (.seq (.reg [0, 1, 2, 3, 4, 5, 6, 7, 8, 9] [
   Ap 21 0 133,rq 22 (.nilCheck (tp 21)) 0,Ce 23 22 125,Ap 24 0 133,rq 25 (.nilCheck (tp 24)) 0,Ce 26 25 125,rq 27 (.binOp .shl 125 (tp 26) (.const (.int .u64 17)) 95) 125,rq 28 (.binOp .xor 125 (tp 23) (tp 27) 125) 125,rq 29 (.nilCheck (tp 21)) 0,rn (.store 125 (tp 29) (tp 28)) 0])
 (.seq (.reg [] [
   Ap 30 0 133,rq 31 (.nilCheck (tp 30)) 0,Ce 32 31 125,AQ 2 32 117])
 (.ret)))))
def iK:RC:=
 .seq (.reg [] [
  Cz 8 0 3])
 (.seq (.reg [] [
   Ap 9 0 27,Ap 10 1 3,rq 11 (.binOp .sub 3 (tp 10) (ki 1) 3) 3,Ap 12 1 3,Ap 13 1 3,FB 14 13,Ap 15 2 129,Ap 16 3 56,rq 17 (cf 105 #[(tp 9),(tp 11),(tp 12),(tp 14),(tp 15),(tp 16)] #[27,3,3,3,129,56]) 3,AQ 8 17 3])
 (.ret))
def iL:RC:=
 .seq (.reg [] [
  Cz 12 0 3])
 (.seq (.reg [] [
   Ap 14 0 27,Ap 15 1 3,Ap 16 2 3,Ap 17 4 129,Ap 18 5 56,rq 19 (cf 109 #[(tp 14),(tp 15),(tp 16),(tp 17),(tp 18)] #[27,3,3,129,56]) 105,Ap 13 19 105,EM 20 13 0 3,EM 21 13 1 3,AQ 1 20 3,AQ 2 21 3])
 (.seq (.reg [] [
   Ap 23 0 27,Ap 24 2 3,Ap 25 3 3,Ap 26 4 129,Ap 27 5 56,rq 28 (cf 109 #[(tp 23),(tp 24),(tp 25),(tp 26),(tp 27)] #[27,3,3,129,56]) 105,Ap 22 28 105,EM 29 22 0 3,EM 30 22 1 3,AQ 2 29 3,AQ 3 30 3])
 (.seq (.reg [] [
   Ap 32 0 27,Ap 33 1 3,Ap 34 2 3,Ap 35 4 129,Ap 36 5 56,rq 37 (cf 109 #[(tp 32),(tp 33),(tp 34),(tp 35),(tp 36)] #[27,3,3,129,56]) 105,Ap 31 37 105,EM 38 31 0 3,EM 39 31 1 3,AQ 1 38 3,AQ 2 39 3])
 (.seq (.reg [] [
   Ap 40 2 3,AQ 12 40 3])
 (.ret)))))
def iM:RC:=
 .seq (.reg [] [
  Ap 10 1 3,AQ 8 10 3])
 (.block 0 (.loop (.block 1 (.seq (.reg [] [
   Ap 11 8 3,
   rq 12 (.binOp .mul 3 (ki 2) (tp 11) 3) 3,
   FB 13 12,
   AQ 9 13 3])
   (.seq (.seq (.reg [] [
     Ap 14 9 3,
     Ap 15 2 3,
     rq 16 (.binOp .geq 3 (tp 14) (tp 15) 3) 4])
   (.cond (tp 16) (.exit 0)
   (.skip)))
   (.seq (.seq (.reg [0, 1, 2, 3, 4, 5, 6, 7, 8, 9, 10, 11, 12, 13, 14, 15, 16, 17, 18, 19] [
     Ap 17 9 3,
     FB 18 17,
     Ap 19 2 3,
     rq 20 (.binOp .lss 3 (tp 18) (tp 19) 3) 4,
     Ap 21 20 4,
     DD 22 0 22 21 true,
     DD 23 3 3 21 true,
     DD 24 9 3 21 true,
     rg 25 (.binOp .add 3 (tp 23) (tp 24) 3) 3 21 true,
     rg 26 (.indexAddr 22 (tp 22) (tp 25)) 0 21 true,
     rg 27 (.load 3 (tp 26)) 3 21 true,
     DD 28 0 22 21 true,
     DD 29 3 3 21 true,
     DD 30 9 3 21 true,
     rg 31 (.binOp .add 3 (tp 29) (tp 30) 3) 3 21 true,
     rg 32 (.binOp .add 3 (tp 31) (ki 1) 3) 3 21 true,
     rg 33 (.indexAddr 22 (tp 28) (tp 32)) 0 21 true,
     rg 34 (.load 3 (tp 33)) 3 21 true,
     rg 35 (cf 97 #[(tp 27),(tp 34)] #[3,3]) 4 21 true,
     rq 36 (.pick (tp 21) (tp 35) (kb false)) 4])
   (.cond (tp 36) (.reg [] [
     Ap 37 9 3,
     FB 38 37,
     AQ 9 38 3])
   (.skip)))
   (.seq (.seq (.reg [0, 1, 2, 3, 4, 5, 6, 7, 8, 9, 10, 11, 12, 13] [
     Ap 39 0 22,
     Ap 40 3 3,
     Ap 41 8 3,
     rq 42 (.binOp .add 3 (tp 40) (tp 41) 3) 3,
     D5 43 22 39 42,
     Ce 44 43 3,
     Ap 45 0 22,
     Ap 46 3 3,
     Ap 47 9 3,
     rq 48 (.binOp .add 3 (tp 46) (tp 47) 3) 3,
     D5 49 22 45 48,
     Ce 50 49 3,
     rq 51 (cf 97 #[(tp 44),(tp 50)] #[3,3]) 4,
     rq 52 (.unOp .not 4 (tp 51)) 4])
   (.cond (tp 52) (.ret)
   (.skip)))
   (.seq (.reg [0, 1, 2, 3, 4, 5, 6, 7, 8, 9, 10, 11, 12, 13, 14, 15, 16, 17, 18, 19, 20, 21, 22, 23] [
     Ap 53 0 22,
     Ap 54 3 3,
     Ap 55 8 3,
     rq 56 (.binOp .add 3 (tp 54) (tp 55) 3) 3,
     Ap 57 0 22,
     Ap 58 3 3,
     Ap 59 9 3,
     rq 60 (.binOp .add 3 (tp 58) (tp 59) 3) 3,
     Ap 61 0 22,
     Ap 62 3 3,
     Ap 63 9 3,
     rq 64 (.binOp .add 3 (tp 62) (tp 63) 3) 3,
     D5 65 22 61 64,
     Ce 66 65 3,
     Ap 67 0 22,
     Ap 68 3 3,
     Ap 69 8 3,
     rq 70 (.binOp .add 3 (tp 68) (tp 69) 3) 3,
     D5 71 22 67 70,
     Ce 72 71 3,
     D5 73 22 53 56,
     rn (.store 3 (tp 73) (tp 66)) 0,
     D5 74 22 57 60,
     rn (.store 3 (tp 74) (tp 72)) 0])
   (.reg [] [
     Ap 75 9 3,
     AQ 8 75 3])))))))))
def iN:RC:=
 .seq (.reg [] [
  Cz 6 0 3])
 (.seq (.reg [] [
   Ap 7 0 22,Ap 8 1 3,rq 9 (.binOp .sub 3 (tp 8) (ki 1) 3) 3,Ap 10 1 3,Ap 11 1 3,FB 12 11,Ap 13 2 129,rq 14 (cf 108 #[(tp 7),(tp 9),(tp 10),(tp 12),(tp 13)] #[22,3,3,3,129]) 3,AQ 6 14 3])
 (.ret))
def iO:RC:=
 .seq (.reg [] [
  Cz 10 0 3])
 (.seq (.reg [] [
   Ap 12 0 22,Ap 13 1 3,Ap 14 2 3,Ap 15 4 129,rq 16 (cf 110 #[(tp 12),(tp 13),(tp 14),(tp 15)] #[22,3,3,129]) 105,Ap 11 16 105,EM 17 11 0 3,EM 18 11 1 3,AQ 1 17 3,AQ 2 18 3])
 (.seq (.reg [] [
   Ap 20 0 22,Ap 21 2 3,Ap 22 3 3,Ap 23 4 129,rq 24 (cf 110 #[(tp 20),(tp 21),(tp 22),(tp 23)] #[22,3,3,129]) 105,Ap 19 24 105,EM 25 19 0 3,EM 26 19 1 3,AQ 2 25 3,AQ 3 26 3])
 (.seq (.reg [] [
   Ap 28 0 22,Ap 29 1 3,Ap 30 2 3,Ap 31 4 129,rq 32 (cf 110 #[(tp 28),(tp 29),(tp 30),(tp 31)] #[22,3,3,129]) 105,Ap 27 32 105,EM 33 27 0 3,EM 34 27 1 3,AQ 1 33 3,AQ 2 34 3])
 (.seq (.reg [] [
   Ap 35 2 3,AQ 10 35 3])
 (.ret)))))
def iR:RC:=
 .seq (.reg [] [
  Cz 10 0 3,Cz 11 0 3])
 (.seq (.seq (.reg [0, 1, 2, 3, 4, 5, 6, 7, 8, 9, 10] [
   Ap 12 4 56,Ap 13 0 27,Ap 14 2 3,D5 15 27 13 14,Ce 16 15 22,Ap 17 0 27,Ap 18 1 3,D5 19 27 17 18,Ce 20 19 22,rq 21 (.call ⟨.value (tp 12),#[(tp 16),(tp 20)],#[22,22]⟩) 3,rq 22 (.binOp .lss 3 (tp 21) (ki 0) 3) 4])
 (.cond (tp 22) (.seq (.reg [] [
   Ap 23 3 129,
   rq 24 (.nilCheck (tp 23)) 0,
   Ce 25 24 3,
   FB 26 25,
   rq 27 (.nilCheck (tp 23)) 0,
   rn (.store 3 (tp 27) (tp 26)) 0])
  (.seq (.reg [] [
    Ap 28 2 3,
    Ap 29 1 3,
    AQ 10 28 3,
    AQ 11 29 3])
  (.ret)))
 (.skip)))
 (.seq (.reg [] [
   Ap 30 1 3,Ap 31 2 3,AQ 10 30 3,AQ 11 31 3])
 (.ret)))
def iT:RC:=
 .seq (.reg [] [
  Cz 8 0 3,Cz 9 0 3])
 (.seq (.seq (.reg [0, 1, 2, 3, 4, 5, 6, 7, 8] [
   Ap 10 0 22,Ap 11 2 3,D5 12 22 10 11,Ce 13 12 3,Ap 14 0 22,Ap 15 1 3,D5 16 22 14 15,Ce 17 16 3,rq 18 (cf 97 #[(tp 13),(tp 17)] #[3,3]) 4])
 (.cond (tp 18) (.seq (.reg [] [
   Ap 19 3 129,
   rq 20 (.nilCheck (tp 19)) 0,
   Ce 21 20 3,
   FB 22 21,
   rq 23 (.nilCheck (tp 19)) 0,
   rn (.store 3 (tp 23) (tp 22)) 0])
  (.seq (.reg [] [
    Ap 24 2 3,
    Ap 25 1 3,
    AQ 8 24 3,
    AQ 9 25 3])
  (.ret)))
 (.skip)))
 (.seq (.reg [] [
   Ap 26 1 3,Ap 27 2 3,AQ 8 26 3,AQ 9 27 3])
 (.ret)))
def ti3:TI:=⟨.int .i64,1,8,(some (.int .i64 0)),false⟩
def ti4:TI:=⟨.bool,1,1,(some (.bool false)),false⟩
def ti5:TI:=⟨.int .u8,1,1,(some (.int .u8 0)),false⟩
def ti9:TI:=⟨.string,1,16,(some (.string ⟨#[]⟩)),false⟩
def Acz:TI:=⟨.slice 3,1,24,(some (.slice none 0 0)),false⟩
def AcA : TI := ⟨.struct #[⟨ "Rows", 3, 0, false, "", "", 0⟩, ⟨ "Columns", 3, 1, false, "", "", 8⟩, ⟨ "Colours", 3, 2, false, "", "", 16⟩, ⟨ "Turns", 22, 3, false, "", "", 24⟩], 4, 48, (some (.agg #[(.int .i64 0), (.int .i64 0), (.int .i64 0), (.slice none 0 0)])), false⟩
def AcB:TI:=⟨.slice 22,1,24,(some (.slice none 0 0)),false⟩
def AcC:TI:=⟨.int .i64,1,8,(some (.int .i64 0)),false⟩
def AcD : TI := ⟨.struct #[⟨ "Rows", 3, 0, false, "", "", 0⟩, ⟨ "Columns", 3, 1, false, "", "", 8⟩, ⟨ "Colours", 3, 2, false, "", "", 16⟩, ⟨ "Turns", 22, 3, false, "", "", 24⟩], 4, 48, (some (.agg #[(.int .i64 0), (.int .i64 0), (.int .i64 0), (.slice none 0 0)])), false⟩
def AcE:TI:=⟨.func #[22,22] #[4] false,1,8,(some .nilFunc),false⟩
def AcF:TI:=⟨.pointer 54,1,8,(some (.pointer none)),false⟩
def AcG : TI := ⟨.struct #[⟨ "Press", 24, 0, true, "", "", 0⟩, ⟨ "from", 27, 4, false, "", "spadille/back", 48⟩], 5, 72, (some (.agg #[(.int .i64 0), (.int .i64 0), (.int .i64 0), (.slice none 0 0), (.slice none 0 0)])), false⟩
def AcH:TI:=⟨.func #[22] #[] false,1,8,(some .nilFunc),false⟩
def AcI:TI:=⟨.func #[22,22] #[3] false,1,8,(some .nilFunc),false⟩
def AcJ : TI := ⟨.struct #[⟨ "quarters", 3, 0, false, "", "spadille/back", 0⟩, ⟨ "flipped", 4, 1, false, "", "spadille/back", 8⟩], 2, 16, (some (.agg #[(.int .i64 0), (.bool false)])), true⟩
def AcK:TI:=⟨.array 17 3,17,136,(some (.agg #[(.int .i64 0),(.int .i64 0),(.int .i64 0),(.int .i64 0),(.int .i64 0),(.int .i64 0),(.int .i64 0),(.int .i64 0),(.int .i64 0),(.int .i64 0),(.int .i64 0),(.int .i64 0),(.int .i64 0),(.int .i64 0),(.int .i64 0),(.int .i64 0),(.int .i64 0)])),true⟩
def AcL:TI:=⟨.int .u16,1,2,(some (.int .u16 0)),false⟩
def AcM:TI:=⟨.func #[22,3] #[] false,1,8,(some .nilFunc),false⟩
def AcN:TI:=⟨.func #[3] #[4] false,1,8,(some .nilFunc),false⟩
def AcO:TI:=⟨.func #[79] #[] false,1,8,(some .nilFunc),false⟩
def AcP:TI:=⟨.func #[3,3,3] #[3] false,1,8,(some .nilFunc),false⟩
def AcQ:TI:=⟨.array 32 5,32,32,(some (.agg #[(.int .u8 0),(.int .u8 0),(.int .u8 0),(.int .u8 0),(.int .u8 0),(.int .u8 0),(.int .u8 0),(.int .u8 0),(.int .u8 0),(.int .u8 0),(.int .u8 0),(.int .u8 0),(.int .u8 0),(.int .u8 0),(.int .u8 0),(.int .u8 0),(.int .u8 0),(.int .u8 0),(.int .u8 0),(.int .u8 0),(.int .u8 0),(.int .u8 0),(.int .u8 0),(.int .u8 0),(.int .u8 0),(.int .u8 0),(.int .u8 0),(.int .u8 0),(.int .u8 0),(.int .u8 0),(.int .u8 0),(.int .u8 0)])),true⟩
def AcR:TI:=⟨.int .u32,1,4,(some (.int .u32 0)),false⟩
def AcS:TI:=⟨.int .u64,1,8,(some (.int .u64 0)),false⟩
def lX:TI:=⟨.int .i64,1,8,(some (.int .i64 0)),false⟩
def lY:TI:=⟨.int .u64,1,8,(some (.int .u64 0)),false⟩
def lZ:TI:=⟨.int .u64,1,8,(some (.int .u64 0)),false⟩
def mD:TI:=⟨.pointer 3,1,8,(some (.pointer none)),false⟩
def AcT:Tr TI:=(.node none (.node none (.node (some ti3) (.node none (.node none (.node none .nil (.node (some AcS) .nil .nil)) (.node (some AcE) (.node (some AcN) .nil .nil) .nil)) (.node none .nil (.node (some AcH) .nil .nil))) (.node none .nil (.node (some AcB) (.node none (.node (some AcL) .nil .nil) .nil) .nil))) (.node (some ti5) (.node (some ti9) (.node none (.node none (.node none (.node (some mD) .nil .nil) .nil) .nil) .nil) .nil) (.node none (.node none .nil (.node none .nil (.node (some lY) .nil .nil))) (.node none (.node none (.node (some AcM) .nil .nil) .nil) (.node none (.node (some AcQ) .nil .nil) (.node (some lZ) .nil .nil)))))) (.node none (.node (some ti4) (.node none (.node none (.node (some AcD) (.node (some AcJ) .nil .nil) .nil) .nil) (.node (some AcA) .nil (.node (some AcI) (.node (some AcP) .nil .nil) .nil))) (.node none .nil (.node (some AcC) (.node none .nil (.node (some lX) .nil .nil)) .nil))) (.node none (.node none (.node none .nil (.node (some AcF) (.node (some AcO) .nil .nil) .nil)) .nil) (.node none (.node (some Acz) (.node none (.node (some AcK) .nil .nil) .nil) (.node (some AcG) .nil .nil)) (.node none .nil (.node none (.node (some AcR) .nil .nil) .nil))))))
noncomputable def tt:TT:=AcT.get
def AcU:Tr Xq:=(.node none (.node none (.node (some ⟨31,c3,[.tmp 2]⟩) (.node (some ⟨72,c7,[.tmp 2,.tmp 3]⟩) (.node (some ⟨4,c15,[.cell 0 24]⟩) (.node (some ⟨16,c31,[.tmp 4]⟩) (.node (some ⟨66,c63,[.tmp 4]⟩) .nil .nil) (.node (some ⟨32,c95,[]⟩) .nil .nil)) (.node (some ⟨9,c47,[.tmp 4]⟩) .nil .nil)) (.node (some ⟨4,c23,[.tmp 2]⟩) (.node (some ⟨15,c39,[.tmp 4]⟩) (.node (some ⟨6,c71,[.tmp 2]⟩) .nil .nil) (.node (some ⟨33,iJ,[.tmp 2]⟩) .nil .nil)) (.node (some ⟨15,c55,[.tmp 6]⟩) (.node (some ⟨90,c87,[.tmp 10]⟩) .nil .nil) .nil))) (.node (some ⟨4,c11,[.cell 0 24]⟩) (.node (some ⟨43,c19,[.tmp 4,.tmp 5]⟩) (.node (some ⟨18,c35,[.cell 2 64]⟩) (.node (some ⟨16,c67,[]⟩) .nil .nil) (.node (some ⟨168,c99,[.tmp 8,.tmp 9]⟩) .nil .nil)) (.node (some ⟨9,c51,[.tmp 2]⟩) (.node (some ⟨67,c83,[]⟩) .nil .nil) .nil)) (.node (some ⟨36,c27,[.tmp 4]⟩) (.node (some ⟨28,c43,[.tmp 4]⟩) (.node (some ⟨148,c75,[]⟩) .nil .nil) (.node (some ⟨15,iN,[.tmp 6]⟩) .nil .nil)) (.node (some ⟨26,c59,[.tmp 6]⟩) (.node (some ⟨49,c91,[]⟩) .nil .nil) .nil)))) (.node (some ⟨209,c5,[.tmp 0]⟩) (.node (some ⟨20,c9,[.tmp 4,.tmp 5]⟩) (.node (some ⟨21,c17,[.tmp 4,.tmp 5]⟩) (.node (some ⟨36,c33,[.tmp 4]⟩) (.node (some ⟨5,c65,[.tmp 2]⟩) .nil .nil) (.node (some ⟨17,c97,[.tmp 4]⟩) .nil .nil)) (.node (some ⟨9,c49,[.tmp 2]⟩) (.node (some ⟨53,c81,[]⟩) .nil .nil) .nil)) (.node (some ⟨110,c25,[.tmp 2,.tmp 3]⟩) (.node (some ⟨19,c41,[.tmp 4]⟩) (.node (some ⟨25,c73,[.tmp 2]⟩) .nil .nil) (.node (some ⟨41,iL,[.tmp 12]⟩) .nil .nil)) (.node (some ⟨37,c57,[.tmp 4,.tmp 5]⟩) (.node (some ⟨19,c89,[.tmp 2]⟩) .nil .nil) .nil))) (.node (some ⟨4,c13,[.tmp 2]⟩) (.node (some ⟨25,c21,[.tmp 4,.tmp 5]⟩) (.node (some ⟨22,c37,[.tmp 2]⟩) (.node (some ⟨34,c69,[.tmp 4]⟩) .nil .nil) (.node (some ⟨82,iH,[]⟩) .nil .nil)) (.node (some ⟨47,c53,[.tmp 4]⟩) (.node (some ⟨34,c85,[]⟩) .nil .nil) .nil)) (.node (some ⟨8,c29,[.tmp 2]⟩) (.node (some ⟨26,c45,[.tmp 4]⟩) .nil (.node (some ⟨32,iR,[.tmp 10,.tmp 11]⟩) .nil .nil)) (.node (some ⟨34,c61,[.tmp 4]⟩) (.node (some ⟨65,c93,[]⟩) .nil .nil) .nil))))) (.node none (.node (some ⟨21,c4,[.tmp 6]⟩) (.node (some ⟨27,c8,[.tmp 4]⟩) (.node (some ⟨34,c16,[.tmp 6,.tmp 7]⟩) (.node (some ⟨21,c32,[.tmp 4]⟩) (.node (some ⟨19,c64,[.tmp 4]⟩) .nil .nil) (.node (some ⟨133,c96,[.tmp 6]⟩) .nil .nil)) (.node (some ⟨9,c48,[.tmp 3]⟩) (.node (some ⟨67,c80,[.tmp 10,.tmp 11]⟩) .nil .nil) .nil)) (.node (some ⟨70,c24,[.tmp 6]⟩) (.node (some ⟨50,c40,[.cell 4 70]⟩) (.node (some ⟨32,c72,[.tmp 6]⟩) .nil .nil) (.node (some ⟨18,iK,[.tmp 8]⟩) .nil .nil)) (.node (some ⟨18,c56,[.tmp 4]⟩) (.node (some ⟨178,c88,[.tmp 10,.tmp 11]⟩) .nil .nil) .nil))) (.node (some ⟨93,c12,[.tmp 4,.tmp 5]⟩) (.node (some ⟨42,c20,[.tmp 6,.tmp 7]⟩) (.node (some ⟨22,c36,[.cell 4 64]⟩) (.node (some ⟨28,c68,[]⟩) .nil .nil) .nil) (.node (some ⟨15,c52,[.tmp 2]⟩) (.node (some ⟨63,c84,[.tmp 8,.tmp 9]⟩) .nil .nil) .nil)) (.node (some ⟨35,c28,[.tmp 6]⟩) (.node (some ⟨38,c44,[.tmp 6]⟩) (.node (some ⟨8,c76,[.tmp 2]⟩) .nil .nil) (.node (some ⟨36,iO,[.tmp 10]⟩) .nil .nil)) (.node (some ⟨70,c60,[.tmp 9]⟩) (.node (some ⟨56,c92,[]⟩) .nil .nil) .nil)))) (.node (some ⟨44,c6,[.tmp 2,.tmp 3]⟩) (.node (some ⟨39,c10,[.tmp 2,.tmp 3]⟩) (.node (some ⟨23,c18,[.tmp 4,.tmp 5]⟩) (.node (some ⟨15,c34,[.tmp 6]⟩) (.node (some ⟨11,c66,[]⟩) .nil .nil) (.node (some ⟨84,c98,[.tmp 8]⟩) .nil .nil)) (.node (some ⟨4,c50,[.tmp 2]⟩) (.node (some ⟨60,c82,[]⟩) .nil .nil) .nil)) (.node (some ⟨58,c26,[]⟩) (.node (some ⟨33,c42,[.tmp 4,.tmp 5]⟩) (.node (some ⟨25,c74,[.tmp 2]⟩) .nil .nil) (.node (some ⟨76,iM,[]⟩) .nil .nil)) (.node (some ⟨30,c58,[.tmp 4]⟩) (.node (some ⟨25,c90,[.tmp 2]⟩) .nil .nil) .nil))) (.node (some ⟨29,c14,[.tmp 4,.tmp 5]⟩) (.node (some ⟨26,c22,[.tmp 4]⟩) (.node (some ⟨27,c38,[.tmp 4]⟩) .nil (.node (some ⟨7,iI,[.tmp 2]⟩) .nil .nil)) (.node (some ⟨20,c54,[.tmp 4]⟩) (.node (some ⟨141,c86,[.tmp 8]⟩) .nil .nil) .nil)) (.node (some ⟨106,c30,[.tmp 2]⟩) (.node (some ⟨88,c46,[]⟩) (.node (some ⟨134,c78,[]⟩) .nil .nil) (.node (some ⟨28,iT,[.tmp 8,.tmp 9]⟩) .nil .nil)) (.node (some ⟨14,c62,[]⟩) (.node (some ⟨57,c94,[.tmp 6,.tmp 7]⟩) .nil .nil) .nil))))))
noncomputable def K7:FuncId→Option Xq:=AcU.get
end Go.BaA
