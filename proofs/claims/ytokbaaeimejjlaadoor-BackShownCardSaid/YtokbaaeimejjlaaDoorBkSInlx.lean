/- Made from wip. -/
import Derived.Test.YtokbaaeimejjlaaDoorSpFramex
import Derived.Test.YtokbaaeimejjlaaDoorBkSNodesx
import Derived.Test.YtokbaaeimejjlaaDoorSpClo3x
import Derived.KernelRfl

set_option maxRecDepth 100000
namespace Go.BkS
open Go.Sp
def c4:RC:=PM
def c9:RC:=UI
def c10:RC:=PN
def c11:RC:=
 .seq (.reg [] [
  rq 3 (.box 27 (tp 0)) 0,rq 6 (.assign (.const (.slice none 0 0))) 25,Cz 7 0 32])
 (.seq (.reg [] [
   Ce 12 3 27,Ap 13 1 25,rq 14 (.buildSlice 30 1 #[(0,(tp 13))]) 30,rq 15 (cf 32 #[(tp 12),(tp 14)] #[27,30]) 62,Ap 11 15 62,EM 16 11 0 61,EM 17 11 1 32,AQ 8 16 61,AQ 9 17 32])
 (.seq (.seq (.reg [] [
   Ap 18 9 32,rq 19 (.binOp .neq 32 (tp 18) (ki 0) 32) 4])
 (.cond (tp 19) (.seq (.reg [] [
   Ap 20 9 32,
   rq 6 (.assign (.const (.slice none 0 0))) 25,
   AQ 7 20 32])
  (.ret))
 (.skip)))
 (.seq (.reg [] [
   Ap 21 8 61,rq 22 (.nilCheck (tp 21)) 0,DR 23 66 22 0,DR 24 27 23 3,Ce 25 24 25,Ap 26 2 3,rq 27 (cf 33 #[(tp 25),(tp 26)] #[25,3]) 3,AQ 10 27 3])
 (.seq (.seq (.reg [] [
   Ap 28 10 3,rq 29 (.binOp .lss 3 (tp 28) (ki 0) 3) 4])
 (.cond (tp 29) (.seq (.reg [] [
   rq 6 (.assign (.const (.slice none 0 0))) 25,
   Cz 7 2 32])
  (.ret))
 (.skip)))
 (.seq (.reg [] [
   Ap 30 8 61,Ap 31 1 25,Ap 32 10 3,rq 33 (cf 34 #[(tp 30),(tp 31),(tp 32)] #[61,25,3]) 25,AQ 6 33 25,Cz 7 0 32])
 (.ret))))))
def c12:RC:=PO
def c13:RC:=PP
def c14:RC:=
 .seq (.reg [] [
  rq 2 (.box 27 (tp 0)) 0,rq 4 (.assign (.const (.slice none 0 0))) 30,Cz 5 0 32])
 (.seq (.reg [] [
   Ce 9 2 27,Ap 10 1 25,rq 11 (.buildSlice 30 1 #[(0,(tp 10))]) 30,rq 12 (cf 32 #[(tp 9),(tp 11)] #[27,30]) 62,Ap 8 12 62,EM 13 8 0 61,EM 14 8 1 32,AQ 6 13 61,AQ 7 14 32])
 (.seq (.seq (.reg [] [
   Ap 15 7 32,rq 16 (.binOp .neq 32 (tp 15) (ki 0) 32) 4])
 (.cond (tp 16) (.seq (.reg [] [
   Ap 17 7 32,
   rq 4 (.assign (.const (.slice none 0 0))) 30,
   AQ 5 17 32])
  (.ret))
 (.skip)))
 (.seq (.reg [] [
   Ap 18 6 61,Ap 19 1 25,rq 20 (cf 35 #[(tp 18),(tp 19)] #[61,25]) 30,AQ 4 20 30,Cz 5 0 32])
 (.ret))))
def c15:RC:=
 .seq (.reg [] [
  rq 2 (.box 27 (tp 0)) 0,rq 4 (.assign (.const (.slice none 0 0))) 25,Cz 5 0 32])
 (.seq (.reg [] [
   Ce 12 2 27,Ap 13 1 25,rq 14 (.buildSlice 30 1 #[(0,(tp 13))]) 30,rq 15 (cf 32 #[(tp 12),(tp 14)] #[27,30]) 62,Ap 11 15 62,EM 16 11 0 61,EM 17 11 1 32,AQ 6 16 61,AQ 7 17 32])
 (.seq (.seq (.reg [] [
   Ap 18 7 32,rq 19 (.binOp .neq 32 (tp 18) (ki 0) 32) 4])
 (.cond (tp 19) (.seq (.reg [] [
   Ap 20 7 32,
   rq 4 (.assign (.const (.slice none 0 0))) 25,
   AQ 5 20 32])
  (.ret))
 (.skip)))
 (.seq (.reg [] [
   rq 8 (.assign (.const (.slice none 0 0))) 25])
 (.seq (.seq (.reg [] [
   Ap 21 6 61,rq 22 (.nilCheck (tp 21)) 0,DR 23 66 22 0,DR 24 27 23 3,Ce 25 24 25,EN 26 25 25,rq 27 (.move (ki 0)) 3])
 (.block 0 (.loop (.seq (.reg [] [
   L8 28 27 26])
   (.seq (.cond (tp 28) (.skip)
   (.exit 0))
   (.seq (.block 1 (.seq (.reg [] [
     Ap 29 27 3,
     D5 30 25 25 27,
     Ce 31 30 3,
     AQ 9 29 3,
     AQ 10 31 3])
    (.seq (.reg [] [
      Ap 32 6 61,
      Ap 33 1 25,
      Ap 34 9 3,
      rq 35 (cf 36 #[(tp 32),(tp 33),(tp 34)] #[61,25,3]) 69,
      rq 36 (.binOp .eql 69 (tp 35) (.const (.int .u16 0)) 69) 4])
    (.cond (tp 36) (.reg [] [
      Ap 37 8 25,
      Ap 38 10 3,
      rq 39 (.buildSlice 25 1 #[(0,(tp 38))]) 25,
      rq 40 (cb .append #[(tp 37),(tp 39)] #[25,25]) 25,
      AQ 8 40 25])
    (.skip)))))
   (.reg [] [
     FB 41 27,
     Ap 27 41 3])))))))
 (.seq (.reg [] [
   Ap 42 8 25,AQ 4 42 25,Cz 5 0 32])
 (.ret))))))
def c16:RC:=
 .seq (.reg [] [
  rq 4 (.assign (kb false)) 4])
 (.seq (.seq (.reg [] [
   Ap 6 0 30,EN 7 6 30,Ap 8 1 30,EN 9 8 30,rq 10 (.binOp .neq 3 (tp 7) (tp 9) 3) 4])
 (.cond (tp 10) (.seq (.reg [] [
   rq 4 (.assign (kb false)) 4])
  (.ret))
 (.skip)))
 (.seq (.seq (.reg [] [
   Cz 5 0 3])
 (.block 0 (.loop (.seq (.seq (.reg [] [
   Ap 11 5 3,
   Ap 12 0 30,
   EN 13 12 30,
   rq 14 (.binOp .lss 3 (tp 11) (tp 13) 3) 4])
   (.cond (tp 14) (.skip)
   (.exit 0)))
   (.seq (.block 1 (.seq (.reg [0, 1, 2, 3, 4, 5, 6, 7, 8, 9] [
     Ap 17 0 30,
     Ap 18 5 3,
     D5 19 30 17 18,
     Ce 20 19 25,
     Ap 21 1 30,
     Ap 22 5 3,
     D5 23 30 21 22,
     Ce 24 23 25,
     rq 25 (cf 12 #[(tp 20),(tp 24)] #[25,25]) 4,
     rq 26 (.unOp .not 4 (tp 25)) 4])
    (.cond (tp 26) (.seq (.reg [] [
      rq 4 (.assign (kb false)) 4])
     (.ret))
    (.skip))))
   (.reg [] [
     Ap 15 5 3,
     FB 16 15,
     AQ 5 16 3]))))))
 (.seq (.reg [] [
   rq 4 (.assign (kb true)) 4])
 (.ret))))
def c17:RC:=
 .seq (.reg [] [
  rq 2 (.box 27 (tp 0)) 0,rq 4 (.assign (.const (.slice none 0 0))) 25,Cz 5 0 32])
 (.seq (.reg [] [
   Ce 9 2 27,Ap 10 1 25,rq 11 (.buildSlice 30 1 #[(0,(tp 10))]) 30,rq 12 (cf 32 #[(tp 9),(tp 11)] #[27,30]) 62,Ap 8 12 62,EM 13 8 0 61,EM 14 8 1 32,AQ 6 13 61,AQ 7 14 32])
 (.seq (.seq (.reg [] [
   Ap 15 7 32,rq 16 (.binOp .neq 32 (tp 15) (ki 0) 32) 4])
 (.cond (tp 16) (.seq (.reg [] [
   Ap 17 7 32,
   rq 4 (.assign (.const (.slice none 0 0))) 25,
   AQ 5 17 32])
  (.ret))
 (.skip)))
 (.seq (.reg [] [
   Ap 18 6 61,Ap 19 1 25,rq 20 (cf 35 #[(tp 18),(tp 19)] #[61,25]) 30,rq 21 (.indexAddr 30 (tp 20) (ki 0)) 0,Ce 22 21 25,AQ 4 22 25,Cz 5 0 32])
 (.ret))))
def c18:RC:=
 .seq (.reg [] [
  rq 3 (.box 27 (tp 0)) 0,Cz 6 0 3,Cz 7 0 32])
 (.seq (.reg [] [
   Ce 13 3 27,Ap 14 1 25,Ap 15 2 25,rq 16 (.buildSlice 30 2 #[(0,(tp 14)),(1,(tp 15))]) 30,rq 17 (cf 32 #[(tp 13),(tp 16)] #[27,30]) 62,Ap 12 17 62,EM 18 12 0 61,EM 19 12 1 32,AQ 8 18 61,AQ 9 19 32])
 (.seq (.seq (.reg [] [
   Ap 20 9 32,rq 21 (.binOp .neq 32 (tp 20) (ki 0) 32) 4])
 (.cond (tp 21) (.seq (.reg [] [
   Ap 22 9 32,
   Cz 6 0 3,
   AQ 7 22 32])
  (.ret))
 (.skip)))
 (.seq (.seq (.reg [] [
   Ap 23 8 61,rq 24 (.nilCheck (tp 23)) 0,DR 25 66 24 0,DR 26 27 25 3,Ce 27 26 25,EN 28 27 25,rq 29 (.move (ki 0)) 3])
 (.block 0 (.loop (.seq (.reg [] [
   L8 30 29 28])
   (.seq (.cond (tp 30) (.skip)
   (.exit 0))
   (.seq (.block 1 (.seq (.reg [] [
     Ap 31 29 3,
     D5 32 25 27 29,
     Ce 33 32 3,
     AQ 10 31 3,
     AQ 11 33 3])
    (.seq (.reg [] [
      Ap 34 8 61,
      Ap 35 1 25,
      Ap 36 10 3,
      rq 37 (cf 34 #[(tp 34),(tp 35),(tp 36)] #[61,25,3]) 25,
      Ap 38 2 25,
      rq 39 (cf 37 #[(tp 37),(tp 38)] #[25,25]) 4])
    (.cond (tp 39) (.seq (.reg [] [
      Ap 40 11 3,
      AQ 6 40 3,
      Cz 7 0 32])
     (.ret))
    (.skip)))))
   (.reg [] [
     FB 41 29,
     Ap 29 41 3])))))))
 (.seq (.reg [] [
   Cz 6 0 3,Cz 7 12 32])
 (.ret)))))
def c19:RC:=
 .seq (.reg [] [
  rq 0 (.assign (kb false)) 4])
 (.seq (.reg [] [
   rq 21 (cf 24 #[(ki 1),(ki 4)] #[3,3]) 40,Ap 20 21 40,EM 22 20 0 3,EM 23 20 1 32,AQ 1 22 3,AQ 2 23 32])
 (.seq (.reg [] [
   rq 25 (cf 24 #[(ki 4),(ki 1)] #[3,3]) 40,Ap 24 25 40,EM 26 24 0 3,EM 27 24 1 32,AQ 3 26 3,AQ 4 27 32])
 (.seq (.reg [] [
   rq 29 (cf 38 #[] #[]) 27,rq 30 (cf 23 #[(tp 29)] #[27]) 40,Ap 28 30 40,EM 31 28 0 3,EM 32 28 1 32,AQ 5 31 3,AQ 6 32 32])
 (.seq (.reg [] [
   rq 34 (cf 38 #[] #[]) 27,rq 35 (.buildSlice 25 2 #[(0,(ki 2)),(1,(ki 2))]) 25,rq 36 (cf 22 #[(tp 35)] #[25]) 25,rq 37 (cf 30 #[(tp 34),(tp 36)] #[27,25]) 40,Ap 33 37 40,EM 38 33 0 3,EM 39 33 1 32,AQ 7 38 3,AQ 8 39 32])
 (.seq (.reg [] [
   rq 41 (cf 31 #[] #[]) 27,rq 42 (cf 29 #[(tp 41),(ki 2)] #[27,3]) 40,Ap 40 42 40,EM 43 40 0 3,EM 44 40 1 32,AQ 9 43 3,AQ 10 44 32])
 (.seq (.reg [] [
   rq 46 (cf 38 #[] #[]) 27,rq 47 (.buildSlice 25 4 #[(0,(ki 0)),(1,(ki 1)),(2,(ki 0)),(3,(ki 0))]) 25,rq 48 (cf 22 #[(tp 47)] #[25]) 25,rq 49 (cf 11 #[(tp 46),(tp 48),(ki 1)] #[27,25,3]) 33,Ap 45 49 33,EM 50 45 0 25,EM 51 45 1 32,AQ 11 50 25,AQ 12 51 32])
 (.seq (.reg [] [
   rq 53 (cf 38 #[] #[]) 27,rq 54 (.buildSlice 25 4 #[(0,(ki 0)),(1,(ki 1)),(2,(ki 1)),(3,(ki 0))]) 25,rq 55 (cf 22 #[(tp 54)] #[25]) 25,rq 56 (cf 14 #[(tp 53),(tp 55)] #[27,25]) 36,Ap 52 56 36,EM 57 52 0 30,EM 58 52 1 32,AQ 13 57 30,AQ 14 58 32])
 (.seq (.seq (.reg [] [
   Ap 59 2 32,rq 60 (.binOp .neq 32 (tp 59) (ki 0) 32) 4,Ap 61 60 4,DD 62 4 32 61 false,rg 63 (.binOp .neq 32 (tp 62) (ki 0) 32) 4 61 false,rq 64 (.pick (tp 61) (kb true) (tp 63)) 4,Ap 65 64 4,DD 66 6 32 65 false,rg 67 (.binOp .neq 32 (tp 66) (ki 0) 32) 4 65 false,rq 68 (.pick (tp 65) (kb true) (tp 67)) 4,Ap 69 68 4,DD 70 8 32 69 false,rg 71 (.binOp .neq 32 (tp 70) (ki 0) 32) 4 69 false,rq 72 (.pick (tp 69) (kb true) (tp 71)) 4,Ap 73 72 4,DD 74 10 32 73 false,rg 75 (.binOp .neq 32 (tp 74) (ki 0) 32) 4 73 false,rq 76 (.pick (tp 73) (kb true) (tp 75)) 4,Ap 77 76 4,DD 78 12 32 77 false,rg 79 (.binOp .neq 32 (tp 78) (ki 0) 32) 4 77 false,rq 80 (.pick (tp 77) (kb true) (tp 79)) 4,Ap 81 80 4,DD 82 14 32 81 false,rg 83 (.binOp .neq 32 (tp 82) (ki 0) 32) 4 81 false,rq 84 (.pick (tp 81) (kb true) (tp 83)) 4])
 (.cond (tp 84) (.seq (.reg [] [
   rq 0 (.assign (kb false)) 4])
  (.ret))
 (.skip)))
 (.seq (.reg [] [
   rq 86 (cf 38 #[] #[]) 27,rq 87 (.buildSlice 25 4 #[(0,(ki 1)),(1,(ki 0)),(2,(ki 1)),(3,(ki 0))]) 25,rq 88 (cf 22 #[(tp 87)] #[25]) 25,rq 89 (cf 17 #[(tp 86),(tp 88)] #[27,25]) 33,Ap 85 89 33,EM 90 85 0 25,EM 91 85 1 32,AQ 15 90 25,AQ 2 91 32])
 (.seq (.reg [] [
   rq 93 (cf 38 #[] #[]) 27,rq 94 (.buildSlice 25 4 #[(0,(ki 0)),(1,(ki 1)),(2,(ki 1)),(3,(ki 0))]) 25,rq 95 (cf 22 #[(tp 94)] #[25]) 25,rq 96 (cf 15 #[(tp 93),(tp 95)] #[27,25]) 33,Ap 92 96 33,EM 97 92 0 25,EM 98 92 1 32,AQ 16 97 25,AQ 4 98 32])
 (.seq (.reg [] [
   rq 100 (cf 38 #[] #[]) 27,rq 101 (.buildSlice 25 4 #[(0,(ki 0)),(1,(ki 1)),(2,(ki 0)),(3,(ki 0))]) 25,rq 102 (cf 22 #[(tp 101)] #[25]) 25,rq 103 (.buildSlice 25 4 #[(0,(ki 0)),(1,(ki 0)),(2,(ki 1)),(3,(ki 0))]) 25,rq 104 (cf 22 #[(tp 103)] #[25]) 25,rq 105 (cf 18 #[(tp 100),(tp 102),(tp 104)] #[27,25,25]) 40,Ap 99 105 40,EM 106 99 0 3,EM 107 99 1 32,AQ 17 106 3,AQ 6 107 32])
 (.seq (.reg [] [
   rq 109 (cf 38 #[] #[]) 27,rq 110 (.buildSlice 25 4 #[(0,(ki 0)),(1,(ki 1)),(2,(ki 0)),(3,(ki 0))]) 25,rq 111 (cf 22 #[(tp 110)] #[25]) 25,rq 112 (cf 20 #[(tp 109),(tp 111)] #[27,25]) 33,Ap 108 112 33,EM 113 108 0 25,EM 114 108 1 32,AQ 18 113 25,AQ 8 114 32])
 (.seq (.reg [] [
   rq 116 (cf 31 #[] #[]) 27,rq 117 (cf 23 #[(tp 116)] #[27]) 40,Ap 115 117 40,EM 118 115 0 3,EM 119 115 1 32,AQ 19 118 3,AQ 10 119 32])
 (.seq (.reg [] [
   Ap 120 2 32,rq 121 (.binOp .eql 32 (tp 120) (ki 0) 32) 4,Ap 122 121 4,DD 123 4 32 122 true,rg 124 (.binOp .eql 32 (tp 123) (ki 0) 32) 4 122 true,rq 125 (.pick (tp 122) (tp 124) (kb false)) 4,Ap 126 125 4,DD 127 6 32 126 true,rg 128 (.binOp .eql 32 (tp 127) (ki 0) 32) 4 126 true,rq 129 (.pick (tp 126) (tp 128) (kb false)) 4,Ap 130 129 4,DD 131 8 32 130 true,rg 132 (.binOp .eql 32 (tp 131) (ki 0) 32) 4 130 true,rq 133 (.pick (tp 130) (tp 132) (kb false)) 4,Ap 134 133 4,DD 135 10 32 134 true,rg 136 (.binOp .eql 32 (tp 135) (ki 0) 32) 4 134 true,rq 137 (.pick (tp 134) (tp 136) (kb false)) 4,Ap 138 137 4,DD 139 1 3 138 true,rg 140 (.binOp .eql 3 (tp 139) (ki 6) 3) 4 138 true,rq 141 (.pick (tp 138) (tp 140) (kb false)) 4,Ap 142 141 4,DD 143 3 3 142 true,rg 144 (.binOp .eql 3 (tp 143) (ki 7) 3) 4 142 true,rq 145 (.pick (tp 142) (tp 144) (kb false)) 4,Ap 146 145 4,DD 147 5 3 146 true,rg 148 (.binOp .eql 3 (tp 147) (ki 6) 3) 4 146 true,rq 149 (.pick (tp 146) (tp 148) (kb false)) 4,Ap 150 149 4,DD 151 7 3 150 true,rg 152 (.binOp .eql 3 (tp 151) (ki 2) 3) 4 150 true,rq 153 (.pick (tp 150) (tp 152) (kb false)) 4,Ap 154 153 4,DD 155 9 3 154 true,rg 156 (.binOp .eql 3 (tp 155) (ki 8) 3) 4 154 true,rq 157 (.pick (tp 154) (tp 156) (kb false)) 4,Ap 158 157 4,DD 159 17 3 158 true,rg 160 (.binOp .eql 3 (tp 159) (ki 2) 3) 4 158 true,rq 161 (.pick (tp 158) (tp 160) (kb false)) 4,Ap 162 161 4,DD 163 19 3 162 true,rg 164 (.binOp .eql 3 (tp 163) (ki 36) 3) 4 162 true,rq 165 (.pick (tp 162) (tp 164) (kb false)) 4,Ap 166 165 4,DD 167 11 25 166 true,rg 168 (.buildSlice 25 4 #[(0,(ki 0)),(1,(ki 0)),(2,(ki 0)),(3,(ki 1))]) 25 166 true,rg 169 (cf 22 #[(tp 168)] #[25]) 25 166 true,rg 170 (cf 12 #[(tp 167),(tp 169)] #[25,25]) 4 166 true,rq 171 (.pick (tp 166) (tp 170) (kb false)) 4,Ap 172 171 4,DD 173 13 30 172 true,rg 174 (.buildSlice 25 4 #[(0,(ki 0)),(1,(ki 1)),(2,(ki 1)),(3,(ki 0))]) 25 172 true,rg 175 (cf 22 #[(tp 174)] #[25]) 25 172 true,rg 176 (.buildSlice 25 4 #[(0,(ki 1)),(1,(ki 0)),(2,(ki 0)),(3,(ki 1))]) 25 172 true,rg 177 (cf 22 #[(tp 176)] #[25]) 25 172 true,rg 178 (.buildSlice 30 2 #[(0,(tp 175)),(1,(tp 177))]) 30 172 true,rg 179 (cf 39 #[(tp 178)] #[30]) 30 172 true,rg 180 (cf 16 #[(tp 173),(tp 179)] #[30,30]) 4 172 true,rq 181 (.pick (tp 172) (tp 180) (kb false)) 4,Ap 182 181 4,DD 183 15 25 182 true,rg 184 (.buildSlice 25 4 #[(0,(ki 0)),(1,(ki 0)),(2,(ki 1)),(3,(ki 1))]) 25 182 true,rg 185 (cf 22 #[(tp 184)] #[25]) 25 182 true,rg 186 (cf 12 #[(tp 183),(tp 185)] #[25,25]) 4 182 true,rq 187 (.pick (tp 182) (tp 186) (kb false)) 4,Ap 188 187 4,DD 189 16 25 188 true,rg 190 (.buildSlice 25 2 #[(0,(ki 0)),(1,(ki 2))]) 25 188 true,rg 191 (cf 22 #[(tp 190)] #[25]) 25 188 true,rg 192 (cf 12 #[(tp 189),(tp 191)] #[25,25]) 4 188 true,rq 193 (.pick (tp 188) (tp 192) (kb false)) 4,Ap 194 193 4,DD 195 18 25 194 true,rg 196 (.buildSlice 25 1 #[(0,(ki 1))]) 25 194 true,rg 197 (cf 22 #[(tp 196)] #[25]) 25 194 true,rg 198 (cf 12 #[(tp 195),(tp 197)] #[25,25]) 4 194 true,rq 199 (.pick (tp 194) (tp 198) (kb false)) 4,Ap 200 199 4,rg 201 (cf 38 #[] #[]) 27 200 true,rg 202 (.buildSlice 25 4 #[(0,(ki 0)),(1,(ki 1)),(2,(ki 0)),(3,(ki 0))]) 25 200 true,rg 203 (cf 22 #[(tp 202)] #[25]) 25 200 true,rg 204 (.buildSlice 25 2 #[(0,(ki 0)),(1,(ki 2))]) 25 200 true,rg 205 (cf 22 #[(tp 204)] #[25]) 25 200 true,rg 206 (cf 21 #[(tp 201),(tp 203),(tp 205)] #[27,25,25]) 32 200 true,rg 207 (.binOp .eql 32 (tp 206) (ki 14) 32) 4 200 true,rq 208 (.pick (tp 200) (tp 207) (kb false)) 4,AQ 0 208 4])
 (.ret)))))))))))))))
def c20:RC:=PQ
def c21:RC:=Qp
def c22:RC:=UJ
def c23:RC:=
 .seq (.reg [] [
  rq 1 (.box 27 (tp 0)) 0,Cz 2 0 3,Cz 3 0 32])
 (.seq (.reg [] [
   Ce 9 1 27,rq 10 (cf 49 #[(tp 9)] #[27]) 62,Ap 8 10 62,EM 11 8 0 61,EM 12 8 1 32,AQ 4 11 61,AQ 5 12 32])
 (.seq (.seq (.reg [] [
   Ap 13 5 32,rq 14 (.binOp .neq 32 (tp 13) (ki 0) 32) 4])
 (.cond (tp 14) (.seq (.reg [] [
   Ap 15 5 32,
   Cz 2 0 3,
   AQ 3 15 32])
  (.ret))
 (.skip)))
 (.seq (.reg [] [
   Cz 6 0 3])
 (.seq (.seq (.reg [] [
   Ap 16 4 61,rq 17 (.nilCheck (tp 16)) 0,DR 18 66 17 0,DR 19 27 18 3,Ce 20 19 25,EN 21 20 25,rq 22 (.move (ki 0)) 3])
 (.block 0 (.loop (.seq (.reg [] [
   L8 23 22 21])
   (.seq (.cond (tp 23) (.skip)
   (.exit 0))
   (.seq (.block 1 (.seq (.reg [] [
     Ap 24 22 3,
     AQ 7 24 3])
    (.reg [] [
      Ap 25 6 3,
      Ap 26 4 61,
      Ap 27 7 3,
      rq 28 (cf 50 #[(tp 26),(tp 27)] #[61,3]) 3,
      rq 29 (.binOp .add 3 (tp 25) (tp 28) 3) 3,
      AQ 6 29 3])))
   (.reg [] [
     FB 30 22,
     Ap 22 30 3])))))))
 (.seq (.reg [] [
   Ap 31 6 3,Ap 32 4 61,rq 33 (.nilCheck (tp 32)) 0,DR 34 66 33 0,DR 35 27 34 3,Ce 36 35 25,EN 37 36 25,rq 38 (.binOp .quo 3 (tp 31) (tp 37) 3) 3,AQ 2 38 3,Cz 3 0 32])
 (.ret))))))
def c24:RC:=
 .seq (.reg [] [
  Cz 4 0 3,Cz 5 0 32])
 (.seq (.seq (.reg [] [
   Ap 6 0 3,rq 7 (cf 48 #[(ki 0),(tp 6),(ki 7)] #[3,3,3]) 4,rq 8 (.unOp .not 4 (tp 7)) 4,Ap 9 8 4,DD 10 1 3 9 false,rg 11 (cf 48 #[(ki 0),(tp 10),(ki 7)] #[3,3,3]) 4 9 false,rg 12 (.unOp .not 4 (tp 11)) 4 9 false,rq 13 (.pick (tp 9) (kb true) (tp 12)) 4])
 (.cond (tp 13) (.seq (.reg [] [
   Cz 4 0 3,
   Cz 5 2 32])
  (.ret))
 (.skip)))
 (.seq (.reg [] [
   Ap 14 0 3,rq 15 (cf 51 #[(tp 14)] #[3]) 86,Ap 16 1 3,rq 17 (cf 51 #[(tp 16)] #[3]) 86,rq 18 (cf 52 #[(tp 15),(tp 17)] #[86,86]) 86,rq 19 (cf 53 #[(tp 18)] #[86]) 3,AQ 4 19 3,Cz 5 0 32])
 (.ret)))
def c29:RC:=
 .seq (.reg [] [
  rq 2 (.box 27 (tp 0)) 0,Cz 4 0 3,Cz 5 0 32])
 (.seq (.reg [] [
   Ce 10 2 27,rq 11 (cf 49 #[(tp 10)] #[27]) 62,Ap 9 11 62,EM 12 9 0 61,EM 13 9 1 32,AQ 6 12 61,AQ 7 13 32])
 (.seq (.seq (.reg [] [
   Ap 14 7 32,rq 15 (.binOp .neq 32 (tp 14) (ki 0) 32) 4])
 (.cond (tp 15) (.seq (.reg [] [
   Ap 16 7 32,
   Cz 4 0 3,
   AQ 5 16 32])
  (.ret))
 (.skip)))
 (.seq (.reg [] [
   Ap 17 6 61,rq 18 (.nilCheck (tp 17)) 0,DR 19 66 18 0,DR 20 27 19 3,Ce 21 20 25,Ap 22 1 3,rq 23 (cf 33 #[(tp 21),(tp 22)] #[25,3]) 3,AQ 8 23 3])
 (.seq (.seq (.reg [] [
   Ap 24 8 3,rq 25 (.binOp .lss 3 (tp 24) (ki 0) 3) 4])
 (.cond (tp 25) (.seq (.reg [] [
   Cz 4 0 3,
   Cz 5 2 32])
  (.ret))
 (.skip)))
 (.seq (.reg [] [
   Ap 26 6 61,Ap 27 8 3,rq 28 (cf 50 #[(tp 26),(tp 27)] #[61,3]) 3,AQ 4 28 3,Cz 5 0 32])
 (.ret))))))
def c30:RC:=
 .seq (.reg [] [
  rq 2 (.box 27 (tp 0)) 0,Cz 4 0 3,Cz 5 0 32])
 (.seq (.reg [] [
   Ce 14 2 27,rq 15 (cf 49 #[(tp 14)] #[27]) 62,Ap 13 15 62,EM 16 13 0 61,EM 17 13 1 32,AQ 6 16 61,AQ 7 17 32])
 (.seq (.block 0 (.seq (.reg [] [
   Ap 19 7 32,
   rq 20 (.binOp .neq 32 (tp 19) (ki 0) 32) 4,
   AQ 18 20 4])
  (.cond (tp 18) (.seq (.reg [] [
    Ap 21 7 32,
    Cz 4 0 3,
    AQ 5 21 32])
   (.ret))
  (.seq (.reg [] [
    Ap 23 1 25,
    EN 24 23 25,
    Ap 25 6 61,
    rq 26 (.nilCheck (tp 25)) 0,
    DR 27 66 26 0,
    DR 28 27 27 2,
    Ce 29 28 3,
    rq 30 (.binOp .neq 3 (tp 24) (tp 29) 3) 4,
    AQ 22 30 4])
   (.cond (tp 22) (.seq (.reg [] [
     Cz 4 0 3,
     Cz 5 5 32])
    (.ret))
   (.skip))))))
 (.seq (.reg [] [
   Cz 8 0 3])
 (.seq (.seq (.reg [] [
   Ap 31 1 25,EN 32 31 25,rq 33 (.move (ki 0)) 3])
 (.block 1 (.loop (.seq (.reg [] [
   L8 34 33 32])
   (.seq (.cond (tp 34) (.skip)
   (.exit 1))
   (.seq (.block 2 (.seq (.reg [] [
     D5 35 25 31 33,
     Ce 36 35 3,
     AQ 10 36 3])
    (.seq (.seq (.reg [0, 1, 2, 3, 4, 5, 6, 7, 8, 9, 10, 11, 12, 13] [
      Ap 37 10 3,
      Ap 38 6 61,
      rq 39 (.nilCheck (tp 38)) 0,
      DR 40 66 39 0,
      DR 41 27 40 0,
      Ce 42 41 3,
      Ap 43 6 61,
      rq 44 (.nilCheck (tp 43)) 0,
      DR 45 66 44 0,
      DR 46 27 45 1,
      Ce 47 46 3,
      rq 48 (.binOp .mul 3 (tp 42) (tp 47) 3) 3,
      rq 49 (cf 48 #[(ki 0),(tp 37),(tp 48)] #[3,3,3]) 4,
      rq 50 (.unOp .not 4 (tp 49)) 4])
    (.cond (tp 50) (.seq (.reg [] [
      Cz 4 0 3,
      Cz 5 1 32])
     (.ret))
    (.skip)))
    (.reg [] [
      Ap 51 8 3,
      Ap 52 10 3,
      rq 53 (.binOp .add 3 (tp 51) (tp 52) 3) 3,
      AQ 8 53 3]))))
   (.reg [] [
     FB 54 33,
     Ap 33 54 3])))))))
 (.seq (.seq (.reg [0, 1, 2, 3, 4, 5, 6, 7, 8, 9, 10, 11, 12] [
   Ap 55 8 3,Ap 56 6 61,rq 57 (.nilCheck (tp 56)) 0,DR 58 66 57 0,DR 59 27 58 0,Ce 60 59 3,Ap 61 6 61,rq 62 (.nilCheck (tp 61)) 0,DR 63 66 62 0,DR 64 27 63 1,Ce 65 64 3,rq 66 (.binOp .mul 3 (tp 60) (tp 65) 3) 3,rq 67 (.binOp .neq 3 (tp 55) (tp 66) 3) 4])
 (.cond (tp 67) (.seq (.reg [] [
   Cz 4 0 3,
   Cz 5 17 32])
  (.ret))
 (.skip)))
 (.seq (.reg [] [
   Cz 11 0 3])
 (.seq (.seq (.reg [] [
   Ap 68 6 61,rq 69 (.nilCheck (tp 68)) 0,DR 70 66 69 0,DR 71 27 70 3,Ce 72 71 25,EN 73 72 25,rq 74 (.move (ki 0)) 3])
 (.block 3 (.loop (.seq (.reg [] [
   L8 75 74 73])
   (.seq (.cond (tp 75) (.skip)
   (.exit 3))
   (.seq (.block 4 (.seq (.reg [] [
     Ap 76 74 3,
     AQ 12 76 3])
    (.reg [] [
      Ap 77 11 3,
      Ap 78 6 61,
      Ap 79 12 3,
      rq 80 (cf 57 #[(tp 78),(tp 79)] #[61,3]) 91,
      Ap 81 1 25,
      rq 82 (cf 56 #[(tp 80),(tp 81)] #[91,25]) 3,
      rq 83 (.binOp .add 3 (tp 77) (tp 82) 3) 3,
      AQ 11 83 3])))
   (.reg [] [
     FB 84 74,
     Ap 74 84 3])))))))
 (.seq (.reg [] [
   Ap 85 11 3,Ap 86 6 61,rq 87 (.nilCheck (tp 86)) 0,DR 88 66 87 0,DR 89 27 88 3,Ce 90 89 25,EN 91 90 25,rq 92 (.binOp .quo 3 (tp 85) (tp 91) 3) 3,AQ 4 92 3,Cz 5 0 32])
 (.ret)))))))))
def c31:RC:=
 .seq (.reg [] [
  rq 0 (.alloc 27) 0])
 (.seq (.reg [] [
   rq 1 (.buildSlice 25 2 #[(0,(ki 0)),(1,(ki 2))]) 25,rq 2 (cf 22 #[(tp 1)] #[25]) 25,rq 3 (.build 27 #[(0,(ki 2)),(1,(ki 3)),(2,(ki 2)),(3,(tp 2))]) 27,rn (.store 27 (tp 0) (tp 3)) 0])
 (.ret))
def c32:RC:=Qq
def c33:RC:=
 .seq (.reg [] [
  Cz 4 0 3])
 (.seq (.seq (.reg [] [
   Ap 6 0 25,EN 7 6 25,rq 8 (.move (ki 0)) 3])
 (.block 0 (.loop (.seq (.reg [] [
   L8 9 8 7])
   (.seq (.cond (tp 9) (.skip)
   (.exit 0))
   (.seq (.block 1 (.seq (.reg [] [
     Ap 10 8 3,
     AQ 5 10 3])
    (.seq (.reg [] [
      Ap 11 1 3,
      Ap 12 0 25,
      Ap 13 5 3,
      D5 14 25 12 13,
      Ce 15 14 3,
      rq 16 (.binOp .eql 3 (tp 11) (tp 15) 3) 4])
    (.cond (tp 16) (.seq (.reg [] [
      Ap 17 5 3,
      AQ 4 17 3])
     (.ret))
    (.skip)))))
   (.reg [] [
     FB 18 8,
     Ap 8 18 3])))))))
 (.seq (.reg [] [
   rq 4 (.assign (ki (-1))) 3])
 (.ret)))
def c34:RC:=
 .seq (.reg [] [
  rq 6 (.assign (.const (.slice none 0 0))) 25])
 (.seq (.reg [] [
   Ap 10 1 25,EN 11 10 25,rq 12 (.makeSlice 25 (tp 11) (tp 11)) 25,AQ 7 12 25])
 (.seq (.seq (.reg [] [
   Ap 13 0 61,rq 14 (.nilCheck (tp 13)) 0,DR 15 66 14 1,Ce 16 15 30,Ap 17 2 3,D5 18 30 16 17,Ce 19 18 25,EN 20 19 25,rq 21 (.move (ki 0)) 3])
 (.block 0 (.loop (.seq (.reg [] [
   L8 22 21 20])
   (.seq (.cond (tp 22) (.skip)
   (.exit 0))
   (.seq (.block 1 (.seq (.reg [] [
     Ap 23 21 3,
     D5 24 25 19 21,
     Ce 25 24 3,
     AQ 8 23 3,
     AQ 9 25 3])
    (.reg [] [
      Ap 26 7 25,
      Ap 27 8 3,
      Ap 28 1 25,
      Ap 29 9 3,
      D5 30 25 28 29,
      Ce 31 30 3,
      D5 32 25 26 27,
      rn (.store 3 (tp 32) (tp 31)) 0])))
   (.reg [] [
     FB 33 21,
     Ap 21 33 3])))))))
 (.seq (.reg [] [
   Ap 34 7 25,AQ 6 34 25])
 (.ret))))
def c35:RC:=
 .seq (.reg [] [
  rq 4 (.assign (.const (.slice none 0 0))) 30])
 (.seq (.reg [] [
   rq 5 (.assign (.const (.slice none 0 0))) 30])
 (.seq (.seq (.reg [] [
   Ap 7 0 61,rq 8 (.nilCheck (tp 7)) 0,DR 9 66 8 0,DR 10 27 9 3,Ce 11 10 25,EN 12 11 25,rq 13 (.move (ki 0)) 3])
 (.block 0 (.loop (.seq (.reg [] [
   L8 14 13 12])
   (.seq (.cond (tp 14) (.skip)
   (.exit 0))
   (.seq (.block 1 (.seq (.reg [] [
     Ap 15 13 3,
     AQ 6 15 3])
    (.reg [] [
      Ap 16 5 30,
      Ap 17 0 61,
      Ap 18 1 25,
      Ap 19 6 3,
      rq 20 (cf 34 #[(tp 17),(tp 18),(tp 19)] #[61,25,3]) 25,
      rq 21 (.buildSlice 30 1 #[(0,(tp 20))]) 30,
      rq 22 (cb .append #[(tp 16),(tp 21)] #[30,30]) 30,
      AQ 5 22 30])))
   (.reg [] [
     FB 23 13,
     Ap 13 23 3])))))))
 (.seq (.reg [] [
   Ap 24 5 30,rq 25 (cf 59 #[(tp 24),(.func 45)] #[30,79]) 0])
 (.seq (.reg [] [
   Ap 26 5 30,rq 27 (cf 60 #[(tp 26),(.func 37)] #[30,35]) 30,AQ 4 27 30])
 (.ret)))))
def c36:RC:=Qr
def c37:RC:=
 .seq (.reg [] [
  rq 4 (.assign (kb false)) 4])
 (.seq (.seq (.reg [] [
   Ap 6 0 25,EN 7 6 25,Ap 8 1 25,EN 9 8 25,rq 10 (.binOp .neq 3 (tp 7) (tp 9) 3) 4])
 (.cond (tp 10) (.seq (.reg [] [
   rq 4 (.assign (kb false)) 4])
  (.ret))
 (.skip)))
 (.seq (.seq (.reg [] [
   Ap 11 0 25,EN 12 11 25,rq 13 (.move (ki 0)) 3])
 (.block 0 (.loop (.seq (.reg [] [
   L8 14 13 12])
   (.seq (.cond (tp 14) (.skip)
   (.exit 0))
   (.seq (.block 1 (.seq (.reg [] [
     Ap 15 13 3,
     AQ 5 15 3])
    (.seq (.reg [0, 1, 2, 3, 4, 5, 6, 7, 8] [
      Ap 16 0 25,
      Ap 17 5 3,
      D5 18 25 16 17,
      Ce 19 18 3,
      Ap 20 1 25,
      Ap 21 5 3,
      D5 22 25 20 21,
      Ce 23 22 3,
      rq 24 (.binOp .neq 3 (tp 19) (tp 23) 3) 4])
    (.cond (tp 24) (.seq (.reg [] [
      rq 4 (.assign (kb false)) 4])
     (.ret))
    (.skip)))))
   (.reg [] [
     FB 25 13,
     Ap 13 25 3])))))))
 (.seq (.reg [] [
   rq 4 (.assign (kb true)) 4])
 (.ret))))
def c38:RC:=
 .seq (.reg [] [
  rq 0 (.alloc 27) 0])
 (.seq (.reg [] [
   rq 1 (.buildSlice 25 4 #[(0,(ki 0)),(1,(ki 1)),(2,(ki 2)),(3,(ki 3))]) 25,rq 2 (cf 22 #[(tp 1)] #[25]) 25,rq 3 (.build 27 #[(0,(ki 2)),(1,(ki 2)),(2,(ki 2)),(3,(tp 2))]) 27,rn (.store 27 (tp 0) (tp 3)) 0])
 (.ret))
def c39:RC:=
 .seq (.reg [] [
  rq 2 (.assign (.const (.slice none 0 0))) 30])
 (.seq (.reg [] [
   Ap 3 0 30,AQ 2 3 30])
 (.ret))
def c40:RC:=MU
def c41:RC:=RQ
def c42:RC:=RS
def c43:RC:=
 .seq (.reg [] [
  rq 2 (.assign (.const (.slice none 0 0))) 25])
 (.seq (.reg [] [
   Ap 4 0 77,rq 5 (cf 62 #[(tp 4)] #[77]) 25,AQ 3 5 25])
 (.seq (.reg [] [
   Ap 6 3 25,rq 7 (cf 63 #[(tp 6)] #[25]) 0])
 (.seq (.reg [] [
   Ap 8 3 25,AQ 2 8 25])
 (.ret))))
def c44:RC:=RU
def c45:RC:=Qs
def c46:RC:=UK
def c47:RC:=UL
def c48:RC:=UM
def c49:RC:=Qt
def c50:RC:=
 .seq (.reg [] [
  Cz 4 0 3])
 (.seq (.reg [] [
   Cz 5 1 3])
 (.seq (.seq (.reg [] [
   Ap 8 0 61,Ap 9 1 3,rq 10 (cf 57 #[(tp 8),(tp 9)] #[61,3]) 91,rq 11 (.move (ki 0)) 3])
 (.block 0 (.loop (.seq (.reg [] [
   rq 12 (.binOp .lss 3 (tp 11) (ki 17) 3) 0])
   (.seq (.cond (tp 12) (.skip)
   (.exit 0))
   (.seq (.block 1 (.seq (.reg [] [
     rq 13 (.index 91 (tp 10) (tp 11)) 3,
     AQ 7 13 3])
    (.seq (.reg [] [
      Ap 14 7 3,
      rq 15 (.move (ki 0)) 3])
    (.block 2 (.loop (.seq (.reg [] [
      rq 16 (.binOp .lss 3 (tp 15) (tp 14) 3) 4])
      (.seq (.cond (tp 16) (.skip)
      (.exit 2))
      (.seq (.block 3 (.reg [] [
        Ap 17 5 3,
        Ap 18 0 61,
        rq 19 (.nilCheck (tp 18)) 0,
        DR 20 66 19 0,
        DR 21 27 20 2,
        Ce 22 21 3,
        rq 23 (.binOp .mul 3 (tp 17) (tp 22) 3) 3,
        AQ 5 23 3]))
      (.reg [] [
        FB 24 15,
        Ap 15 24 3])))))))))
   (.reg [] [
     FB 25 11,
     Ap 11 25 3])))))))
 (.seq (.reg [] [
   Ap 26 5 3,AQ 4 26 3])
 (.ret))))
def c51:RC:=Qu
def c52:RC:=UN
def c53:RC:=Qv
def c55:RC:=
 .seq (.reg [] [
  rq 2 (.assign (.const (.slice none 0 0))) 25])
 (.seq (.seq (.reg [] [
   Ap 3 0 25,rq 4 (.binOp .eql 25 (tp 3) (.const (.slice none 0 0)) 25) 4])
 (.cond (tp 4) (.seq (.reg [] [
   rq 2 (.assign (.const (.slice none 0 0))) 25])
  (.ret))
 (.skip)))
 (.seq (.reg [] [
   rq 5 (.buildSlice 25 0 #[]) 25,Ap 6 0 25,rq 7 (cb .append #[(tp 5),(tp 6)] #[25,25]) 25,AQ 2 7 25])
 (.ret)))
def c56:RC:=
 .seq (.reg [] [
  rq 2 (.box 91 (tp 0)) 0,rq 3 (.box 25 (tp 1)) 0,Cz 4 0 3])
 (.seq (.seq (.reg [] [
   Ce 6 3 25,EN 7 6 25,rq 8 (.binOp .eql 3 (tp 7) (ki 1) 3) 4])
 (.cond (tp 8) (.seq (.reg [] [
   Cz 4 1 3])
  (.ret))
 (.skip)))
 (.seq (.reg [] [
   rq 5 (.alloc 102) 0])
 (.seq (.reg [] [
   rq 9 (.makeFunc (.func 67) #[] #[(tp 2),(tp 3),(tp 5)]) 102,rn (.store 102 (tp 5) (tp 9)) 0])
 (.seq (.reg [0, 1, 2, 3, 4, 5] [
   Ce 10 5 102,Ce 11 3 25,rq 12 (.indexAddr 25 (tp 11) (ki 0)) 0,Ce 13 12 3,rq 14 (.call ⟨.value (tp 10),#[(ki 1),(tp 13),(ki 1)],#[3,3,3]⟩) 3,AQ 4 14 3])
 (.ret)))))
def c57:RC:=
 .seq (.reg [] [
  rq 4 (.alloc 91) 0])
 (.seq (.reg [] [
   rq 5 (.assign (.const (.int .u16 0))) 69])
 (.seq (.seq (.reg [] [
   Ap 9 0 61,rq 10 (.nilCheck (tp 9)) 0,DR 11 66 10 1,Ce 12 11 30,Ap 13 1 3,D5 14 30 12 13,Ce 15 14 25,EN 16 15 25,rq 17 (.move (ki 0)) 3])
 (.block 0 (.loop (.seq (.reg [] [
   L8 18 17 16])
   (.seq (.cond (tp 18) (.skip)
   (.exit 0))
   (.seq (.block 1 (.seq (.reg [] [
     Ap 19 17 3,
     AQ 6 19 3])
    (.seq (.reg [] [
      Cz 7 0 3])
    (.seq (.seq (.reg [] [
      Ap 20 6 3,
      AQ 8 20 3])
    (.block 2 (.loop (.seq (.seq (.reg [] [
      Ap 21 5 69,
      Ap 22 8 3,
      rq 23 (.binOp .shr 69 (tp 21) (tp 22) 3) 69,
      rq 24 (.binOp .and 69 (tp 23) (.const (.int .u16 1)) 69) 69,
      rq 25 (.binOp .eql 69 (tp 24) (.const (.int .u16 0)) 69) 4])
      (.cond (tp 25) (.skip)
      (.exit 2)))
      (.seq (.block 3 (.seq (.reg [] [
        Ap 36 5 69,
        Ap 37 8 3,
        rq 38 (.binOp .shl 69 (.const (.int .u16 1)) (tp 37) 3) 69,
        rq 39 (.binOp .or 69 (tp 36) (tp 38) 69) 69,
        AQ 5 39 69])
       (.reg [] [
         Ap 40 7 3,
         FB 41 40,
         AQ 7 41 3])))
      (.reg [] [
        Ap 26 0 61,
        rq 27 (.nilCheck (tp 26)) 0,
        DR 28 66 27 1,
        Ce 29 28 30,
        Ap 30 1 3,
        D5 31 30 29 30,
        Ce 32 31 25,
        Ap 33 8 3,
        D5 34 25 32 33,
        Ce 35 34 3,
        AQ 8 35 3]))))))
    (.reg [] [
      Ap 42 7 3,
      D5 43 91 4 42,
      Ce 44 43 3,
      FB 45 44,
      D5 46 91 4 42,
      rn (.store 3 (tp 46) (tp 45)) 0])))))
   (.reg [] [
     FB 47 17,
     Ap 17 47 3])))))))
 (.seq (.reg [] [
   rq 48 (.indexAddr 91 (tp 4) (ki 0)) 0,rn (.store 3 (tp 48) (ki 0)) 0])
 (.seq (.reg [] [
   Ce 49 4 91,rn (.store 91 (tp 4) (tp 49)) 0])
 (.ret)))))
def c58:RC:=Qw
def c59:RC:=
 .seq (.reg [] [
  Ap 5 0 30,EN 6 5 30,AQ 4 6 3])
 (.reg [] [
   Ap 7 0 30,Ap 8 4 3,Ap 9 4 3,rq 10 (.convert 3 100 (tp 9)) 100,rq 11 (cf 71 #[(tp 10)] #[100]) 3,Ap 12 1 79,rq 13 (cf 70 #[(tp 7),(ki 0),(tp 8),(tp 11),(tp 12)] #[30,3,3,3,79]) 0])
def c60:RC:=
 .seq (.reg [] [
  rq 4 (.assign (.const (.slice none 0 0))) 30])
 (.seq (.seq (.reg [] [
   Ap 8 0 30,EN 9 8 30,rq 10 (.binOp .lss 3 (tp 9) (ki 2) 3) 4])
 (.cond (tp 10) (.seq (.reg [] [
   Ap 11 0 30,
   AQ 4 11 30])
  (.ret))
 (.skip)))
 (.seq (.seq (.reg [] [
   Cz 5 1 3])
 (.block 0 (.loop (.seq (.seq (.reg [] [
   Ap 12 5 3,
   Ap 13 0 30,
   EN 14 13 30,
   rq 15 (.binOp .lss 3 (tp 12) (tp 14) 3) 4])
   (.cond (tp 15) (.skip)
   (.exit 0)))
   (.seq (.block 1 (.seq (.reg [0, 1, 2, 3, 4, 5, 6, 7, 8, 9, 10] [
     Ap 18 1 35,
     Ap 19 0 30,
     Ap 20 5 3,
     D5 21 30 19 20,
     Ce 22 21 25,
     Ap 23 0 30,
     Ap 24 5 3,
     rq 25 (.binOp .sub 3 (tp 24) (ki 1) 3) 3,
     D5 26 30 23 25,
     Ce 27 26 25,
     rq 28 (.call ⟨.value (tp 18),#[(tp 22),(tp 27)],#[25,25]⟩) 4])
    (.cond (tp 28) (.seq (.reg [] [
      Ap 29 0 30,
      Ap 30 5 3,
      rq 31 (.slice 30 (tp 29) (some (tp 30)) none none) 30,
      AQ 6 31 30])
     (.seq (.seq (.reg [] [
       Cz 7 1 3])
     (.block 2 (.loop (.seq (.seq (.reg [] [
       Ap 32 7 3,
       Ap 33 6 30,
       EN 34 33 30,
       rq 35 (.binOp .lss 3 (tp 32) (tp 34) 3) 4])
       (.cond (tp 35) (.skip)
       (.exit 2)))
       (.seq (.block 3 (.seq (.reg [0, 1, 2, 3, 4, 5, 6, 7, 8, 9, 10, 11] [
         Ap 38 1 35,
         Ap 39 6 30,
         Ap 40 7 3,
         D5 41 30 39 40,
         Ce 42 41 25,
         Ap 43 6 30,
         Ap 44 7 3,
         rq 45 (.binOp .sub 3 (tp 44) (ki 1) 3) 3,
         D5 46 30 43 45,
         Ce 47 46 25,
         rq 48 (.call ⟨.value (tp 38),#[(tp 42),(tp 47)],#[25,25]⟩) 4,
         rq 49 (.unOp .not 4 (tp 48)) 4])
        (.cond (tp 49) (.seq (.reg [] [
          Ap 50 0 30,
          Ap 51 5 3,
          Ap 52 6 30,
          Ap 53 7 3,
          D5 54 30 52 53,
          Ce 55 54 25,
          D5 56 30 50 51,
          rn (.store 25 (tp 56) (tp 55)) 0])
         (.reg [] [
           Ap 57 5 3,
           FB 58 57,
           AQ 5 58 3]))
        (.skip))))
       (.reg [] [
         Ap 36 7 3,
         FB 37 36,
         AQ 7 37 3]))))))
     (.seq (.reg [] [
       Ap 59 0 30,
       Ap 60 5 3,
       rq 61 (.slice 30 (tp 59) (some (tp 60)) none none) 30,
       rn (cb .clear #[(tp 61)] #[30]) 0])
     (.seq (.reg [] [
       Ap 62 0 30,
       Ap 63 5 3,
       rq 64 (.slice 30 (tp 62) none (some (tp 63)) none) 30,
       AQ 4 64 30])
     (.ret)))))
    (.skip))))
   (.reg [] [
     Ap 16 5 3,
     FB 17 16,
     AQ 5 17 3]))))))
 (.seq (.reg [] [
   Ap 65 0 30,AQ 4 65 30])
 (.ret))))
def c61:RC:=M8
def c62:RC:=
 .seq (.reg [] [
  rq 2 (.assign (.const (.slice none 0 0))) 25])
 (.seq (.reg [] [
   Ap 3 0 77,rq 4 (cf 72 #[(.const (.slice none 0 0)),(tp 3)] #[25,77]) 25,AQ 2 4 25])
 (.ret))
def c63:RC:=
 .seq (.reg [] [
  Ap 3 0 25,EN 4 3 25,AQ 2 4 3])
 (.reg [] [
   Ap 5 0 25,Ap 6 2 3,Ap 7 2 3,rq 8 (.convert 3 100 (tp 7)) 100,rq 9 (cf 71 #[(tp 8)] #[100]) 3,rq 10 (cf 73 #[(tp 5),(ki 0),(tp 6),(tp 9)] #[25,3,3,3]) 0])
def c64:RC:=
 .seq (.reg [] [
  Ce 5 1 25,EN 6 5 25,rq 7 (.move (ki 0)) 3])
 (.block 0 (.loop (.seq (.reg [] [
   L8 8 7 6])
   (.seq (.cond (tp 8) (.skip)
   (.exit 0))
   (.seq (.block 1 (.seq (.reg [] [
     D5 9 25 5 7,
     Ce 10 9 3,
     AQ 4 10 3])
    (.seq (.reg [] [
      Ap 11 0 74,
      Ap 12 4 3,
      rq 13 (.call ⟨.value (tp 11),#[(tp 12)],#[3]⟩) 4,
      rq 14 (.unOp .not 4 (tp 13)) 4])
    (.cond (tp 14) (.ret)
    (.skip)))))
   (.reg [] [
     FB 15 7,
     Ap 7 15 3]))))))
def c65:RC:=Qz
def c66:RC:=
 .seq (.reg [] [
  rq 2 (.box 27 (tp 0)) 0,rq 4 (.assign (.const (.slice none 0 0))) 25])
 (.seq (.reg [] [
   DR 8 27 2 0,Ce 9 8 3,DR 10 27 2 1,Ce 11 10 3,rq 12 (.binOp .mul 3 (tp 9) (tp 11) 3) 3,rq 13 (.makeSlice 25 (tp 12) (tp 12)) 25,AQ 5 13 25])
 (.seq (.seq (.reg [] [
   Ap 14 5 25,EN 15 14 25,rq 16 (.move (ki 0)) 3])
 (.block 0 (.loop (.seq (.reg [] [
   L8 17 16 15])
   (.seq (.cond (tp 17) (.skip)
   (.exit 0))
   (.seq (.block 1 (.seq (.reg [] [
     Ap 18 16 3,
     AQ 6 18 3])
    (.reg [] [
      Ap 19 5 25,
      Ap 20 6 3,
      Ap 21 6 3,
      D5 22 25 19 20,
      rn (.store 3 (tp 22) (tp 21)) 0])))
   (.reg [] [
     FB 23 16,
     Ap 16 23 3])))))))
 (.seq (.reg [] [
   Ap 24 1 3,rq 25 (cf 51 #[(tp 24)] #[3]) 86,rq 7 (.alloc 86) 0,rn (.store 86 (tp 7) (tp 25)) 0])
 (.seq (.seq (.reg [] [
   DR 26 86 7 0,Ce 27 26 3,rq 28 (.binOp .eql 3 (tp 27) (ki 2) 3) 4])
 (.cond (tp 28) (.reg [] [
   Ap 29 5 25,
   rq 30 (cf 75 #[(tp 29)] #[25]) 0])
 (.seq (.reg [] [
   DR 31 86 7 0,
   Ce 32 31 3,
   rq 33 (.move (ki 0)) 3])
  (.block 2 (.loop (.seq (.reg [] [
    rq 34 (.binOp .lss 3 (tp 33) (tp 32) 3) 4])
    (.seq (.cond (tp 34) (.skip)
    (.exit 2))
    (.seq (.block 3 (.reg [] [
      Ap 35 5 25,
      DR 36 27 2 0,
      Ce 37 36 3,
      rq 38 (cf 76 #[(tp 35),(tp 37)] #[25,3]) 25,
      AQ 5 38 25]))
    (.reg [] [
      FB 39 33,
      Ap 33 39 3])))))))))
 (.seq (.seq (.reg [] [
   DR 40 86 7 1,Ce 41 40 4])
 (.cond (tp 41) (.reg [] [
   Ap 42 5 25,
   DR 43 27 2 1,
   Ce 44 43 3,
   rq 45 (cf 77 #[(tp 42),(tp 44)] #[25,3]) 25,
   AQ 5 45 25])
 (.skip)))
 (.seq (.reg [] [
   Ap 46 5 25,AQ 4 46 25])
 (.ret)))))))
def c67:RC:=
 .seq (.reg [] [
  Cz 9 0 3])
 (.seq (.seq (.reg [] [
   Ap 14 0 3,rq 15 (.binOp .eql 3 (tp 14) (ki 17) 3) 4])
 (.cond (tp 15) (.seq (.seq (.reg [] [
   Ap 16 1 3,
   rq 17 (.binOp .gtr 3 (tp 16) (ki 0) 3) 4])
  (.cond (tp 17) (.seq (.reg [] [
    Cz 9 0 3])
   (.ret))
  (.skip)))
  (.seq (.reg [0, 1, 2, 3, 4, 5, 6] [
    Ap 18 2 3,
    Ce 19 3 91,
    Ce 20 4 25,
    rq 21 (.slice 25 (tp 20) (some (ki 1)) none none) 25,
    rq 22 (cf 56 #[(tp 19),(tp 21)] #[91,25]) 3,
    rq 23 (.binOp .mul 3 (tp 18) (tp 22) 3) 3,
    AQ 9 23 3])
  (.ret)))
 (.skip)))
 (.seq (.reg [0, 1, 2, 3, 4] [
   Ap 24 0 3,D5 25 91 3 24,Ce 26 25 3,Cz 10 0 3,AQ 11 26 3])
 (.seq (.seq (.reg [] [
   Cz 12 0 3,Cz 13 1 3])
 (.block 0 (.loop (.seq (.seq (.reg [] [
   Ap 27 12 3,
   Ap 28 11 3,
   rq 29 (.binOp .leq 3 (tp 27) (tp 28) 3) 4,
   Ap 30 29 4,
   DD 31 12 3 30 true,
   DD 32 0 3 30 true,
   rg 33 (.binOp .mul 3 (tp 31) (tp 32) 3) 3 30 true,
   DD 34 1 3 30 true,
   rg 35 (.binOp .leq 3 (tp 33) (tp 34) 3) 4 30 true,
   rq 36 (.pick (tp 30) (tp 35) (kb false)) 4])
   (.cond (tp 36) (.skip)
   (.exit 0)))
   (.seq (.block 1 (.seq (.reg [] [
     Ap 39 0 3,
     Ap 40 11 3,
     Ap 41 12 3,
     rq 42 (.binOp .sub 3 (tp 40) (tp 41) 3) 3,
     D5 43 91 3 39,
     rn (.store 3 (tp 43) (tp 42)) 0])
    (.seq (.reg [] [
      Ap 44 10 3,
      Ce 45 5 102,
      Ap 46 0 3,
      FB 47 46,
      Ap 48 1 3,
      Ap 49 12 3,
      Ap 50 0 3,
      rq 51 (.binOp .mul 3 (tp 49) (tp 50) 3) 3,
      rq 52 (.binOp .sub 3 (tp 48) (tp 51) 3) 3,
      Ap 53 2 3,
      Ap 54 13 3,
      rq 55 (.binOp .mul 3 (tp 53) (tp 54) 3) 3,
      rq 56 (.call ⟨.value (tp 45),#[(tp 47),(tp 52),(tp 55)],#[3,3,3]⟩) 3,
      rq 57 (.binOp .add 3 (tp 44) (tp 56) 3) 3,
      AQ 10 57 3])
    (.reg [] [
      Ap 58 13 3,
      Ap 59 11 3,
      Ap 60 12 3,
      rq 61 (.binOp .sub 3 (tp 59) (tp 60) 3) 3,
      rq 62 (.binOp .mul 3 (tp 58) (tp 61) 3) 3,
      Ap 63 12 3,
      FB 64 63,
      rq 65 (.binOp .quo 3 (tp 62) (tp 64) 3) 3,
      AQ 13 65 3]))))
   (.reg [] [
     Ap 37 12 3,
     FB 38 37,
     AQ 12 38 3]))))))
 (.seq (.reg [] [
   Ap 66 0 3,Ap 67 11 3,D5 68 91 3 66,rn (.store 3 (tp 68) (tp 67)) 0])
 (.seq (.reg [] [
   Ap 69 10 3,AQ 9 69 3])
 (.ret))))))
def c68:RC:=QA
def c69:RC:=QB
def c70:RC:=
 .seq (.reg [] [
  rq 10 (.assign (kb true)) 4])
 (.seq (.reg [] [
   rq 11 (.assign (kb true)) 4])
 (.block 0 (.loop (.block 1 (.seq (.reg [] [
   Ap 21 2 3,
   Ap 22 1 3,
   rq 23 (.binOp .sub 3 (tp 21) (tp 22) 3) 3,
   AQ 12 23 3])
   (.seq (.seq (.reg [] [
     Ap 24 12 3,
     rq 25 (.binOp .leq 3 (tp 24) (ki 12) 3) 4])
   (.cond (tp 25) (.seq (.reg [] [
     Ap 26 0 30,
     Ap 27 1 3,
     Ap 28 2 3,
     Ap 29 4 79,
     rq 30 (cf 78 #[(tp 26),(tp 27),(tp 28),(tp 29)] #[30,3,3,79]) 0])
    (.ret))
   (.skip)))
   (.seq (.seq (.reg [] [
     Ap 31 3 3,
     rq 32 (.binOp .eql 3 (tp 31) (ki 0) 3) 4])
   (.cond (tp 32) (.seq (.reg [] [
     Ap 33 0 30,
     Ap 34 1 3,
     Ap 35 2 3,
     Ap 36 4 79,
     rq 37 (cf 79 #[(tp 33),(tp 34),(tp 35),(tp 36)] #[30,3,3,79]) 0])
    (.ret))
   (.skip)))
   (.seq (.seq (.reg [] [
     Ap 38 10 4,
     rq 39 (.unOp .not 4 (tp 38)) 4])
   (.cond (tp 39) (.seq (.reg [] [
     Ap 40 0 30,
     Ap 41 1 3,
     Ap 42 2 3,
     Ap 43 4 79,
     rq 44 (cf 80 #[(tp 40),(tp 41),(tp 42),(tp 43)] #[30,3,3,79]) 0])
    (.reg [] [
      Ap 45 3 3,
      rq 46 (.binOp .sub 3 (tp 45) (ki 1) 3) 3,
      AQ 3 46 3]))
   (.skip)))
   (.seq (.reg [] [
     Ap 48 0 30,
     Ap 49 1 3,
     Ap 50 2 3,
     Ap 51 4 79,
     rq 52 (cf 81 #[(tp 48),(tp 49),(tp 50),(tp 51)] #[30,3,3,79]) 110,
     Ap 47 52 110,
     EM 53 47 0 3,
     EM 54 47 1 109,
     AQ 13 53 3,
     AQ 14 54 109])
   (.seq (.seq (.reg [] [
     Ap 55 14 109,
     rq 56 (.binOp .eql 109 (tp 55) (ki 2) 109) 4])
   (.cond (tp 56) (.seq (.reg [] [
     Ap 57 0 30,
     Ap 58 1 3,
     Ap 59 2 3,
     Ap 60 4 79,
     rq 61 (cf 82 #[(tp 57),(tp 58),(tp 59),(tp 60)] #[30,3,3,79]) 0])
    (.seq (.reg [] [
      Ap 62 2 3,
      rq 63 (.binOp .sub 3 (tp 62) (ki 1) 3) 3,
      Ap 64 13 3,
      Ap 65 1 3,
      rq 66 (.binOp .sub 3 (tp 64) (tp 65) 3) 3,
      rq 67 (.binOp .sub 3 (tp 63) (tp 66) 3) 3,
      AQ 13 67 3])
    (.reg [] [
      Cz 14 1 109])))
   (.skip)))
   (.seq (.seq (.reg [] [
     Ap 68 10 4,
     Ap 69 68 4,
     DD 70 11 4 69 true,
     rq 71 (.pick (tp 69) (tp 70) (kb false)) 4,
     Ap 72 71 4,
     DD 73 14 109 72 true,
     rg 74 (.binOp .eql 109 (tp 73) (ki 1) 109) 4 72 true,
     rq 75 (.pick (tp 72) (tp 74) (kb false)) 4])
   (.cond (tp 75) (.seq (.reg [] [
     Ap 76 0 30,
     Ap 77 1 3,
     Ap 78 2 3,
     Ap 79 4 79,
     rq 80 (cf 83 #[(tp 76),(tp 77),(tp 78),(tp 79)] #[30,3,3,79]) 4])
    (.cond (tp 80) (.ret)
    (.skip)))
   (.skip)))
   (.seq (.seq (.reg [0, 1, 2, 3, 4, 5, 6, 7, 8, 9, 10, 11, 12, 13, 14, 15, 16] [
     Ap 81 1 3,
     rq 82 (.binOp .gtr 3 (tp 81) (ki 0) 3) 4,
     Ap 83 82 4,
     DD 84 4 79 83 true,
     DD 85 0 30 83 true,
     DD 86 1 3 83 true,
     rg 87 (.binOp .sub 3 (tp 86) (ki 1) 3) 3 83 true,
     rg 88 (.indexAddr 30 (tp 85) (tp 87)) 0 83 true,
     rg 89 (.load 25 (tp 88)) 25 83 true,
     DD 90 0 30 83 true,
     DD 91 13 3 83 true,
     rg 92 (.indexAddr 30 (tp 90) (tp 91)) 0 83 true,
     rg 93 (.load 25 (tp 92)) 25 83 true,
     rg 94 (.call ⟨.value (tp 84),#[(tp 89),(tp 93)],#[25,25]⟩) 3 83 true,
     rg 95 (.binOp .lss 3 (tp 94) (ki 0) 3) 4 83 true,
     rg 96 (.unOp .not 4 (tp 95)) 4 83 true,
     rq 97 (.pick (tp 83) (tp 96) (kb false)) 4])
   (.cond (tp 97) (.seq (.reg [] [
     Ap 98 0 30,
     Ap 99 1 3,
     Ap 100 2 3,
     Ap 101 13 3,
     Ap 102 4 79,
     rq 103 (cf 84 #[(tp 98),(tp 99),(tp 100),(tp 101),(tp 102)] #[30,3,3,3,79]) 3,
     AQ 15 103 3])
    (.seq (.reg [] [
      Ap 104 15 3,
      AQ 1 104 3])
    (.exit 1)))
   (.skip)))
   (.seq (.reg [] [
     Ap 106 0 30,
     Ap 107 1 3,
     Ap 108 2 3,
     Ap 109 13 3,
     Ap 110 4 79,
     rq 111 (cf 85 #[(tp 106),(tp 107),(tp 108),(tp 109),(tp 110)] #[30,3,3,3,79]) 114,
     Ap 105 111 114,
     EM 112 105 0 3,
     EM 113 105 1 4,
     AQ 16 112 3,
     AQ 17 113 4])
   (.seq (.reg [] [
     Ap 114 17 4,
     AQ 11 114 4])
   (.seq (.reg [] [
     Ap 115 16 3,
     Ap 116 1 3,
     rq 117 (.binOp .sub 3 (tp 115) (tp 116) 3) 3,
     Ap 118 2 3,
     Ap 119 16 3,
     rq 120 (.binOp .sub 3 (tp 118) (tp 119) 3) 3,
     AQ 18 117 3,
     AQ 19 120 3])
   (.seq (.reg [] [
     Ap 121 12 3,
     rq 122 (.binOp .quo 3 (tp 121) (ki 8) 3) 3,
     AQ 20 122 3])
   (.seq (.reg [] [
     Ap 123 18 3,
     Ap 124 19 3,
     rq 125 (.binOp .lss 3 (tp 123) (tp 124) 3) 4])
   (.cond (tp 125) (.seq (.reg [] [
     Ap 126 18 3,
     Ap 127 20 3,
     rq 128 (.binOp .geq 3 (tp 126) (tp 127) 3) 4,
     AQ 10 128 4])
    (.seq (.reg [] [
      Ap 129 0 30,
      Ap 130 1 3,
      Ap 131 16 3,
      Ap 132 3 3,
      Ap 133 4 79,
      rq 134 (cf 70 #[(tp 129),(tp 130),(tp 131),(tp 132),(tp 133)] #[30,3,3,3,79]) 0])
    (.reg [] [
      Ap 135 16 3,
      FB 136 135,
      AQ 1 136 3])))
   (.seq (.reg [] [
     Ap 137 19 3,
     Ap 138 20 3,
     rq 139 (.binOp .geq 3 (tp 137) (tp 138) 3) 4,
     AQ 10 139 4])
    (.seq (.reg [] [
      Ap 140 0 30,
      Ap 141 16 3,
      FB 142 141,
      Ap 143 2 3,
      Ap 144 3 3,
      Ap 145 4 79,
      rq 146 (cf 70 #[(tp 140),(tp 142),(tp 143),(tp 144),(tp 145)] #[30,3,3,3,79]) 0])
    (.reg [] [
      Ap 147 16 3,
      AQ 2 147 3])))))))))))))))))))))
def c71:RC:=
 .seq (.reg [] [
  Cz 2 0 3])
 (.seq (.cond (kb false) (.seq (.reg [] [
   Ap 3 0 100,
   rq 4 (.convert 100 99 (tp 3)) 99,
   rq 5 (cf 86 #[(tp 4)] #[99]) 3,
   AQ 2 5 3])
  (.ret))
 (.skip))
 (.seq (.reg [] [
   Ap 6 0 100,rq 7 (cf 87 #[(tp 6)] #[118]) 3,AQ 2 7 3])
 (.ret)))
def c73:RC:=
 .seq (.reg [] [
  rq 8 (.assign (kb true)) 4])
 (.seq (.reg [] [
   rq 9 (.assign (kb true)) 4])
 (.block 0 (.loop (.block 1 (.seq (.reg [] [
   Ap 19 2 3,
   Ap 20 1 3,
   rq 21 (.binOp .sub 3 (tp 19) (tp 20) 3) 3,
   AQ 10 21 3])
   (.seq (.seq (.reg [] [
     Ap 22 10 3,
     rq 23 (.binOp .leq 3 (tp 22) (ki 12) 3) 4])
   (.cond (tp 23) (.seq (.reg [] [
     Ap 24 0 25,
     Ap 25 1 3,
     Ap 26 2 3,
     rq 27 (cf 88 #[(tp 24),(tp 25),(tp 26)] #[25,3,3]) 0])
    (.ret))
   (.skip)))
   (.seq (.seq (.reg [] [
     Ap 28 3 3,
     rq 29 (.binOp .eql 3 (tp 28) (ki 0) 3) 4])
   (.cond (tp 29) (.seq (.reg [] [
     Ap 30 0 25,
     Ap 31 1 3,
     Ap 32 2 3,
     rq 33 (cf 89 #[(tp 30),(tp 31),(tp 32)] #[25,3,3]) 0])
    (.ret))
   (.skip)))
   (.seq (.seq (.reg [] [
     Ap 34 8 4,
     rq 35 (.unOp .not 4 (tp 34)) 4])
   (.cond (tp 35) (.seq (.reg [] [
     Ap 36 0 25,
     Ap 37 1 3,
     Ap 38 2 3,
     rq 39 (cf 90 #[(tp 36),(tp 37),(tp 38)] #[25,3,3]) 0])
    (.reg [] [
      Ap 40 3 3,
      rq 41 (.binOp .sub 3 (tp 40) (ki 1) 3) 3,
      AQ 3 41 3]))
   (.skip)))
   (.seq (.reg [] [
     Ap 43 0 25,
     Ap 44 1 3,
     Ap 45 2 3,
     rq 46 (cf 91 #[(tp 43),(tp 44),(tp 45)] #[25,3,3]) 110,
     Ap 42 46 110,
     EM 47 42 0 3,
     EM 48 42 1 109,
     AQ 11 47 3,
     AQ 12 48 109])
   (.seq (.seq (.reg [] [
     Ap 49 12 109,
     rq 50 (.binOp .eql 109 (tp 49) (ki 2) 109) 4])
   (.cond (tp 50) (.seq (.reg [] [
     Ap 51 0 25,
     Ap 52 1 3,
     Ap 53 2 3,
     rq 54 (cf 92 #[(tp 51),(tp 52),(tp 53)] #[25,3,3]) 0])
    (.seq (.reg [] [
      Ap 55 2 3,
      rq 56 (.binOp .sub 3 (tp 55) (ki 1) 3) 3,
      Ap 57 11 3,
      Ap 58 1 3,
      rq 59 (.binOp .sub 3 (tp 57) (tp 58) 3) 3,
      rq 60 (.binOp .sub 3 (tp 56) (tp 59) 3) 3,
      AQ 11 60 3])
    (.reg [] [
      Cz 12 1 109])))
   (.skip)))
   (.seq (.seq (.reg [] [
     Ap 61 8 4,
     Ap 62 61 4,
     DD 63 9 4 62 true,
     rq 64 (.pick (tp 62) (tp 63) (kb false)) 4,
     Ap 65 64 4,
     DD 66 12 109 65 true,
     rg 67 (.binOp .eql 109 (tp 66) (ki 1) 109) 4 65 true,
     rq 68 (.pick (tp 65) (tp 67) (kb false)) 4])
   (.cond (tp 68) (.seq (.reg [] [
     Ap 69 0 25,
     Ap 70 1 3,
     Ap 71 2 3,
     rq 72 (cf 93 #[(tp 69),(tp 70),(tp 71)] #[25,3,3]) 4])
    (.cond (tp 72) (.ret)
    (.skip)))
   (.skip)))
   (.seq (.seq (.reg [0, 1, 2, 3, 4, 5, 6, 7, 8, 9, 10, 11, 12, 13, 14] [
     Ap 73 1 3,
     rq 74 (.binOp .gtr 3 (tp 73) (ki 0) 3) 4,
     Ap 75 74 4,
     DD 76 0 25 75 true,
     DD 77 1 3 75 true,
     rg 78 (.binOp .sub 3 (tp 77) (ki 1) 3) 3 75 true,
     rg 79 (.indexAddr 25 (tp 76) (tp 78)) 0 75 true,
     rg 80 (.load 3 (tp 79)) 3 75 true,
     DD 81 0 25 75 true,
     DD 82 11 3 75 true,
     rg 83 (.indexAddr 25 (tp 81) (tp 82)) 0 75 true,
     rg 84 (.load 3 (tp 83)) 3 75 true,
     rg 85 (cf 94 #[(tp 80),(tp 84)] #[3,3]) 4 75 true,
     rg 86 (.unOp .not 4 (tp 85)) 4 75 true,
     rq 87 (.pick (tp 75) (tp 86) (kb false)) 4])
   (.cond (tp 87) (.seq (.reg [] [
     Ap 88 0 25,
     Ap 89 1 3,
     Ap 90 2 3,
     Ap 91 11 3,
     rq 92 (cf 95 #[(tp 88),(tp 89),(tp 90),(tp 91)] #[25,3,3,3]) 3,
     AQ 13 92 3])
    (.seq (.reg [] [
      Ap 93 13 3,
      AQ 1 93 3])
    (.exit 1)))
   (.skip)))
   (.seq (.reg [] [
     Ap 95 0 25,
     Ap 96 1 3,
     Ap 97 2 3,
     Ap 98 11 3,
     rq 99 (cf 96 #[(tp 95),(tp 96),(tp 97),(tp 98)] #[25,3,3,3]) 114,
     Ap 94 99 114,
     EM 100 94 0 3,
     EM 101 94 1 4,
     AQ 14 100 3,
     AQ 15 101 4])
   (.seq (.reg [] [
     Ap 102 15 4,
     AQ 9 102 4])
   (.seq (.reg [] [
     Ap 103 14 3,
     Ap 104 1 3,
     rq 105 (.binOp .sub 3 (tp 103) (tp 104) 3) 3,
     Ap 106 2 3,
     Ap 107 14 3,
     rq 108 (.binOp .sub 3 (tp 106) (tp 107) 3) 3,
     AQ 16 105 3,
     AQ 17 108 3])
   (.seq (.reg [] [
     Ap 109 10 3,
     rq 110 (.binOp .quo 3 (tp 109) (ki 8) 3) 3,
     AQ 18 110 3])
   (.seq (.reg [] [
     Ap 111 16 3,
     Ap 112 17 3,
     rq 113 (.binOp .lss 3 (tp 111) (tp 112) 3) 4])
   (.cond (tp 113) (.seq (.reg [] [
     Ap 114 16 3,
     Ap 115 18 3,
     rq 116 (.binOp .geq 3 (tp 114) (tp 115) 3) 4,
     AQ 8 116 4])
    (.seq (.reg [] [
      Ap 117 0 25,
      Ap 118 1 3,
      Ap 119 14 3,
      Ap 120 3 3,
      rq 121 (cf 73 #[(tp 117),(tp 118),(tp 119),(tp 120)] #[25,3,3,3]) 0])
    (.reg [] [
      Ap 122 14 3,
      FB 123 122,
      AQ 1 123 3])))
   (.seq (.reg [] [
     Ap 124 17 3,
     Ap 125 18 3,
     rq 126 (.binOp .geq 3 (tp 124) (tp 125) 3) 4,
     AQ 8 126 4])
    (.seq (.reg [] [
      Ap 127 0 25,
      Ap 128 14 3,
      FB 129 128,
      Ap 130 2 3,
      Ap 131 3 3,
      rq 132 (cf 73 #[(tp 127),(tp 129),(tp 130),(tp 131)] #[25,3,3,3]) 0])
    (.reg [] [
      Ap 133 14 3,
      AQ 2 133 3])))))))))))))))))))))
def c74:RC:=UO
def c75:RC:=
 .seq (.reg [] [
  Ap 4 0 25,EN 5 4 25,rq 6 (.binOp .sub 3 (tp 5) (ki 1) 3) 3,Cz 2 0 3,AQ 3 6 3])
 (.block 0 (.loop (.seq (.seq (.reg [] [
   Ap 7 2 3,
   Ap 8 3 3,
   rq 9 (.binOp .lss 3 (tp 7) (tp 8) 3) 4])
   (.cond (tp 9) (.skip)
   (.exit 0)))
   (.seq (.block 1 (.reg [0, 1, 2, 3, 4, 5, 6, 7, 8, 9, 10, 11, 12, 13, 14, 15] [
     Ap 14 0 25,
     Ap 15 2 3,
     Ap 16 0 25,
     Ap 17 3 3,
     Ap 18 0 25,
     Ap 19 3 3,
     D5 20 25 18 19,
     Ce 21 20 3,
     Ap 22 0 25,
     Ap 23 2 3,
     D5 24 25 22 23,
     Ce 25 24 3,
     D5 26 25 14 15,
     rn (.store 3 (tp 26) (tp 21)) 0,
     D5 27 25 16 17,
     rn (.store 3 (tp 27) (tp 25)) 0]))
   (.reg [] [
     Ap 10 2 3,
     FB 11 10,
     Ap 12 3 3,
     rq 13 (.binOp .sub 3 (tp 12) (ki 1) 3) 3,
     AQ 2 11 3,
     AQ 3 13 3])))))
def c76:RC:=
 .seq (.reg [] [
  rq 4 (.assign (.const (.slice none 0 0))) 25])
 (.seq (.reg [] [
   Ap 8 0 25,EN 9 8 25,rq 10 (.makeSlice 25 (ki 0) (tp 9)) 25,AQ 5 10 25])
 (.seq (.seq (.reg [] [
   Ap 11 1 3,rq 12 (.move (ki 0)) 3])
 (.block 0 (.loop (.seq (.reg [] [
   rq 13 (.binOp .lss 3 (tp 12) (tp 11) 3) 4])
   (.seq (.cond (tp 13) (.skip)
   (.exit 0))
   (.seq (.block 1 (.seq (.reg [] [
     Ap 14 12 3,
     AQ 6 14 3])
    (.seq (.reg [] [
      Ap 15 1 3,
      rq 16 (.binOp .sub 3 (tp 15) (ki 1) 3) 3,
      AQ 7 16 3])
    (.block 2 (.loop (.seq (.seq (.reg [] [
      Ap 17 7 3,
      rq 18 (.binOp .geq 3 (tp 17) (ki 0) 3) 4])
      (.cond (tp 18) (.skip)
      (.exit 2)))
      (.seq (.block 3 (.reg [] [
        Ap 21 5 25,
        Ap 22 0 25,
        Ap 23 7 3,
        Ap 24 1 3,
        rq 25 (.binOp .mul 3 (tp 23) (tp 24) 3) 3,
        Ap 26 6 3,
        rq 27 (.binOp .add 3 (tp 25) (tp 26) 3) 3,
        D5 28 25 22 27,
        Ce 29 28 3,
        rq 30 (.buildSlice 25 1 #[(0,(tp 29))]) 25,
        rq 31 (cb .append #[(tp 21),(tp 30)] #[25,25]) 25,
        AQ 5 31 25]))
      (.reg [] [
        Ap 19 7 3,
        rq 20 (.binOp .sub 3 (tp 19) (ki 1) 3) 3,
        AQ 7 20 3]))))))))
   (.reg [] [
     FB 32 12,
     Ap 12 32 3])))))))
 (.seq (.reg [] [
   Ap 33 5 25,AQ 4 33 25])
 (.ret))))
def c78:RC:=
 .seq (.reg [] [
  Ap 10 1 3,FB 11 10,AQ 8 11 3])
 (.block 0 (.loop (.seq (.seq (.reg [] [
   Ap 12 8 3,
   Ap 13 2 3,
   rq 14 (.binOp .lss 3 (tp 12) (tp 13) 3) 4])
   (.cond (tp 14) (.skip)
   (.exit 0)))
   (.seq (.block 1 (.seq (.reg [] [
     Ap 17 8 3,
     AQ 9 17 3])
    (.block 2 (.loop (.seq (.seq (.reg [0, 1, 2, 3, 4, 5, 6, 7, 8, 9, 10, 11, 12, 13, 14, 15, 16] [
      Ap 18 9 3,
      Ap 19 1 3,
      rq 20 (.binOp .gtr 3 (tp 18) (tp 19) 3) 4,
      Ap 21 20 4,
      DD 22 3 79 21 true,
      DD 23 0 30 21 true,
      DD 24 9 3 21 true,
      rg 25 (.indexAddr 30 (tp 23) (tp 24)) 0 21 true,
      rg 26 (.load 25 (tp 25)) 25 21 true,
      DD 27 0 30 21 true,
      DD 28 9 3 21 true,
      rg 29 (.binOp .sub 3 (tp 28) (ki 1) 3) 3 21 true,
      rg 30 (.indexAddr 30 (tp 27) (tp 29)) 0 21 true,
      rg 31 (.load 25 (tp 30)) 25 21 true,
      rg 32 (.call ⟨.value (tp 22),#[(tp 26),(tp 31)],#[25,25]⟩) 3 21 true,
      rg 33 (.binOp .lss 3 (tp 32) (ki 0) 3) 4 21 true,
      rq 34 (.pick (tp 21) (tp 33) (kb false)) 4])
      (.cond (tp 34) (.skip)
      (.exit 2)))
      (.seq (.block 3 (.reg [0, 1, 2, 3, 4, 5, 6, 7, 8, 9, 10, 11, 12, 13, 14, 15, 16, 17] [
        Ap 37 0 30,
        Ap 38 9 3,
        Ap 39 0 30,
        Ap 40 9 3,
        rq 41 (.binOp .sub 3 (tp 40) (ki 1) 3) 3,
        Ap 42 0 30,
        Ap 43 9 3,
        rq 44 (.binOp .sub 3 (tp 43) (ki 1) 3) 3,
        D5 45 30 42 44,
        Ce 46 45 25,
        Ap 47 0 30,
        Ap 48 9 3,
        D5 49 30 47 48,
        Ce 50 49 25,
        D5 51 30 37 38,
        rn (.store 25 (tp 51) (tp 46)) 0,
        D5 52 30 39 41,
        rn (.store 25 (tp 52) (tp 50)) 0]))
      (.reg [] [
        Ap 35 9 3,
        rq 36 (.binOp .sub 3 (tp 35) (ki 1) 3) 3,
        AQ 9 36 3])))))))
   (.reg [] [
     Ap 15 8 3,
     FB 16 15,
     AQ 8 16 3])))))
def c86:RC:=
 .seq (.reg [] [
  Cz 2 0 3])
 (.seq (.seq (.reg [] [
   Ap 3 0 99,rq 4 (.binOp .geq 99 (tp 3) (.const (.int .u32 65536)) 99) 4])
 (.cond (tp 4) (.seq (.reg [] [
   Ap 5 0 99,
   rq 6 (.binOp .shr 99 (tp 5) (.const (.int .u64 16)) 100) 99,
   AQ 0 6 99])
  (.reg [] [
    Cz 2 16 3]))
 (.skip)))
 (.seq (.seq (.reg [] [
   Ap 7 0 99,rq 8 (.binOp .geq 99 (tp 7) (.const (.int .u32 256)) 99) 4])
 (.cond (tp 8) (.seq (.reg [] [
   Ap 9 0 99,
   rq 10 (.binOp .shr 99 (tp 9) (.const (.int .u64 8)) 100) 99,
   AQ 0 10 99])
  (.reg [] [
    Ap 11 2 3,
    rq 12 (.binOp .add 3 (tp 11) (ki 8) 3) 3,
    AQ 2 12 3]))
 (.skip)))
 (.seq (.reg [] [
   Ap 13 2 3,Ap 14 0 99,rq 15 (.convert 99 5 (tp 14)) 5,rq 16 (.index 9 (.const (.string ⟨#[0,1,2,2,3,3,3,3,4,4,4,4,4,4,4,4,5,5,5,5,5,5,5,5,5,5,5,5,5,5,5,5,6,6,6,6,6,6,6,6,6,6,6,6,6,6,6,6,6,6,6,6,6,6,6,6,6,6,6,6,6,6,6,6,7,7,7,7,7,7,7,7,7,7,7,7,7,7,7,7,7,7,7,7,7,7,7,7,7,7,7,7,7,7,7,7,7,7,7,7,7,7,7,7,7,7,7,7,7,7,7,7,7,7,7,7,7,7,7,7,7,7,7,7,7,7,7,7,8,8,8,8,8,8,8,8,8,8,8,8,8,8,8,8,8,8,8,8,8,8,8,8,8,8,8,8,8,8,8,8,8,8,8,8,8,8,8,8,8,8,8,8,8,8,8,8,8,8,8,8,8,8,8,8,8,8,8,8,8,8,8,8,8,8,8,8,8,8,8,8,8,8,8,8,8,8,8,8,8,8,8,8,8,8,8,8,8,8,8,8,8,8,8,8,8,8,8,8,8,8,8,8,8,8,8,8,8,8,8,8,8,8,8,8,8,8,8,8,8,8,8,8,8,8,8,8]⟩)) (tp 15)) 5,rq 17 (.convert 5 3 (tp 16)) 3,rq 18 (.binOp .add 3 (tp 13) (tp 17) 3) 3,AQ 2 18 3])
 (.ret))))
def c87:RC:=
 .seq (.reg [] [
  Cz 2 0 3])
 (.seq (.seq (.reg [] [
   Ap 3 0 118,rq 4 (.binOp .geq 118 (tp 3) (.const (.int .u64 4294967296)) 118) 4])
 (.cond (tp 4) (.seq (.reg [] [
   Ap 5 0 118,
   rq 6 (.binOp .shr 118 (tp 5) (.const (.int .u64 32)) 100) 118,
   AQ 0 6 118])
  (.reg [] [
    Cz 2 32 3]))
 (.skip)))
 (.seq (.seq (.reg [] [
   Ap 7 0 118,rq 8 (.binOp .geq 118 (tp 7) (.const (.int .u64 65536)) 118) 4])
 (.cond (tp 8) (.seq (.reg [] [
   Ap 9 0 118,
   rq 10 (.binOp .shr 118 (tp 9) (.const (.int .u64 16)) 100) 118,
   AQ 0 10 118])
  (.reg [] [
    Ap 11 2 3,
    rq 12 (.binOp .add 3 (tp 11) (ki 16) 3) 3,
    AQ 2 12 3]))
 (.skip)))
 (.seq (.seq (.reg [] [
   Ap 13 0 118,rq 14 (.binOp .geq 118 (tp 13) (.const (.int .u64 256)) 118) 4])
 (.cond (tp 14) (.seq (.reg [] [
   Ap 15 0 118,
   rq 16 (.binOp .shr 118 (tp 15) (.const (.int .u64 8)) 100) 118,
   AQ 0 16 118])
  (.reg [] [
    Ap 17 2 3,
    rq 18 (.binOp .add 3 (tp 17) (ki 8) 3) 3,
    AQ 2 18 3]))
 (.skip)))
 (.seq (.reg [] [
   Ap 19 2 3,Ap 20 0 118,rq 21 (.convert 118 5 (tp 20)) 5,rq 22 (.index 9 (.const (.string ⟨#[0,1,2,2,3,3,3,3,4,4,4,4,4,4,4,4,5,5,5,5,5,5,5,5,5,5,5,5,5,5,5,5,6,6,6,6,6,6,6,6,6,6,6,6,6,6,6,6,6,6,6,6,6,6,6,6,6,6,6,6,6,6,6,6,7,7,7,7,7,7,7,7,7,7,7,7,7,7,7,7,7,7,7,7,7,7,7,7,7,7,7,7,7,7,7,7,7,7,7,7,7,7,7,7,7,7,7,7,7,7,7,7,7,7,7,7,7,7,7,7,7,7,7,7,7,7,7,7,8,8,8,8,8,8,8,8,8,8,8,8,8,8,8,8,8,8,8,8,8,8,8,8,8,8,8,8,8,8,8,8,8,8,8,8,8,8,8,8,8,8,8,8,8,8,8,8,8,8,8,8,8,8,8,8,8,8,8,8,8,8,8,8,8,8,8,8,8,8,8,8,8,8,8,8,8,8,8,8,8,8,8,8,8,8,8,8,8,8,8,8,8,8,8,8,8,8,8,8,8,8,8,8,8,8,8,8,8,8,8,8,8,8,8,8,8,8,8,8,8,8,8,8,8,8,8,8]⟩)) (tp 21)) 5,rq 23 (.convert 5 3 (tp 22)) 3,rq 24 (.binOp .add 3 (tp 19) (tp 23) 3) 3,AQ 2 24 3])
 (.ret)))))
def c88:RC:=
 .seq (.reg [] [
  Ap 8 1 3,FB 9 8,AQ 6 9 3])
 (.block 0 (.loop (.seq (.seq (.reg [] [
   Ap 10 6 3,
   Ap 11 2 3,
   rq 12 (.binOp .lss 3 (tp 10) (tp 11) 3) 4])
   (.cond (tp 12) (.skip)
   (.exit 0)))
   (.seq (.block 1 (.seq (.reg [] [
     Ap 15 6 3,
     AQ 7 15 3])
    (.block 2 (.loop (.seq (.seq (.reg [0, 1, 2, 3, 4, 5, 6, 7, 8, 9, 10, 11, 12, 13, 14] [
      Ap 16 7 3,
      Ap 17 1 3,
      rq 18 (.binOp .gtr 3 (tp 16) (tp 17) 3) 4,
      Ap 19 18 4,
      DD 20 0 25 19 true,
      DD 21 7 3 19 true,
      rg 22 (.indexAddr 25 (tp 20) (tp 21)) 0 19 true,
      rg 23 (.load 3 (tp 22)) 3 19 true,
      DD 24 0 25 19 true,
      DD 25 7 3 19 true,
      rg 26 (.binOp .sub 3 (tp 25) (ki 1) 3) 3 19 true,
      rg 27 (.indexAddr 25 (tp 24) (tp 26)) 0 19 true,
      rg 28 (.load 3 (tp 27)) 3 19 true,
      rg 29 (cf 94 #[(tp 23),(tp 28)] #[3,3]) 4 19 true,
      rq 30 (.pick (tp 19) (tp 29) (kb false)) 4])
      (.cond (tp 30) (.skip)
      (.exit 2)))
      (.seq (.block 3 (.reg [0, 1, 2, 3, 4, 5, 6, 7, 8, 9, 10, 11, 12, 13, 14, 15, 16, 17] [
        Ap 33 0 25,
        Ap 34 7 3,
        Ap 35 0 25,
        Ap 36 7 3,
        rq 37 (.binOp .sub 3 (tp 36) (ki 1) 3) 3,
        Ap 38 0 25,
        Ap 39 7 3,
        rq 40 (.binOp .sub 3 (tp 39) (ki 1) 3) 3,
        D5 41 25 38 40,
        Ce 42 41 3,
        Ap 43 0 25,
        Ap 44 7 3,
        D5 45 25 43 44,
        Ce 46 45 3,
        D5 47 25 33 34,
        rn (.store 3 (tp 47) (tp 42)) 0,
        D5 48 25 35 37,
        rn (.store 3 (tp 48) (tp 46)) 0]))
      (.reg [] [
        Ap 31 7 3,
        rq 32 (.binOp .sub 3 (tp 31) (ki 1) 3) 3,
        AQ 7 32 3])))))))
   (.reg [] [
     Ap 13 6 3,
     FB 14 13,
     AQ 6 14 3])))))
def c94:RC:=
 .seq (.reg [] [
  rq 4 (.assign (kb false)) 4])
 (.seq (.reg [] [
   Ap 5 0 3,rq 6 (cf 74 #[(tp 5)] #[3]) 4,Ap 7 6 4,DD 8 1 3 7 true,rg 9 (cf 74 #[(tp 8)] #[3]) 4 7 true,rg 10 (.unOp .not 4 (tp 9)) 4 7 true,rq 11 (.pick (tp 7) (tp 10) (kb false)) 4,Ap 12 11 4,DD 13 0 3 12 false,DD 14 1 3 12 false,rg 15 (.binOp .lss 3 (tp 13) (tp 14) 3) 4 12 false,rq 16 (.pick (tp 12) (kb true) (tp 15)) 4,AQ 4 16 4])
 (.ret))
def ti3:TI:=⟨.int .i64,1,8,(some (.int .i64 0)),false⟩
def ti4:TI:=⟨.bool,1,1,(some (.bool false)),false⟩
def ti5:TI:=⟨.int .u8,1,1,(some (.int .u8 0)),false⟩
def ti9:TI:=⟨.string,1,16,(some (.string ⟨#[]⟩)),false⟩
def Aaw:TI:=⟨.array 16 5,16,16,(some (.agg #[(.int .u8 0),(.int .u8 0),(.int .u8 0),(.int .u8 0),(.int .u8 0),(.int .u8 0),(.int .u8 0),(.int .u8 0),(.int .u8 0),(.int .u8 0),(.int .u8 0),(.int .u8 0),(.int .u8 0),(.int .u8 0),(.int .u8 0),(.int .u8 0)])),true⟩
def Aax : TI := ⟨.struct #[⟨ "Rows", 5, 0, false, "", "", 0⟩, ⟨ "Columns", 5, 1, false, "", "", 1⟩, ⟨ "Colours", 5, 2, false, "", "", 2⟩, ⟨ "Group", 5, 3, false, "", "", 3⟩, ⟨ "Cells", 22, 4, false, "", "", 4⟩], 20, 20, (some (.agg #[(.int .u8 0), (.int .u8 0), (.int .u8 0), (.int .u8 0), (.int .u8 0), (.int .u8 0), (.int .u8 0), (.int .u8 0), (.int .u8 0), (.int .u8 0), (.int .u8 0), (.int .u8 0), (.int .u8 0), (.int .u8 0), (.int .u8 0), (.int .u8 0), (.int .u8 0), (.int .u8 0), (.int .u8 0), (.int .u8 0)])), true⟩
def Aay:TI:=⟨.slice 3,1,24,(some (.slice none 0 0)),false⟩
def Aaz : TI := ⟨.struct #[⟨ "Rows", 3, 0, false, "", "", 0⟩, ⟨ "Columns", 3, 1, false, "", "", 8⟩, ⟨ "Colours", 3, 2, false, "", "", 16⟩, ⟨ "Turns", 25, 3, false, "", "", 24⟩], 4, 48, (some (.agg #[(.int .i64 0), (.int .i64 0), (.int .i64 0), (.slice none 0 0)])), false⟩
def AaA:TI:=⟨.slice 25,1,24,(some (.slice none 0 0)),false⟩
def AaB:TI:=⟨.int .i64,1,8,(some (.int .i64 0)),false⟩
def AaC:TI:=⟨.func #[25,25] #[4] false,1,8,(some .nilFunc),false⟩
def AaD:TI:=⟨.pointer 66,1,8,(some (.pointer none)),false⟩
def AaE : TI := ⟨.struct #[⟨ "Press", 27, 0, true, "", "", 0⟩, ⟨ "from", 30, 4, false, "", "spadille/back", 48⟩], 5, 72, (some (.agg #[(.int .i64 0), (.int .i64 0), (.int .i64 0), (.slice none 0 0), (.slice none 0 0)])), false⟩
def AaF:TI:=⟨.int .u16,1,2,(some (.int .u16 0)),false⟩
def AaG:TI:=⟨.func #[25,3] #[] false,1,8,(some .nilFunc),false⟩
def AaH:TI:=⟨.func #[3] #[4] false,1,8,(some .nilFunc),false⟩
def AaI:TI:=⟨.func #[74] #[] false,1,8,(some .nilFunc),false⟩
def AaJ:TI:=⟨.func #[25,25] #[3] false,1,8,(some .nilFunc),false⟩
def AaK : TI := ⟨.struct #[⟨ "quarters", 3, 0, false, "", "spadille/back", 0⟩, ⟨ "flipped", 4, 1, false, "", "spadille/back", 8⟩], 2, 16, (some (.agg #[(.int .i64 0), (.bool false)])), true⟩
def AaL:TI:=⟨.array 17 3,17,136,(some (.agg #[(.int .i64 0),(.int .i64 0),(.int .i64 0),(.int .i64 0),(.int .i64 0),(.int .i64 0),(.int .i64 0),(.int .i64 0),(.int .i64 0),(.int .i64 0),(.int .i64 0),(.int .i64 0),(.int .i64 0),(.int .i64 0),(.int .i64 0),(.int .i64 0),(.int .i64 0)])),true⟩
def AaM:TI:=⟨.array 32 5,32,32,(some (.agg #[(.int .u8 0),(.int .u8 0),(.int .u8 0),(.int .u8 0),(.int .u8 0),(.int .u8 0),(.int .u8 0),(.int .u8 0),(.int .u8 0),(.int .u8 0),(.int .u8 0),(.int .u8 0),(.int .u8 0),(.int .u8 0),(.int .u8 0),(.int .u8 0),(.int .u8 0),(.int .u8 0),(.int .u8 0),(.int .u8 0),(.int .u8 0),(.int .u8 0),(.int .u8 0),(.int .u8 0),(.int .u8 0),(.int .u8 0),(.int .u8 0),(.int .u8 0),(.int .u8 0),(.int .u8 0),(.int .u8 0),(.int .u8 0)])),true⟩
def AaN:TI:=⟨.int .u32,1,4,(some (.int .u32 0)),false⟩
def eX:TI:=⟨.int .u64,1,8,(some (.int .u64 0)),false⟩
def eY:TI:=⟨.func #[3,3,3] #[3] false,1,8,(some .nilFunc),false⟩
def fA:TI:=⟨.int .i64,1,8,(some (.int .i64 0)),false⟩
def fB:TI:=⟨.int .u64,1,8,(some (.int .u64 0)),false⟩
def AaO:Tr TI:=(.node none (.node none (.node (some ti3) (.node none (.node none .nil (.node none (.node (some AaJ) .nil .nil) .nil)) .nil) (.node none (.node none (.node (some AaC) .nil (.node (some AaN) .nil .nil)) .nil) (.node (some Aaz) .nil (.node none (.node (some AaL) .nil .nil) .nil)))) (.node (some ti5) (.node (some ti9) .nil (.node (some Aay) .nil .nil)) (.node none (.node none (.node none (.node (some AaF) .nil .nil) .nil) .nil) (.node none (.node none (.node (some AaI) .nil .nil) (.node (some fA) .nil .nil)) (.node (some AaD) .nil .nil))))) (.node none (.node (some ti4) (.node none (.node none (.node (some AaB) .nil .nil) .nil) (.node (some Aax) (.node none (.node (some AaG) .nil .nil) .nil) .nil)) (.node none (.node none (.node none .nil (.node (some eX) .nil .nil)) .nil) .nil)) (.node none (.node none (.node none (.node none (.node (some AaE) .nil .nil) (.node (some AaM) .nil .nil)) .nil) (.node none (.node none (.node (some AaH) .nil .nil) .nil) .nil)) (.node none (.node (some Aaw) (.node none .nil (.node (some eY) .nil .nil)) (.node none (.node (some AaK) .nil .nil) (.node (some fB) .nil .nil))) (.node (some AaA) .nil .nil)))))
noncomputable def tt:TT:=AaO.get
def AaP:Tr Xq:=(.node none (.node none (.node none (.node none (.node (some ⟨43,c15,[.tmp 4,.tmp 5]⟩) (.node (some ⟨4,c31,[.cell 0 27]⟩) (.node (some ⟨11,c63,[]⟩) .nil .nil) .nil) (.node (some ⟨15,c47,[.tmp 2]⟩) .nil .nil)) (.node (some ⟨39,c23,[.tmp 2,.tmp 3]⟩) (.node (some ⟨4,c39,[.tmp 2]⟩) (.node (some ⟨8,c71,[.tmp 2]⟩) .nil .nil) .nil) (.node (some ⟨8,c55,[.tmp 2]⟩) (.node (some ⟨25,c87,[.tmp 2]⟩) .nil .nil) .nil))) (.node (some ⟨34,c11,[.tmp 6,.tmp 7]⟩) (.node (some ⟨209,c19,[.tmp 0]⟩) (.node (some ⟨28,c35,[.tmp 4]⟩) (.node (some ⟨70,c67,[.tmp 9]⟩) .nil .nil) .nil) (.node (some ⟨18,c51,[.cell 2 86]⟩) .nil .nil)) (.node none (.node (some ⟨9,c43,[.tmp 2]⟩) (.node (some ⟨28,c75,[]⟩) .nil .nil) .nil) (.node (some ⟨14,c59,[]⟩) .nil .nil)))) (.node none (.node (some ⟨79,c9,[.cell 6 27,.tmp 7]⟩) (.node (some ⟨23,c17,[.tmp 4,.tmp 5]⟩) (.node (some ⟨19,c33,[.tmp 4]⟩) (.node (some ⟨20,c65,[.tmp 4]⟩) .nil .nil) .nil) (.node (some ⟨110,c49,[.tmp 2,.tmp 3]⟩) .nil .nil)) (.node none (.node (some ⟨9,c41,[.tmp 4]⟩) (.node (some ⟨134,c73,[]⟩) .nil .nil) .nil) (.node (some ⟨50,c57,[.cell 4 91]⟩) .nil .nil))) (.node (some ⟨30,c13,[.tmp 4]⟩) (.node (some ⟨70,c21,[.tmp 6]⟩) (.node (some ⟨26,c37,[.tmp 4]⟩) (.node (some ⟨25,c69,[.tmp 2]⟩) .nil .nil) .nil) (.node (some ⟨22,c53,[.tmp 2]⟩) .nil .nil)) (.node (some ⟨29,c29,[.tmp 4,.tmp 5]⟩) (.node (some ⟨36,c45,[.tmp 4]⟩) .nil .nil) (.node (some ⟨19,c61,[.tmp 4]⟩) .nil .nil))))) (.node none (.node (some ⟨157,c4,[.tmp 2]⟩) (.node none (.node (some ⟨27,c16,[.tmp 4]⟩) (.node (some ⟨33,c32,[.tmp 4,.tmp 5]⟩) (.node (some ⟨16,c64,[]⟩) .nil .nil) .nil) (.node (some ⟨15,c48,[.tmp 6]⟩) .nil .nil)) (.node (some ⟨20,c24,[.tmp 4,.tmp 5]⟩) (.node (some ⟨88,c40,[]⟩) .nil .nil) (.node (some ⟨15,c56,[.tmp 4]⟩) (.node (some ⟨49,c88,[]⟩) .nil .nil) .nil))) (.node (some ⟨26,c12,[.tmp 4]⟩) (.node (some ⟨25,c20,[.tmp 4,.tmp 5]⟩) (.node (some ⟨38,c36,[.tmp 6]⟩) (.node (some ⟨25,c68,[.tmp 2]⟩) .nil .nil) .nil) (.node (some ⟨22,c52,[.cell 4 86]⟩) .nil .nil)) (.node none (.node (some ⟨4,c44,[.tmp 2]⟩) (.node (some ⟨34,c76,[.tmp 4]⟩) .nil .nil) .nil) (.node (some ⟨66,c60,[.tmp 4]⟩) .nil .nil)))) (.node none (.node (some ⟨103,c10,[.tmp 8]⟩) (.node (some ⟨42,c18,[.tmp 6,.tmp 7]⟩) (.node (some ⟨35,c34,[.tmp 6]⟩) (.node (some ⟨47,c66,[.tmp 4]⟩) .nil .nil) .nil) (.node (some ⟨27,c50,[.tmp 4]⟩) .nil .nil)) (.node none (.node (some ⟨9,c42,[.tmp 3]⟩) (.node (some ⟨6,c74,[.tmp 2]⟩) .nil .nil) .nil) (.node (some ⟨34,c58,[.tmp 4]⟩) .nil .nil))) (.node (some ⟨21,c14,[.tmp 4,.tmp 5]⟩) (.node (some ⟨4,c22,[.tmp 2]⟩) (.node (some ⟨4,c38,[.cell 0 27]⟩) (.node (some ⟨148,c70,[]⟩) .nil .nil) .nil) (.node none (.node (some ⟨19,c86,[.tmp 2]⟩) .nil .nil) .nil)) (.node (some ⟨93,c30,[.tmp 4,.tmp 5]⟩) (.node (some ⟨9,c46,[.tmp 2]⟩) (.node (some ⟨53,c78,[]⟩) .nil .nil) .nil) (.node (some ⟨5,c62,[.tmp 2]⟩) (.node (some ⟨17,c94,[.tmp 4]⟩) .nil .nil) .nil))))))
noncomputable def Jb:FuncId→Option Xq:=AaP.get
end Go.BkS
set_option maxRecDepth 100000
namespace Go.BkSM
open Go.Sp Go.BkS
noncomputable section
def RV:List Value→Option Value:=Go.BkQ.trueF
def RX:List Value→Option Value:=Go.BkQ.cellsM
def RY:List Value→Option Value:=fun _=>none
end
end Go.BkSM
