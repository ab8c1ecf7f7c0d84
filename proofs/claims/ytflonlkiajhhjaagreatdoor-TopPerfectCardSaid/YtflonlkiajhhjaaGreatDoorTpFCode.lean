/- Made from wip. -/
import Derived.Test.YtflonlkiajhhjaaGreatDoorSpFramex
import Derived.Test.YtflonlkiajhhjaaGreatDoorTpFNodes

set_option maxRecDepth 100000
namespace Go.TpF
open Go.Sp
def c9:RC:=QG
def c15:RC:=
 .seq (.reg [] [
  rq 2 (.assign (.const (.slice none 0 0))) 23])
 (.seq (.reg [] [
   Ap 3 0 23,AQ 2 3 23])
 (.ret))
def c16:RC:=QJ
def c18:RC:=QK
def c22:RC:=OC
def c24:RC:=
 .seq (.reg [] [
  rq 0 (.assign (kb false)) 4])
 (.seq (.reg [] [
   rq 4 (cf 62 #[(ki 13),(ki 4)] #[3,3]) 45,Ap 3 4 45,EM 5 3 0 41,EM 6 3 1 27,rq 1 (.alloc 41) 0,rn (.store 41 (tp 1) (tp 5)) 0,AQ 2 6 27])
 (.seq (.reg [0, 1, 2, 3, 4, 5, 6, 7, 8, 9, 10, 11, 12, 13, 14, 15, 16, 17] [
   Ap 7 2 27,rq 8 (.binOp .eql 27 (tp 7) (ki 0) 27) 4,Ap 9 8 4,rg 10 (.fieldAddr 41 (tp 1) 0) 0 9 true,rg 11 (.load 3 (tp 10)) 3 9 true,rg 12 (.binOp .eql 3 (tp 11) (ki 13) 3) 4 9 true,rq 13 (.pick (tp 9) (tp 12) (kb false)) 4,Ap 14 13 4,rg 15 (.fieldAddr 41 (tp 1) 1) 0 14 true,rg 16 (.load 23 (tp 15)) 23 14 true,rg 17 (.buildSlice 23 4 #[(0,(ki 0)),(1,(ki 1)),(2,(ki 3)),(3,(ki 9))]) 23 14 true,
   ⟨(some 18),cf 15 #[(tp 17)] #[23],23,(some ((some 14),true)),[(tp 15)]⟩,rg 19 (cf 22 #[(tp 16),(tp 18)] #[23,23]) 4 14 true,rq 20 (.pick (tp 14) (tp 19) (kb false)) 4,Ap 21 20 4,rg 22 (cf 63 #[] #[]) 4 21 true,rq 23 (.pick (tp 21) (tp 22) (kb false)) 4,AQ 0 23 4])
 (.ret)))
def c30:RC:=
 .seq (.reg [] [
  rq 0 (.assign (kb false)) 4])
 (.seq (.reg [] [
   rq 8 (cf 70 #[(ki 10),(ki 0)] #[3,3]) 30,Ap 7 8 30,EM 9 7 0 3,EM 10 7 1 27,AQ 1 9 3,AQ 2 10 27])
 (.seq (.reg [] [
   rq 12 (.buildSlice 23 5 #[(0,(ki 0)),(1,(ki 2)),(2,(ki 1)),(3,(ki 3)),(4,(ki 4))]) 23,rq 13 (cf 15 #[(tp 12)] #[23]) 23,rq 14 (cf 71 #[(tp 13),(ki 3)] #[23,3]) 30,Ap 11 14 30,EM 15 11 0 3,EM 16 11 1 27,AQ 3 15 3,AQ 4 16 27])
 (.seq (.reg [] [
   rq 18 (.build 58 #[(0,(ki 0)),(1,(ki 1))]) 58,rq 19 (.build 58 #[(0,(ki 1)),(1,(ki 2))]) 58,rq 20 (.build 58 #[(0,(ki 0)),(1,(ki 1))]) 58,rq 21 (.buildSlice 54 3 #[(0,(tp 18)),(1,(tp 19)),(2,(tp 20))]) 54,rq 22 (.build 56 #[(0,(ki 3)),(1,(tp 21))]) 56,rq 23 (cf 72 #[(tp 22)] #[56]) 117,Ap 17 23 117,EM 24 17 0 4,EM 25 17 1 27,AQ 5 24 4,AQ 6 25 27])
 (.seq (.reg [] [
   Ap 26 2 27,rq 27 (.binOp .eql 27 (tp 26) (ki 0) 27) 4,Ap 28 27 4,DD 29 4 27 28 true,rg 30 (.binOp .eql 27 (tp 29) (ki 0) 27) 4 28 true,rq 31 (.pick (tp 28) (tp 30) (kb false)) 4,Ap 32 31 4,DD 33 6 27 32 true,rg 34 (.binOp .eql 27 (tp 33) (ki 0) 27) 4 32 true,rq 35 (.pick (tp 32) (tp 34) (kb false)) 4,Ap 36 35 4,DD 37 1 3 36 true,rg 38 (.binOp .eql 3 (tp 37) (ki 94) 3) 4 36 true,rq 39 (.pick (tp 36) (tp 38) (kb false)) 4,Ap 40 39 4,DD 41 3 3 40 true,rg 42 (.binOp .eql 3 (tp 41) (ki 6) 3) 4 40 true,rq 43 (.pick (tp 40) (tp 42) (kb false)) 4,Ap 44 43 4,DD 45 5 4 44 true,rq 46 (.pick (tp 44) (tp 45) (kb false)) 4,Ap 47 46 4,rg 48 (cf 39 #[] #[]) 4 47 true,rq 49 (.pick (tp 47) (tp 48) (kb false)) 4,AQ 0 49 4])
 (.ret)))))
def c39:RC:=
 .seq (.reg [] [
  rq 0 (.assign (kb false)) 4])
 (.seq (.reg [] [
   rq 4 (.buildSlice 23 3 #[(0,(ki 1)),(1,(ki 0)),(2,(ki 0))]) 23,rq 5 (.buildSlice 23 3 #[(0,(ki 0)),(1,(ki 1)),(2,(ki 0))]) 23,rq 6 (.buildSlice 23 3 #[(0,(ki 0)),(1,(ki 0)),(2,(ki 1))]) 23,rq 7 (.buildSlice 71 3 #[(0,(tp 4)),(1,(tp 5)),(2,(tp 6))]) 71,rq 8 (cf 97 #[(tp 7)] #[71]) 30,Ap 3 8 30,EM 9 3 0 3,EM 10 3 1 27,AQ 1 9 3,AQ 2 10 27])
 (.seq (.reg [] [
   Ap 11 2 27,rq 12 (.binOp .eql 27 (tp 11) (ki 0) 27) 4,Ap 13 12 4,DD 14 1 3 13 true,rg 15 (.binOp .eql 3 (tp 14) (ki 4) 3) 4 13 true,rq 16 (.pick (tp 13) (tp 15) (kb false)) 4,Ap 17 16 4,rg 18 (cf 98 #[] #[]) 4 17 true,rq 19 (.pick (tp 17) (tp 18) (kb false)) 4,AQ 0 19 4])
 (.ret)))
def c40:RC:=QL
def c41:RC:=QM
def c42:RC:=QN
def c43:RC:=QO
def c44:RC:=Uf
def c46:RC:=
 .seq (.reg [] [
  Cz 2 0 3])
 (.seq (.seq (.reg [] [
   Ap 5 0 23,EN 6 5 23,rq 7 (.binOp .lss 3 (tp 6) (ki 1) 3) 4])
 (.cond (tp 7) (.reg [] [
   rq 8 (.makeInterface 9 (.const (.string ⟨#[115,108,105,99,101,115,46,77,97,120,58,32,101,109,112,116,121,32,108,105,115,116]⟩))) 20,
   rn (.panic (tp 8)) 0])
 (.skip)))
 (.seq (.reg [] [
   Ap 9 0 23,rq 10 (.indexAddr 23 (tp 9) (ki 0)) 0,Ce 11 10 3,AQ 3 11 3])
 (.seq (.seq (.reg [] [
   Cz 4 1 3])
 (.block 0 (.loop (.seq (.seq (.reg [] [
   Ap 12 4 3,
   Ap 13 0 23,
   EN 14 13 23,
   rq 15 (.binOp .lss 3 (tp 12) (tp 14) 3) 4])
   (.cond (tp 15) (.skip)
   (.exit 0)))
   (.seq (.block 1 (.reg [] [
     Ap 18 3 3,
     Ap 19 0 23,
     Ap 20 4 3,
     D5 21 23 19 20,
     Ce 22 21 3,
     rq 23 (cb .max #[(tp 18),(tp 22)] #[3,3]) 3,
     AQ 3 23 3]))
   (.reg [] [
     Ap 16 4 3,
     FB 17 16,
     AQ 4 17 3]))))))
 (.seq (.reg [] [
   Ap 24 3 3,AQ 2 24 3])
 (.ret)))))
def c54:RC:=QR
def c56:RC:=UT
def c57:RC:=UU
def c61:RC:=QS
def c62:RC:=
 .seq (.reg [] [
  rq 4 (.alloc 41) 0,Cz 5 0 27])
 (.seq (.seq (.reg [] [
   Ap 8 0 3,rq 9 (.binOp .lss 3 (tp 8) (ki 1) 3) 4,Ap 10 9 4,DD 11 0 3 10 false,rg 12 (.binOp .gtr 3 (tp 11) (ki 21) 3) 4 10 false,rq 13 (.pick (tp 10) (kb true) (tp 12)) 4,Ap 14 13 4,DD 15 1 3 14 false,rg 16 (.binOp .lss 3 (tp 15) (ki 0) 3) 4 14 false,rq 17 (.pick (tp 14) (kb true) (tp 16)) 4,Ap 18 17 4,DD 19 1 3 18 false,rg 20 (.binOp .gtr 3 (tp 19) (ki 6) 3) 4 18 false,rq 21 (.pick (tp 18) (kb true) (tp 20)) 4])
 (.cond (tp 21) (.seq (.reg [] [
   rq 22 (.build 41 #[]) 41,
   rn (.store 41 (tp 4) (tp 22)) 0,
   Cz 5 1 27])
  (.ret))
 (.skip)))
 (.seq (.reg [] [
   rq 23 (.build 41 #[]) 41,rq 6 (.alloc 41) 0,rq 7 (.alloc 27) 0,rn (.store 41 (tp 6) (tp 23)) 0,rn (.store 27 (tp 7) (ki 12)) 0])
 (.seq (.seq (.reg [] [
   Ap 24 1 3,Ap 25 1 3,rq 26 (.binOp .sub 3 (tp 25) (ki 1) 3) 3,rq 27 (.binOp .mul 3 (tp 24) (tp 26) 3) 3,Ap 28 0 3,rq 29 (.binOp .sub 3 (tp 28) (ki 1) 3) 3,rq 30 (.binOp .neq 3 (tp 27) (tp 29) 3) 4])
 (.cond (tp 30) (.seq (.reg [0, 1, 2, 3] [
   Ce 31 6 41,
   Ce 32 7 27,
   ⟨none,.store 41 (tp 4) (tp 31),0,none,[(tp 7)]⟩,
   AQ 5 32 27])
  (.ret))
 (.skip)))
 (.seq (.reg [] [
   Ap 33 0 3,rq 34 (.build 99 #[(0,(tp 33))]) 99,Ap 35 1 3,rq 36 (.makeFunc (.func 120) #[] #[(tp 6),(tp 7)]) 163,rq 37 (cf 117 #[(tp 34),(ki 0),(tp 35),(.func 118),(tp 36)] #[99,3,3,163,163]) 4])
 (.seq (.reg [0, 1, 2, 3] [
   Ce 38 6 41,Ce 39 7 27,⟨none,.store 41 (tp 4) (tp 38),0,none,[(tp 7)]⟩,AQ 5 39 27])
 (.ret))))))
def c63:RC:=
 .seq (.reg [] [
  rq 0 (.assign (kb false)) 4])
 (.seq (.reg [] [
   rq 4 (.buildSlice 23 4 #[(0,(ki 0)),(1,(ki 0)),(2,(ki 2)),(3,(ki 2))]) 23,rq 5 (.buildSlice 23 4 #[(0,(ki 0)),(1,(ki 1)),(2,(ki 1)),(3,(ki 3))]) 23,rq 6 (.buildSlice 71 2 #[(0,(tp 4)),(1,(tp 5))]) 71,rq 7 (.build 166 #[(0,(ki 4)),(1,(tp 6))]) 166,rq 8 (.buildSlice 23 3 #[(0,(ki 0)),(1,(ki 1)),(2,(ki 2))]) 23,rq 9 (cf 15 #[(tp 8)] #[23]) 23,rq 10 (cf 122 #[(tp 7),(tp 9),(ki 2)] #[166,23,3]) 28,Ap 3 10 28,EM 11 3 0 23,EM 12 3 1 27,AQ 1 11 23,AQ 2 12 27])
 (.seq (.reg [] [
   Ap 13 2 27,rq 14 (.binOp .eql 27 (tp 13) (ki 0) 27) 4,Ap 15 14 4,DD 16 1 23 15 true,rg 17 (.buildSlice 23 1 #[(0,(ki 0))]) 23 15 true,rg 18 (cf 15 #[(tp 17)] #[23]) 23 15 true,rg 19 (cf 22 #[(tp 16),(tp 18)] #[23,23]) 4 15 true,rq 20 (.pick (tp 15) (tp 19) (kb false)) 4,Ap 21 20 4,rg 22 (cf 30 #[] #[]) 4 21 true,rq 23 (.pick (tp 21) (tp 22) (kb false)) 4,AQ 0 23 4])
 (.ret)))
def c66:RC:=
 .seq (.reg [] [
  rq 1 (.box 56 (tp 0)) 0,Cz 2 0 27])
 (.seq (.block 0 (.seq (.reg [] [
   DR 6 56 1 0,
   Ce 7 6 3,
   rq 8 (cf 123 #[(ki 1),(tp 7),(ki 7)] #[3,3,3]) 4,
   rq 9 (.unOp .not 4 (tp 8)) 4,
   AQ 5 9 4])
  (.cond (tp 5) (.seq (.reg [] [
    Cz 2 1 27])
   (.ret))
  (.seq (.reg [] [
    DR 11 56 1 1,
    Ce 12 11 54,
    EN 13 12 54,
    rq 14 (.binOp .gtr 3 (tp 13) (ki 24) 3) 4,
    AQ 10 14 4])
   (.cond (tp 10) (.seq (.reg [] [
     Cz 2 3 27])
    (.ret))
   (.skip))))))
 (.seq (.seq (.reg [] [
   DR 15 56 1 1,Ce 16 15 54,EN 17 16 54,rq 18 (.move (ki 0)) 3])
 (.block 1 (.loop (.seq (.reg [] [
   L8 19 18 17])
   (.seq (.cond (tp 19) (.skip)
   (.exit 1))
   (.seq (.block 2 (.seq (.reg [] [
     D5 20 54 16 18,
     Ce 21 20 58,
     rq 4 (.alloc 58) 0,
     rn (.store 58 (tp 4) (tp 21)) 0])
    (.block 3 (.seq (.reg [] [
      rq 23 (.indexAddr 58 (tp 4) (ki 0)) 0,
      Ce 24 23 3,
      rq 25 (.indexAddr 58 (tp 4) (ki 1)) 0,
      Ce 26 25 3,
      rq 27 (cb .min #[(tp 24),(tp 26)] #[3,3]) 3,
      rq 28 (.binOp .lss 3 (tp 27) (ki 0) 3) 4,
      Ap 29 28 4,
      rg 30 (.indexAddr 58 (tp 4) (ki 0)) 0 29 false,
      rg 31 (.load 3 (tp 30)) 3 29 false,
      rg 32 (.indexAddr 58 (tp 4) (ki 1)) 0 29 false,
      rg 33 (.load 3 (tp 32)) 3 29 false,
      rg 34 (cb .max #[(tp 31),(tp 33)] #[3,3]) 3 29 false,
      rg 35 (.fieldAddr 56 (tp 1) 0) 0 29 false,
      rg 36 (.load 3 (tp 35)) 3 29 false,
      rg 37 (.binOp .geq 3 (tp 34) (tp 36) 3) 4 29 false,
      rq 38 (.pick (tp 29) (kb true) (tp 37)) 4,
      AQ 22 38 4])
     (.cond (tp 22) (.seq (.reg [] [
       Cz 2 2 27])
      (.ret))
     (.seq (.reg [] [
       rq 40 (.indexAddr 58 (tp 4) (ki 0)) 0,
       Ce 41 40 3,
       rq 42 (.indexAddr 58 (tp 4) (ki 1)) 0,
       Ce 43 42 3,
       rq 44 (.binOp .geq 3 (tp 41) (tp 43) 3) 4,
       AQ 39 44 4])
      (.cond (tp 39) (.seq (.reg [] [
        Cz 2 7 27])
       (.ret))
      (.skip))))))))
   (.reg [] [
     FB 45 18,
     Ap 18 45 3])))))))
 (.seq (.reg [] [
   Cz 2 0 27])
 (.ret))))
def c67:RC:=
 .seq (.reg [] [
  rq 2 (.assign (.const (.slice none 0 0))) 23])
 (.seq (.seq (.reg [] [
   Ap 3 0 23,rq 4 (.binOp .eql 23 (tp 3) (.const (.slice none 0 0)) 23) 4])
 (.cond (tp 4) (.seq (.reg [] [
   rq 2 (.assign (.const (.slice none 0 0))) 23])
  (.ret))
 (.skip)))
 (.seq (.reg [] [
   rq 5 (.buildSlice 23 0 #[]) 23,Ap 6 0 23,rq 7 (cb .append #[(tp 5),(tp 6)] #[23,23]) 23,AQ 2 7 23])
 (.ret)))
def c70:RC:=
 .seq (.reg [] [
  Cz 4 0 3,Cz 5 0 27])
 (.seq (.seq (.reg [] [
   Ap 10 0 3,Ap 11 1 3,rq 12 (cf 126 #[(tp 10),(tp 11)] #[3,3]) 4,rq 13 (.unOp .not 4 (tp 12)) 4])
 (.cond (tp 13) (.seq (.reg [] [
   Cz 4 0 3,
   Cz 5 1 27])
  (.ret))
 (.skip)))
 (.seq (.reg [] [
   rq 6 (.alloc 168) 0])
 (.seq (.reg [] [
   rq 14 (.indexAddr 168 (tp 6) (ki 0)) 0,rn (.store 3 (tp 14) (ki 1)) 0])
 (.seq (.seq (.reg [] [
   Cz 7 1 3])
 (.block 0 (.loop (.seq (.seq (.reg [] [
   Ap 15 7 3,
   Ap 16 0 3,
   rq 17 (.binOp .leq 3 (tp 15) (tp 16) 3) 4])
   (.cond (tp 17) (.skip)
   (.exit 0)))
   (.seq (.block 1 (.seq (.reg [] [
     Ce 20 6 168,
     rq 8 (.alloc 168) 0,
     rn (.store 168 (tp 8) (tp 20)) 0])
    (.seq (.seq (.reg [] [
      Ap 21 0 3,
      FB 22 21,
      rq 23 (.move (ki 0)) 3])
    (.block 2 (.loop (.seq (.reg [] [
      rq 24 (.binOp .lss 3 (tp 23) (tp 22) 3) 4])
      (.seq (.cond (tp 24) (.skip)
      (.exit 2))
      (.seq (.block 3 (.seq (.reg [] [
        Ap 25 23 3,
        AQ 9 25 3])
       (.reg [0, 1, 2, 3, 4, 5, 6, 7, 8, 9, 10, 11, 12, 13] [
         Ap 26 9 3,
         Ap 27 7 3,
         rq 28 (.binOp .add 3 (tp 26) (tp 27) 3) 3,
         Ap 29 0 3,
         FB 30 29,
         rq 31 (.binOp .rem 3 (tp 28) (tp 30) 3) 3,
         D5 32 168 8 31,
         Ce 33 32 3,
         Ap 34 9 3,
         D5 35 168 6 34,
         Ce 36 35 3,
         rq 37 (.binOp .add 3 (tp 33) (tp 36) 3) 3,
         D5 38 168 8 31,
         rn (.store 3 (tp 38) (tp 37)) 0])))
      (.reg [] [
        FB 39 23,
        Ap 23 39 3])))))))
    (.reg [] [
      Ce 40 8 168,
      rn (.store 168 (tp 6) (tp 40)) 0]))))
   (.reg [] [
     Ap 18 7 3,
     FB 19 18,
     AQ 7 19 3]))))))
 (.seq (.reg [] [
   Ap 41 1 3,D5 42 168 6 41,Ce 43 42 3,AQ 4 43 3,Cz 5 0 27])
 (.ret))))))
def c71:RC:=
 .seq (.reg [] [
  Cz 4 0 3,Cz 5 0 27])
 (.seq (.seq (.reg [] [
   Ap 9 0 23,Ap 10 1 3,rq 11 (cf 73 #[(tp 9),(tp 10)] #[23,3]) 27,AQ 6 11 27])
 (.seq (.reg [] [
   Ap 12 6 27,rq 13 (.binOp .neq 27 (tp 12) (ki 0) 27) 4])
 (.cond (tp 13) (.seq (.reg [] [
   Ap 14 6 27,
   Cz 4 0 3,
   AQ 5 14 27])
  (.ret))
 (.skip))))
 (.seq (.reg [] [
   Ap 16 0 23,rq 17 (cf 77 #[(tp 16)] #[23]) 123,Ap 15 17 123,EM 18 15 0 23,EM 19 15 1 3,AQ 7 18 23,AQ 8 19 3])
 (.seq (.seq (.reg [] [
   Ap 20 8 3,Ap 21 1 3,rq 22 (.binOp .gtr 3 (tp 20) (tp 21) 3) 4])
 (.cond (tp 22) (.seq (.reg [] [
   Cz 4 0 3,
   Cz 5 0 27])
  (.ret))
 (.skip)))
 (.seq (.reg [] [
   Ap 23 1 3,Ap 24 0 23,EN 25 24 23,rq 26 (.binOp .add 3 (tp 23) (tp 25) 3) 3,Ap 27 8 3,rq 28 (.binOp .sub 3 (tp 26) (tp 27) 3) 3,Ap 29 0 23,EN 30 29 23,rq 31 (cf 127 #[(tp 28),(tp 30)] #[3,3]) 3,AQ 4 31 3,Cz 5 0 27])
 (.ret)))))
def c72:RC:=
 .seq (.reg [] [
  rq 1 (.box 56 (tp 0)) 0,rq 2 (.assign (kb false)) 4,Cz 3 0 27])
 (.seq (.reg [] [
   Ce 7 1 56,rq 8 (cf 128 #[(tp 7)] #[56]) 174,Ap 6 8 174,EM 9 6 0 173,EM 10 6 1 27,rq 4 (.alloc 173) 0,rn (.store 173 (tp 4) (tp 9)) 0,AQ 5 10 27])
 (.seq (.seq (.reg [] [
   Ap 11 5 27,rq 12 (.binOp .neq 27 (tp 11) (ki 0) 27) 4])
 (.cond (tp 12) (.seq (.reg [] [
   Ap 13 5 27,
   rq 2 (.assign (kb false)) 4,
   AQ 3 13 27])
  (.ret))
 (.skip)))
 (.seq (.reg [] [
   Ce 14 4 173,DR 15 56 1 0,Ce 16 15 3,rq 17 (cf 129 #[(tp 14),(tp 16)] #[173,3]) 3,rq 18 (.binOp .lss 3 (tp 17) (ki 0) 3) 4,AQ 2 18 4,Cz 3 0 27])
 (.ret))))
def c73:RC:=
 .seq (.reg [] [
  Cz 4 0 27])
 (.seq (.reg [] [
   Ap 6 0 23,rq 7 (cf 76 #[(tp 6)] #[23]) 27,AQ 5 7 27])
 (.seq (.seq (.reg [] [
   Ap 8 5 27,rq 9 (.binOp .eql 27 (tp 8) (ki 0) 27) 4,Ap 10 9 4,DD 11 1 3 10 true,rg 12 (cf 100 #[(ki 1),(tp 11),(ki 16)] #[3,3,3]) 4 10 true,rg 13 (.unOp .not 4 (tp 12)) 4 10 true,rq 14 (.pick (tp 10) (tp 13) (kb false)) 4])
 (.cond (tp 14) (.seq (.reg [] [
   Cz 4 1 27])
  (.ret))
 (.skip)))
 (.seq (.reg [] [
   Ap 15 5 27,AQ 4 15 27])
 (.ret))))
def c76:RC:=RO
def c77:RC:=
 .seq (.reg [] [
  rq 2 (.assign (.const (.slice none 0 0))) 23,Cz 3 0 3])
 (.seq (.reg [] [
   Ap 10 0 23,EN 11 10 23,rq 12 (.makeSlice 23 (tp 11) (tp 11)) 23,AQ 4 12 23])
 (.seq (.seq (.reg [] [
   Ap 13 0 23,EN 14 13 23,rq 15 (.move (ki 0)) 3])
 (.block 0 (.loop (.seq (.reg [] [
   L8 16 15 14])
   (.seq (.cond (tp 16) (.skip)
   (.exit 0))
   (.seq (.block 1 (.seq (.reg [] [
     Ap 17 15 3,
     D5 18 23 13 15,
     Ce 19 18 3,
     AQ 5 17 3,
     AQ 6 19 3])
    (.reg [] [
      Ap 20 4 23,
      Ap 21 6 3,
      Ap 22 5 3,
      D5 23 23 20 21,
      rn (.store 3 (tp 23) (tp 22)) 0])))
   (.reg [] [
     FB 24 15,
     Ap 15 24 3])))))))
 (.seq (.reg [] [
   Ap 25 0 23,EN 26 25 23,rq 27 (.makeSlice 23 (tp 26) (tp 26)) 23,AQ 7 27 23,Cz 8 0 3])
 (.seq (.seq (.reg [] [
   Cz 9 1 3])
 (.block 2 (.loop (.seq (.seq (.reg [] [
   Ap 28 9 3,
   Ap 29 0 23,
   EN 30 29 23,
   rq 31 (.binOp .lss 3 (tp 28) (tp 30) 3) 4])
   (.cond (tp 31) (.skip)
   (.exit 2)))
   (.seq (.block 3 (.seq (.seq (.reg [0, 1, 2, 3, 4, 5, 6, 7, 8, 9] [
     Ap 34 4 23,
     Ap 35 9 3,
     D5 36 23 34 35,
     Ce 37 36 3,
     Ap 38 4 23,
     Ap 39 9 3,
     rq 40 (.binOp .sub 3 (tp 39) (ki 1) 3) 3,
     D5 41 23 38 40,
     Ce 42 41 3,
     rq 43 (.binOp .lss 3 (tp 37) (tp 42) 3) 4])
    (.cond (tp 43) (.reg [] [
      Ap 44 8 3,
      FB 45 44,
      AQ 8 45 3])
    (.skip)))
    (.reg [] [
      Ap 46 7 23,
      Ap 47 9 3,
      Ap 48 8 3,
      D5 49 23 46 47,
      rn (.store 3 (tp 49) (tp 48)) 0])))
   (.reg [] [
     Ap 32 9 3,
     FB 33 32,
     AQ 9 33 3]))))))
 (.seq (.reg [] [
   Ap 50 7 23,Ap 51 8 3,FB 52 51,AQ 2 50 23,AQ 3 52 3])
 (.ret))))))
def c82:RC:=UV
def c84:RC:=
 .seq (.reg [] [
  rq 4 (.assign (kb false)) 4])
 (.seq (.reg [] [
   Ap 5 0 23,Ap 6 1 133,rq 7 (cf 138 #[(tp 5),(tp 6)] #[23,133]) 3,rq 8 (.binOp .geq 3 (tp 7) (ki 0) 3) 4,AQ 4 8 4])
 (.ret))
def c96:RC:=
 .seq (.reg [] [
  rq 6 (.assign (kb false)) 4])
 (.seq (.reg [] [
   Ap 7 0 3,Ap 8 1 3,rq 9 (.binOp .leq 3 (tp 7) (tp 8) 3) 4,Ap 10 9 4,DD 11 1 3 10 true,DD 12 2 3 10 true,rg 13 (.binOp .leq 3 (tp 11) (tp 12) 3) 4 10 true,rq 14 (.pick (tp 10) (tp 13) (kb false)) 4,AQ 6 14 4])
 (.ret))
def c97:RC:=
 .seq (.reg [] [
  Cz 2 0 3,Cz 3 0 27])
 (.seq (.reg [] [
   Ap 7 0 71,rq 8 (cf 142 #[(tp 7)] #[71]) 182,Ap 6 8 182,EM 9 6 0 140,EM 10 6 1 27,AQ 4 9 140,AQ 5 10 27])
 (.seq (.seq (.reg [] [
   Ap 11 5 27,rq 12 (.binOp .neq 27 (tp 11) (ki 0) 27) 4])
 (.cond (tp 12) (.seq (.reg [] [
   Ap 13 5 27,
   Cz 2 0 3,
   AQ 3 13 27])
  (.ret))
 (.skip)))
 (.seq (.reg [] [
   Ap 14 4 140,rq 15 (cf 145 #[(tp 14)] #[140]) 189,EN 16 15 189,AQ 2 16 3,Cz 3 0 27])
 (.ret))))
def c98:RC:=
 .seq (.reg [] [
  rq 0 (.assign (kb false)) 4])
 (.seq (.reg [] [
   rq 6 (.buildSlice 23 4 #[(0,(ki 0)),(1,(ki 1)),(2,(ki 2)),(3,(ki 3))]) 23,rq 7 (cf 15 #[(tp 6)] #[23]) 23,rq 8 (.build 36 #[(0,(ki 2)),(1,(ki 2)),(2,(ki 2)),(3,(tp 7))]) 36,rq 9 (cf 146 #[(tp 8)] #[36]) 30,Ap 5 9 30,EM 10 5 0 3,EM 11 5 1 27,AQ 1 10 3,AQ 2 11 27])
 (.seq (.reg [] [
   rq 13 (.buildSlice 23 3 #[(0,(ki 3)),(1,(ki 3)),(2,(ki 3))]) 23,rq 14 (cf 15 #[(tp 13)] #[23]) 23,rq 15 (cf 147 #[(tp 14)] #[23]) 30,Ap 12 15 30,EM 16 12 0 3,EM 17 12 1 27,AQ 3 16 3,AQ 4 17 27])
 (.seq (.reg [] [
   Ap 18 2 27,rq 19 (.binOp .eql 27 (tp 18) (ki 0) 27) 4,Ap 20 19 4,DD 21 4 27 20 true,rg 22 (.binOp .eql 27 (tp 21) (ki 0) 27) 4 20 true,rq 23 (.pick (tp 20) (tp 22) (kb false)) 4,Ap 24 23 4,DD 25 1 3 24 true,rg 26 (.binOp .eql 3 (tp 25) (ki 6) 3) 4 24 true,rq 27 (.pick (tp 24) (tp 26) (kb false)) 4,Ap 28 27 4,DD 29 3 3 28 true,rg 30 (.binOp .eql 3 (tp 29) (ki 2) 3) 4 28 true,rq 31 (.pick (tp 28) (tp 30) (kb false)) 4,Ap 32 31 4,rg 33 (cf 148 #[] #[]) 4 32 true,rq 34 (.pick (tp 32) (tp 33) (kb false)) 4,AQ 0 34 4])
 (.ret))))
def c99:RC:=RP
def X5:RC:=RQ
def X6:RC:=MG
def X7:RC:=MH
def X9:RC:=Ki
def kV:RC:=
 .seq (.reg [] [
  rq 1 (.box 36 (tp 0)) 0,rq 2 (.assign (.const (.pointer none))) 92,Cz 3 0 27])
 (.seq (.seq (.reg [] [
   DR 14 36 1 0,Ce 15 14 3,rq 16 (cf 96 #[(ki 1),(tp 15),(ki 4)] #[3,3,3]) 4,rq 17 (.unOp .not 4 (tp 16)) 4,Ap 18 17 4,rg 19 (.fieldAddr 36 (tp 1) 1) 0 18 false,rg 20 (.load 3 (tp 19)) 3 18 false,rg 21 (cf 96 #[(ki 1),(tp 20),(ki 4)] #[3,3,3]) 4 18 false,rg 22 (.unOp .not 4 (tp 21)) 4 18 false,rq 23 (.pick (tp 18) (kb true) (tp 22)) 4,Ap 24 23 4,rg 25 (.fieldAddr 36 (tp 1) 2) 0 24 false,rg 26 (.load 3 (tp 25)) 3 24 false,rg 27 (cf 96 #[(ki 1),(tp 26),(ki 4)] #[3,3,3]) 4 24 false,rg 28 (.unOp .not 4 (tp 27)) 4 24 false,rq 29 (.pick (tp 24) (kb true) (tp 28)) 4])
 (.cond (tp 29) (.seq (.reg [] [
   rq 2 (.assign (.const (.pointer none))) 92,
   Cz 3 1 27])
  (.ret))
 (.skip)))
 (.seq (.reg [] [
   Ce 30 1 36,rq 31 (.build 96 #[(0,(tp 30))]) 96,rq 32 (.box 96 (tp 31)) 92,AQ 4 32 92])
 (.seq (.reg [] [
   rq 5 (.assign (ki (-1))) 3])
 (.seq (.reg [] [
   rq 6 (.assign (.const (.int .u8 0))) 5])
 (.seq (.seq (.reg [] [
   DR 33 36 1 3,Ce 34 33 23,EN 35 34 23,rq 36 (.move (ki 0)) 3])
 (.block 0 (.loop (.seq (.reg [] [
   L8 37 36 35])
   (.seq (.cond (tp 37) (.skip)
   (.exit 0))
   (.seq (.block 1 (.seq (.reg [] [
     D5 38 23 34 36,
     Ce 39 38 3,
     AQ 8 39 3])
    (.seq (.block 2 (.seq (.reg [] [
      Ap 41 8 3,
      rq 42 (cf 96 #[(ki 0),(tp 41),(ki 7)] #[3,3,3]) 4,
      rq 43 (.unOp .not 4 (tp 42)) 4,
      AQ 40 43 4])
     (.cond (tp 40) (.seq (.reg [] [
       rq 2 (.assign (.const (.pointer none))) 92,
       Cz 3 2 27])
      (.ret))
     (.seq (.reg [] [
       DR 45 36 1 0,
       Ce 46 45 3,
       DR 47 36 1 1,
       Ce 48 47 3,
       rq 49 (.binOp .neq 3 (tp 46) (tp 48) 3) 4,
       Ap 50 49 4,
       DD 51 8 3 50 true,
       rg 52 (cf 164 #[(tp 51)] #[3]) 208 50 true,
       rg 53 (.field 208 (tp 52) 0) 3 50 true,
       rg 54 (.binOp .rem 3 (tp 53) (ki 2) 3) 3 50 true,
       rg 55 (.binOp .eql 3 (tp 54) (ki 1) 3) 4 50 true,
       rq 56 (.pick (tp 50) (tp 55) (kb false)) 4,
       AQ 44 56 4])
      (.cond (tp 44) (.seq (.reg [] [
        rq 2 (.assign (.const (.pointer none))) 92,
        Cz 3 8 27])
       (.ret))
      (.seq (.reg [] [
        Ap 58 8 3,
        Ap 59 5 3,
        rq 60 (.binOp .leq 3 (tp 58) (tp 59) 3) 4,
        AQ 57 60 4])
       (.cond (tp 57) (.seq (.reg [] [
         rq 2 (.assign (.const (.pointer none))) 92,
         Cz 3 7 27])
        (.ret))
       (.skip))))))))
    (.seq (.reg [] [
      Ap 61 8 3,
      AQ 5 61 3])
    (.seq (.reg [] [
      Ap 62 6 5,
      Ap 63 8 3,
      rq 64 (.binOp .shl 5 (.const (.int .u8 1)) (tp 63) 3) 5,
      rq 65 (.binOp .or 5 (tp 62) (tp 64) 5) 5,
      AQ 6 65 5])
    (.reg [0, 1, 2, 3, 4, 5, 6, 7, 8, 9, 10, 11, 12] [
      Ap 66 4 92,
      Ap 67 4 92,
      rq 68 (.nilCheck (tp 67)) 0,
      DR 69 96 68 1,
      Ce 70 69 71,
      Ce 71 1 36,
      Ap 72 8 3,
      ⟨(some 73),cf 165 #[(tp 71),(tp 72)] #[36,3],23,none,[(tp 69)]⟩,
      rq 74 (.buildSlice 71 1 #[(0,(tp 73))]) 71,
      rq 75 (cb .append #[(tp 70),(tp 74)] #[71,71]) 71,
      rq 76 (.nilCheck (tp 66)) 0,
      DR 77 96 76 1,
      rn (.store 71 (tp 77) (tp 75)) 0]))))))
   (.reg [] [
     FB 78 36,
     Ap 36 78 3])))))))
 (.seq (.seq (.reg [] [
   Ap 79 6 5,rq 80 (.binOp .and 5 (tp 79) (.const (.int .u8 1)) 5) 5,rq 81 (.binOp .eql 5 (tp 80) (.const (.int .u8 0)) 5) 4])
 (.cond (tp 81) (.seq (.reg [] [
   rq 2 (.assign (.const (.pointer none))) 92,
   Cz 3 21 27])
  (.ret))
 (.skip)))
 (.seq (.seq (.reg [] [
   DR 82 36 1 3,Ce 83 82 23,EN 84 83 23,rq 85 (.move (ki 0)) 3])
 (.block 3 (.loop (.seq (.reg [] [
   L8 86 85 84])
   (.seq (.cond (tp 86) (.skip)
   (.exit 3))
   (.seq (.block 4 (.seq (.reg [] [
     D5 87 23 83 85,
     Ce 88 87 3,
     AQ 10 88 3])
    (.seq (.reg [] [
      DR 89 36 1 3,
      Ce 90 89 23,
      EN 91 90 23,
      rq 92 (.move (ki 0)) 3])
    (.block 5 (.loop (.seq (.reg [] [
      L8 93 92 91])
      (.seq (.cond (tp 93) (.skip)
      (.exit 5))
      (.seq (.block 6 (.seq (.reg [] [
        D5 94 23 90 92,
        Ce 95 94 3,
        AQ 12 95 3])
       (.seq (.reg [] [
         Ap 96 10 3,
         rq 97 (cf 164 #[(tp 96)] #[3]) 208,
         Ap 98 12 3,
         rq 99 (cf 164 #[(tp 98)] #[3]) 208,
         rq 100 (cf 166 #[(tp 97),(tp 99)] #[208,208]) 208,
         rq 101 (cf 167 #[(tp 100)] #[208]) 3,
         AQ 13 101 3])
       (.seq (.reg [] [
         Ap 102 6 5,
         Ap 103 13 3,
         rq 104 (.binOp .shr 5 (tp 102) (tp 103) 3) 5,
         rq 105 (.binOp .and 5 (tp 104) (.const (.int .u8 1)) 5) 5,
         rq 106 (.binOp .eql 5 (tp 105) (.const (.int .u8 0)) 5) 4])
       (.cond (tp 106) (.seq (.reg [] [
         rq 2 (.assign (.const (.pointer none))) 92,
         Cz 3 21 27])
        (.ret))
       (.skip))))))
      (.reg [] [
        FB 107 92,
        Ap 92 107 3])))))))))
   (.reg [] [
     FB 108 85,
     Ap 85 108 3])))))))
 (.seq (.reg [] [
   Ap 109 4 92,AQ 2 109 92,Cz 3 0 27])
 (.ret)))))))))
def Ya:RC:=MR
def Yb:RC:=MU
def Yc:RC:=M8
def kW:RC:=
 .seq (.reg [] [
  rq 5 (.box 99 (tp 0)) 0,rq 10 (.assign (kb false)) 4])
 (.seq (.seq (.reg [] [
   Ap 13 2 3,rq 14 (.binOp .eql 3 (tp 13) (ki 0) 3) 4])
 (.cond (tp 14) (.seq (.reg [] [
   Ap 15 4 163,
   Ce 16 5 99,
   rq 17 (.call ⟨.value (tp 15),#[(tp 16)],#[99]⟩) 4,
   AQ 10 17 4])
  (.ret))
 (.skip)))
 (.seq (.seq (.reg [] [
   Ap 18 1 3,AQ 11 18 3])
 (.block 0 (.loop (.seq (.seq (.reg [] [
   Ap 19 11 3,
   Ap 20 2 3,
   rq 21 (.binOp .add 3 (tp 19) (tp 20) 3) 3,
   DR 22 99 5 0,
   Ce 23 22 3,
   rq 24 (.binOp .leq 3 (tp 21) (tp 23) 3) 4])
   (.cond (tp 24) (.skip)
   (.exit 0)))
   (.seq (.block 1 (.seq (.reg [] [
     Ce 27 5 99,
     rq 12 (.alloc 99) 0,
     rn (.store 99 (tp 12) (tp 27)) 0])
    (.seq (.reg [0, 1, 2, 3, 4, 5, 6] [
      DR 28 99 12 1,
      Ce 29 28 38,
      Ap 30 11 3,
      rq 31 (.binOp .shl 38 (.const (.int .u32 1)) (tp 30) 3) 38,
      rq 32 (.binOp .or 38 (tp 29) (tp 31) 38) 38,
      DR 33 99 12 1,
      rn (.store 38 (tp 33) (tp 32)) 0])
    (.seq (.reg [] [
      Ap 34 3 163,
      Ce 35 12 99,
      rq 36 (.call ⟨.value (tp 34),#[(tp 35)],#[99]⟩) 4,
      Ap 37 36 4,
      rg 38 (.load 99 (tp 12)) 99 37 true,
      DD 39 11 3 37 true,
      rg 40 (.binOp .add 3 (tp 39) (ki 1) 3) 3 37 true,
      DD 41 2 3 37 true,
      rg 42 (.binOp .sub 3 (tp 41) (ki 1) 3) 3 37 true,
      DD 43 3 163 37 true,
      DD 44 4 163 37 true,
      rg 45 (cf 117 #[(tp 38),(tp 40),(tp 42),(tp 43),(tp 44)] #[99,3,3,163,163]) 4 37 true,
      rg 46 (.unOp .not 4 (tp 45)) 4 37 true,
      rq 47 (.pick (tp 37) (tp 46) (kb false)) 4])
    (.cond (tp 47) (.seq (.reg [] [
      rq 10 (.assign (kb false)) 4])
     (.ret))
    (.skip))))))
   (.reg [] [
     Ap 25 11 3,
     FB 26 25,
     AQ 11 26 3]))))))
 (.seq (.reg [] [
   rq 10 (.assign (kb true)) 4])
 (.ret))))
def kX:RC:=
 .seq (.reg [] [
  rq 1 (.box 99 (tp 0)) 0,rq 2 (.assign (kb false)) 4])
 (.seq (.reg [] [
   Ce 3 1 99,rq 4 (cf 119 #[(tp 3)] #[99]) 3,rq 5 (.binOp .eql 3 (tp 4) (ki 0) 3) 4,AQ 2 5 4])
 (.ret))
def Yd:RC:=M9
def kY:RC:=
 .seq (.reg [] [
  rq 3 (.box 99 (tp 0)) 0,rq 4 (.assign (kb false)) 4])
 (.seq (.seq (.reg [] [
   Ce 5 3 99,rq 6 (cf 121 #[(tp 5)] #[99]) 4])
 (.cond (tp 6) (.reg [] [
   Ce 7 3 99,
   rq 8 (cf 57 #[(tp 7)] #[99]) 41,
   rn (.store 41 (tp 1) (tp 8)) 0,
   rn (.store 27 (tp 2) (ki 0)) 0])
 (.skip)))
 (.seq (.reg [] [
   Ce 9 2 27,rq 10 (.binOp .neq 27 (tp 9) (ki 0) 27) 4,AQ 4 10 4])
 (.ret)))
def Ye:RC:=RX
def kZ:RC:=
 .seq (.reg [] [
  rq 3 (.box 166 (tp 0)) 0,rq 5 (.box 3 (tp 2)) 0,rq 6 (.assign (.const (.slice none 0 0))) 23,Cz 7 0 27])
 (.seq (.reg [] [
   Ce 8 3 166,Ap 9 1 23,rq 10 (.build 216 #[(0,(tp 8)),(1,(tp 9))]) 216,rq 11 (.makeFunc (.func 172) #[] #[(tp 5),(tp 3)]) 222,rq 12 (cf 171 #[(tp 10),(tp 11)] #[216,222]) 214,rq 13 (cf 174 #[(tp 12)] #[214]) 28,EM 14 13 0 23,EM 15 13 1 27,AQ 6 14 23,AQ 7 15 27])
 (.ret))
def lH:RC:=
 .seq (.reg [] [
  rq 6 (.assign (kb false)) 4])
 (.seq (.reg [] [
   Ap 7 0 3,Ap 8 1 3,rq 9 (.binOp .leq 3 (tp 7) (tp 8) 3) 4,Ap 10 9 4,DD 11 1 3 10 true,DD 12 2 3 10 true,rg 13 (.binOp .leq 3 (tp 11) (tp 12) 3) 4 10 true,rq 14 (.pick (tp 10) (tp 13) (kb false)) 4,AQ 6 14 4])
 (.ret))
def Yf:RC:=RY
def lI:RC:=
 .seq (.reg [] [
  rq 4 (.assign (kb false)) 4])
 (.seq (.reg [] [
   Ap 5 0 3,rq 6 (.binOp .geq 3 (tp 5) (ki 0) 3) 4,Ap 7 6 4,DD 8 0 3 7 true,rg 9 (.binOp .leq 3 (tp 8) (ki 10) 3) 4 7 true,rq 10 (.pick (tp 7) (tp 9) (kb false)) 4,Ap 11 10 4,DD 12 1 3 11 true,rg 13 (.binOp .geq 3 (tp 12) (ki 0) 3) 4 11 true,rq 14 (.pick (tp 11) (tp 13) (kb false)) 4,Ap 15 14 4,DD 16 1 3 15 true,DD 17 0 3 15 true,rg 18 (.binOp .leq 3 (tp 16) (tp 17) 3) 4 15 true,rq 19 (.pick (tp 15) (tp 18) (kb false)) 4,AQ 4 19 4])
 (.ret))
def lJ:RC:=
 .seq (.reg [] [
  Cz 4 0 3])
 (.seq (.reg [] [
   Cz 5 1 3])
 (.seq (.seq (.reg [] [
   Ap 7 1 3,rq 8 (.move (ki 0)) 3])
 (.block 0 (.loop (.seq (.reg [] [
   rq 9 (.binOp .lss 3 (tp 8) (tp 7) 3) 4])
   (.seq (.cond (tp 9) (.skip)
   (.exit 0))
   (.seq (.block 1 (.seq (.reg [] [
     Ap 10 8 3,
     AQ 6 10 3])
    (.reg [] [
      Ap 11 5 3,
      Ap 12 0 3,
      Ap 13 6 3,
      rq 14 (.binOp .sub 3 (tp 12) (tp 13) 3) 3,
      rq 15 (.binOp .mul 3 (tp 11) (tp 14) 3) 3,
      Ap 16 6 3,
      FB 17 16,
      rq 18 (.binOp .quo 3 (tp 15) (tp 17) 3) 3,
      AQ 5 18 3])))
   (.reg [] [
     FB 19 8,
     Ap 8 19 3])))))))
 (.seq (.reg [] [
   Ap 20 5 3,AQ 4 20 3])
 (.ret))))
def lK:RC:=
 .seq (.reg [] [
  rq 1 (.box 56 (tp 0)) 0,rq 2 (.alloc 173) 0,Cz 3 0 27])
 (.seq (.seq (.reg [] [
   Ce 5 1 56,rq 6 (cf 66 #[(tp 5)] #[56]) 27,AQ 4 6 27])
 (.seq (.reg [] [
   Ap 7 4 27,rq 8 (.binOp .neq 27 (tp 7) (ki 0) 27) 4])
 (.cond (tp 8) (.seq (.reg [] [
   rq 9 (.build 173 #[]) 173,
   Ap 10 4 27,
   rn (.store 173 (tp 2) (tp 9)) 0,
   AQ 3 10 27])
  (.ret))
 (.skip))))
 (.seq (.reg [0, 1, 3, 4, 2, 5, 6, 7] [
   DR 11 56 1 0,Ce 12 11 3,DR 14 56 1 1,Ce 15 14 54,
   ⟨(some 13),cf 177 #[(tp 12)] #[3],173,none,[(tp 14)]⟩,rq 16 (cf 178 #[(tp 13),(tp 15)] #[173,54]) 173,rn (.store 173 (tp 2) (tp 16)) 0,Cz 3 0 27])
 (.ret)))
def lL:RC:=
 .seq (.reg [] [
  rq 2 (.box 173 (tp 0)) 0,Cz 4 0 3])
 (.seq (.seq (.reg [] [
   rq 8 (.move (ki 0)) 3])
 (.block 0 (.loop (.seq (.reg [] [
   rq 9 (.binOp .lss 3 (tp 8) (ki 2) 3) 0])
   (.seq (.cond (tp 9) (.skip)
   (.exit 0))
   (.seq (.block 1 (.seq (.reg [] [
     Ap 10 8 3,
     AQ 5 10 3])
    (.seq (.reg [] [
      rq 6 (.assign (.const (.int .u64 0))) 170])
    (.seq (.seq (.reg [] [
      Cz 7 1 3])
    (.block 2 (.loop (.seq (.seq (.reg [] [
      Ap 11 7 3,
      Ap 12 1 3,
      rq 13 (.binOp .lss 3 (tp 11) (tp 12) 3) 4])
      (.cond (tp 13) (.skip)
      (.exit 2)))
      (.seq (.block 3 (.reg [0, 1, 2, 3, 4, 5, 6, 7, 8, 9, 10, 11, 12, 13, 14] [
        Ap 16 6 170,
        Ap 17 7 3,
        rq 18 (.binOp .sub 3 (tp 17) (ki 1) 3) 3,
        Ap 19 5 3,
        D5 20 173 2 18,
        D5 21 171 20 19,
        Ce 22 21 170,
        Ap 23 7 3,
        Ap 24 5 3,
        D5 25 173 2 23,
        D5 26 171 25 24,
        Ce 27 26 170,
        rq 28 (.binOp .andNot 170 (tp 22) (tp 27) 170) 170,
        rq 29 (.binOp .or 170 (tp 16) (tp 28) 170) 170,
        AQ 6 29 170]))
      (.reg [] [
        Ap 14 7 3,
        FB 15 14,
        AQ 7 15 3]))))))
    (.seq (.reg [] [
      Ap 30 6 170,
      rq 31 (.binOp .neq 170 (tp 30) (.const (.int .u64 0)) 170) 4])
    (.cond (tp 31) (.seq (.reg [] [
      Ap 32 5 3,
      rq 33 (.binOp .mul 3 (ki 64) (tp 32) 3) 3,
      Ap 34 6 170,
      rq 35 (cf 179 #[(tp 34)] #[170]) 3,
      rq 36 (.binOp .add 3 (tp 33) (tp 35) 3) 3,
      AQ 4 36 3])
     (.ret))
    (.skip)))))))
   (.reg [] [
     FB 37 8,
     Ap 8 37 3])))))))
 (.seq (.reg [] [
   rq 4 (.assign (ki (-1))) 3])
 (.ret)))
def Yg:RC:=Nc
def Yh:RC:=Nf
def lM:RC:=
 .seq (.reg [] [
  Cz 4 0 3])
 (.seq (.seq (.reg [] [
   Ap 6 0 23,EN 7 6 23,rq 8 (.move (ki 0)) 3])
 (.block 0 (.loop (.seq (.reg [] [
   L8 9 8 7])
   (.seq (.cond (tp 9) (.skip)
   (.exit 0))
   (.seq (.block 1 (.seq (.reg [] [
     Ap 10 8 3,
     AQ 5 10 3])
    (.seq (.reg [] [
      Ap 11 1 133,
      Ap 12 0 23,
      Ap 13 5 3,
      D5 14 23 12 13,
      Ce 15 14 3,
      rq 16 (.call ⟨.value (tp 11),#[(tp 15)],#[3]⟩) 4])
    (.cond (tp 16) (.seq (.reg [] [
      Ap 17 5 3,
      AQ 4 17 3])
     (.ret))
    (.skip)))))
   (.reg [] [
     FB 18 8,
     Ap 8 18 3])))))))
 (.seq (.reg [] [
   rq 4 (.assign (ki (-1))) 3])
 (.ret)))
def lN:RC:=
 .seq (.reg [] [
  rq 2 (.assign (.const (.pointer none))) 140,Cz 3 0 27])
 (.seq (.seq (.reg [] [
   Ap 9 0 71,rq 10 (cf 183 #[(tp 9)] #[71]) 27,AQ 4 10 27])
 (.seq (.reg [] [
   Ap 11 4 27,rq 12 (.binOp .neq 27 (tp 11) (ki 0) 27) 4])
 (.cond (tp 12) (.seq (.reg [] [
   Ap 13 4 27,
   rq 2 (.assign (.const (.pointer none))) 140,
   AQ 3 13 27])
  (.ret))
 (.skip))))
 (.seq (.reg [] [
   Ap 14 0 71,rq 15 (.build 188 #[(0,(tp 14))]) 188,rq 16 (.box 188 (tp 15)) 140,AQ 5 16 140])
 (.seq (.seq (.reg [] [
   Ap 17 0 71,EN 18 17 71,rq 19 (.move (ki 0)) 3])
 (.block 0 (.loop (.seq (.reg [] [
   L8 20 19 18])
   (.seq (.cond (tp 20) (.skip)
   (.exit 0))
   (.seq (.block 1 (.seq (.reg [] [
     Ap 21 19 3,
     AQ 6 21 3])
    (.seq (.reg [] [
      Ap 22 0 71,
      EN 23 22 71,
      rq 24 (.move (ki 0)) 3])
    (.block 2 (.loop (.seq (.reg [] [
      L8 25 24 23])
      (.seq (.cond (tp 25) (.skip)
      (.exit 2))
      (.seq (.block 3 (.seq (.reg [] [
        Ap 26 24 3,
        AQ 7 26 3])
       (.seq (.reg [] [
         Ap 27 0 71,
         rq 28 (.indexAddr 71 (tp 27) (ki 0)) 0,
         Ce 29 28 23,
         EN 30 29 23,
         rq 31 (.move (ki 0)) 3])
       (.block 4 (.loop (.seq (.reg [] [
         L8 32 31 30])
         (.seq (.cond (tp 32) (.skip)
         (.exit 4))
         (.seq (.block 5 (.seq (.reg [] [
           Ap 33 31 3,
           AQ 8 33 3])
          (.seq (.reg [0, 1, 2, 3, 4, 5, 6, 7, 8, 9, 10, 11, 12, 13, 14] [
            Ap 34 0 71,
            Ap 35 6 3,
            D5 36 71 34 35,
            Ce 37 36 23,
            Ap 38 8 3,
            D5 39 23 37 38,
            Ce 40 39 3,
            Ap 41 0 71,
            Ap 42 7 3,
            D5 43 71 41 42,
            Ce 44 43 23,
            Ap 45 8 3,
            D5 46 23 44 45,
            Ce 47 46 3,
            rq 48 (.binOp .neq 3 (tp 40) (tp 47) 3) 4])
          (.cond (tp 48) (.reg [0, 1, 2, 3, 4, 5, 6, 7, 8, 9, 10, 11, 12, 13, 14, 15] [
            Ap 49 5 140,
            Ap 50 6 3,
            Ap 51 7 3,
            rq 52 (.nilCheck (tp 49)) 0,
            DR 53 188 52 1,
            D5 54 186 53 50,
            D5 55 185 54 51,
            Ce 56 55 141,
            Ap 57 8 3,
            rq 58 (.binOp .shl 141 (.const (.int .u8 1)) (tp 57) 3) 141,
            rq 59 (.binOp .or 141 (tp 56) (tp 58) 141) 141,
            rq 60 (.nilCheck (tp 49)) 0,
            DR 61 188 60 1,
            D5 62 186 61 50,
            D5 63 185 62 51,
            rn (.store 141 (tp 63) (tp 59)) 0])
          (.skip)))))
         (.reg [] [
           FB 64 31,
           Ap 31 64 3])))))))))
      (.reg [] [
        FB 65 24,
        Ap 24 65 3])))))))))
   (.reg [] [
     FB 66 19,
     Ap 19 66 3])))))))
 (.seq (.reg [] [
   Ap 67 5 140,AQ 2 67 140,Cz 3 0 27])
 (.ret)))))
def lQ:RC:=
 .seq (.reg [] [
  Cz 2 0 3])
 (.seq (.reg [] [
   Ap 3 0 140,rq 4 (.nilCheck (tp 3)) 0,DR 5 188 4 0,Ce 6 5 71,rq 7 (.indexAddr 71 (tp 6) (ki 0)) 0,Ce 8 7 23,EN 9 8 23,AQ 2 9 3])
 (.ret))
def lS:RC:=
 .seq (.reg [] [
  rq 2 (.assign (.const (.slice none 0 0))) 189])
 (.seq (.reg [] [
   rq 3 (.assign (.const (.slice none 0 0))) 189])
 (.seq (.seq (.reg [] [
   Cz 4 0 3])
 (.block 0 (.loop (.seq (.seq (.reg [] [
   Ap 8 4 3,
   Ap 9 0 140,
   rq 10 (cf 184 #[(tp 9)] #[140]) 141,
   rq 11 (.convert 141 3 (tp 10)) 3,
   rq 12 (.binOp .leq 3 (tp 8) (tp 11) 3) 4])
   (.cond (tp 12) (.skip)
   (.exit 0)))
   (.seq (.block 1 (.seq (.reg [] [
     Ap 16 0 140,
     Ap 17 4 3,
     rq 18 (.convert 3 141 (tp 17)) 141,
     rq 19 (cf 185 #[(tp 16),(tp 18)] #[140,141]) 233,
     Ap 15 19 233,
     EM 20 15 0 3,
     EM 21 15 1 3,
     EM 22 15 2 4,
     AQ 5 20 3,
     AQ 6 21 3,
     AQ 7 22 4])
    (.seq (.reg [] [
      Ap 23 7 4,
      rq 24 (.unOp .not 4 (tp 23)) 4])
    (.cond (tp 24) (.reg [] [
      Ap 25 3 189,
      Ap 26 4 3,
      rq 27 (.convert 3 141 (tp 26)) 141,
      rq 28 (.buildSlice 189 1 #[(0,(tp 27))]) 189,
      rq 29 (cb .append #[(tp 25),(tp 28)] #[189,189]) 189,
      AQ 3 29 189])
    (.skip)))))
   (.reg [] [
     Ap 13 4 3,
     FB 14 13,
     AQ 4 14 3]))))))
 (.seq (.reg [] [
   Ap 30 3 189,AQ 2 30 189])
 (.ret))))
def lT:RC:=
 .seq (.reg [] [
  rq 1 (.box 36 (tp 0)) 0,Cz 2 0 3,Cz 3 0 27])
 (.seq (.reg [] [
   Ce 9 1 36,rq 10 (cf 112 #[(tp 9)] #[36]) 93,Ap 8 10 93,EM 11 8 0 92,EM 12 8 1 27,AQ 4 11 92,AQ 5 12 27])
 (.seq (.seq (.reg [] [
   Ap 13 5 27,rq 14 (.binOp .neq 27 (tp 13) (ki 0) 27) 4])
 (.cond (tp 14) (.seq (.reg [] [
   Ap 15 5 27,
   Cz 2 0 3,
   AQ 3 15 27])
  (.ret))
 (.skip)))
 (.seq (.reg [] [
   Cz 6 0 3])
 (.seq (.seq (.reg [] [
   Ap 16 4 92,rq 17 (.nilCheck (tp 16)) 0,DR 18 96 17 0,DR 19 36 18 3,Ce 20 19 23,EN 21 20 23,rq 22 (.move (ki 0)) 3])
 (.block 0 (.loop (.seq (.reg [] [
   L8 23 22 21])
   (.seq (.cond (tp 23) (.skip)
   (.exit 0))
   (.seq (.block 1 (.seq (.reg [] [
     Ap 24 22 3,
     AQ 7 24 3])
    (.reg [] [
      Ap 25 6 3,
      Ap 26 4 92,
      Ap 27 7 3,
      rq 28 (cf 186 #[(tp 26),(tp 27)] #[92,3]) 3,
      rq 29 (.binOp .add 3 (tp 25) (tp 28) 3) 3,
      AQ 6 29 3])))
   (.reg [] [
     FB 30 22,
     Ap 22 30 3])))))))
 (.seq (.reg [] [
   Ap 31 6 3,Ap 32 4 92,rq 33 (.nilCheck (tp 32)) 0,DR 34 96 33 0,DR 35 36 34 3,Ce 36 35 23,EN 37 36 23,rq 38 (.binOp .quo 3 (tp 31) (tp 37) 3) 3,AQ 2 38 3,Cz 3 0 27])
 (.ret))))))
def lU:RC:=
 .seq (.reg [] [
  Cz 2 0 3,Cz 3 0 27])
 (.seq (.seq (.reg [] [
   Ap 6 0 23,rq 7 (cf 187 #[(tp 6)] #[23]) 27,AQ 4 7 27])
 (.seq (.reg [] [
   Ap 8 4 27,rq 9 (.binOp .neq 27 (tp 8) (ki 0) 27) 4])
 (.cond (tp 9) (.seq (.reg [] [
   Ap 10 4 27,
   Cz 2 0 3,
   AQ 3 10 27])
  (.ret))
 (.skip))))
 (.seq (.reg [] [
   rq 11 (.makeMap 236 none) 236,Ap 12 0 23,rq 13 (cf 189 #[(tp 12)] #[23]) 239,rq 14 (cf 188 #[(tp 11),(tp 13)] #[236,239]) 3,AQ 5 14 3])
 (.seq (.seq (.reg [] [
   Ap 15 5 3,rq 16 (.binOp .lss 3 (tp 15) (ki 0) 3) 4])
 (.cond (tp 16) (.seq (.reg [] [
   Cz 2 0 3,
   Cz 3 12 27])
  (.ret))
 (.skip)))
 (.seq (.reg [] [
   Ap 17 5 3,AQ 2 17 3,Cz 3 0 27])
 (.ret)))))
def lV:RC:=
 .seq (.reg [] [
  rq 0 (.assign (kb false)) 4])
 (.seq (.reg [] [
   rq 6 (.build 243 #[(0,(ki 4)),(1,(ki 5)),(2,(ki 2)),(3,(ki 1))]) 243,rq 7 (cf 190 #[(tp 6)] #[243]) 30,Ap 5 7 30,EM 8 5 0 3,EM 9 5 1 27,AQ 1 8 3,AQ 2 9 27])
 (.seq (.reg [] [
   rq 11 (.build 246 #[(0,(ki 0)),(1,(ki 1)),(2,(ki 5)),(3,(ki 9))]) 246,rq 12 (.build 246 #[(0,(ki 1)),(1,(ki 2)),(2,(ki 0)),(3,(ki 7))]) 246,rq 13 (.build 246 #[(0,(ki 2)),(1,(ki 0)),(2,(ki 4)),(3,(ki 6))]) 246,rq 14 (.buildSlice 247 3 #[(0,(tp 11)),(1,(tp 12)),(2,(tp 13))]) 247,rq 15 (.build 249 #[(0,(ki 3)),(1,(tp 14))]) 249,rq 16 (cf 191 #[(tp 15)] #[249]) 28,Ap 10 16 28,EM 17 10 0 23,EM 18 10 1 27,AQ 3 17 23,AQ 4 18 27])
 (.seq (.reg [] [
   Ap 19 2 27,rq 20 (.binOp .eql 27 (tp 19) (ki 0) 27) 4,Ap 21 20 4,DD 22 4 27 21 true,rg 23 (.binOp .eql 27 (tp 22) (ki 0) 27) 4 21 true,rq 24 (.pick (tp 21) (tp 23) (kb false)) 4,Ap 25 24 4,DD 26 1 3 25 true,rg 27 (.binOp .eql 3 (tp 26) (ki 95) 3) 4 25 true,rq 28 (.pick (tp 25) (tp 27) (kb false)) 4,Ap 29 28 4,DD 30 3 23 29 true,rg 31 (.buildSlice 23 3 #[(0,(ki 5)),(1,(ki 5)),(2,(ki 5))]) 23 29 true,rg 32 (cf 15 #[(tp 31)] #[23]) 23 29 true,rg 33 (cf 22 #[(tp 30),(tp 32)] #[23,23]) 4 29 true,rq 34 (.pick (tp 29) (tp 33) (kb false)) 4,AQ 0 34 4])
 (.ret))))
def Yi:RC:=KJ
def lW:RC:=
 .seq (.reg [] [
  Ap 11 1 3,AQ 6 11 3])
 (.seq (.reg [] [
   Cz 7 0 3])
 (.seq (.reg [] [
   Ap 12 2 3,Ap 13 1 3,rq 14 (.binOp .sub 3 (tp 12) (tp 13) 3) 3,AQ 8 14 3])
 (.seq (.seq (.reg [] [
   Ap 15 8 3,rq 16 (.binOp .sub 3 (tp 15) (ki 1) 3) 3,rq 17 (.binOp .quo 3 (tp 16) (ki 2) 3) 3,AQ 9 17 3])
 (.block 0 (.loop (.seq (.seq (.reg [] [
   Ap 18 9 3,
   rq 19 (.binOp .geq 3 (tp 18) (ki 0) 3) 4])
   (.cond (tp 19) (.skip)
   (.exit 0)))
   (.seq (.block 1 (.reg [] [
     Ap 22 0 23,
     Ap 23 9 3,
     Ap 24 8 3,
     Ap 25 6 3,
     rq 26 (cf 192 #[(tp 22),(tp 23),(tp 24),(tp 25)] #[23,3,3,3]) 0]))
   (.reg [] [
     Ap 20 9 3,
     rq 21 (.binOp .sub 3 (tp 20) (ki 1) 3) 3,
     AQ 9 21 3]))))))
 (.seq (.reg [] [
   Ap 27 8 3,rq 28 (.binOp .sub 3 (tp 27) (ki 1) 3) 3,AQ 10 28 3])
 (.block 2 (.loop (.seq (.seq (.reg [] [
   Ap 29 10 3,
   rq 30 (.binOp .geq 3 (tp 29) (ki 0) 3) 4])
   (.cond (tp 30) (.skip)
   (.exit 2)))
   (.seq (.block 3 (.seq (.reg [0, 1, 2, 3, 4, 5, 6, 7, 8, 9, 10, 11, 12, 13, 14, 15, 16, 17, 18, 19] [
     Ap 33 0 23,
     Ap 34 6 3,
     Ap 35 0 23,
     Ap 36 6 3,
     Ap 37 10 3,
     rq 38 (.binOp .add 3 (tp 36) (tp 37) 3) 3,
     Ap 39 0 23,
     Ap 40 6 3,
     Ap 41 10 3,
     rq 42 (.binOp .add 3 (tp 40) (tp 41) 3) 3,
     D5 43 23 39 42,
     Ce 44 43 3,
     Ap 45 0 23,
     Ap 46 6 3,
     D5 47 23 45 46,
     Ce 48 47 3,
     D5 49 23 33 34,
     rn (.store 3 (tp 49) (tp 44)) 0,
     D5 50 23 35 38,
     rn (.store 3 (tp 50) (tp 48)) 0])
    (.reg [] [
      Ap 51 0 23,
      Ap 52 7 3,
      Ap 53 10 3,
      Ap 54 6 3,
      rq 55 (cf 192 #[(tp 51),(tp 52),(tp 53),(tp 54)] #[23,3,3,3]) 0])))
   (.reg [] [
     Ap 31 10 3,
     rq 32 (.binOp .sub 3 (tp 31) (ki 1) 3) 3,
     AQ 10 32 3])))))))))
def lX:RC:=
 .seq (.reg [] [
  Ap 11 2 3,Ap 12 1 3,rq 13 (.binOp .sub 3 (tp 11) (tp 12) 3) 3,AQ 6 13 3])
 (.seq (.reg [] [
   Ap 14 6 3,rq 15 (.binOp .geq 3 (tp 14) (ki 8) 3) 4])
 (.cond (tp 15) (.seq (.reg [] [
   Ap 16 6 3,
   rq 17 (.convert 3 250 (tp 16)) 250,
   rq 7 (.alloc 250) 0,
   rn (.store 250 (tp 7) (tp 17)) 0])
  (.seq (.reg [] [
    Ap 18 6 3,
    rq 19 (cf 193 #[(tp 18)] #[3]) 130,
    AQ 8 19 130])
  (.seq (.reg [] [
    Ap 20 1 3,
    Ap 21 6 3,
    rq 22 (.binOp .quo 3 (tp 21) (ki 4) 3) 3,
    rq 23 (.binOp .mul 3 (tp 22) (ki 2) 3) 3,
    rq 24 (.binOp .add 3 (tp 20) (tp 23) 3) 3,
    rq 25 (.binOp .sub 3 (tp 24) (ki 1) 3) 3,
    AQ 9 25 3])
  (.block 0 (.loop (.seq (.seq (.reg [] [
    Ap 26 9 3,
    Ap 27 1 3,
    Ap 28 6 3,
    rq 29 (.binOp .quo 3 (tp 28) (ki 4) 3) 3,
    rq 30 (.binOp .mul 3 (tp 29) (ki 2) 3) 3,
    rq 31 (.binOp .add 3 (tp 27) (tp 30) 3) 3,
    FB 32 31,
    rq 33 (.binOp .leq 3 (tp 26) (tp 32) 3) 4])
    (.cond (tp 33) (.skip)
    (.exit 0)))
    (.seq (.block 1 (.seq (.reg [] [
      rq 36 (cf 194 #[(tp 7)] #[250]) 170,
      Ap 37 8 130,
      rq 38 (.binOp .sub 130 (tp 37) (.const (.int .u64 1)) 130) 130,
      rq 39 (.binOp .and 130 (tp 36) (tp 38) 130) 130,
      rq 40 (.convert 130 3 (tp 39)) 3,
      AQ 10 40 3])
     (.seq (.seq (.reg [] [
       Ap 41 10 3,
       Ap 42 6 3,
       rq 43 (.binOp .geq 3 (tp 41) (tp 42) 3) 4])
     (.cond (tp 43) (.reg [] [
       Ap 44 10 3,
       Ap 45 6 3,
       rq 46 (.binOp .sub 3 (tp 44) (tp 45) 3) 3,
       AQ 10 46 3])
     (.skip)))
     (.reg [0, 1, 2, 3, 4, 5, 6, 7, 8, 9, 10, 11, 12, 13, 14, 15, 16, 17, 18, 19] [
       Ap 47 0 23,
       Ap 48 9 3,
       Ap 49 0 23,
       Ap 50 1 3,
       Ap 51 10 3,
       rq 52 (.binOp .add 3 (tp 50) (tp 51) 3) 3,
       Ap 53 0 23,
       Ap 54 1 3,
       Ap 55 10 3,
       rq 56 (.binOp .add 3 (tp 54) (tp 55) 3) 3,
       D5 57 23 53 56,
       Ce 58 57 3,
       Ap 59 0 23,
       Ap 60 9 3,
       D5 61 23 59 60,
       Ce 62 61 3,
       D5 63 23 47 48,
       rn (.store 3 (tp 63) (tp 58)) 0,
       D5 64 23 49 52,
       rn (.store 3 (tp 64) (tp 62)) 0]))))
    (.reg [] [
      Ap 34 9 3,
      FB 35 34,
      AQ 9 35 3]))))))))
 (.skip)))
def lY:RC:=
 .seq (.reg [] [
  Cz 6 0 3,Cz 7 0 193])
 (.seq (.reg [] [
   Ap 13 2 3,Ap 14 1 3,rq 15 (.binOp .sub 3 (tp 13) (tp 14) 3) 3,AQ 8 15 3])
 (.seq (.reg [] [
   rq 9 (.alloc 3) 0])
 (.seq (.reg [] [
   Ap 16 1 3,Ap 17 8 3,rq 18 (.binOp .quo 3 (tp 17) (ki 4) 3) 3,rq 19 (.binOp .mul 3 (tp 18) (ki 1) 3) 3,rq 20 (.binOp .add 3 (tp 16) (tp 19) 3) 3,AQ 10 20 3])
 (.seq (.reg [] [
   Ap 21 1 3,Ap 22 8 3,rq 23 (.binOp .quo 3 (tp 22) (ki 4) 3) 3,rq 24 (.binOp .mul 3 (tp 23) (ki 2) 3) 3,rq 25 (.binOp .add 3 (tp 21) (tp 24) 3) 3,AQ 11 25 3])
 (.seq (.reg [] [
   Ap 26 1 3,Ap 27 8 3,rq 28 (.binOp .quo 3 (tp 27) (ki 4) 3) 3,rq 29 (.binOp .mul 3 (tp 28) (ki 3) 3) 3,rq 30 (.binOp .add 3 (tp 26) (tp 29) 3) 3,AQ 12 30 3])
 (.seq (.seq (.reg [] [
   Ap 31 8 3,rq 32 (.binOp .geq 3 (tp 31) (ki 8) 3) 4])
 (.cond (tp 32) (.seq (.seq (.reg [] [
   Ap 33 8 3,
   rq 34 (.binOp .geq 3 (tp 33) (ki 50) 3) 4])
  (.cond (tp 34) (.seq (.reg [] [
    Ap 35 0 23,
    Ap 36 10 3,
    rq 37 (cf 195 #[(tp 35),(tp 36),(tp 9)] #[23,3,254]) 3,
    AQ 10 37 3])
   (.seq (.reg [] [
     Ap 38 0 23,
     Ap 39 11 3,
     rq 40 (cf 195 #[(tp 38),(tp 39),(tp 9)] #[23,3,254]) 3,
     AQ 11 40 3])
   (.reg [] [
     Ap 41 0 23,
     Ap 42 12 3,
     rq 43 (cf 195 #[(tp 41),(tp 42),(tp 9)] #[23,3,254]) 3,
     AQ 12 43 3])))
  (.skip)))
  (.reg [] [
    Ap 44 0 23,
    Ap 45 10 3,
    Ap 46 11 3,
    Ap 47 12 3,
    rq 48 (cf 196 #[(tp 44),(tp 45),(tp 46),(tp 47),(tp 9)] #[23,3,3,3,254]) 3,
    AQ 11 48 3]))
 (.skip)))
 (.seq (.reg [] [
   Ce 49 9 3])
 (.block 0 (.seq (.reg [] [
   rq 52 (.binOp .eql 3 (tp 49) (ki 0) 3) 4,
   AQ 51 52 4])
  (.cond (tp 51) (.seq (.reg [] [
    Ap 53 11 3,
    AQ 6 53 3,
    Cz 7 1 193])
   (.ret))
  (.seq (.reg [] [
    rq 55 (.binOp .eql 3 (tp 49) (ki 12) 3) 4,
    AQ 54 55 4])
   (.cond (tp 54) (.seq (.reg [] [
     Ap 56 11 3,
     AQ 6 56 3,
     Cz 7 2 193])
    (.ret))
   (.seq (.reg [] [
     Ap 50 11 3,
     AQ 6 50 3,
     Cz 7 0 193])
    (.ret))))))))))))))
def lZ:RC:=
 .seq (.reg [] [
  Ap 8 1 3,AQ 6 8 3])
 (.seq (.reg [] [
   Ap 9 2 3,rq 10 (.binOp .sub 3 (tp 9) (ki 1) 3) 3,AQ 7 10 3])
 (.block 0 (.loop (.seq (.seq (.reg [] [
   Ap 11 6 3,
   Ap 12 7 3,
   rq 13 (.binOp .lss 3 (tp 11) (tp 12) 3) 4])
   (.cond (tp 13) (.skip)
   (.exit 0)))
   (.block 1 (.seq (.reg [0, 1, 2, 3, 4, 5, 6, 7, 8, 9, 10, 11, 12, 13, 14, 15] [
     Ap 14 0 23,
     Ap 15 6 3,
     Ap 16 0 23,
     Ap 17 7 3,
     Ap 18 0 23,
     Ap 19 7 3,
     D5 20 23 18 19,
     Ce 21 20 3,
     Ap 22 0 23,
     Ap 23 6 3,
     D5 24 23 22 23,
     Ce 25 24 3,
     D5 26 23 14 15,
     rn (.store 3 (tp 26) (tp 21)) 0,
     D5 27 23 16 17,
     rn (.store 3 (tp 27) (tp 25)) 0])
    (.seq (.reg [] [
      Ap 28 6 3,
      FB 29 28,
      AQ 6 29 3])
    (.reg [] [
      Ap 30 7 3,
      rq 31 (.binOp .sub 3 (tp 30) (ki 1) 3) 3,
      AQ 7 31 3]))))))))
def mD:RC:=
 .seq (.reg [] [
  rq 6 (.assign (kb false)) 4])
 (.seq (.reg [] [
   Ap 11 1 3,FB 12 11,AQ 7 12 3])
 (.seq (.seq (.reg [] [
   Cz 8 0 3])
 (.block 0 (.loop (.seq (.seq (.reg [] [
   Ap 13 8 3,
   rq 14 (.binOp .lss 3 (tp 13) (ki 5) 3) 4])
   (.cond (tp 14) (.skip)
   (.exit 0)))
   (.seq (.block 1 (.seq (.block 2 (.loop (.seq (.seq (.reg [0, 1, 2, 3, 4, 5, 6, 7, 8, 9, 10, 11, 12, 13, 14, 15] [
     Ap 17 7 3,
     Ap 18 2 3,
     rq 19 (.binOp .lss 3 (tp 17) (tp 18) 3) 4,
     Ap 20 19 4,
     DD 21 0 23 20 true,
     DD 22 7 3 20 true,
     rg 23 (.indexAddr 23 (tp 21) (tp 22)) 0 20 true,
     rg 24 (.load 3 (tp 23)) 3 20 true,
     DD 25 0 23 20 true,
     DD 26 7 3 20 true,
     rg 27 (.binOp .sub 3 (tp 26) (ki 1) 3) 3 20 true,
     rg 28 (.indexAddr 23 (tp 25) (tp 27)) 0 20 true,
     rg 29 (.load 3 (tp 28)) 3 20 true,
     rg 30 (cf 125 #[(tp 24),(tp 29)] #[3,3]) 4 20 true,
     rg 31 (.unOp .not 4 (tp 30)) 4 20 true,
     rq 32 (.pick (tp 20) (tp 31) (kb false)) 4])
     (.cond (tp 32) (.skip)
     (.exit 2)))
     (.block 3 (.reg [] [
       Ap 33 7 3,
       FB 34 33,
       AQ 7 34 3])))))
    (.seq (.seq (.reg [] [
      Ap 35 7 3,
      Ap 36 2 3,
      rq 37 (.binOp .eql 3 (tp 35) (tp 36) 3) 4])
    (.cond (tp 37) (.seq (.reg [] [
      rq 6 (.assign (kb true)) 4])
     (.ret))
    (.skip)))
    (.seq (.seq (.reg [] [
      Ap 38 2 3,
      Ap 39 1 3,
      rq 40 (.binOp .sub 3 (tp 38) (tp 39) 3) 3,
      rq 41 (.binOp .lss 3 (tp 40) (ki 50) 3) 4])
    (.cond (tp 41) (.seq (.reg [] [
      rq 6 (.assign (kb false)) 4])
     (.ret))
    (.skip)))
    (.seq (.reg [0, 1, 2, 3, 4, 5, 6, 7, 8, 9, 10, 11, 12, 13, 14, 15, 16, 17] [
      Ap 42 0 23,
      Ap 43 7 3,
      Ap 44 0 23,
      Ap 45 7 3,
      rq 46 (.binOp .sub 3 (tp 45) (ki 1) 3) 3,
      Ap 47 0 23,
      Ap 48 7 3,
      rq 49 (.binOp .sub 3 (tp 48) (ki 1) 3) 3,
      D5 50 23 47 49,
      Ce 51 50 3,
      Ap 52 0 23,
      Ap 53 7 3,
      D5 54 23 52 53,
      Ce 55 54 3,
      D5 56 23 42 43,
      rn (.store 3 (tp 56) (tp 51)) 0,
      D5 57 23 44 46,
      rn (.store 3 (tp 57) (tp 55)) 0])
    (.seq (.seq (.reg [] [
      Ap 58 7 3,
      Ap 59 1 3,
      rq 60 (.binOp .sub 3 (tp 58) (tp 59) 3) 3,
      rq 61 (.binOp .geq 3 (tp 60) (ki 2) 3) 4])
    (.cond (tp 61) (.seq (.reg [] [
      Ap 62 7 3,
      rq 63 (.binOp .sub 3 (tp 62) (ki 1) 3) 3,
      AQ 9 63 3])
     (.block 4 (.loop (.seq (.seq (.reg [] [
       Ap 64 9 3,
       rq 65 (.binOp .geq 3 (tp 64) (ki 1) 3) 4])
       (.cond (tp 65) (.skip)
       (.exit 4)))
       (.seq (.block 5 (.seq (.seq (.reg [0, 1, 2, 3, 4, 5, 6, 7, 8, 9, 10] [
         Ap 68 0 23,
         Ap 69 9 3,
         D5 70 23 68 69,
         Ce 71 70 3,
         Ap 72 0 23,
         Ap 73 9 3,
         rq 74 (.binOp .sub 3 (tp 73) (ki 1) 3) 3,
         D5 75 23 72 74,
         Ce 76 75 3,
         rq 77 (cf 125 #[(tp 71),(tp 76)] #[3,3]) 4,
         rq 78 (.unOp .not 4 (tp 77)) 4])
        (.cond (tp 78) (.exit 4)
        (.skip)))
        (.reg [0, 1, 2, 3, 4, 5, 6, 7, 8, 9, 10, 11, 12, 13, 14, 15, 16, 17] [
          Ap 79 0 23,
          Ap 80 9 3,
          Ap 81 0 23,
          Ap 82 9 3,
          rq 83 (.binOp .sub 3 (tp 82) (ki 1) 3) 3,
          Ap 84 0 23,
          Ap 85 9 3,
          rq 86 (.binOp .sub 3 (tp 85) (ki 1) 3) 3,
          D5 87 23 84 86,
          Ce 88 87 3,
          Ap 89 0 23,
          Ap 90 9 3,
          D5 91 23 89 90,
          Ce 92 91 3,
          D5 93 23 79 80,
          rn (.store 3 (tp 93) (tp 88)) 0,
          D5 94 23 81 83,
          rn (.store 3 (tp 94) (tp 92)) 0])))
       (.reg [] [
         Ap 66 9 3,
         rq 67 (.binOp .sub 3 (tp 66) (ki 1) 3) 3,
         AQ 9 67 3]))))))
    (.skip)))
    (.seq (.reg [] [
      Ap 95 2 3,
      Ap 96 7 3,
      rq 97 (.binOp .sub 3 (tp 95) (tp 96) 3) 3,
      rq 98 (.binOp .geq 3 (tp 97) (ki 2) 3) 4])
    (.cond (tp 98) (.seq (.reg [] [
      Ap 99 7 3,
      FB 100 99,
      AQ 10 100 3])
     (.block 6 (.loop (.seq (.seq (.reg [] [
       Ap 101 10 3,
       Ap 102 2 3,
       rq 103 (.binOp .lss 3 (tp 101) (tp 102) 3) 4])
       (.cond (tp 103) (.skip)
       (.exit 6)))
       (.seq (.block 7 (.seq (.seq (.reg [0, 1, 2, 3, 4, 5, 6, 7, 8, 9, 10] [
         Ap 106 0 23,
         Ap 107 10 3,
         D5 108 23 106 107,
         Ce 109 108 3,
         Ap 110 0 23,
         Ap 111 10 3,
         rq 112 (.binOp .sub 3 (tp 111) (ki 1) 3) 3,
         D5 113 23 110 112,
         Ce 114 113 3,
         rq 115 (cf 125 #[(tp 109),(tp 114)] #[3,3]) 4,
         rq 116 (.unOp .not 4 (tp 115)) 4])
        (.cond (tp 116) (.exit 6)
        (.skip)))
        (.reg [0, 1, 2, 3, 4, 5, 6, 7, 8, 9, 10, 11, 12, 13, 14, 15, 16, 17] [
          Ap 117 0 23,
          Ap 118 10 3,
          Ap 119 0 23,
          Ap 120 10 3,
          rq 121 (.binOp .sub 3 (tp 120) (ki 1) 3) 3,
          Ap 122 0 23,
          Ap 123 10 3,
          rq 124 (.binOp .sub 3 (tp 123) (ki 1) 3) 3,
          D5 125 23 122 124,
          Ce 126 125 3,
          Ap 127 0 23,
          Ap 128 10 3,
          D5 129 23 127 128,
          Ce 130 129 3,
          D5 131 23 117 118,
          rn (.store 3 (tp 131) (tp 126)) 0,
          D5 132 23 119 121,
          rn (.store 3 (tp 132) (tp 130)) 0])))
       (.reg [] [
         Ap 104 10 3,
         FB 105 104,
         AQ 10 105 3]))))))
    (.skip)))))))))
   (.reg [] [
     Ap 15 8 3,
     FB 16 15,
     AQ 8 16 3]))))))
 (.seq (.reg [] [
   rq 6 (.assign (kb false)) 4])
 (.ret))))
def mE:RC:=
 .seq (.reg [] [
  Cz 8 0 3])
 (.seq (.reg [0, 1, 2, 3, 4, 5, 6, 7, 8, 9, 10, 11, 12, 13, 14, 15] [
   Ap 11 0 23,Ap 12 1 3,Ap 13 0 23,Ap 14 3 3,Ap 15 0 23,Ap 16 3 3,D5 17 23 15 16,Ce 18 17 3,Ap 19 0 23,Ap 20 1 3,D5 21 23 19 20,Ce 22 21 3,D5 23 23 11 12,rn (.store 3 (tp 23) (tp 18)) 0,D5 24 23 13 14,rn (.store 3 (tp 24) (tp 22)) 0])
 (.seq (.reg [] [
   Ap 25 1 3,FB 26 25,Ap 27 2 3,rq 28 (.binOp .sub 3 (tp 27) (ki 1) 3) 3,AQ 9 26 3,AQ 10 28 3])
 (.seq (.block 0 (.loop (.block 1 (.seq (.block 2 (.loop (.seq (.seq (.reg [0, 1, 2, 3, 4, 5, 6, 7, 8, 9, 10, 11, 12, 13, 14] [
        Ap 29 9 3,
        Ap 30 10 3,
        rq 31 (.binOp .leq 3 (tp 29) (tp 30) 3) 4,
        Ap 32 31 4,
        DD 33 0 23 32 true,
        DD 34 1 3 32 true,
        rg 35 (.indexAddr 23 (tp 33) (tp 34)) 0 32 true,
        rg 36 (.load 3 (tp 35)) 3 32 true,
        DD 37 0 23 32 true,
        DD 38 9 3 32 true,
        rg 39 (.indexAddr 23 (tp 37) (tp 38)) 0 32 true,
        rg 40 (.load 3 (tp 39)) 3 32 true,
        rg 41 (cf 125 #[(tp 36),(tp 40)] #[3,3]) 4 32 true,
        rg 42 (.unOp .not 4 (tp 41)) 4 32 true,
        rq 43 (.pick (tp 32) (tp 42) (kb false)) 4])
   (.cond (tp 43) (.skip)
   (.exit 2)))
   (.block 3 (.reg [] [
     Ap 44 9 3,
     FB 45 44,
     AQ 9 45 3])))))
   (.seq (.block 4 (.loop (.seq (.seq (.reg [0, 1, 2, 3, 4, 5, 6, 7, 8, 9, 10, 11, 12, 13] [
     Ap 46 9 3,
     Ap 47 10 3,
     rq 48 (.binOp .leq 3 (tp 46) (tp 47) 3) 4,
     Ap 49 48 4,
     DD 50 0 23 49 true,
     DD 51 1 3 49 true,
     rg 52 (.indexAddr 23 (tp 50) (tp 51)) 0 49 true,
     rg 53 (.load 3 (tp 52)) 3 49 true,
     DD 54 0 23 49 true,
     DD 55 10 3 49 true,
     rg 56 (.indexAddr 23 (tp 54) (tp 55)) 0 49 true,
     rg 57 (.load 3 (tp 56)) 3 49 true,
     rg 58 (cf 125 #[(tp 53),(tp 57)] #[3,3]) 4 49 true,
     rq 59 (.pick (tp 49) (tp 58) (kb false)) 4])
     (.cond (tp 59) (.skip)
     (.exit 4)))
     (.block 5 (.reg [] [
       Ap 60 10 3,
       rq 61 (.binOp .sub 3 (tp 60) (ki 1) 3) 3,
       AQ 10 61 3])))))
   (.seq (.seq (.reg [] [
     Ap 62 9 3,
     Ap 63 10 3,
     rq 64 (.binOp .gtr 3 (tp 62) (tp 63) 3) 4])
   (.cond (tp 64) (.exit 0)
   (.skip)))
   (.seq (.reg [0, 1, 2, 3, 4, 5, 6, 7, 8, 9, 10, 11, 12, 13, 14, 15] [
     Ap 65 0 23,
     Ap 66 9 3,
     Ap 67 0 23,
     Ap 68 10 3,
     Ap 69 0 23,
     Ap 70 10 3,
     D5 71 23 69 70,
     Ce 72 71 3,
     Ap 73 0 23,
     Ap 74 9 3,
     D5 75 23 73 74,
     Ce 76 75 3,
     D5 77 23 65 66,
     rn (.store 3 (tp 77) (tp 72)) 0,
     D5 78 23 67 68,
     rn (.store 3 (tp 78) (tp 76)) 0])
   (.seq (.reg [] [
     Ap 79 9 3,
     FB 80 79,
     AQ 9 80 3])
   (.reg [] [
     Ap 81 10 3,
     rq 82 (.binOp .sub 3 (tp 81) (ki 1) 3) 3,
     AQ 10 82 3])))))))))
 (.seq (.reg [] [
   Ap 83 9 3,AQ 8 83 3])
 (.ret)))))
def mK:RC:=
 .seq (.reg [] [
  Cz 8 0 3,rq 9 (.assign (kb false)) 4])
 (.seq (.reg [0, 1, 2, 3, 4, 5, 6, 7, 8, 9, 10, 11, 12, 13, 14, 15] [
   Ap 12 0 23,Ap 13 1 3,Ap 14 0 23,Ap 15 3 3,Ap 16 0 23,Ap 17 3 3,D5 18 23 16 17,Ce 19 18 3,Ap 20 0 23,Ap 21 1 3,D5 22 23 20 21,Ce 23 22 3,D5 24 23 12 13,rn (.store 3 (tp 24) (tp 19)) 0,D5 25 23 14 15,rn (.store 3 (tp 25) (tp 23)) 0])
 (.seq (.reg [] [
   Ap 26 1 3,FB 27 26,Ap 28 2 3,rq 29 (.binOp .sub 3 (tp 28) (ki 1) 3) 3,AQ 10 27 3,AQ 11 29 3])
 (.seq (.block 0 (.loop (.seq (.seq (.reg [0, 1, 2, 3, 4, 5, 6, 7, 8, 9, 10, 11, 12, 13] [
   Ap 30 10 3,
   Ap 31 11 3,
   rq 32 (.binOp .leq 3 (tp 30) (tp 31) 3) 4,
   Ap 33 32 4,
   DD 34 0 23 33 true,
   DD 35 10 3 33 true,
   rg 36 (.indexAddr 23 (tp 34) (tp 35)) 0 33 true,
   rg 37 (.load 3 (tp 36)) 3 33 true,
   DD 38 0 23 33 true,
   DD 39 1 3 33 true,
   rg 40 (.indexAddr 23 (tp 38) (tp 39)) 0 33 true,
   rg 41 (.load 3 (tp 40)) 3 33 true,
   rg 42 (cf 125 #[(tp 37),(tp 41)] #[3,3]) 4 33 true,
   rq 43 (.pick (tp 33) (tp 42) (kb false)) 4])
   (.cond (tp 43) (.skip)
   (.exit 0)))
   (.block 1 (.reg [] [
     Ap 44 10 3,
     FB 45 44,
     AQ 10 45 3])))))
 (.seq (.block 2 (.loop (.seq (.seq (.reg [0, 1, 2, 3, 4, 5, 6, 7, 8, 9, 10, 11, 12, 13, 14] [
   Ap 46 10 3,
   Ap 47 11 3,
   rq 48 (.binOp .leq 3 (tp 46) (tp 47) 3) 4,
   Ap 49 48 4,
   DD 50 0 23 49 true,
   DD 51 11 3 49 true,
   rg 52 (.indexAddr 23 (tp 50) (tp 51)) 0 49 true,
   rg 53 (.load 3 (tp 52)) 3 49 true,
   DD 54 0 23 49 true,
   DD 55 1 3 49 true,
   rg 56 (.indexAddr 23 (tp 54) (tp 55)) 0 49 true,
   rg 57 (.load 3 (tp 56)) 3 49 true,
   rg 58 (cf 125 #[(tp 53),(tp 57)] #[3,3]) 4 49 true,
   rg 59 (.unOp .not 4 (tp 58)) 4 49 true,
   rq 60 (.pick (tp 49) (tp 59) (kb false)) 4])
   (.cond (tp 60) (.skip)
   (.exit 2)))
   (.block 3 (.reg [] [
     Ap 61 11 3,
     rq 62 (.binOp .sub 3 (tp 61) (ki 1) 3) 3,
     AQ 11 62 3])))))
 (.seq (.seq (.reg [] [
   Ap 63 10 3,Ap 64 11 3,rq 65 (.binOp .gtr 3 (tp 63) (tp 64) 3) 4])
 (.cond (tp 65) (.seq (.reg [0, 1, 2, 3, 4, 5, 6, 7, 8, 9, 10, 11, 12, 13, 14, 15] [
   Ap 66 0 23,
   Ap 67 11 3,
   Ap 68 0 23,
   Ap 69 1 3,
   Ap 70 0 23,
   Ap 71 1 3,
   D5 72 23 70 71,
   Ce 73 72 3,
   Ap 74 0 23,
   Ap 75 11 3,
   D5 76 23 74 75,
   Ce 77 76 3,
   D5 78 23 66 67,
   rn (.store 3 (tp 78) (tp 73)) 0,
   D5 79 23 68 69,
   rn (.store 3 (tp 79) (tp 77)) 0])
  (.seq (.reg [] [
    Ap 80 11 3,
    AQ 8 80 3,
    rq 9 (.assign (kb true)) 4])
  (.ret)))
 (.skip)))
 (.seq (.reg [0, 1, 2, 3, 4, 5, 6, 7, 8, 9, 10, 11, 12, 13, 14, 15] [
   Ap 81 0 23,Ap 82 10 3,Ap 83 0 23,Ap 84 11 3,Ap 85 0 23,Ap 86 11 3,D5 87 23 85 86,Ce 88 87 3,Ap 89 0 23,Ap 90 10 3,D5 91 23 89 90,Ce 92 91 3,D5 93 23 81 82,rn (.store 3 (tp 93) (tp 88)) 0,D5 94 23 83 84,rn (.store 3 (tp 94) (tp 92)) 0])
 (.seq (.reg [] [
   Ap 95 10 3,FB 96 95,AQ 10 96 3])
 (.seq (.reg [] [
   Ap 97 11 3,rq 98 (.binOp .sub 3 (tp 97) (ki 1) 3) 3,AQ 11 98 3])
 (.seq (.block 4 (.loop (.block 5 (.seq (.block 6 (.loop (.seq (.seq (.reg [0, 1, 2, 3, 4, 5, 6, 7, 8, 9, 10, 11, 12, 13] [
        Ap 99 10 3,
        Ap 100 11 3,
        rq 101 (.binOp .leq 3 (tp 99) (tp 100) 3) 4,
        Ap 102 101 4,
        DD 103 0 23 102 true,
        DD 104 10 3 102 true,
        rg 105 (.indexAddr 23 (tp 103) (tp 104)) 0 102 true,
        rg 106 (.load 3 (tp 105)) 3 102 true,
        DD 107 0 23 102 true,
        DD 108 1 3 102 true,
        rg 109 (.indexAddr 23 (tp 107) (tp 108)) 0 102 true,
        rg 110 (.load 3 (tp 109)) 3 102 true,
        rg 111 (cf 125 #[(tp 106),(tp 110)] #[3,3]) 4 102 true,
        rq 112 (.pick (tp 102) (tp 111) (kb false)) 4])
   (.cond (tp 112) (.skip)
   (.exit 6)))
   (.block 7 (.reg [] [
     Ap 113 10 3,
     FB 114 113,
     AQ 10 114 3])))))
   (.seq (.block 8 (.loop (.seq (.seq (.reg [0, 1, 2, 3, 4, 5, 6, 7, 8, 9, 10, 11, 12, 13, 14] [
     Ap 115 10 3,
     Ap 116 11 3,
     rq 117 (.binOp .leq 3 (tp 115) (tp 116) 3) 4,
     Ap 118 117 4,
     DD 119 0 23 118 true,
     DD 120 11 3 118 true,
     rg 121 (.indexAddr 23 (tp 119) (tp 120)) 0 118 true,
     rg 122 (.load 3 (tp 121)) 3 118 true,
     DD 123 0 23 118 true,
     DD 124 1 3 118 true,
     rg 125 (.indexAddr 23 (tp 123) (tp 124)) 0 118 true,
     rg 126 (.load 3 (tp 125)) 3 118 true,
     rg 127 (cf 125 #[(tp 122),(tp 126)] #[3,3]) 4 118 true,
     rg 128 (.unOp .not 4 (tp 127)) 4 118 true,
     rq 129 (.pick (tp 118) (tp 128) (kb false)) 4])
     (.cond (tp 129) (.skip)
     (.exit 8)))
     (.block 9 (.reg [] [
       Ap 130 11 3,
       rq 131 (.binOp .sub 3 (tp 130) (ki 1) 3) 3,
       AQ 11 131 3])))))
   (.seq (.seq (.reg [] [
     Ap 132 10 3,
     Ap 133 11 3,
     rq 134 (.binOp .gtr 3 (tp 132) (tp 133) 3) 4])
   (.cond (tp 134) (.exit 4)
   (.skip)))
   (.seq (.reg [0, 1, 2, 3, 4, 5, 6, 7, 8, 9, 10, 11, 12, 13, 14, 15] [
     Ap 135 0 23,
     Ap 136 10 3,
     Ap 137 0 23,
     Ap 138 11 3,
     Ap 139 0 23,
     Ap 140 11 3,
     D5 141 23 139 140,
     Ce 142 141 3,
     Ap 143 0 23,
     Ap 144 10 3,
     D5 145 23 143 144,
     Ce 146 145 3,
     D5 147 23 135 136,
     rn (.store 3 (tp 147) (tp 142)) 0,
     D5 148 23 137 138,
     rn (.store 3 (tp 148) (tp 146)) 0])
   (.seq (.reg [] [
     Ap 149 10 3,
     FB 150 149,
     AQ 10 150 3])
   (.reg [] [
     Ap 151 11 3,
     rq 152 (.binOp .sub 3 (tp 151) (ki 1) 3) 3,
     AQ 11 152 3])))))))))
 (.seq (.reg [0, 1, 2, 3, 4, 5, 6, 7, 8, 9, 10, 11, 12, 13, 14, 15] [
   Ap 153 0 23,Ap 154 11 3,Ap 155 0 23,Ap 156 1 3,Ap 157 0 23,Ap 158 1 3,D5 159 23 157 158,Ce 160 159 3,Ap 161 0 23,Ap 162 11 3,D5 163 23 161 162,Ce 164 163 3,D5 165 23 153 154,rn (.store 3 (tp 165) (tp 160)) 0,D5 166 23 155 156,rn (.store 3 (tp 166) (tp 164)) 0])
 (.seq (.reg [] [
   Ap 167 11 3,AQ 8 167 3,rq 9 (.assign (kb false)) 4])
 (.ret))))))))))))
def mM:RC:=
 .seq (.reg [] [
  rq 2 (.alloc 208) 0])
 (.seq (.seq (.reg [] [
   Ap 3 0 3])
 (.block 0 (.seq (.reg [] [
   rq 5 (.binOp .eql 3 (tp 3) (ki 4) 3) 4,
   AQ 4 5 4])
  (.cond (tp 4) (.seq (.reg [] [
    rq 6 (.build 208 #[(0,(ki 0)),(1,(kb true))]) 208,
    rn (.store 208 (tp 2) (tp 6)) 0])
   (.ret))
  (.seq (.reg [] [
    rq 8 (.binOp .eql 3 (tp 3) (ki 5) 3) 4,
    AQ 7 8 4])
   (.cond (tp 7) (.seq (.reg [] [
     rq 9 (.build 208 #[(0,(ki 2)),(1,(kb true))]) 208,
     rn (.store 208 (tp 2) (tp 9)) 0])
    (.ret))
   (.seq (.reg [] [
     rq 11 (.binOp .eql 3 (tp 3) (ki 6) 3) 4,
     AQ 10 11 4])
    (.cond (tp 10) (.seq (.reg [] [
      rq 12 (.build 208 #[(0,(ki 1)),(1,(kb true))]) 208,
      rn (.store 208 (tp 2) (tp 12)) 0])
     (.ret))
    (.seq (.reg [] [
      rq 14 (.binOp .eql 3 (tp 3) (ki 7) 3) 4,
      AQ 13 14 4])
     (.cond (tp 13) (.seq (.reg [] [
       rq 15 (.build 208 #[(0,(ki 3)),(1,(kb true))]) 208,
       rn (.store 208 (tp 2) (tp 15)) 0])
      (.ret))
     (.skip)))))))))))
 (.seq (.reg [] [
   Ap 16 0 3,rq 17 (.build 208 #[(0,(tp 16)),(1,(kb false))]) 208,rn (.store 208 (tp 2) (tp 17)) 0])
 (.ret)))
def mO:RC:=
 .seq (.reg [] [
  rq 2 (.box 36 (tp 0)) 0,rq 4 (.assign (.const (.slice none 0 0))) 23])
 (.seq (.reg [] [
   DR 8 36 2 0,Ce 9 8 3,DR 10 36 2 1,Ce 11 10 3,rq 12 (.binOp .mul 3 (tp 9) (tp 11) 3) 3,rq 13 (.makeSlice 23 (tp 12) (tp 12)) 23,AQ 5 13 23])
 (.seq (.seq (.reg [] [
   Ap 14 5 23,EN 15 14 23,rq 16 (.move (ki 0)) 3])
 (.block 0 (.loop (.seq (.reg [] [
   L8 17 16 15])
   (.seq (.cond (tp 17) (.skip)
   (.exit 0))
   (.seq (.block 1 (.seq (.reg [] [
     Ap 18 16 3,
     AQ 6 18 3])
    (.reg [] [
      Ap 19 5 23,
      Ap 20 6 3,
      Ap 21 6 3,
      D5 22 23 19 20,
      rn (.store 3 (tp 22) (tp 21)) 0])))
   (.reg [] [
     FB 23 16,
     Ap 16 23 3])))))))
 (.seq (.reg [] [
   Ap 24 1 3,rq 25 (cf 164 #[(tp 24)] #[3]) 208,rq 7 (.alloc 208) 0,rn (.store 208 (tp 7) (tp 25)) 0])
 (.seq (.seq (.reg [] [
   DR 26 208 7 0,Ce 27 26 3,rq 28 (.binOp .eql 3 (tp 27) (ki 2) 3) 4])
 (.cond (tp 28) (.reg [] [
   Ap 29 5 23,
   rq 30 (cf 202 #[(tp 29)] #[23]) 0])
 (.seq (.reg [] [
   DR 31 208 7 0,
   Ce 32 31 3,
   rq 33 (.move (ki 0)) 3])
  (.block 2 (.loop (.seq (.reg [] [
    rq 34 (.binOp .lss 3 (tp 33) (tp 32) 3) 4])
    (.seq (.cond (tp 34) (.skip)
    (.exit 2))
    (.seq (.block 3 (.reg [] [
      Ap 35 5 23,
      DR 36 36 2 0,
      Ce 37 36 3,
      rq 38 (cf 203 #[(tp 35),(tp 37)] #[23,3]) 23,
      AQ 5 38 23]))
    (.reg [] [
      FB 39 33,
      Ap 33 39 3])))))))))
 (.seq (.seq (.reg [] [
   DR 40 208 7 1,Ce 41 40 4])
 (.cond (tp 41) (.reg [] [
   Ap 42 5 23,
   DR 43 36 2 1,
   Ce 44 43 3,
   rq 45 (cf 204 #[(tp 42),(tp 44)] #[23,3]) 23,
   AQ 5 45 23])
 (.skip)))
 (.seq (.reg [] [
   Ap 46 5 23,AQ 4 46 23])
 (.ret)))))))
def mP:RC:=
 .seq (.reg [] [
  rq 2 (.box 208 (tp 0)) 0,rq 3 (.box 208 (tp 1)) 0,rq 4 (.alloc 208) 0])
 (.seq (.seq (.reg [] [
   DR 5 208 2 1,Ce 6 5 4])
 (.cond (tp 6) (.reg [] [
   DR 7 208 3 0,
   Ce 8 7 3,
   rq 9 (.unOp .neg 3 (tp 8)) 3,
   DR 10 208 3 0,
   rn (.store 3 (tp 10) (tp 9)) 0])
 (.skip)))
 (.seq (.reg [] [
   DR 11 208 2 0,Ce 12 11 3,DR 13 208 3 0,Ce 14 13 3,rq 15 (.binOp .add 3 (tp 12) (tp 14) 3) 3,DR 16 208 2 1,Ce 17 16 4,DR 18 208 3 1,Ce 19 18 4,rq 20 (.binOp .neq 4 (tp 17) (tp 19) 4) 4,rq 21 (.build 208 #[(0,(tp 15)),(1,(tp 20))]) 208,rn (.store 208 (tp 4) (tp 21)) 0])
 (.ret)))
def mQ:RC:=
 .seq (.reg [] [
  rq 1 (.box 208 (tp 0)) 0,Cz 2 0 3])
 (.seq (.reg [] [
   DR 4 208 1 0,Ce 5 4 3,rq 6 (.binOp .add 3 (tp 5) (ki 4) 3) 3,rq 7 (.binOp .rem 3 (tp 6) (ki 4) 3) 3,AQ 3 7 3])
 (.seq (.block 0 (.seq (.reg [] [
   DR 9 208 1 1,
   Ce 10 9 4,
   rq 11 (.unOp .not 4 (tp 10)) 4,
   AQ 8 11 4])
  (.cond (tp 8) (.seq (.reg [] [
    Ap 12 3 3,
    AQ 2 12 3])
   (.ret))
  (.seq (.reg [] [
    Ap 14 3 3,
    rq 15 (.binOp .eql 3 (tp 14) (ki 0) 3) 4,
    AQ 13 15 4])
   (.cond (tp 13) (.seq (.reg [] [
     Cz 2 4 3])
    (.ret))
   (.seq (.reg [] [
     Ap 17 3 3,
     rq 18 (.binOp .eql 3 (tp 17) (ki 1) 3) 4,
     AQ 16 18 4])
    (.cond (tp 16) (.seq (.reg [] [
      Cz 2 6 3])
     (.ret))
    (.seq (.reg [] [
      Ap 20 3 3,
      rq 21 (.binOp .eql 3 (tp 20) (ki 2) 3) 4,
      AQ 19 21 4])
     (.cond (tp 19) (.seq (.reg [] [
       Cz 2 5 3])
      (.ret))
     (.skip))))))))))
 (.seq (.reg [] [
   Cz 2 7 3])
 (.ret))))
def Yj:RC:=RZ
def Yk:RC:=KS
def nD:RC:=
 .seq (.reg [] [
  rq 2 (.box 216 (tp 0)) 0,rq 4 (.alloc 214) 0])
 (.seq (.reg [] [
   Ce 11 2 216,rq 12 (cf 205 #[(tp 11)] #[216]) 256,Ap 10 12 256,EM 13 10 0 219,EM 14 10 1 220,EM 15 10 2 27,AQ 5 13 219,AQ 6 14 220,AQ 7 15 27])
 (.seq (.seq (.reg [] [
   Ap 16 7 27,rq 17 (.binOp .neq 27 (tp 16) (ki 0) 27) 4])
 (.cond (tp 17) (.seq (.reg [] [
   Ap 18 7 27,
   rq 19 (.build 214 #[(0,(.const .nilIface)),(1,(tp 18))]) 214,
   rn (.store 214 (tp 4) (tp 19)) 0])
  (.ret))
 (.skip)))
 (.seq (.reg [] [
   Ap 20 1 222,Ap 21 5 219,Ap 22 6 220,rq 23 (.call ⟨.value (tp 20),#[(tp 21),(tp 22)],#[219,220]⟩) 20])
 (.block 0 (.seq (.reg [] [
   rq 26 (.typeAssert (tp 23) 20 27 true) 0,
   EM 27 26 1 4,
   EM 28 26 0 27])
  (.cond (tp 27) (.seq (.reg [] [
    AQ 8 28 27])
   (.seq (.reg [] [
     Ap 29 8 27,
     rq 30 (.build 214 #[(0,(.const .nilIface)),(1,(tp 29))]) 214,
     rn (.store 214 (tp 4) (tp 30)) 0])
   (.ret)))
  (.seq (.reg [] [
    AQ 9 23 20])
   (.seq (.reg [] [
     Ap 24 9 20,
     rq 25 (.build 214 #[(0,(tp 24)),(1,(ki 0))]) 214,
     rn (.store 214 (tp 4) (tp 25)) 0])
   (.ret)))))))))
def nG:RC:=
 .seq (.reg [] [
  rq 6 (.assign (.const .nilIface)) 20])
 (.seq (.seq (.reg [] [
   Ce 7 2 3,rq 8 (.binOp .lss 3 (tp 7) (ki 0) 3) 4,Ap 9 8 4,rg 10 (.load 3 (tp 2)) 3 9 false,rg 11 (.binOp .gtr 3 (tp 10) (ki 20) 3) 4 9 false,rq 12 (.pick (tp 9) (kb true) (tp 11)) 4])
 (.cond (tp 12) (.seq (.reg [] [
   rq 13 (.makeInterface 27 (ki 1)) 20,
   AQ 6 13 20])
  (.ret))
 (.skip)))
 (.seq (.seq (.reg [] [
   Ce 14 2 3,rq 15 (.move (ki 0)) 3])
 (.block 0 (.loop (.seq (.reg [] [
   rq 16 (.binOp .lss 3 (tp 15) (tp 14) 3) 4])
   (.seq (.cond (tp 16) (.skip)
   (.exit 0))
   (.seq (.block 1 (.reg [] [
     Ap 17 0 219,
     DR 18 166 3 0,
     Ce 19 18 3,
     Ap 20 1 220,
     rq 21 (cf 173 #[(tp 17),(tp 19),(tp 20)] #[219,3,220]) 220,
     AQ 1 21 220]))
   (.reg [] [
     FB 22 15,
     Ap 15 22 3])))))))
 (.seq (.reg [] [
   Ap 23 1 220,rq 24 (.makeInterface 220 (tp 23)) 20,AQ 6 24 20])
 (.ret))))
def nH:RC:=
 .seq (.reg [] [
  rq 6 (.assign (.const (.int .u8 0))) 220])
 (.seq (.reg [] [
   rq 7 (.assign (.const (.int .u8 255))) 220])
 (.seq (.seq (.reg [] [
   Ap 9 0 219,EN 10 9 219,rq 11 (.move (ki 0)) 3])
 (.block 0 (.loop (.seq (.reg [] [
   L8 12 11 10])
   (.seq (.cond (tp 12) (.skip)
   (.exit 0))
   (.seq (.block 1 (.seq (.reg [] [
     Ap 13 11 3,
     AQ 8 13 3])
    (.reg [] [
      Ap 14 7 220,
      Ap 15 0 219,
      Ap 16 8 3,
      Ap 17 1 3,
      Ap 18 2 220,
      rq 19 (cf 206 #[(tp 15),(tp 16),(tp 17),(tp 18)] #[219,3,3,220]) 220,
      rq 20 (.binOp .and 220 (tp 14) (tp 19) 220) 220,
      AQ 7 20 220])))
   (.reg [] [
     FB 21 11,
     Ap 11 21 3])))))))
 (.seq (.reg [] [
   Ap 22 7 220,AQ 6 22 220])
 (.ret))))
def nI:RC:=
 .seq (.reg [] [
  rq 1 (.box 214 (tp 0)) 0,rq 2 (.assign (.const (.slice none 0 0))) 23,Cz 3 0 27])
 (.seq (.reg [] [
   DR 7 214 1 0,Ce 8 7 20,rq 9 (.typeAssert (tp 8) 20 220 true) 259,Ap 6 9 259,EM 10 6 0 220,EM 11 6 1 4,AQ 4 10 220,AQ 5 11 4])
 (.seq (.seq (.reg [] [
   Ap 12 5 4,rq 13 (.unOp .not 4 (tp 12)) 4])
 (.cond (tp 13) (.seq (.reg [0, 1, 2, 3] [
   DR 14 214 1 1,
   Ce 15 14 27,
   rq 2 (.assign (.const (.slice none 0 0))) 23,
   AQ 3 15 27])
  (.ret))
 (.skip)))
 (.seq (.reg [] [
   Ap 16 4 220,rq 17 (cf 207 #[(tp 16)] #[220]) 23,AQ 2 17 23,Cz 3 0 27])
 (.ret))))
def Yl:RC:=R4
def nJ:RC:=
 .seq (.reg [] [
  rq 2 (.alloc 173) 0])
 (.seq (.reg [] [
   rq 3 (.alloc 173) 0])
 (.seq (.seq (.reg [] [
   Ap 6 0 3,rq 7 (.binOp .shl 3 (ki 1) (tp 6) 3) 3,rq 8 (.move (ki 0)) 3])
 (.block 0 (.loop (.seq (.reg [] [
   rq 9 (.binOp .lss 3 (tp 8) (tp 7) 3) 4])
   (.seq (.cond (tp 9) (.skip)
   (.exit 0))
   (.seq (.block 1 (.seq (.reg [] [
     Ap 10 8 3,
     AQ 4 10 3])
    (.seq (.reg [] [
      Ap 11 0 3,
      rq 12 (.move (ki 0)) 3])
    (.block 2 (.loop (.seq (.reg [] [
      rq 13 (.binOp .lss 3 (tp 12) (tp 11) 3) 4])
      (.seq (.cond (tp 13) (.skip)
      (.exit 2))
      (.seq (.block 3 (.seq (.reg [] [
        Ap 14 12 3,
        AQ 5 14 3])
       (.reg [0, 1, 2, 3, 4, 5, 6, 7, 8, 9, 10, 11, 12, 13, 14, 15, 16, 17, 18, 19, 20] [
         Ap 15 5 3,
         Ap 16 4 3,
         rq 17 (.binOp .quo 3 (tp 16) (ki 64) 3) 3,
         D5 18 173 3 15,
         D5 19 171 18 17,
         Ce 20 19 170,
         Ap 21 4 3,
         Ap 22 0 3,
         rq 23 (.binOp .sub 3 (tp 22) (ki 1) 3) 3,
         Ap 24 5 3,
         rq 25 (.binOp .sub 3 (tp 23) (tp 24) 3) 3,
         rq 26 (.binOp .shr 3 (tp 21) (tp 25) 3) 3,
         rq 27 (.binOp .and 3 (tp 26) (ki 1) 3) 3,
         rq 28 (.convert 3 170 (tp 27)) 170,
         Ap 29 4 3,
         rq 30 (.binOp .rem 3 (tp 29) (ki 64) 3) 3,
         rq 31 (.binOp .shl 170 (tp 28) (tp 30) 3) 170,
         rq 32 (.binOp .or 170 (tp 20) (tp 31) 170) 170,
         D5 33 173 3 15,
         D5 34 171 33 17,
         rn (.store 170 (tp 34) (tp 32)) 0])))
      (.reg [] [
        FB 35 12,
        Ap 12 35 3])))))))))
   (.reg [] [
     FB 36 8,
     Ap 8 36 3])))))))
 (.seq (.reg [] [
   Ce 37 3 173,rn (.store 173 (tp 2) (tp 37)) 0])
 (.ret))))
def nK:RC:=
 .seq (.reg [] [
  rq 2 (.box 173 (tp 0)) 0,rq 4 (.alloc 173) 0])
 (.seq (.seq (.reg [] [
   Ap 8 1 54,EN 9 8 54,rq 10 (.move (ki 0)) 3])
 (.block 0 (.loop (.seq (.reg [] [
   L8 11 10 9])
   (.seq (.cond (tp 11) (.skip)
   (.exit 0))
   (.seq (.block 1 (.seq (.reg [] [
     D5 12 54 8 10,
     Ce 13 12 58,
     rq 6 (.alloc 58) 0,
     rn (.store 58 (tp 6) (tp 13)) 0])
    (.seq (.reg [] [
      Ce 14 2 173,
      rq 15 (.makeFunc (.func 217) #[(tp 14)] #[]) 266,
      AQ 7 15 266])
    (.reg [] [
      Ap 16 7 266,
      Ce 17 6 58,
      rq 18 (.call ⟨.value (tp 16),#[(tp 17)],#[58]⟩) 173,
      rn (.store 173 (tp 2) (tp 18)) 0]))))
   (.reg [] [
     FB 19 10,
     Ap 10 19 3])))))))
 (.seq (.reg [] [
   Ce 20 2 173,rn (.store 173 (tp 4) (tp 20)) 0])
 (.ret)))
def nL:RC:=
 .seq (.reg [] [
  Cz 2 0 3])
 (.seq (.seq (.reg [] [
   Ap 3 0 170,rq 4 (.binOp .eql 170 (tp 3) (.const (.int .u64 0)) 170) 4])
 (.cond (tp 4) (.seq (.reg [] [
   Cz 2 64 3])
  (.ret))
 (.skip)))
 (.seq (.reg [] [
   Ap 5 0 170,Ap 6 0 170,rq 7 (.unOp .neg 170 (tp 6)) 170,rq 8 (.binOp .and 170 (tp 5) (tp 7) 170) 170,rq 9 (.binOp .mul 170 (tp 8) (.const (.int .u64 285870213051353865)) 170) 170,rq 10 (.binOp .shr 170 (tp 9) (.const (.int .u64 58)) 130) 170,rq 11 (.indexAddr 267 (.global 1) (tp 10)) 0,Ce 12 11 5,rq 13 (.convert 5 3 (tp 12)) 3,AQ 2 13 3])
 (.ret)))
def nM:RC:=
 .seq (.reg [] [
  Cz 2 0 27])
 (.seq (.block 0 (.seq (.reg [] [
   Ap 6 0 71,
   EN 7 6 71,
   rq 8 (.binOp .eql 3 (tp 7) (ki 0) 3) 4,
   AQ 5 8 4])
  (.cond (tp 5) (.seq (.reg [] [
    Cz 2 4 27])
   (.ret))
  (.seq (.reg [] [
    Ap 10 0 71,
    EN 11 10 71,
    rq 12 (.binOp .gtr 3 (tp 11) (ki 8) 3) 4,
    Ap 13 12 4,
    DD 14 0 71 13 false,
    rg 15 (.indexAddr 71 (tp 14) (ki 0)) 0 13 false,
    rg 16 (.load 23 (tp 15)) 23 13 false,
    rg 17 (cb .len #[(tp 16)] #[23]) 3 13 false,
    rg 18 (.binOp .gtr 3 (tp 17) (ki 8) 3) 4 13 false,
    rq 19 (.pick (tp 13) (kb true) (tp 18)) 4,
    AQ 9 19 4])
   (.cond (tp 9) (.seq (.reg [] [
     Cz 2 3 27])
    (.ret))
   (.skip))))))
 (.seq (.seq (.reg [] [
   Ap 20 0 71,EN 21 20 71,rq 22 (.move (ki 0)) 3])
 (.block 1 (.loop (.seq (.reg [] [
   L8 23 22 21])
   (.seq (.cond (tp 23) (.skip)
   (.exit 1))
   (.seq (.block 2 (.seq (.reg [] [
     D5 24 71 20 22,
     Ce 25 24 23,
     AQ 4 25 23])
    (.block 3 (.seq (.reg [] [
      Ap 27 4 23,
      EN 28 27 23,
      Ap 29 0 71,
      rq 30 (.indexAddr 71 (tp 29) (ki 0)) 0,
      Ce 31 30 23,
      EN 32 31 23,
      rq 33 (.binOp .neq 3 (tp 28) (tp 32) 3) 4,
      AQ 26 33 4])
     (.cond (tp 26) (.seq (.reg [] [
       Cz 2 5 27])
      (.ret))
     (.seq (.reg [] [
       Ap 35 4 23,
       rq 36 (cf 84 #[(tp 35),(.func 221)] #[23,133]) 4,
       AQ 34 36 4])
      (.cond (tp 34) (.seq (.reg [] [
        Cz 2 1 27])
       (.ret))
      (.skip))))))))
   (.reg [] [
     FB 37 22,
     Ap 22 37 3])))))))
 (.seq (.reg [] [
   Cz 2 0 27])
 (.ret))))
def nN:RC:=
 .seq (.reg [] [
  rq 2 (.assign (.const (.int .u8 0))) 141])
 (.seq (.reg [] [
   Ap 3 0 140,rq 4 (cf 143 #[(tp 3)] #[140]) 3,rq 5 (.binOp .shl 141 (.const (.int .u8 1)) (tp 4) 3) 141,rq 6 (.binOp .sub 141 (tp 5) (.const (.int .u8 1)) 141) 141,AQ 2 6 141])
 (.ret))
def nO:RC:=
 .seq (.reg [] [
  Cz 4 0 3,Cz 5 0 3,rq 6 (.assign (kb false)) 4])
 (.seq (.seq (.reg [] [
   Ap 9 0 140,rq 10 (.nilCheck (tp 9)) 0,DR 11 188 10 0,Ce 12 11 71,EN 13 12 71,rq 14 (.move (ki 0)) 3])
 (.block 0 (.loop (.seq (.reg [] [
   L8 15 14 13])
   (.seq (.cond (tp 15) (.skip)
   (.exit 0))
   (.seq (.block 1 (.seq (.reg [] [
     Ap 16 14 3,
     AQ 7 16 3])
    (.seq (.reg [] [
      Ap 17 7 3,
      FB 18 17,
      AQ 8 18 3])
    (.block 2 (.loop (.seq (.seq (.reg [] [
      Ap 19 8 3,
      Ap 20 0 140,
      rq 21 (.nilCheck (tp 20)) 0,
      DR 22 188 21 0,
      Ce 23 22 71,
      EN 24 23 71,
      rq 25 (.binOp .lss 3 (tp 19) (tp 24) 3) 4])
      (.cond (tp 25) (.skip)
      (.exit 2)))
      (.seq (.block 3 (.seq (.reg [] [
        Ap 28 0 140,
        Ap 29 7 3,
        Ap 30 8 3,
        rq 31 (.nilCheck (tp 28)) 0,
        DR 32 188 31 1,
        D5 33 186 32 29,
        D5 34 185 33 30,
        Ce 35 34 141,
        Ap 36 1 141,
        rq 37 (.binOp .and 141 (tp 35) (tp 36) 141) 141,
        rq 38 (.binOp .eql 141 (tp 37) (.const (.int .u8 0)) 141) 4])
       (.cond (tp 38) (.seq (.reg [] [
         Ap 39 7 3,
         Ap 40 8 3,
         AQ 4 39 3,
         AQ 5 40 3,
         rq 6 (.assign (kb true)) 4])
        (.ret))
       (.skip))))
      (.reg [] [
        Ap 26 8 3,
        FB 27 26,
        AQ 8 27 3]))))))))
   (.reg [] [
     FB 41 14,
     Ap 14 41 3])))))))
 (.seq (.reg [] [
   Cz 4 0 3,Cz 5 0 3,rq 6 (.assign (kb false)) 4])
 (.ret)))
def nP:RC:=
 .seq (.reg [] [
  Cz 4 0 3])
 (.seq (.reg [] [
   Cz 5 1 3])
 (.seq (.seq (.reg [] [
   Ap 8 0 92,Ap 9 1 3,rq 10 (cf 222 #[(tp 8),(tp 9)] #[92,3]) 270,rq 11 (.move (ki 0)) 3])
 (.block 0 (.loop (.seq (.reg [] [
   rq 12 (.binOp .lss 3 (tp 11) (ki 17) 3) 0])
   (.seq (.cond (tp 12) (.skip)
   (.exit 0))
   (.seq (.block 1 (.seq (.reg [] [
     rq 13 (.index 270 (tp 10) (tp 11)) 3,
     AQ 7 13 3])
    (.seq (.reg [] [
      Ap 14 7 3,
      rq 15 (.move (ki 0)) 3])
    (.block 2 (.loop (.seq (.reg [] [
      rq 16 (.binOp .lss 3 (tp 15) (tp 14) 3) 4])
      (.seq (.cond (tp 16) (.skip)
      (.exit 2))
      (.seq (.block 3 (.reg [] [
        Ap 17 5 3,
        Ap 18 0 92,
        rq 19 (.nilCheck (tp 18)) 0,
        DR 20 96 19 0,
        DR 21 36 20 2,
        Ce 22 21 3,
        rq 23 (.binOp .mul 3 (tp 17) (tp 22) 3) 3,
        AQ 5 23 3]))
      (.reg [] [
        FB 24 15,
        Ap 15 24 3])))))))))
   (.reg [] [
     FB 25 11,
     Ap 11 25 3])))))))
 (.seq (.reg [] [
   Ap 26 5 3,AQ 4 26 3])
 (.ret))))
def nQ:RC:=
 .seq (.reg [] [
  Cz 2 0 27])
 (.seq (.block 0 (.seq (.reg [] [
   Ap 4 0 23,
   EN 5 4 23,
   rq 6 (.binOp .eql 3 (tp 5) (ki 0) 3) 4,
   AQ 3 6 4])
  (.cond (tp 3) (.seq (.reg [] [
    Cz 2 4 27])
   (.ret))
  (.seq (.reg [] [
    Ap 8 0 23,
    EN 9 8 23,
    rq 10 (.binOp .gtr 3 (tp 9) (ki 14) 3) 4,
    AQ 7 10 4])
   (.cond (tp 7) (.seq (.reg [] [
     Cz 2 3 27])
    (.ret))
   (.seq (.reg [] [
     Ap 12 0 23,
     rq 13 (cf 84 #[(tp 12),(.func 223)] #[23,133]) 4,
     AQ 11 13 4])
    (.cond (tp 11) (.seq (.reg [] [
      Cz 2 8 27])
     (.ret))
    (.seq (.reg [] [
      Ap 15 0 23,
      rq 16 (cf 46 #[(tp 15)] #[23]) 3,
      rq 17 (.binOp .eql 3 (tp 16) (ki 0) 3) 4,
      AQ 14 17 4])
     (.cond (tp 14) (.seq (.reg [] [
       Cz 2 2 27])
      (.ret))
     (.skip))))))))))
 (.seq (.reg [] [
   Cz 2 0 27])
 (.ret)))
def nR:RC:=
 .seq (.reg [] [
  rq 3 (.box 239 (tp 1)) 0,Cz 4 0 3])
 (.seq (.seq (.reg [] [
   rq 6 (.move (ki 0)) 3])
 (.block 0 (.loop (.seq (.reg [] [
   rq 7 (.binOp .lss 3 (tp 6) (ki 5) 3) 4])
   (.seq (.cond (tp 7) (.skip)
   (.exit 0))
   (.seq (.block 1 (.seq (.reg [] [
     Ap 8 6 3,
     AQ 5 8 3])
    (.seq (.reg [] [
      Ap 9 0 236,
      Ce 10 3 239,
      Ap 11 5 3,
      rq 12 (cf 224 #[(tp 9),(tp 10),(tp 11)] #[236,239,3]) 4])
    (.cond (tp 12) (.seq (.reg [] [
      Ap 13 5 3,
      AQ 4 13 3])
     (.ret))
    (.skip)))))
   (.reg [] [
     FB 14 6,
     Ap 6 14 3])))))))
 (.seq (.reg [] [
   rq 4 (.assign (ki (-1))) 3])
 (.ret)))
def nS:RC:=
 .seq (.reg [] [
  rq 2 (.alloc 239) 0])
 (.seq (.reg [] [
   rq 3 (.alloc 239) 0])
 (.seq (.seq (.reg [] [
   Ap 6 0 23,EN 7 6 23,rq 8 (.move (ki 0)) 3])
 (.block 0 (.loop (.seq (.reg [] [
   L8 9 8 7])
   (.seq (.cond (tp 9) (.skip)
   (.exit 0))
   (.seq (.block 1 (.seq (.reg [] [
     D5 10 23 6 8,
     Ce 11 10 3,
     AQ 5 11 3])
    (.seq (.reg [] [
      Ap 12 5 3])
    (.block 2 (.seq (.reg [] [
      rq 14 (.binOp .eql 3 (tp 12) (ki 0) 3) 4,
      AQ 13 14 4])
     (.cond (tp 13) (.reg [] [
       DR 15 239 3 3,
       Ce 16 15 3,
       FB 17 16,
       DR 18 239 3 3,
       rn (.store 3 (tp 18) (tp 17)) 0])
     (.seq (.reg [] [
       rq 20 (.binOp .eql 3 (tp 12) (ki 1) 3) 4,
       AQ 19 20 4])
      (.cond (tp 19) (.reg [] [
        DR 21 239 3 0,
        Ce 22 21 3,
        FB 23 22,
        DR 24 239 3 0,
        rn (.store 3 (tp 24) (tp 23)) 0])
      (.seq (.reg [] [
        rq 26 (.binOp .eql 3 (tp 12) (ki 2) 3) 4,
        AQ 25 26 4])
       (.cond (tp 25) (.reg [] [
         DR 27 239 3 1,
         Ce 28 27 3,
         FB 29 28,
         DR 30 239 3 1,
         rn (.store 3 (tp 30) (tp 29)) 0])
       (.seq (.reg [] [
         rq 32 (.binOp .eql 3 (tp 12) (ki 3) 3) 4,
         AQ 31 32 4])
        (.cond (tp 31) (.reg [] [
          DR 33 239 3 2,
          Ce 34 33 3,
          FB 35 34,
          DR 36 239 3 2,
          rn (.store 3 (tp 36) (tp 35)) 0])
        (.skip)))))))))))))
   (.reg [] [
     FB 37 8,
     Ap 8 37 3])))))))
 (.seq (.reg [] [
   Ce 38 3 239,rn (.store 239 (tp 2) (tp 38)) 0])
 (.ret))))
def nT:RC:=
 .seq (.reg [] [
  rq 1 (.box 243 (tp 0)) 0,Cz 2 0 3,Cz 3 0 27])
 (.seq (.reg [] [
   Ce 7 1 243,rq 8 (cf 225 #[(tp 7)] #[243]) 277,Ap 6 8 277,EM 9 6 0 276,EM 10 6 1 27,rq 4 (.alloc 276) 0,rn (.store 276 (tp 4) (tp 9)) 0,AQ 5 10 27])
 (.seq (.seq (.reg [] [
   Ap 11 5 27,rq 12 (.binOp .neq 27 (tp 11) (ki 0) 27) 4])
 (.cond (tp 12) (.seq (.reg [] [
   Ap 13 5 27,
   Cz 2 0 3,
   AQ 3 13 27])
  (.ret))
 (.skip)))
 (.seq (.reg [] [
   Ce 14 4 276,rq 15 (cf 226 #[(tp 14)] #[276]) 3,AQ 2 15 3,Cz 3 0 27])
 (.ret))))
def nU:RC:=
 .seq (.reg [] [
  rq 1 (.box 249 (tp 0)) 0,rq 2 (.assign (.const (.slice none 0 0))) 23,Cz 3 0 27])
 (.seq (.reg [] [
   Ce 7 1 249,rq 8 (cf 227 #[(tp 7)] #[249]) 280,Ap 6 8 280,EM 9 6 0 279,EM 10 6 1 27,AQ 4 9 279,AQ 5 10 27])
 (.seq (.seq (.reg [] [
   Ap 11 5 27,rq 12 (.binOp .neq 27 (tp 11) (ki 0) 27) 4])
 (.cond (tp 12) (.seq (.reg [] [
   Ap 13 5 27,
   rq 2 (.assign (.const (.slice none 0 0))) 23,
   AQ 3 13 27])
  (.ret))
 (.skip)))
 (.seq (.reg [] [
   Ap 14 4 279,rq 15 (cf 228 #[(tp 14),(ki 0)] #[279,3]) 0])
 (.seq (.reg [] [
   Ap 16 4 279,rq 17 (.nilCheck (tp 16)) 0,DR 18 284 17 1,Ce 19 18 23,AQ 2 19 23,Cz 3 0 27])
 (.ret)))))
def nV:RC:=
 .seq (.reg [] [
  Ap 10 1 3,AQ 8 10 3])
 (.block 0 (.loop (.block 1 (.seq (.reg [] [
   Ap 11 8 3,
   rq 12 (.binOp .mul 3 (ki 2) (tp 11) 3) 3,
   FB 13 12,
   AQ 9 13 3])
   (.seq (.seq (.reg [] [
     Ap 14 9 3,
     Ap 15 2 3,
     rq 16 (.binOp .geq 3 (tp 14) (tp 15) 3) 4])
   (.cond (tp 16) (.exit 0)
   (.skip)))
   (.seq (.seq (.reg [0, 1, 2, 3, 4, 5, 6, 7, 8, 9, 10, 11, 12, 13, 14, 15, 16, 17, 18, 19] [
     Ap 17 9 3,
     FB 18 17,
     Ap 19 2 3,
     rq 20 (.binOp .lss 3 (tp 18) (tp 19) 3) 4,
     Ap 21 20 4,
     DD 22 0 23 21 true,
     DD 23 3 3 21 true,
     DD 24 9 3 21 true,
     rg 25 (.binOp .add 3 (tp 23) (tp 24) 3) 3 21 true,
     rg 26 (.indexAddr 23 (tp 22) (tp 25)) 0 21 true,
     rg 27 (.load 3 (tp 26)) 3 21 true,
     DD 28 0 23 21 true,
     DD 29 3 3 21 true,
     DD 30 9 3 21 true,
     rg 31 (.binOp .add 3 (tp 29) (tp 30) 3) 3 21 true,
     rg 32 (.binOp .add 3 (tp 31) (ki 1) 3) 3 21 true,
     rg 33 (.indexAddr 23 (tp 28) (tp 32)) 0 21 true,
     rg 34 (.load 3 (tp 33)) 3 21 true,
     rg 35 (cf 125 #[(tp 27),(tp 34)] #[3,3]) 4 21 true,
     rq 36 (.pick (tp 21) (tp 35) (kb false)) 4])
   (.cond (tp 36) (.reg [] [
     Ap 37 9 3,
     FB 38 37,
     AQ 9 38 3])
   (.skip)))
   (.seq (.seq (.reg [0, 1, 2, 3, 4, 5, 6, 7, 8, 9, 10, 11, 12, 13] [
     Ap 39 0 23,
     Ap 40 3 3,
     Ap 41 8 3,
     rq 42 (.binOp .add 3 (tp 40) (tp 41) 3) 3,
     D5 43 23 39 42,
     Ce 44 43 3,
     Ap 45 0 23,
     Ap 46 3 3,
     Ap 47 9 3,
     rq 48 (.binOp .add 3 (tp 46) (tp 47) 3) 3,
     D5 49 23 45 48,
     Ce 50 49 3,
     rq 51 (cf 125 #[(tp 44),(tp 50)] #[3,3]) 4,
     rq 52 (.unOp .not 4 (tp 51)) 4])
   (.cond (tp 52) (.ret)
   (.skip)))
   (.seq (.reg [0, 1, 2, 3, 4, 5, 6, 7, 8, 9, 10, 11, 12, 13, 14, 15, 16, 17, 18, 19, 20, 21, 22, 23] [
     Ap 53 0 23,
     Ap 54 3 3,
     Ap 55 8 3,
     rq 56 (.binOp .add 3 (tp 54) (tp 55) 3) 3,
     Ap 57 0 23,
     Ap 58 3 3,
     Ap 59 9 3,
     rq 60 (.binOp .add 3 (tp 58) (tp 59) 3) 3,
     Ap 61 0 23,
     Ap 62 3 3,
     Ap 63 9 3,
     rq 64 (.binOp .add 3 (tp 62) (tp 63) 3) 3,
     D5 65 23 61 64,
     Ce 66 65 3,
     Ap 67 0 23,
     Ap 68 3 3,
     Ap 69 8 3,
     rq 70 (.binOp .add 3 (tp 68) (tp 69) 3) 3,
     D5 71 23 67 70,
     Ce 72 71 3,
     D5 73 23 53 56,
     rn (.store 3 (tp 73) (tp 66)) 0,
     D5 74 23 57 60,
     rn (.store 3 (tp 74) (tp 72)) 0])
   (.reg [] [
     Ap 75 9 3,
     AQ 8 75 3])))))))))
def nW:RC:=
 .seq (.reg [] [
  rq 2 (.assign (.const (.int .u64 0))) 130])
 (.seq (.reg [] [
   Ap 3 0 3,rq 4 (.convert 3 130 (tp 3)) 130,rq 5 (cf 82 #[(tp 4)] #[130]) 3,rq 6 (.binOp .shl 130 (.const (.int .u64 1)) (tp 5) 3) 130,AQ 2 6 130])
 (.ret))
def nX:RC:=
 .seq (.reg [] [
  rq 2 (.assign (.const (.int .u64 0))) 170])
 (.seq (.reg [0, 1, 2, 3, 4, 5, 6, 7, 8, 9] [
   Ap 3 0 285,rq 4 (.nilCheck (tp 3)) 0,Ce 5 4 250,Ap 6 0 285,rq 7 (.nilCheck (tp 6)) 0,Ce 8 7 250,rq 9 (.binOp .shl 250 (tp 8) (.const (.int .u64 13)) 130) 250,rq 10 (.binOp .xor 250 (tp 5) (tp 9) 250) 250,rq 11 (.nilCheck (tp 3)) 0,rn (.store 250 (tp 11) (tp 10)) 0])
 (.seq (.reg [0, 1, 2, 3, 4, 5, 6, 7, 8, 9] [
   Ap 12 0 285,rq 13 (.nilCheck (tp 12)) 0,Ce 14 13 250,Ap 15 0 285,rq 16 (.nilCheck (tp 15)) 0,Ce 17 16 250,rq 18 (.binOp .shr 250 (tp 17) (.const (.int .u64 7)) 130) 250,rq 19 (.binOp .xor 250 (tp 14) (tp 18) 250) 250,rq 20 (.nilCheck (tp 12)) 0,rn (.store 250 (tp 20) (tp 19)) 0])
 (.seq (.reg [0, 1, 2, 3, 4, 5, 6, 7, 8, 9] [
   Ap 21 0 285,rq 22 (.nilCheck (tp 21)) 0,Ce 23 22 250,Ap 24 0 285,rq 25 (.nilCheck (tp 24)) 0,Ce 26 25 250,rq 27 (.binOp .shl 250 (tp 26) (.const (.int .u64 17)) 130) 250,rq 28 (.binOp .xor 250 (tp 23) (tp 27) 250) 250,rq 29 (.nilCheck (tp 21)) 0,rn (.store 250 (tp 29) (tp 28)) 0])
 (.seq (.reg [] [
   Ap 30 0 285,rq 31 (.nilCheck (tp 30)) 0,Ce 32 31 250,AQ 2 32 170])
 (.ret)))))
def nY:RC:=
 .seq (.reg [] [
  Cz 6 0 3])
 (.seq (.reg [] [
   Ap 7 0 23,Ap 8 1 3,rq 9 (.binOp .sub 3 (tp 8) (ki 1) 3) 3,Ap 10 1 3,Ap 11 1 3,FB 12 11,Ap 13 2 254,rq 14 (cf 196 #[(tp 7),(tp 9),(tp 10),(tp 12),(tp 13)] #[23,3,3,3,254]) 3,AQ 6 14 3])
 (.ret))
def nZ:RC:=
 .seq (.reg [] [
  Cz 10 0 3])
 (.seq (.reg [] [
   Ap 12 0 23,Ap 13 1 3,Ap 14 2 3,Ap 15 4 254,rq 16 (cf 229 #[(tp 12),(tp 13),(tp 14),(tp 15)] #[23,3,3,254]) 286,Ap 11 16 286,EM 17 11 0 3,EM 18 11 1 3,AQ 1 17 3,AQ 2 18 3])
 (.seq (.reg [] [
   Ap 20 0 23,Ap 21 2 3,Ap 22 3 3,Ap 23 4 254,rq 24 (cf 229 #[(tp 20),(tp 21),(tp 22),(tp 23)] #[23,3,3,254]) 286,Ap 19 24 286,EM 25 19 0 3,EM 26 19 1 3,AQ 2 25 3,AQ 3 26 3])
 (.seq (.reg [] [
   Ap 28 0 23,Ap 29 1 3,Ap 30 2 3,Ap 31 4 254,rq 32 (cf 229 #[(tp 28),(tp 29),(tp 30),(tp 31)] #[23,3,3,254]) 286,Ap 27 32 286,EM 33 27 0 3,EM 34 27 1 3,AQ 1 33 3,AQ 2 34 3])
 (.seq (.reg [] [
   Ap 35 2 3,AQ 10 35 3])
 (.ret)))))
def oD:RC:=
 .seq (.reg [] [
  Ap 4 0 23,EN 5 4 23,rq 6 (.binOp .sub 3 (tp 5) (ki 1) 3) 3,Cz 2 0 3,AQ 3 6 3])
 (.block 0 (.loop (.seq (.seq (.reg [] [
   Ap 7 2 3,
   Ap 8 3 3,
   rq 9 (.binOp .lss 3 (tp 7) (tp 8) 3) 4])
   (.cond (tp 9) (.skip)
   (.exit 0)))
   (.seq (.block 1 (.reg [0, 1, 2, 3, 4, 5, 6, 7, 8, 9, 10, 11, 12, 13, 14, 15] [
     Ap 14 0 23,
     Ap 15 2 3,
     Ap 16 0 23,
     Ap 17 3 3,
     Ap 18 0 23,
     Ap 19 3 3,
     D5 20 23 18 19,
     Ce 21 20 3,
     Ap 22 0 23,
     Ap 23 2 3,
     D5 24 23 22 23,
     Ce 25 24 3,
     D5 26 23 14 15,
     rn (.store 3 (tp 26) (tp 21)) 0,
     D5 27 23 16 17,
     rn (.store 3 (tp 27) (tp 25)) 0]))
   (.reg [] [
     Ap 10 2 3,
     FB 11 10,
     Ap 12 3 3,
     rq 13 (.binOp .sub 3 (tp 12) (ki 1) 3) 3,
     AQ 2 11 3,
     AQ 3 13 3])))))
def oF:RC:=
 .seq (.reg [] [
  rq 4 (.assign (.const (.slice none 0 0))) 23])
 (.seq (.reg [] [
   Ap 8 0 23,EN 9 8 23,rq 10 (.makeSlice 23 (ki 0) (tp 9)) 23,AQ 5 10 23])
 (.seq (.seq (.reg [] [
   Ap 11 1 3,rq 12 (.move (ki 0)) 3])
 (.block 0 (.loop (.seq (.reg [] [
   rq 13 (.binOp .lss 3 (tp 12) (tp 11) 3) 4])
   (.seq (.cond (tp 13) (.skip)
   (.exit 0))
   (.seq (.block 1 (.seq (.reg [] [
     Ap 14 12 3,
     AQ 6 14 3])
    (.seq (.reg [] [
      Ap 15 1 3,
      rq 16 (.binOp .sub 3 (tp 15) (ki 1) 3) 3,
      AQ 7 16 3])
    (.block 2 (.loop (.seq (.seq (.reg [] [
      Ap 17 7 3,
      rq 18 (.binOp .geq 3 (tp 17) (ki 0) 3) 4])
      (.cond (tp 18) (.skip)
      (.exit 2)))
      (.seq (.block 3 (.reg [] [
        Ap 21 5 23,
        Ap 22 0 23,
        Ap 23 7 3,
        Ap 24 1 3,
        rq 25 (.binOp .mul 3 (tp 23) (tp 24) 3) 3,
        Ap 26 6 3,
        rq 27 (.binOp .add 3 (tp 25) (tp 26) 3) 3,
        D5 28 23 22 27,
        Ce 29 28 3,
        rq 30 (.buildSlice 23 1 #[(0,(tp 29))]) 23,
        rq 31 (cb .append #[(tp 21),(tp 30)] #[23,23]) 23,
        AQ 5 31 23]))
      (.reg [] [
        Ap 19 7 3,
        rq 20 (.binOp .sub 3 (tp 19) (ki 1) 3) 3,
        AQ 7 20 3]))))))))
   (.reg [] [
     FB 32 12,
     Ap 12 32 3])))))))
 (.seq (.reg [] [
   Ap 33 5 23,AQ 4 33 23])
 (.ret))))
def oG:RC:=
 .seq (.reg [] [
  rq 1 (.box 216 (tp 0)) 0,rq 2 (.assign (.const (.slice none 0 0))) 219,rq 3 (.assign (.const (.int .u8 0))) 220,Cz 4 0 27])
 (.seq (.seq (.reg [] [
   DR 10 216 1 0,Ce 11 10 166,rq 12 (cf 233 #[(tp 11)] #[166]) 27,AQ 5 12 27])
 (.seq (.reg [] [
   Ap 13 5 27,rq 14 (.binOp .neq 27 (tp 13) (ki 0) 27) 4])
 (.cond (tp 14) (.seq (.reg [] [
   Ap 15 5 27,
   rq 2 (.assign (.const (.slice none 0 0))) 219,
   rq 3 (.assign (.const (.int .u8 0))) 220,
   AQ 4 15 27])
  (.ret))
 (.skip))))
 (.seq (.reg [] [
   rq 6 (.assign (.const (.int .u8 0))) 220])
 (.seq (.reg [] [
   rq 7 (.assign (ki (-1))) 3])
 (.seq (.seq (.reg [] [
   DR 16 216 1 1,Ce 17 16 23,EN 18 17 23,rq 19 (.move (ki 0)) 3])
 (.block 0 (.loop (.seq (.reg [] [
   L8 20 19 18])
   (.seq (.cond (tp 20) (.skip)
   (.exit 0))
   (.seq (.block 1 (.seq (.reg [] [
     D5 21 23 17 19,
     Ce 22 21 3,
     AQ 9 22 3])
    (.seq (.block 2 (.seq (.reg [] [
      Ap 24 9 3,
      rq 25 (.binOp .lss 3 (tp 24) (ki 0) 3) 4,
      Ap 26 25 4,
      DD 27 9 3 26 false,
      rg 28 (.fieldAddr 216 (tp 1) 0) 0 26 false,
      rg 29 (.fieldAddr 166 (tp 28) 0) 0 26 false,
      rg 30 (.load 3 (tp 29)) 3 26 false,
      rg 31 (.binOp .geq 3 (tp 27) (tp 30) 3) 4 26 false,
      rq 32 (.pick (tp 26) (kb true) (tp 31)) 4,
      AQ 23 32 4])
     (.cond (tp 23) (.seq (.reg [] [
       rq 2 (.assign (.const (.slice none 0 0))) 219,
       rq 3 (.assign (.const (.int .u8 0))) 220,
       Cz 4 2 27])
      (.ret))
     (.seq (.reg [] [
       Ap 34 9 3,
       Ap 35 7 3,
       rq 36 (.binOp .leq 3 (tp 34) (tp 35) 3) 4,
       AQ 33 36 4])
      (.cond (tp 33) (.seq (.reg [] [
        rq 2 (.assign (.const (.slice none 0 0))) 219,
        rq 3 (.assign (.const (.int .u8 0))) 220,
        Cz 4 7 27])
       (.ret))
      (.skip))))))
    (.seq (.reg [] [
      Ap 37 6 220,
      Ap 38 9 3,
      rq 39 (.binOp .shl 220 (.const (.int .u8 1)) (tp 38) 3) 220,
      rq 40 (.binOp .or 220 (tp 37) (tp 39) 220) 220,
      AQ 6 40 220])
    (.reg [] [
      Ap 41 9 3,
      AQ 7 41 3])))))
   (.reg [] [
     FB 42 19,
     Ap 19 42 3])))))))
 (.seq (.reg [] [
   DR 43 216 1 0,Ce 44 43 166,rq 45 (cf 234 #[(tp 44)] #[166]) 219,Ap 46 6 220,AQ 2 45 219,AQ 3 46 220,Cz 4 0 27])
 (.ret))))))
def oH:RC:=
 .seq (.reg [] [
  rq 8 (.assign (.const (.int .u8 0))) 220])
 (.seq (.reg [] [
   rq 9 (.assign (.const (.int .u8 0))) 220])
 (.seq (.seq (.reg [] [
   Ap 11 2 3,rq 12 (.move (ki 0)) 3])
 (.block 0 (.loop (.seq (.reg [] [
   rq 13 (.binOp .lss 3 (tp 12) (tp 11) 3) 4])
   (.seq (.cond (tp 13) (.skip)
   (.exit 0))
   (.seq (.block 1 (.seq (.reg [] [
     Ap 14 12 3,
     AQ 10 14 3])
    (.seq (.reg [] [
      Ap 15 0 219,
      Ap 16 1 3,
      Ap 17 10 3,
      D5 18 219 15 16,
      D5 19 295 18 17,
      Ce 20 19 220,
      Ap 21 3 220,
      rq 22 (.binOp .andNot 220 (tp 20) (tp 21) 220) 220,
      rq 23 (.binOp .eql 220 (tp 22) (.const (.int .u8 0)) 220) 4])
    (.cond (tp 23) (.reg [] [
      Ap 24 9 220,
      Ap 25 10 3,
      rq 26 (.binOp .shl 220 (.const (.int .u8 1)) (tp 25) 3) 220,
      rq 27 (.binOp .or 220 (tp 24) (tp 26) 220) 220,
      AQ 9 27 220])
    (.skip)))))
   (.reg [] [
     FB 28 12,
     Ap 12 28 3])))))))
 (.seq (.reg [] [
   Ap 29 9 220,AQ 8 29 220])
 (.ret))))
def oI:RC:=
 .seq (.reg [] [
  rq 2 (.assign (.const (.slice none 0 0))) 23])
 (.seq (.reg [] [
   rq 3 (.assign (.const (.slice none 0 0))) 23])
 (.seq (.seq (.reg [] [
   rq 5 (.move (ki 0)) 3])
 (.block 0 (.loop (.seq (.reg [] [
   rq 6 (.binOp .lss 3 (tp 5) (ki 8) 3) 4])
   (.seq (.cond (tp 6) (.skip)
   (.exit 0))
   (.seq (.block 1 (.seq (.reg [] [
     Ap 7 5 3,
     AQ 4 7 3])
    (.seq (.reg [] [
      Ap 8 0 220,
      Ap 9 4 3,
      rq 10 (cf 235 #[(tp 8),(tp 9)] #[220,3]) 4])
    (.cond (tp 10) (.reg [] [
      Ap 11 3 23,
      Ap 12 4 3,
      rq 13 (.buildSlice 23 1 #[(0,(tp 12))]) 23,
      rq 14 (cb .append #[(tp 11),(tp 13)] #[23,23]) 23,
      AQ 3 14 23])
    (.skip)))))
   (.reg [] [
     FB 15 5,
     Ap 5 15 3])))))))
 (.seq (.reg [] [
   Ap 16 3 23,AQ 2 16 23])
 (.ret))))
def oJ:RC:=
 .seq (.reg [] [
  rq 2 (.box 173 (tp 0)) 0,rq 3 (.box 58 (tp 1)) 0,rq 4 (.alloc 173) 0])
 (.seq (.seq (.reg [] [
   rq 8 (.move (ki 0)) 3])
 (.block 0 (.loop (.seq (.reg [] [
   rq 9 (.binOp .lss 3 (tp 8) (ki 2) 3) 0])
   (.seq (.cond (tp 9) (.skip)
   (.exit 0))
   (.seq (.block 1 (.seq (.reg [] [
     Ap 10 8 3,
     AQ 5 10 3])
    (.seq (.reg [0, 1, 2, 3, 4, 5, 6, 7, 8, 9, 10, 11, 12, 13] [
      rq 11 (.indexAddr 58 (tp 3) (ki 0)) 0,
      Ce 12 11 3,
      Ap 13 5 3,
      D5 14 173 2 12,
      D5 15 171 14 13,
      Ce 16 15 170,
      rq 17 (.indexAddr 58 (tp 3) (ki 1)) 0,
      Ce 18 17 3,
      Ap 19 5 3,
      D5 20 173 2 18,
      D5 21 171 20 19,
      Ce 22 21 170,
      AQ 6 16 170,
      AQ 7 22 170])
    (.reg [0, 1, 2, 3, 4, 5, 6, 7, 8, 9, 10, 11, 12, 13, 15, 14, 16, 17] [
      rq 23 (.indexAddr 58 (tp 3) (ki 0)) 0,
      Ce 24 23 3,
      Ap 25 5 3,
      rq 26 (.indexAddr 58 (tp 3) (ki 1)) 0,
      Ce 27 26 3,
      Ap 28 5 3,
      Ap 29 6 170,
      Ap 30 7 170,
      rq 31 (.binOp .and 170 (tp 29) (tp 30) 170) 170,
      Ap 32 6 170,
      Ap 33 7 170,
      rq 34 (.binOp .or 170 (tp 32) (tp 33) 170) 170,
      D5 35 173 2 24,
      D5 36 171 35 25,
      D5 37 173 2 27,
      ⟨none,.store 170 (tp 36) (tp 31),0,none,[(tp 26)]⟩,
      D5 38 171 37 28,
      rn (.store 170 (tp 38) (tp 34)) 0]))))
   (.reg [] [
     FB 39 8,
     Ap 8 39 3])))))))
 (.seq (.reg [] [
   Ce 40 2 173,rn (.store 173 (tp 4) (tp 40)) 0])
 (.ret)))
def oK:RC:=
 .seq (.reg [] [
  rq 2 (.assign (kb false)) 4])
 (.seq (.reg [] [
   Ap 3 0 3,rq 4 (.binOp .lss 3 (tp 3) (ki 0) 3) 4,Ap 5 4 4,DD 6 0 3 5 false,rg 7 (.binOp .gtr 3 (tp 6) (ki 9) 3) 4 5 false,rq 8 (.pick (tp 5) (kb true) (tp 7)) 4,AQ 2 8 4])
 (.ret))
def oL:RC:=
 .seq (.reg [] [
  rq 4 (.alloc 270) 0])
 (.seq (.reg [] [
   rq 5 (.assign (.const (.int .u16 0))) 53])
 (.seq (.seq (.reg [] [
   Ap 9 0 92,rq 10 (.nilCheck (tp 9)) 0,DR 11 96 10 1,Ce 12 11 71,Ap 13 1 3,D5 14 71 12 13,Ce 15 14 23,EN 16 15 23,rq 17 (.move (ki 0)) 3])
 (.block 0 (.loop (.seq (.reg [] [
   L8 18 17 16])
   (.seq (.cond (tp 18) (.skip)
   (.exit 0))
   (.seq (.block 1 (.seq (.reg [] [
     Ap 19 17 3,
     AQ 6 19 3])
    (.seq (.reg [] [
      Cz 7 0 3])
    (.seq (.seq (.reg [] [
      Ap 20 6 3,
      AQ 8 20 3])
    (.block 2 (.loop (.seq (.seq (.reg [] [
      Ap 21 5 53,
      Ap 22 8 3,
      rq 23 (.binOp .shr 53 (tp 21) (tp 22) 3) 53,
      rq 24 (.binOp .and 53 (tp 23) (.const (.int .u16 1)) 53) 53,
      rq 25 (.binOp .eql 53 (tp 24) (.const (.int .u16 0)) 53) 4])
      (.cond (tp 25) (.skip)
      (.exit 2)))
      (.seq (.block 3 (.seq (.reg [] [
        Ap 36 5 53,
        Ap 37 8 3,
        rq 38 (.binOp .shl 53 (.const (.int .u16 1)) (tp 37) 3) 53,
        rq 39 (.binOp .or 53 (tp 36) (tp 38) 53) 53,
        AQ 5 39 53])
       (.reg [] [
         Ap 40 7 3,
         FB 41 40,
         AQ 7 41 3])))
      (.reg [] [
        Ap 26 0 92,
        rq 27 (.nilCheck (tp 26)) 0,
        DR 28 96 27 1,
        Ce 29 28 71,
        Ap 30 1 3,
        D5 31 71 29 30,
        Ce 32 31 23,
        Ap 33 8 3,
        D5 34 23 32 33,
        Ce 35 34 3,
        AQ 8 35 3]))))))
    (.reg [] [
      Ap 42 7 3,
      D5 43 270 4 42,
      Ce 44 43 3,
      FB 45 44,
      D5 46 270 4 42,
      rn (.store 3 (tp 46) (tp 45)) 0])))))
   (.reg [] [
     FB 47 17,
     Ap 17 47 3])))))))
 (.seq (.reg [] [
   rq 48 (.indexAddr 270 (tp 4) (ki 0)) 0,rn (.store 3 (tp 48) (ki 0)) 0])
 (.seq (.reg [] [
   Ce 49 4 270,rn (.store 270 (tp 4) (tp 49)) 0])
 (.ret)))))
def oM:RC:=
 .seq (.reg [] [
  rq 2 (.assign (kb false)) 4])
 (.seq (.reg [] [
   Ap 3 0 3,rq 4 (.binOp .lss 3 (tp 3) (ki 0) 3) 4,Ap 5 4 4,DD 6 0 3 5 false,rg 7 (.binOp .gtr 3 (tp 6) (ki 3) 3) 4 5 false,rq 8 (.pick (tp 5) (kb true) (tp 7)) 4,AQ 2 8 4])
 (.ret))
def oN:RC:=
 .seq (.reg [] [
  rq 4 (.box 239 (tp 1)) 0,rq 6 (.assign (kb false)) 4])
 (.seq (.block 0 (.seq (.reg [] [
   Ce 11 4 239,
   rq 12 (cf 241 #[(tp 11)] #[239]) 3,
   rq 13 (.binOp .leq 3 (tp 12) (ki 1) 3) 4,
   AQ 10 13 4])
  (.cond (tp 10) (.seq (.reg [] [
    rq 6 (.assign (kb true)) 4])
   (.ret))
  (.seq (.reg [] [
    Ap 15 2 3,
    rq 16 (.binOp .eql 3 (tp 15) (ki 0) 3) 4,
    Ap 17 16 4,
    rg 18 (.load 239 (tp 4)) 239 17 false,
    rg 19 (cf 241 #[(tp 18)] #[239]) 3 17 false,
    DD 20 2 3 17 false,
    rg 21 (cf 242 #[(tp 20)] #[3]) 3 17 false,
    rg 22 (.binOp .gtr 3 (tp 19) (tp 21) 3) 4 17 false,
    rq 23 (.pick (tp 17) (kb true) (tp 22)) 4,
    AQ 14 23 4])
   (.cond (tp 14) (.seq (.reg [] [
     rq 6 (.assign (kb false)) 4])
    (.ret))
   (.skip))))))
 (.seq (.seq (.reg [] [
   Ap 25 0 236,Ce 26 4 239,Ap 27 2 3,rq 28 (.build 301 #[(0,(tp 26)),(1,(tp 27))]) 301,rq 29 (.lookup 236 (tp 25) (tp 28) true) 299,Ap 24 29 299,EM 30 24 0 4,EM 31 24 1 4,AQ 7 30 4,AQ 8 31 4])
 (.seq (.reg [] [
   Ap 32 8 4])
 (.cond (tp 32) (.seq (.reg [] [
   Ap 33 7 4,
   AQ 6 33 4])
  (.ret))
 (.skip))))
 (.seq (.reg [] [
   Ap 34 0 236,Ce 35 4 239,Ap 36 2 3,rq 37 (cf 243 #[(tp 34),(tp 35),(tp 36)] #[236,239,3]) 4,AQ 9 37 4])
 (.seq (.reg [] [
   Ap 38 0 236,Ce 39 4 239,Ap 40 2 3,rq 41 (.build 301 #[(0,(tp 39)),(1,(tp 40))]) 301,Ap 42 9 4,rn (.mapUpdate 236 (tp 38) (tp 41) (tp 42)) 0])
 (.seq (.reg [] [
   Ap 43 9 4,AQ 6 43 4])
 (.ret))))))
def oO:RC:=
 .seq (.reg [] [
  rq 1 (.box 243 (tp 0)) 0,rq 2 (.alloc 276) 0,Cz 3 0 27])
 (.seq (.seq (.reg [] [
   Ce 5 1 243,rq 6 (cf 244 #[(tp 5)] #[243]) 27,AQ 4 6 27])
 (.seq (.reg [] [
   Ap 7 4 27,rq 8 (.binOp .neq 27 (tp 7) (ki 0) 27) 4])
 (.cond (tp 8) (.seq (.reg [] [
   rq 9 (.build 276 #[]) 276,
   Ap 10 4 27,
   rn (.store 276 (tp 2) (tp 9)) 0,
   AQ 3 10 27])
  (.ret))
 (.skip))))
 (.seq (.reg [0, 1, 2, 3, 4, 5, 6, 8, 9, 10, 11, 12, 13, 16, 17, 18, 19, 20, 21, 22, 7, 14, 15, 23, 24, 25] [
   Ce 11 1 243,DR 12 243 1 2,Ce 13 12 3,DR 14 243 1 3,Ce 15 14 3,DR 16 243 1 1,Ce 17 16 3,DR 19 243 1 3,Ce 20 19 3,DR 21 243 1 2,Ce 22 21 3,DR 23 243 1 1,Ce 24 23 3,DR 27 243 1 0,Ce 28 27 3,DR 29 243 1 1,Ce 30 29 3,rq 31 (.binOp .mul 3 (tp 28) (tp 30) 3) 3,rq 32 (.binOp .shl 273 (.const (.int .u64 1)) (tp 31) 3) 273,rq 33 (.binOp .sub 273 (tp 32) (.const (.int .u64 1)) 273) 273,
   ⟨(some 18),cf 245 #[(tp 13),(tp 15),(tp 17)] #[3,3,3],273,none,[(tp 29),(tp 27),(tp 23),(tp 21),(tp 19),(tp 1)]⟩,
   ⟨(some 25),cf 245 #[(tp 20),(tp 22),(tp 24)] #[3,3,3],273,none,[(tp 29),(tp 27),(tp 1)]⟩,rq 26 (.build 274 #[(0,(tp 18)),(1,(tp 25))]) 274,rq 34 (.build 276 #[(0,(tp 11)),(1,(tp 26)),(2,(tp 33))]) 276,rn (.store 276 (tp 2) (tp 34)) 0,Cz 3 0 27])
 (.ret)))
def oP:RC:=
 .seq (.reg [] [
  rq 1 (.box 276 (tp 0)) 0,Cz 2 0 3])
 (.seq (.reg [] [
   Ce 3 1 276,rq 4 (.makeMap 305 none) 305,rq 5 (.build 307 #[(0,(tp 4))]) 307,rq 6 (cf 246 #[(tp 3),(.const (.int .u64 0)),(tp 5)] #[276,273,307]) 3,AQ 2 6 3])
 (.ret))
def oQ:RC:=
 .seq (.reg [] [
  rq 1 (.box 249 (tp 0)) 0,rq 2 (.assign (.const (.pointer none))) 279,Cz 3 0 27])
 (.scope (.seq (.seq (.reg [] [
   Ce 15 1 249,
   rq 16 (cf 247 #[(tp 15)] #[249]) 27,
   AQ 4 16 27])
  (.seq (.reg [] [
    Ap 17 4 27,
    rq 18 (.binOp .neq 27 (tp 17) (ki 0) 27) 4])
  (.cond (tp 18) (.seq (.reg [] [
    Ap 19 4 27,
    rq 2 (.assign (.const (.pointer none))) 279,
    AQ 3 19 27])
   (.ret))
  (.skip))))
  (.seq (.reg [] [
    Ce 20 1 249,
    rq 21 (.build 284 #[(0,(tp 20))]) 284,
    rq 22 (.box 284 (tp 21)) 279,
    AQ 5 22 279])
  (.seq (.seq (.reg [] [
    DR 23 249 1 1,
    Ce 24 23 247,
    EN 25 24 247,
    rq 26 (.move (ki 0)) 3])
  (.block 0 (.loop (.seq (.reg [] [
    L8 27 26 25])
    (.seq (.cond (tp 27) (.skip)
    (.exit 0))
    (.seq (.block 1 (.seq (.reg [] [
      D5 28 247 24 26,
      Ce 29 28 246,
      rq 7 (.alloc 246) 0,
      rn (.store 246 (tp 7) (tp 29)) 0])
     (.reg [0, 1, 2, 3, 4, 5, 6, 7, 8, 9, 10, 11] [
       Ap 30 5 279,
       Ap 31 5 279,
       rq 32 (.nilCheck (tp 31)) 0,
       DR 33 284 32 1,
       Ce 34 33 23,
       DR 35 246 7 2,
       Ce 36 35 3,
       rq 37 (.buildSlice 23 1 #[(0,(tp 36))]) 23,
       rq 38 (cb .append #[(tp 34),(tp 37)] #[23,23]) 23,
       rq 39 (.nilCheck (tp 30)) 0,
       DR 40 284 39 1,
       rn (.store 23 (tp 40) (tp 38)) 0])))
    (.reg [] [
      FB 41 26,
      Ap 26 41 3])))))))
  (.seq (.reg [] [
    rq 8 (.assign (.func 248)) 133])
  (.seq (.label 0)
  (.block 2 (.loop (.block 3 (.seq (.reg [] [
    Ap 42 5 279,
    rq 43 (cf 249 #[(tp 42)] #[279]) 23,
    AQ 9 43 23])
    (.seq (.seq (.reg [] [
      Ap 44 9 23,
      rq 45 (cf 84 #[(tp 44),(.func 250)] #[23,133]) 4,
      rq 46 (.unOp .not 4 (tp 45)) 4])
    (.cond (tp 46) (.seq (.reg [] [
      Ap 47 5 279,
      AQ 2 47 279,
      Cz 3 0 27])
     (.ret))
    (.skip)))
    (.seq (.seq (.reg [] [
      Ap 48 9 23,
      EN 49 48 23,
      rq 50 (.move (ki 0)) 3])
    (.block 4 (.loop (.seq (.reg [] [
      L8 51 50 49])
      (.seq (.cond (tp 51) (.skip)
      (.exit 4))
      (.seq (.block 5 (.seq (.reg [] [
        Ap 52 50 3,
        D5 53 23 48 50,
        Ce 54 53 3,
        AQ 10 52 3,
        AQ 11 54 3])
       (.seq (.reg [] [
         Ap 55 9 23,
         EN 56 55 23,
         rq 57 (.move (ki 0)) 3])
       (.block 6 (.loop (.seq (.reg [] [
         L8 58 57 56])
         (.seq (.cond (tp 58) (.skip)
         (.exit 6))
         (.seq (.block 7 (.seq (.reg [] [
           Ap 59 57 3,
           D5 60 23 55 57,
           Ce 61 60 3,
           AQ 12 59 3,
           AQ 13 61 3])
          (.seq (.seq (.reg [] [
            Ap 62 11 3,
            rq 63 (.binOp .leq 3 (tp 62) (ki 0) 3) 4,
            Ap 64 63 4,
            DD 65 13 3 64 false,
            rg 66 (.binOp .geq 3 (tp 65) (ki 0) 3) 4 64 false,
            rq 67 (.pick (tp 64) (kb true) (tp 66)) 4])
          (.cond (tp 67) (.exit 7)
          (.skip)))
          (.seq (.reg [] [
            Ap 68 5 279,
            Ap 69 10 3,
            Ap 70 12 3,
            Ap 71 8 133,
            rq 72 (cf 251 #[(tp 68),(tp 69),(tp 70),(tp 71)] #[279,3,3,133]) 309,
            AQ 14 72 309])
          (.seq (.reg [] [
            Ap 73 14 309,
            rq 74 (.binOp .neq 309 (tp 73) (.const (.map none)) 309) 4])
          (.cond (tp 74) (.seq (.reg [] [
            Ap 75 5 279,
            Ap 76 14 309,
            rq 77 (cf 252 #[(tp 75),(tp 76)] #[279,309]) 0])
           (.exit 3))
          (.skip)))))))
         (.reg [] [
           FB 78 57,
           Ap 57 78 3])))))))))
      (.reg [] [
        FB 79 50,
        Ap 50 79 3])))))))
    (.seq (.reg [] [
      rq 2 (.assign (.const (.pointer none))) 279,
      Cz 3 12 27])
    (.ret)))))))))))))
 0 (.seq (.skip)
  (.block 2 (.loop (.block 3 (.seq (.reg [] [
    Ap 42 5 279,
    rq 43 (cf 249 #[(tp 42)] #[279]) 23,
    AQ 9 43 23])
    (.seq (.seq (.reg [] [
      Ap 44 9 23,
      rq 45 (cf 84 #[(tp 44),(.func 250)] #[23,133]) 4,
      rq 46 (.unOp .not 4 (tp 45)) 4])
    (.cond (tp 46) (.seq (.reg [] [
      Ap 47 5 279,
      AQ 2 47 279,
      Cz 3 0 27])
     (.ret))
    (.skip)))
    (.seq (.seq (.reg [] [
      Ap 48 9 23,
      EN 49 48 23,
      rq 50 (.move (ki 0)) 3])
    (.block 4 (.loop (.seq (.reg [] [
      L8 51 50 49])
      (.seq (.cond (tp 51) (.skip)
      (.exit 4))
      (.seq (.block 5 (.seq (.reg [] [
        Ap 52 50 3,
        D5 53 23 48 50,
        Ce 54 53 3,
        AQ 10 52 3,
        AQ 11 54 3])
       (.seq (.reg [] [
         Ap 55 9 23,
         EN 56 55 23,
         rq 57 (.move (ki 0)) 3])
       (.block 6 (.loop (.seq (.reg [] [
         L8 58 57 56])
         (.seq (.cond (tp 58) (.skip)
         (.exit 6))
         (.seq (.block 7 (.seq (.reg [] [
           Ap 59 57 3,
           D5 60 23 55 57,
           Ce 61 60 3,
           AQ 12 59 3,
           AQ 13 61 3])
          (.seq (.seq (.reg [] [
            Ap 62 11 3,
            rq 63 (.binOp .leq 3 (tp 62) (ki 0) 3) 4,
            Ap 64 63 4,
            DD 65 13 3 64 false,
            rg 66 (.binOp .geq 3 (tp 65) (ki 0) 3) 4 64 false,
            rq 67 (.pick (tp 64) (kb true) (tp 66)) 4])
          (.cond (tp 67) (.exit 7)
          (.skip)))
          (.seq (.reg [] [
            Ap 68 5 279,
            Ap 69 10 3,
            Ap 70 12 3,
            Ap 71 8 133,
            rq 72 (cf 251 #[(tp 68),(tp 69),(tp 70),(tp 71)] #[279,3,3,133]) 309,
            AQ 14 72 309])
          (.seq (.reg [] [
            Ap 73 14 309,
            rq 74 (.binOp .neq 309 (tp 73) (.const (.map none)) 309) 4])
          (.cond (tp 74) (.seq (.reg [] [
            Ap 75 5 279,
            Ap 76 14 309,
            rq 77 (cf 252 #[(tp 75),(tp 76)] #[279,309]) 0])
           (.exit 3))
          (.skip)))))))
         (.reg [] [
           FB 78 57,
           Ap 57 78 3])))))))))
      (.reg [] [
        FB 79 50,
        Ap 50 79 3])))))))
    (.seq (.reg [] [
      rq 2 (.assign (.const (.pointer none))) 279,
      Cz 3 12 27])
    (.ret))))))))))
def oU:RC:=
 .seq (.reg [] [
  Ap 5 1 3,rq 4 (.alloc 3) 0,rn (.store 3 (tp 4) (tp 5)) 0])
 (.block 0 (.loop (.seq (.seq (.reg [0, 1, 2, 3, 4, 5, 6] [
   Ce 6 4 3,
   Ap 7 0 279,
   rq 8 (.nilCheck (tp 7)) 0,
   DR 9 284 8 1,
   Ce 10 9 23,
   EN 11 10 23,
   rq 12 (.binOp .lss 3 (tp 6) (tp 11) 3) 4])
   (.cond (tp 12) (.skip)
   (.exit 0)))
   (.seq (.block 1 (.reg [] [
     Ap 15 0 279,
     Ce 16 4 3,
     rq 17 (.makeFunc (.func 254) #[] #[(tp 4)]) 133,
     rq 18 (cf 253 #[(tp 15),(tp 16),(tp 17)] #[279,3,133]) 0]))
   (.seq (.seq (.reg [] [
     Ce 19 4 3])
   (.reg [] [
     rq 4 (.alloc 3) 0,
     rn (.store 3 (tp 4) (tp 19)) 0]))
   (.reg [] [
     Ce 13 4 3,
     FB 14 13,
     rn (.store 3 (tp 4) (tp 14)) 0]))))))
def oV:RC:=
 .seq (.reg [] [
  Cz 8 0 3,Cz 9 0 3])
 (.seq (.seq (.reg [0, 1, 2, 3, 4, 5, 6, 7, 8] [
   Ap 10 0 23,Ap 11 2 3,D5 12 23 10 11,Ce 13 12 3,Ap 14 0 23,Ap 15 1 3,D5 16 23 14 15,Ce 17 16 3,rq 18 (cf 125 #[(tp 13),(tp 17)] #[3,3]) 4])
 (.cond (tp 18) (.seq (.reg [] [
   Ap 19 3 254,
   rq 20 (.nilCheck (tp 19)) 0,
   Ce 21 20 3,
   FB 22 21,
   rq 23 (.nilCheck (tp 19)) 0,
   rn (.store 3 (tp 23) (tp 22)) 0])
  (.seq (.reg [] [
    Ap 24 2 3,
    Ap 25 1 3,
    AQ 8 24 3,
    AQ 9 25 3])
  (.ret)))
 (.skip)))
 (.seq (.reg [] [
   Ap 26 1 3,Ap 27 2 3,AQ 8 26 3,AQ 9 27 3])
 (.ret)))
def oW:RC:=
 .seq (.reg [] [
  rq 1 (.box 166 (tp 0)) 0,Cz 2 0 27])
 (.seq (.block 0 (.seq (.reg [] [
   DR 6 166 1 0,
   Ce 7 6 3,
   rq 8 (.binOp .lss 3 (tp 7) (ki 1) 3) 4,
   Ap 9 8 4,
   rg 10 (.fieldAddr 166 (tp 1) 0) 0 9 false,
   rg 11 (.load 3 (tp 10)) 3 9 false,
   rg 12 (.binOp .gtr 3 (tp 11) (ki 8) 3) 4 9 false,
   rq 13 (.pick (tp 9) (kb true) (tp 12)) 4,
   AQ 5 13 4])
  (.cond (tp 5) (.seq (.reg [] [
    Cz 2 1 27])
   (.ret))
  (.seq (.reg [] [
    DR 15 166 1 1,
    Ce 16 15 71,
    EN 17 16 71,
    rq 18 (.binOp .eql 3 (tp 17) (ki 0) 3) 4,
    AQ 14 18 4])
   (.cond (tp 14) (.seq (.reg [] [
     Cz 2 4 27])
    (.ret))
   (.seq (.reg [] [
     DR 20 166 1 1,
     Ce 21 20 71,
     EN 22 21 71,
     rq 23 (.binOp .gtr 3 (tp 22) (ki 4) 3) 4,
     AQ 19 23 4])
    (.cond (tp 19) (.seq (.reg [] [
      Cz 2 3 27])
     (.ret))
    (.skip))))))))
 (.seq (.seq (.reg [] [
   DR 24 166 1 1,Ce 25 24 71,EN 26 25 71,rq 27 (.move (ki 0)) 3])
 (.block 1 (.loop (.seq (.reg [] [
   L8 28 27 26])
   (.seq (.cond (tp 28) (.skip)
   (.exit 1))
   (.seq (.block 2 (.seq (.reg [] [
     D5 29 71 25 27,
     Ce 30 29 23,
     AQ 4 30 23])
    (.block 3 (.seq (.reg [] [
      Ap 32 4 23,
      EN 33 32 23,
      DR 34 166 1 0,
      Ce 35 34 3,
      rq 36 (.binOp .neq 3 (tp 33) (tp 35) 3) 4,
      AQ 31 36 4])
     (.cond (tp 31) (.seq (.reg [] [
       Cz 2 5 27])
      (.ret))
     (.seq (.reg [] [
       Ap 38 4 23,
       rq 39 (.makeFunc (.func 259) #[] #[(tp 1)]) 133,
       rq 40 (cf 84 #[(tp 38),(tp 39)] #[23,133]) 4,
       AQ 37 40 4])
      (.cond (tp 37) (.seq (.reg [] [
        Cz 2 1 27])
       (.ret))
      (.skip))))))))
   (.reg [] [
     FB 41 27,
     Ap 27 41 3])))))))
 (.seq (.reg [] [
   Cz 2 0 27])
 (.ret))))
def oZ:RC:=
 .seq (.reg [] [
  rq 1 (.box 166 (tp 0)) 0,rq 2 (.assign (.const (.slice none 0 0))) 219])
 (.seq (.reg [] [
   rq 3 (.assign (.const (.slice none 0 0))) 219])
 (.seq (.seq (.reg [] [
   DR 11 166 1 1,Ce 12 11 71,EN 13 12 71,rq 14 (.move (ki 0)) 3])
 (.block 0 (.loop (.seq (.reg [] [
   L8 15 14 13])
   (.seq (.cond (tp 15) (.skip)
   (.exit 0))
   (.seq (.block 1 (.seq (.reg [] [
     D5 16 71 12 14,
     Ce 17 16 23,
     AQ 5 17 23])
    (.seq (.reg [] [
      rq 6 (.alloc 295) 0])
    (.seq (.seq (.reg [] [
      Ap 18 5 23,
      EN 19 18 23,
      rq 20 (.move (ki 0)) 3])
    (.block 2 (.loop (.seq (.reg [] [
      L8 21 20 19])
      (.seq (.cond (tp 21) (.skip)
      (.exit 2))
      (.seq (.block 3 (.seq (.reg [] [
        Ap 22 20 3,
        D5 23 23 18 20,
        Ce 24 23 3,
        AQ 7 22 3,
        AQ 8 24 3])
       (.seq (.reg [] [
         Ap 25 5 23,
         EN 26 25 23,
         rq 27 (.move (ki 0)) 3])
       (.block 4 (.loop (.seq (.reg [] [
         L8 28 27 26])
         (.seq (.cond (tp 28) (.skip)
         (.exit 4))
         (.seq (.block 5 (.seq (.reg [] [
           Ap 29 27 3,
           D5 30 23 25 27,
           Ce 31 30 3,
           AQ 9 29 3,
           AQ 10 31 3])
          (.seq (.reg [] [
            Ap 32 8 3,
            Ap 33 10 3,
            rq 34 (.binOp .eql 3 (tp 32) (tp 33) 3) 4])
          (.cond (tp 34) (.reg [0, 1, 2, 3, 4, 5, 6, 7] [
            Ap 35 7 3,
            D5 36 295 6 35,
            Ce 37 36 220,
            Ap 38 9 3,
            rq 39 (.binOp .shl 220 (.const (.int .u8 1)) (tp 38) 3) 220,
            rq 40 (.binOp .or 220 (tp 37) (tp 39) 220) 220,
            D5 41 295 6 35,
            rn (.store 220 (tp 41) (tp 40)) 0])
          (.skip)))))
         (.reg [] [
           FB 42 27,
           Ap 27 42 3])))))))))
      (.reg [] [
        FB 43 20,
        Ap 20 43 3])))))))
    (.reg [] [
      Ap 44 3 219,
      Ce 45 6 295,
      rq 46 (.buildSlice 219 1 #[(0,(tp 45))]) 219,
      rq 47 (cb .append #[(tp 44),(tp 46)] #[219,219]) 219,
      AQ 3 47 219])))))
   (.reg [] [
     FB 48 14,
     Ap 14 48 3])))))))
 (.seq (.reg [] [
   Ap 49 3 219,AQ 2 49 219])
 (.ret))))
def pE:RC:=
 .seq (.reg [] [
  rq 4 (.assign (kb false)) 4])
 (.seq (.reg [] [
   Ap 5 0 220,Ap 6 1 3,rq 7 (.binOp .shr 220 (tp 5) (tp 6) 3) 220,rq 8 (.binOp .and 220 (tp 7) (.const (.int .u8 1)) 220) 220,rq 9 (.binOp .eql 220 (tp 8) (.const (.int .u8 1)) 220) 4,AQ 4 9 4])
 (.ret))
def pF:RC:=
 .seq (.reg [] [
  rq 1 (.box 239 (tp 0)) 0,Cz 2 0 3])
 (.seq (.reg [] [
   DR 3 239 1 0,Ce 4 3 3,DR 5 239 1 1,Ce 6 5 3,rq 7 (.binOp .add 3 (tp 4) (tp 6) 3) 3,DR 8 239 1 2,Ce 9 8 3,rq 10 (.binOp .mul 3 (ki 2) (tp 9) 3) 3,rq 11 (.binOp .add 3 (tp 7) (tp 10) 3) 3,AQ 2 11 3])
 (.ret))
def pG:RC:=
 .seq (.reg [] [
  Cz 2 0 3])
 (.seq (.reg [] [
   Cz 3 1 3])
 (.seq (.seq (.reg [] [
   Ap 4 0 3,rq 5 (.move (ki 0)) 3])
 (.block 0 (.loop (.seq (.reg [] [
   rq 6 (.binOp .lss 3 (tp 5) (tp 4) 3) 4])
   (.seq (.cond (tp 6) (.skip)
   (.exit 0))
   (.seq (.block 1 (.reg [] [
     Ap 7 3 3,
     rq 8 (.binOp .mul 3 (tp 7) (ki 3) 3) 3,
     AQ 3 8 3]))
   (.reg [] [
     FB 9 5,
     Ap 5 9 3])))))))
 (.seq (.reg [] [
   Ap 10 3 3,AQ 2 10 3])
 (.ret))))
def pI:RC:=
 .seq (.reg [] [
  rq 4 (.box 239 (tp 1)) 0,rq 6 (.assign (kb false)) 4])
 (.seq (.seq (.reg [] [
   DR 16 239 4 2,Ce 17 16 3,AQ 7 17 3])
 (.block 0 (.loop (.seq (.seq (.reg [] [
   Ap 18 7 3,
   rq 19 (.binOp .geq 3 (tp 18) (ki 0) 3) 4])
   (.cond (tp 19) (.skip)
   (.exit 0)))
   (.seq (.block 1 (.seq (.reg [] [
     Cz 8 0 3])
    (.block 2 (.loop (.seq (.seq (.reg [] [
      Ap 22 8 3,
      DR 23 239 4 2,
      Ce 24 23 3,
      Ap 25 7 3,
      rq 26 (.binOp .sub 3 (tp 24) (tp 25) 3) 3,
      rq 27 (.binOp .leq 3 (tp 22) (tp 26) 3) 4])
      (.cond (tp 27) (.skip)
      (.exit 2)))
      (.seq (.block 3 (.seq (.reg [] [
        DR 30 239 4 2,
        Ce 31 30 3,
        Ap 32 7 3,
        rq 33 (.binOp .sub 3 (tp 31) (tp 32) 3) 3,
        Ap 34 8 3,
        rq 35 (.binOp .sub 3 (tp 33) (tp 34) 3) 3,
        AQ 9 35 3])
       (.seq (.reg [] [
         Cz 10 0 3])
       (.block 4 (.loop (.seq (.seq (.reg [] [
         Ap 36 10 3,
         DR 37 239 4 0,
         Ce 38 37 3,
         rq 39 (.binOp .leq 3 (tp 36) (tp 38) 3) 4])
         (.cond (tp 39) (.skip)
         (.exit 4)))
         (.seq (.block 5 (.seq (.reg [] [
           Cz 11 0 3])
          (.block 6 (.loop (.seq (.seq (.reg [] [
            Ap 42 11 3,
            DR 43 239 4 0,
            Ce 44 43 3,
            Ap 45 10 3,
            rq 46 (.binOp .sub 3 (tp 44) (tp 45) 3) 3,
            rq 47 (.binOp .leq 3 (tp 42) (tp 46) 3) 4])
            (.cond (tp 47) (.skip)
            (.exit 6)))
            (.seq (.block 7 (.seq (.reg [] [
              Cz 12 0 3])
             (.block 8 (.loop (.seq (.seq (.reg [] [
               Ap 50 12 3,
               DR 51 239 4 1,
               Ce 52 51 3,
               rq 53 (.binOp .leq 3 (tp 50) (tp 52) 3) 4])
               (.cond (tp 53) (.skip)
               (.exit 8)))
               (.seq (.block 9 (.seq (.reg [] [
                 Cz 13 0 3])
                (.block 10 (.loop (.seq (.seq (.reg [] [
                  Ap 56 13 3,
                  DR 57 239 4 1,
                  Ce 58 57 3,
                  Ap 59 12 3,
                  rq 60 (.binOp .sub 3 (tp 58) (tp 59) 3) 3,
                  rq 61 (.binOp .leq 3 (tp 56) (tp 60) 3) 4])
                  (.cond (tp 61) (.skip)
                  (.exit 10)))
                  (.seq (.block 11 (.seq (.reg [] [
                    Ap 64 8 3,
                    Ap 65 10 3,
                    rq 66 (.binOp .add 3 (tp 64) (tp 65) 3) 3,
                    Ap 67 12 3,
                    rq 68 (.binOp .add 3 (tp 66) (tp 67) 3) 3,
                    Ap 69 9 3,
                    Ap 70 11 3,
                    rq 71 (.binOp .add 3 (tp 69) (tp 70) 3) 3,
                    Ap 72 13 3,
                    rq 73 (.binOp .add 3 (tp 71) (tp 72) 3) 3,
                    AQ 14 68 3,
                    AQ 15 73 3])
                   (.seq (.seq (.reg [] [
                     Ap 74 14 3,
                     Ap 75 15 3,
                     rq 76 (cb .max #[(tp 74),(tp 75)] #[3,3]) 3,
                     rq 77 (.binOp .eql 3 (tp 76) (ki 0) 3) 4,
                     Ap 78 77 4,
                     DD 79 14 3 78 false,
                     DD 80 15 3 78 false,
                     rg 81 (.binOp .sub 3 (tp 79) (tp 80) 3) 3 78 false,
                     DD 82 15 3 78 false,
                     DD 83 14 3 78 false,
                     rg 84 (.binOp .sub 3 (tp 82) (tp 83) 3) 3 78 false,
                     rg 85 (cb .max #[(tp 81),(tp 84)] #[3,3]) 3 78 false,
                     rg 86 (.fieldAddr 239 (tp 4) 3) 0 78 false,
                     rg 87 (.load 3 (tp 86)) 3 78 false,
                     rg 88 (.binOp .gtr 3 (tp 85) (tp 87) 3) 4 78 false,
                     rq 89 (.pick (tp 78) (kb true) (tp 88)) 4])
                   (.cond (tp 89) (.exit 11)
                   (.skip)))
                   (.seq (.reg [] [
                     Ap 90 0 236,
                     Ce 91 4 239,
                     DR 92 239 4 0,
                     Ce 93 92 3,
                     Ap 94 10 3,
                     rq 95 (.binOp .sub 3 (tp 93) (tp 94) 3) 3,
                     Ap 96 11 3,
                     rq 97 (.binOp .sub 3 (tp 95) (tp 96) 3) 3,
                     DR 98 239 4 1,
                     Ce 99 98 3,
                     Ap 100 12 3,
                     rq 101 (.binOp .sub 3 (tp 99) (tp 100) 3) 3,
                     Ap 102 13 3,
                     rq 103 (.binOp .sub 3 (tp 101) (tp 102) 3) 3,
                     Ap 104 7 3,
                     rq 105 (cf 262 #[(tp 91),(tp 97),(tp 103),(tp 104)] #[239,3,3,3]) 239,
                     Ap 106 2 3,
                     rq 107 (.binOp .sub 3 (tp 106) (ki 1) 3) 3,
                     rq 108 (cf 224 #[(tp 90),(tp 105),(tp 107)] #[236,239,3]) 4,
                     Ap 109 108 4,
                     DD 110 0 236 109 true,
                     rg 111 (.load 239 (tp 4)) 239 109 true,
                     DD 112 10 3 109 true,
                     DD 113 8 3 109 true,
                     rg 114 (.binOp .add 3 (tp 112) (tp 113) 3) 3 109 true,
                     DD 115 13 3 109 true,
                     DD 116 9 3 109 true,
                     rg 117 (.binOp .add 3 (tp 115) (tp 116) 3) 3 109 true,
                     rg 118 (cf 262 #[(tp 111),(tp 114),(tp 117),(ki 0)] #[239,3,3,3]) 239 109 true,
                     DD 119 2 3 109 true,
                     rg 120 (.binOp .sub 3 (tp 119) (ki 1) 3) 3 109 true,
                     rg 121 (cf 224 #[(tp 110),(tp 118),(tp 120)] #[236,239,3]) 4 109 true,
                     rq 122 (.pick (tp 109) (tp 121) (kb false)) 4,
                     Ap 123 122 4,
                     DD 124 0 236 123 true,
                     rg 125 (.load 239 (tp 4)) 239 123 true,
                     DD 126 11 3 123 true,
                     DD 127 9 3 123 true,
                     rg 128 (.binOp .add 3 (tp 126) (tp 127) 3) 3 123 true,
                     DD 129 12 3 123 true,
                     DD 130 8 3 123 true,
                     rg 131 (.binOp .add 3 (tp 129) (tp 130) 3) 3 123 true,
                     rg 132 (cf 262 #[(tp 125),(tp 128),(tp 131),(ki 0)] #[239,3,3,3]) 239 123 true,
                     DD 133 2 3 123 true,
                     rg 134 (.binOp .sub 3 (tp 133) (ki 1) 3) 3 123 true,
                     rg 135 (cf 224 #[(tp 124),(tp 132),(tp 134)] #[236,239,3]) 4 123 true,
                     rq 136 (.pick (tp 123) (tp 135) (kb false)) 4])
                   (.cond (tp 136) (.seq (.reg [] [
                     rq 6 (.assign (kb true)) 4])
                    (.ret))
                   (.skip))))))
                  (.reg [] [
                    Ap 62 13 3,
                    FB 63 62,
                    AQ 13 63 3])))))))
               (.reg [] [
                 Ap 54 12 3,
                 FB 55 54,
                 AQ 12 55 3])))))))
            (.reg [] [
              Ap 48 11 3,
              FB 49 48,
              AQ 11 49 3])))))))
         (.reg [] [
           Ap 40 10 3,
           FB 41 40,
           AQ 10 41 3]))))))))
      (.reg [] [
        Ap 28 8 3,
        FB 29 28,
        AQ 8 29 3])))))))
   (.reg [] [
     Ap 20 7 3,
     rq 21 (.binOp .sub 3 (tp 20) (ki 1) 3) 3,
     AQ 7 21 3]))))))
 (.seq (.reg [] [
   rq 6 (.assign (kb false)) 4])
 (.ret)))
def pJ:RC:=
 .seq (.reg [] [
  rq 1 (.box 243 (tp 0)) 0,Cz 2 0 27])
 (.seq (.seq (.reg [0, 1, 2, 3, 4, 5, 6, 7, 8, 9, 10, 11, 12, 13, 14, 15, 16, 17, 18, 19] [
   DR 5 243 1 0,Ce 6 5 3,DR 7 243 1 1,Ce 8 7 3,DR 9 243 1 2,Ce 10 9 3,DR 11 243 1 3,Ce 12 11 3,rq 13 (cb .min #[(tp 6),(tp 8),(tp 10),(tp 12)] #[3,3,3,3]) 3,DR 14 243 1 0,Ce 15 14 3,DR 16 243 1 1,Ce 17 16 3,DR 18 243 1 2,Ce 19 18 3,DR 20 243 1 3,Ce 21 20 3,rq 22 (cb .max #[(tp 15),(tp 17),(tp 19),(tp 21)] #[3,3,3,3]) 3,AQ 3 13 3,AQ 4 22 3])
 (.seq (.reg [] [
   Ap 23 3 3,rq 24 (.binOp .lss 3 (tp 23) (ki 1) 3) 4,Ap 25 24 4,DD 26 4 3 25 false,rg 27 (.binOp .gtr 3 (tp 26) (ki 6) 3) 4 25 false,rq 28 (.pick (tp 25) (kb true) (tp 27)) 4])
 (.cond (tp 28) (.seq (.reg [] [
   Cz 2 1 27])
  (.ret))
 (.skip))))
 (.seq (.reg [] [
   Cz 2 0 27])
 (.ret)))
def pK:RC:=
 .seq (.reg [] [
  rq 6 (.assign (.const (.int .u64 0))) 273])
 (.seq (.reg [0, 1, 2, 3, 4] [
   Ap 9 1 3,rq 10 (.binOp .shl 273 (.const (.int .u64 1)) (tp 9) 3) 273,rq 11 (.binOp .sub 273 (tp 10) (.const (.int .u64 1)) 273) 273,rq 7 (.assign (.const (.int .u64 0))) 273,AQ 8 11 273])
 (.seq (.seq (.reg [] [
   Ap 12 0 3,rq 13 (.move (ki 0)) 3])
 (.block 0 (.loop (.seq (.reg [] [
   rq 14 (.binOp .lss 3 (tp 13) (tp 12) 3) 4])
   (.seq (.cond (tp 14) (.skip)
   (.exit 0))
   (.seq (.block 1 (.reg [] [
     Ap 15 7 273,
     Ap 16 2 3,
     rq 17 (.binOp .shl 273 (tp 15) (tp 16) 3) 273,
     Ap 18 8 273,
     rq 19 (.binOp .or 273 (tp 17) (tp 18) 273) 273,
     AQ 7 19 273]))
   (.reg [] [
     FB 20 13,
     Ap 13 20 3])))))))
 (.seq (.reg [] [
   Ap 21 7 273,AQ 6 21 273])
 (.ret))))
def pM:RC:=
 .seq (.reg [] [
  rq 3 (.box 276 (tp 0)) 0,rq 4 (.box 273 (tp 1)) 0,rq 5 (.box 307 (tp 2)) 0,Cz 6 0 3])
 (.seq (.seq (.reg [] [
   Ce 7 4 273,DR 8 276 3 2,Ce 9 8 273,rq 10 (.binOp .eql 273 (tp 7) (tp 9) 273) 4])
 (.cond (tp 10) (.seq (.reg [] [
   Cz 6 1 3])
  (.ret))
 (.skip)))
 (.seq (.reg [] [
   Ce 11 5 307,Ce 12 4 273,rq 13 (.makeFunc (.func 264) #[] #[(tp 3),(tp 4),(tp 5)]) 91,rq 14 (cf 263 #[(tp 11),(tp 12),(tp 13)] #[307,273,91]) 3,AQ 6 14 3])
 (.ret)))
def pO:RC:=
 .seq (.reg [] [
  rq 1 (.box 249 (tp 0)) 0,Cz 2 0 27])
 (.seq (.block 0 (.seq (.reg [] [
   DR 6 249 1 0,
   Ce 7 6 3,
   rq 8 (cf 267 #[(ki 2),(tp 7),(ki 6)] #[3,3,3]) 4,
   rq 9 (.unOp .not 4 (tp 8)) 4,
   AQ 5 9 4])
  (.cond (tp 5) (.seq (.reg [] [
    Cz 2 1 27])
   (.ret))
  (.seq (.reg [] [
    DR 11 249 1 1,
    Ce 12 11 247,
    EN 13 12 247,
    rq 14 (.binOp .gtr 3 (tp 13) (ki 12) 3) 4,
    AQ 10 14 4])
   (.cond (tp 10) (.seq (.reg [] [
     Cz 2 3 27])
    (.ret))
   (.skip))))))
 (.seq (.seq (.reg [] [
   DR 15 249 1 1,Ce 16 15 247,EN 17 16 247,rq 18 (.move (ki 0)) 3])
 (.block 1 (.loop (.seq (.reg [] [
   L8 19 18 17])
   (.seq (.cond (tp 19) (.skip)
   (.exit 1))
   (.seq (.block 2 (.seq (.reg [] [
     D5 20 247 16 18,
     Ce 21 20 246,
     rq 4 (.alloc 246) 0,
     rn (.store 246 (tp 4) (tp 21)) 0])
    (.block 3 (.seq (.reg [] [
      DR 23 246 4 0,
      Ce 24 23 3,
      DR 25 246 4 1,
      Ce 26 25 3,
      rq 27 (cb .min #[(tp 24),(tp 26)] #[3,3]) 3,
      rq 28 (.binOp .lss 3 (tp 27) (ki 0) 3) 4,
      Ap 29 28 4,
      rg 30 (.fieldAddr 246 (tp 4) 0) 0 29 false,
      rg 31 (.load 3 (tp 30)) 3 29 false,
      rg 32 (.fieldAddr 246 (tp 4) 1) 0 29 false,
      rg 33 (.load 3 (tp 32)) 3 29 false,
      rg 34 (cb .max #[(tp 31),(tp 33)] #[3,3]) 3 29 false,
      rg 35 (.fieldAddr 249 (tp 1) 0) 0 29 false,
      rg 36 (.load 3 (tp 35)) 3 29 false,
      rg 37 (.binOp .geq 3 (tp 34) (tp 36) 3) 4 29 false,
      rq 38 (.pick (tp 29) (kb true) (tp 37)) 4,
      AQ 22 38 4])
     (.cond (tp 22) (.seq (.reg [] [
       Cz 2 2 27])
      (.ret))
     (.seq (.reg [] [
       DR 40 246 4 0,
       Ce 41 40 3,
       DR 42 246 4 1,
       Ce 43 42 3,
       rq 44 (.binOp .eql 3 (tp 41) (tp 43) 3) 4,
       AQ 39 44 4])
      (.cond (tp 39) (.seq (.reg [] [
        Cz 2 13 27])
       (.ret))
      (.seq (.reg [] [
        DR 46 246 4 2,
        Ce 47 46 3,
        rq 48 (.binOp .lss 3 (tp 47) (ki 0) 3) 4,
        Ap 49 48 4,
        rg 50 (.fieldAddr 246 (tp 4) 3) 0 49 false,
        rg 51 (.load 3 (tp 50)) 3 49 false,
        rg 52 (.binOp .gtr 3 (tp 51) (ki 99) 3) 4 49 false,
        rq 53 (.pick (tp 49) (kb true) (tp 52)) 4,
        Ap 54 53 4,
        rg 55 (.fieldAddr 246 (tp 4) 2) 0 54 false,
        rg 56 (.load 3 (tp 55)) 3 54 false,
        rg 57 (.fieldAddr 246 (tp 4) 3) 0 54 false,
        rg 58 (.load 3 (tp 57)) 3 54 false,
        rg 59 (.binOp .gtr 3 (tp 56) (tp 58) 3) 4 54 false,
        rq 60 (.pick (tp 54) (kb true) (tp 59)) 4,
        AQ 45 60 4])
       (.cond (tp 45) (.seq (.reg [] [
         Cz 2 1 27])
        (.ret))
       (.skip))))))))))
   (.reg [] [
     FB 61 18,
     Ap 18 61 3])))))))
 (.seq (.reg [] [
   Cz 2 0 27])
 (.ret))))
def pQ:RC:=
 .seq (.reg [] [
  rq 2 (.assign (kb false)) 4])
 (.seq (.reg [] [
   rq 2 (.assign (kb true)) 4])
 (.ret))
def pR:RC:=
 .seq (.reg [] [
  rq 2 (.assign (.const (.slice none 0 0))) 23])
 (.seq (.reg [] [
   Ap 6 0 279,rq 7 (.nilCheck (tp 6)) 0,DR 8 284 7 0,DR 9 249 8 0,Ce 10 9 3,rq 11 (.makeSlice 23 (tp 10) (tp 10)) 23,AQ 3 11 23])
 (.seq (.seq (.reg [] [
   Ap 12 0 279,rq 13 (.nilCheck (tp 12)) 0,DR 14 284 13 0,DR 15 249 14 1,Ce 16 15 247,EN 17 16 247,rq 18 (.move (ki 0)) 3])
 (.block 0 (.loop (.seq (.reg [] [
   L8 19 18 17])
   (.seq (.cond (tp 19) (.skip)
   (.exit 0))
   (.seq (.block 1 (.seq (.reg [] [
     Ap 20 18 3,
     D5 21 247 16 18,
     Ce 22 21 246,
     rq 5 (.alloc 246) 0,
     AQ 4 20 3,
     rn (.store 246 (tp 5) (tp 22)) 0])
    (.seq (.reg [0, 1, 2, 3, 4, 5, 6, 7, 8, 9, 10, 11, 12, 13, 14] [
      Ap 23 3 23,
      DR 24 246 5 1,
      Ce 25 24 3,
      D5 26 23 23 25,
      Ce 27 26 3,
      Ap 28 0 279,
      rq 29 (.nilCheck (tp 28)) 0,
      DR 30 284 29 1,
      Ce 31 30 23,
      Ap 32 4 3,
      D5 33 23 31 32,
      Ce 34 33 3,
      rq 35 (.binOp .add 3 (tp 27) (tp 34) 3) 3,
      D5 36 23 23 25,
      rn (.store 3 (tp 36) (tp 35)) 0])
    (.reg [0, 1, 2, 3, 4, 5, 6, 7, 8, 9, 10, 11, 12, 13, 14] [
      Ap 37 3 23,
      DR 38 246 5 0,
      Ce 39 38 3,
      D5 40 23 37 39,
      Ce 41 40 3,
      Ap 42 0 279,
      rq 43 (.nilCheck (tp 42)) 0,
      DR 44 284 43 1,
      Ce 45 44 23,
      Ap 46 4 3,
      D5 47 23 45 46,
      Ce 48 47 3,
      rq 49 (.binOp .sub 3 (tp 41) (tp 48) 3) 3,
      D5 50 23 37 39,
      rn (.store 3 (tp 50) (tp 49)) 0]))))
   (.reg [] [
     FB 51 18,
     Ap 18 51 3])))))))
 (.seq (.reg [] [
   Ap 52 3 23,AQ 2 52 23])
 (.ret))))
def pV:RC:=
 .seq (.reg [] [
  rq 2 (.assign (kb false)) 4])
 (.seq (.reg [] [
   Ap 3 0 3,rq 4 (.binOp .neq 3 (tp 3) (ki 0) 3) 4,AQ 2 4 4])
 (.ret))
def pW:RC:=
 .seq (.reg [] [
  rq 8 (.assign (.const (.map none))) 309])
 (.seq (.reg [] [
   rq 17 (.makeMap 327 none) 327,Ap 18 1 3,rq 19 (.build 326 #[(0,(ki (-1)))]) 326,rn (.insert 327 (tp 17) (tp 18) (tp 19)) 0,Ap 20 17 327,rq 9 (.alloc 327) 0,rn (.store 327 (tp 9) (tp 20)) 0])
 (.seq (.seq (.reg [] [
   Ap 21 1 3,rq 22 (.buildSlice 23 1 #[(0,(tp 21))]) 23,rq 10 (.alloc 23) 0,rn (.store 23 (tp 10) (tp 22)) 0])
 (.block 0 (.loop (.seq (.seq (.reg [] [
   Ce 23 10 23,
   EN 24 23 23,
   rq 25 (.binOp .gtr 3 (tp 24) (ki 0) 3) 4])
   (.cond (tp 25) (.skip)
   (.exit 0)))
   (.seq (.block 1 (.seq (.reg [] [
     Ce 28 10 23,
     rq 29 (.indexAddr 23 (tp 28) (ki 0)) 0,
     Ce 30 29 3,
     rq 11 (.alloc 3) 0,
     rn (.store 3 (tp 11) (tp 30)) 0])
    (.seq (.seq (.reg [] [
      Ce 31 11 3,
      Ap 32 2 3,
      rq 33 (.binOp .eql 3 (tp 31) (tp 32) 3) 4])
    (.cond (tp 33) (.seq (.reg [] [
      rq 34 (.makeMap 309 none) 309,
      AQ 12 34 309])
     (.seq (.block 2 (.loop (.seq (.seq (.reg [] [
       Ce 35 11 3,
       Ap 36 1 3,
       rq 37 (.binOp .neq 3 (tp 35) (tp 36) 3) 4])
       (.cond (tp 37) (.skip)
       (.exit 2)))
       (.block 3 (.seq (.reg [] [
         Ce 38 9 327,
         Ce 39 11 3,
         rq 40 (.lookup 327 (tp 38) (tp 39) false) 326,
         rq 13 (.alloc 326) 0,
         rn (.store 326 (tp 13) (tp 40)) 0])
        (.seq (.reg [] [
          Ap 41 12 309,
          DR 42 326 13 0,
          Ce 43 42 3,
          DR 44 326 13 2,
          Ce 45 44 4,
          rn (.mapUpdate 309 (tp 41) (tp 43) (tp 45)) 0])
        (.reg [] [
          DR 46 326 13 1,
          Ce 47 46 3,
          rn (.store 3 (tp 11) (tp 47)) 0])))))))
     (.seq (.reg [] [
       Ap 48 12 309,
       AQ 8 48 309])
     (.ret))))
    (.skip)))
    (.seq (.reg [] [
      rq 49 (.makeFunc (.func 268) #[] #[(tp 9),(tp 11),(tp 10)]) 329,
      AQ 14 49 329])
    (.seq (.reg [] [
      Ap 50 0 279,
      rq 51 (.nilCheck (tp 50)) 0,
      DR 52 284 51 0,
      DR 53 249 52 1,
      Ce 54 53 247,
      EN 55 54 247,
      rq 56 (.move (ki 0)) 3])
    (.block 4 (.loop (.seq (.reg [] [
      L8 57 56 55])
      (.seq (.cond (tp 57) (.skip)
      (.exit 4))
      (.seq (.block 5 (.seq (.reg [] [
        Ap 58 56 3,
        D5 59 247 54 56,
        Ce 60 59 246,
        rq 16 (.alloc 246) 0,
        AQ 15 58 3,
        rn (.store 246 (tp 16) (tp 60)) 0])
       (.seq (.seq (.reg [0, 1, 2, 3, 4, 5, 6, 7, 8, 9, 10, 11, 12, 13, 14, 15, 16, 17, 18, 19, 20] [
         DR 61 246 16 0,
         Ce 62 61 3,
         Ce 63 11 3,
         rq 64 (.binOp .eql 3 (tp 62) (tp 63) 3) 4,
         Ap 65 64 4,
         DD 66 0 279 65 true,
         rg 67 (.nilCheck (tp 66)) 0 65 true,
         rg 68 (.fieldAddr 284 (tp 67) 1) 0 65 true,
         rg 69 (.load 23 (tp 68)) 23 65 true,
         DD 70 15 3 65 true,
         rg 71 (.indexAddr 23 (tp 69) (tp 70)) 0 65 true,
         rg 72 (.load 3 (tp 71)) 3 65 true,
         rg 73 (.fieldAddr 246 (tp 16) 3) 0 65 true,
         rg 74 (.load 3 (tp 73)) 3 65 true,
         rg 75 (.binOp .lss 3 (tp 72) (tp 74) 3) 4 65 true,
         rq 76 (.pick (tp 65) (tp 75) (kb false)) 4,
         Ap 77 76 4,
         DD 78 3 133 77 true,
         DD 79 15 3 77 true,
         rg 80 (.call ⟨.value (tp 78),#[(tp 79)],#[3]⟩) 4 77 true,
         rq 81 (.pick (tp 77) (tp 80) (kb false)) 4])
       (.cond (tp 81) (.reg [] [
         Ap 82 14 329,
         DR 83 246 16 1,
         Ce 84 83 3,
         Ap 85 15 3,
         rq 86 (.call ⟨.value (tp 82),#[(tp 84),(tp 85),(kb true)],#[3,3,4]⟩) 0])
       (.skip)))
       (.seq (.reg [0, 1, 2, 3, 4, 5, 6, 7, 8, 9, 10, 11, 12, 13, 14, 15, 16, 17, 18, 19, 20] [
         DR 87 246 16 1,
         Ce 88 87 3,
         Ce 89 11 3,
         rq 90 (.binOp .eql 3 (tp 88) (tp 89) 3) 4,
         Ap 91 90 4,
         DD 92 0 279 91 true,
         rg 93 (.nilCheck (tp 92)) 0 91 true,
         rg 94 (.fieldAddr 284 (tp 93) 1) 0 91 true,
         rg 95 (.load 23 (tp 94)) 23 91 true,
         DD 96 15 3 91 true,
         rg 97 (.indexAddr 23 (tp 95) (tp 96)) 0 91 true,
         rg 98 (.load 3 (tp 97)) 3 91 true,
         rg 99 (.fieldAddr 246 (tp 16) 2) 0 91 true,
         rg 100 (.load 3 (tp 99)) 3 91 true,
         rg 101 (.binOp .gtr 3 (tp 98) (tp 100) 3) 4 91 true,
         rq 102 (.pick (tp 91) (tp 101) (kb false)) 4,
         Ap 103 102 4,
         DD 104 3 133 103 true,
         DD 105 15 3 103 true,
         rg 106 (.call ⟨.value (tp 104),#[(tp 105)],#[3]⟩) 4 103 true,
         rq 107 (.pick (tp 103) (tp 106) (kb false)) 4])
       (.cond (tp 107) (.reg [] [
         Ap 108 14 329,
         DR 109 246 16 0,
         Ce 110 109 3,
         Ap 111 15 3,
         rq 112 (.call ⟨.value (tp 108),#[(tp 110),(tp 111),(kb false)],#[3,3,4]⟩) 0])
       (.skip))))))
      (.reg [] [
        FB 113 56,
        Ap 56 113 3])))))))))))
   (.seq (.seq (.reg [] [
     Ce 114 10 23])
   (.reg [] [
     rq 10 (.alloc 23) 0,
     rn (.store 23 (tp 10) (tp 114)) 0]))
   (.reg [] [
     Ce 26 10 23,
     rq 27 (.slice 23 (tp 26) (some (ki 1)) none none) 23,
     rn (.store 23 (tp 10) (tp 27)) 0])))))))
 (.seq (.reg [] [
   rq 8 (.assign (.const (.map none))) 309])
 (.ret))))
def Ym:RC:=KT
def pX:RC:=
 .seq (.reg [] [
  rq 4 (.box 3 (tp 1)) 0,rq 5 (.box 133 (tp 2)) 0])
 (.seq (.reg [0, 1, 2, 3, 4, 5, 6, 7, 8, 9] [
   Ap 8 0 279,rq 9 (.nilCheck (tp 8)) 0,DR 10 284 9 0,DR 11 249 10 1,Ce 12 11 247,Ce 13 4 3,D5 14 247 12 13,Ce 15 14 246,rq 6 (.alloc 246) 0,rn (.store 246 (tp 6) (tp 15)) 0])
 (.block 0 (.loop (.seq (.seq (.reg [0, 1, 2, 3, 4, 5, 6, 7, 8, 9] [
   Ap 16 0 279,
   rq 17 (.nilCheck (tp 16)) 0,
   DR 18 284 17 1,
   Ce 19 18 23,
   Ce 20 4 3,
   D5 21 23 19 20,
   Ce 22 21 3,
   DR 23 246 6 2,
   Ce 24 23 3,
   rq 25 (.binOp .gtr 3 (tp 22) (tp 24) 3) 4])
   (.cond (tp 25) (.skip)
   (.exit 0)))
   (.block 1 (.seq (.reg [] [
     Ap 26 0 279,
     DR 27 246 6 0,
     Ce 28 27 3,
     DR 29 246 6 1,
     Ce 30 29 3,
     rq 31 (.makeFunc (.func 269) #[] #[(tp 4),(tp 5)]) 133,
     rq 32 (cf 251 #[(tp 26),(tp 28),(tp 30),(tp 31)] #[279,3,3,133]) 309,
     AQ 7 32 309])
    (.seq (.seq (.reg [] [
      Ap 33 7 309,
      rq 34 (.binOp .eql 309 (tp 33) (.const (.map none)) 309) 4])
    (.cond (tp 34) (.ret)
    (.skip)))
    (.seq (.reg [] [
      Ap 35 0 279,
      Ap 36 7 309,
      rq 37 (cf 252 #[(tp 35),(tp 36)] #[279,309]) 0])
    (.reg [0, 1, 2, 3, 4, 5, 6, 7, 8, 9] [
      Ap 38 0 279,
      rq 39 (.nilCheck (tp 38)) 0,
      DR 40 284 39 1,
      Ce 41 40 23,
      Ce 42 4 3,
      D5 43 23 41 42,
      Ce 44 43 3,
      rq 45 (.binOp .sub 3 (tp 44) (ki 1) 3) 3,
      D5 46 23 41 42,
      rn (.store 3 (tp 46) (tp 45)) 0])))))))))
def pY:RC:=
 .seq (.reg [] [
  rq 3 (.assign (kb false)) 4])
 (.seq (.reg [] [
   Ap 4 0 3,Ce 5 1 3,rq 6 (.binOp .gtr 3 (tp 4) (tp 5) 3) 4,AQ 3 6 4])
 (.ret))
def qB:RC:=
 .seq (.reg [] [
  rq 3 (.assign (kb false)) 4])
 (.seq (.reg [] [
   Ap 4 0 3,rq 5 (.binOp .lss 3 (tp 4) (ki 0) 3) 4,Ap 6 5 4,DD 7 0 3 6 false,rg 8 (.fieldAddr 166 (tp 1) 0) 0 6 false,rg 9 (.load 3 (tp 8)) 3 6 false,rg 10 (.binOp .geq 3 (tp 7) (tp 9) 3) 4 6 false,rq 11 (.pick (tp 6) (kb true) (tp 10)) 4,AQ 3 11 4])
 (.ret))
def qC:RC:=
 .seq (.reg [] [
  rq 4 (.box 239 (tp 0)) 0,rq 8 (.alloc 239) 0])
 (.seq (.reg [] [
   Ap 9 1 3,Ap 10 2 3,Ap 11 3 3,DR 12 239 4 0,Ce 13 12 3,DR 14 239 4 1,Ce 15 14 3,rq 16 (.binOp .add 3 (tp 13) (tp 15) 3) 3,DR 17 239 4 2,Ce 18 17 3,rq 19 (.binOp .add 3 (tp 16) (tp 18) 3) 3,DR 20 239 4 3,Ce 21 20 3,rq 22 (.binOp .add 3 (tp 19) (tp 21) 3) 3,Ap 23 1 3,rq 24 (.binOp .sub 3 (tp 22) (tp 23) 3) 3,Ap 25 2 3,rq 26 (.binOp .sub 3 (tp 24) (tp 25) 3) 3,Ap 27 3 3,rq 28 (.binOp .sub 3 (tp 26) (tp 27) 3) 3,rq 29 (.build 239 #[(0,(tp 9)),(1,(tp 10)),(2,(tp 11)),(3,(tp 28))]) 239,rn (.store 239 (tp 8) (tp 29)) 0])
 (.ret))
def qR:RC:=
 .seq (.reg [] [
  rq 3 (.box 307 (tp 0)) 0,Cz 6 0 3])
 (.seq (.seq (.reg [] [
   DR 11 307 3 0,Ce 12 11 305,Ap 13 1 273,rq 14 (.lookup 305 (tp 12) (tp 13) true) 107,Ap 10 14 107,EM 15 10 0 3,EM 16 10 1 4,AQ 7 15 3,AQ 8 16 4])
 (.seq (.reg [] [
   Ap 17 8 4])
 (.cond (tp 17) (.seq (.reg [] [
   Ap 18 7 3,
   AQ 6 18 3])
  (.ret))
 (.skip))))
 (.seq (.reg [] [
   Ap 19 2 91,rq 20 (.call ⟨.value (tp 19),#[],#[]⟩) 3,AQ 9 20 3])
 (.seq (.reg [] [
   DR 21 307 3 0,Ce 22 21 305,Ap 23 1 273,Ap 24 9 3,rn (.mapUpdate 305 (tp 22) (tp 23) (tp 24)) 0])
 (.seq (.reg [] [
   Ap 25 9 3,AQ 6 25 3])
 (.ret)))))
def qU:RC:=
 .seq (.reg [] [
  Cz 3 0 3])
 (.seq (.reg [] [
   rq 4 (.alloc 3) 0,rn (.store 3 (tp 4) (ki 0)) 0])
 (.seq (.reg [] [
   Ce 5 0 276,Ce 6 1 273,rq 7 (.makeFunc (.func 266) #[] #[(tp 4),(tp 0),(tp 2)]) 324,rq 8 (cf 265 #[(tp 5),(tp 6),(tp 7)] #[276,273,324]) 0])
 (.seq (.reg [] [
   Ce 9 4 3,AQ 3 9 3])
 (.ret))))
def qV:RC:=
 .seq (.reg [] [
  rq 3 (.box 276 (tp 0)) 0])
 (.seq (.reg [] [
   Ce 14 3 276,Ap 15 1 273,rq 16 (cf 272 #[(tp 14),(tp 15)] #[276,273]) 286,Ap 13 16 286,EM 17 13 0 3,EM 18 13 1 3,AQ 6 17 3,AQ 7 18 3])
 (.seq (.reg [] [
   rq 19 (.buildSlice 333 2 #[(0,(kb false)),(1,(kb true))]) 333,EN 20 19 333,rq 21 (.move (ki 0)) 3])
 (.block 0 (.loop (.seq (.reg [] [
   L8 22 21 20])
   (.seq (.cond (tp 22) (.skip)
   (.exit 0))
   (.seq (.block 1 (.seq (.reg [] [
     D5 23 333 19 21,
     Ce 24 23 4,
     AQ 9 24 4])
    (.seq (.reg [] [
      Ap 25 6 3,
      Ap 26 7 3,
      Ap 27 9 4,
      rq 28 (.build 323 #[(0,(tp 25)),(1,(tp 26)),(2,(tp 27))]) 323,
      rq 10 (.alloc 323) 0,
      rn (.store 323 (tp 10) (tp 28)) 0])
    (.seq (.seq (.reg [] [
      Ap 29 9 4,
      Ap 30 29 4,
      rg 31 (.fieldAddr 276 (tp 3) 0) 0 30 true,
      rg 32 (.fieldAddr 243 (tp 31) 2) 0 30 true,
      rg 33 (.load 3 (tp 32)) 3 30 true,
      rg 34 (.fieldAddr 276 (tp 3) 0) 0 30 true,
      rg 35 (.fieldAddr 243 (tp 34) 3) 0 30 true,
      rg 36 (.load 3 (tp 35)) 3 30 true,
      rg 37 (.binOp .eql 3 (tp 33) (tp 36) 3) 4 30 true,
      rq 38 (.pick (tp 30) (tp 37) (kb false)) 4])
    (.cond (tp 38) (.ret)
    (.skip)))
    (.seq (.reg [] [
      Ce 40 3 276,
      Ap 41 1 273,
      Ce 42 10 323,
      rq 43 (cf 273 #[(tp 40),(tp 41),(tp 42)] #[276,273,323]) 334,
      Ap 39 43 334,
      EM 44 39 0 273,
      EM 45 39 1 4,
      AQ 11 44 273,
      AQ 12 45 4])
    (.seq (.reg [] [
      Ap 46 12 4,
      Ap 47 46 4,
      DD 48 2 324 47 true,
      rg 49 (.load 323 (tp 10)) 323 47 true,
      DD 50 11 273 47 true,
      rg 51 (.call ⟨.value (tp 48),#[(tp 49),(tp 50)],#[323,273]⟩) 4 47 true,
      rg 52 (.unOp .not 4 (tp 51)) 4 47 true,
      rq 53 (.pick (tp 47) (tp 52) (kb false)) 4])
    (.cond (tp 53) (.ret)
    (.skip))))))))
   (.reg [] [
     FB 54 21,
     Ap 21 54 3]))))))))
def qW:RC:=
 .seq (.reg [] [
  rq 5 (.box 323 (tp 0)) 0,rq 7 (.assign (kb false)) 4])
 (.seq (.reg [0, 1, 2, 3, 4, 5, 6] [
   Ce 8 2 3,Ce 9 3 276,Ap 10 1 273,Ce 11 4 307,
   ⟨(some 12),cf 246 #[(tp 9),(tp 10),(tp 11)] #[276,273,307],3,none,[(tp 2)]⟩,rq 13 (.binOp .add 3 (tp 8) (tp 12) 3) 3,rn (.store 3 (tp 2) (tp 13)) 0])
 (.seq (.reg [] [
   rq 7 (.assign (kb true)) 4])
 (.ret)))
def qX:RC:=
 .seq (.reg [] [
  rq 6 (.assign (kb false)) 4])
 (.seq (.reg [] [
   Ap 7 0 3,Ap 8 1 3,rq 9 (.binOp .leq 3 (tp 7) (tp 8) 3) 4,Ap 10 9 4,DD 11 1 3 10 true,DD 12 2 3 10 true,rg 13 (.binOp .leq 3 (tp 11) (tp 12) 3) 4 10 true,rq 14 (.pick (tp 10) (tp 13) (kb false)) 4,AQ 6 14 4])
 (.ret))
def rA:RC:=
 .seq (.reg [] [
  Ce 12 3 327,Ap 13 0 3,rq 14 (.lookup 327 (tp 12) (tp 13) true) 328,Ap 11 14 328,EM 15 11 0 326,EM 16 11 1 4,rq 9 (.alloc 326) 0,rn (.store 326 (tp 9) (tp 15)) 0,AQ 10 16 4])
 (.seq (.reg [] [
   Ap 17 10 4,rq 18 (.unOp .not 4 (tp 17)) 4])
 (.cond (tp 18) (.seq (.reg [] [
   Ce 19 3 327,
   Ap 20 0 3,
   Ap 21 1 3,
   Ce 22 4 3,
   Ap 23 2 4,
   rq 24 (.build 326 #[(0,(tp 21)),(1,(tp 22)),(2,(tp 23))]) 326,
   rn (.mapUpdate 327 (tp 19) (tp 20) (tp 24)) 0])
  (.reg [] [
    Ce 25 5 23,
    Ap 26 0 3,
    rq 27 (.buildSlice 23 1 #[(0,(tp 26))]) 23,
    rq 28 (cb .append #[(tp 25),(tp 27)] #[23,23]) 23,
    rn (.store 23 (tp 5) (tp 28)) 0]))
 (.skip)))
def rC:RC:=
 .seq (.reg [] [
  rq 4 (.assign (kb false)) 4])
 (.seq (.reg [] [
   Ap 5 0 3,Ce 6 1 3,rq 7 (.binOp .neq 3 (tp 5) (tp 6) 3) 4,Ap 8 7 4,rg 9 (.load 133 (tp 2)) 133 8 true,DD 10 0 3 8 true,rg 11 (.call ⟨.value (tp 9),#[(tp 10)],#[3]⟩) 4 8 true,rq 12 (.pick (tp 8) (tp 11) (kb false)) 4,AQ 4 12 4])
 (.ret))
def rD:RC:=
 .seq (.reg [] [
  rq 2 (.box 276 (tp 0)) 0,Cz 4 0 3,Cz 5 0 3])
 (.seq (.reg [] [
   Cz 6 0 3])
 (.seq (.block 0 (.loop (.seq (.seq (.reg [] [
   Ap 7 1 273,
   Ap 8 6 3,
   rq 9 (.binOp .shr 273 (tp 7) (tp 8) 3) 273,
   rq 10 (.binOp .and 273 (tp 9) (.const (.int .u64 1)) 273) 273,
   rq 11 (.binOp .eql 273 (tp 10) (.const (.int .u64 1)) 273) 4])
   (.cond (tp 11) (.skip)
   (.exit 0)))
   (.block 1 (.reg [] [
     Ap 12 6 3,
     FB 13 12,
     AQ 6 13 3])))))
 (.seq (.reg [0, 1, 2, 3, 4, 5, 6, 7, 8, 9, 10, 11] [
   Ap 14 6 3,DR 15 276 2 0,DR 16 243 15 1,Ce 17 16 3,rq 18 (.binOp .quo 3 (tp 14) (tp 17) 3) 3,Ap 19 6 3,DR 20 276 2 0,DR 21 243 20 1,Ce 22 21 3,rq 23 (.binOp .rem 3 (tp 19) (tp 22) 3) 3,AQ 4 18 3,AQ 5 23 3])
 (.ret))))
def rE:RC:=
 .seq (.reg [] [
  rq 3 (.box 276 (tp 0)) 0,rq 5 (.box 323 (tp 2)) 0,rq 6 (.assign (.const (.int .u64 0))) 273,rq 7 (.assign (kb false)) 4])
 (.seq (.reg [] [
   DR 12 276 3 0,Ce 13 12 243,DR 14 323 5 2,Ce 15 14 4,rq 16 (cf 276 #[(tp 13),(tp 15)] #[243,4]) 286,Ap 11 16 286,EM 17 11 0 3,EM 18 11 1 3,AQ 8 17 3,AQ 9 18 3])
 (.seq (.seq (.reg [] [
   DR 19 323 5 0,Ce 20 19 3,Ap 21 8 3,rq 22 (.binOp .add 3 (tp 20) (tp 21) 3) 3,DR 23 276 3 0,DR 24 243 23 0,Ce 25 24 3,rq 26 (.binOp .gtr 3 (tp 22) (tp 25) 3) 4,Ap 27 26 4,rg 28 (.fieldAddr 323 (tp 5) 1) 0 27 false,rg 29 (.load 3 (tp 28)) 3 27 false,DD 30 9 3 27 false,rg 31 (.binOp .add 3 (tp 29) (tp 30) 3) 3 27 false,rg 32 (.fieldAddr 276 (tp 3) 0) 0 27 false,rg 33 (.fieldAddr 243 (tp 32) 1) 0 27 false,rg 34 (.load 3 (tp 33)) 3 27 false,rg 35 (.binOp .gtr 3 (tp 31) (tp 34) 3) 4 27 false,rq 36 (.pick (tp 27) (kb true) (tp 35)) 4])
 (.cond (tp 36) (.seq (.reg [] [
   rq 6 (.assign (.const (.int .u64 0))) 273,
   rq 7 (.assign (kb false)) 4])
  (.ret))
 (.skip)))
 (.seq (.reg [] [
   DR 37 276 3 1,rq 38 (.indexAddr 274 (tp 37) (ki 0)) 0,Ce 39 38 273,AQ 10 39 273])
 (.seq (.seq (.reg [] [
   DR 40 323 5 2,Ce 41 40 4])
 (.cond (tp 41) (.reg [] [
   DR 42 276 3 1,
   rq 43 (.indexAddr 274 (tp 42) (ki 1)) 0,
   Ce 44 43 273,
   AQ 10 44 273])
 (.skip)))
 (.seq (.reg [] [
   Ap 45 10 273,DR 46 323 5 0,Ce 47 46 3,DR 48 276 3 0,DR 49 243 48 1,Ce 50 49 3,rq 51 (.binOp .mul 3 (tp 47) (tp 50) 3) 3,DR 52 323 5 1,Ce 53 52 3,rq 54 (.binOp .add 3 (tp 51) (tp 53) 3) 3,rq 55 (.binOp .shl 273 (tp 45) (tp 54) 3) 273,AQ 10 55 273])
 (.seq (.reg [] [
   Ap 56 1 273,Ap 57 10 273,rq 58 (.binOp .or 273 (tp 56) (tp 57) 273) 273,Ap 59 1 273,Ap 60 10 273,rq 61 (.binOp .and 273 (tp 59) (tp 60) 273) 273,rq 62 (.binOp .eql 273 (tp 61) (.const (.int .u64 0)) 273) 4,AQ 6 58 273,AQ 7 62 4])
 (.ret)))))))
def rF:RC:=
 .seq (.reg [] [
  rq 2 (.box 243 (tp 0)) 0,Cz 4 0 3,Cz 5 0 3])
 (.seq (.seq (.reg [] [
   Ap 6 1 4])
 (.cond (tp 6) (.seq (.reg [0, 1, 2, 3, 4, 5] [
   DR 7 243 2 3,
   Ce 8 7 3,
   DR 9 243 2 2,
   Ce 10 9 3,
   AQ 4 8 3,
   AQ 5 10 3])
  (.ret))
 (.skip)))
 (.seq (.reg [0, 1, 2, 3, 4, 5] [
   DR 11 243 2 2,Ce 12 11 3,DR 13 243 2 3,Ce 14 13 3,AQ 4 12 3,AQ 5 14 3])
 (.ret)))
def ti3:TI:=⟨.int .i64,1,8,(some (.int .i64 0)),false⟩
def ti4:TI:=⟨.bool,1,1,(some (.bool false)),false⟩
def ti5:TI:=⟨.int .u8,1,1,(some (.int .u8 0)),false⟩
def ti9:TI:=⟨.string,1,16,(some (.string ⟨#[]⟩)),false⟩
def Aiu:TI:=⟨.interface #[],1,16,(some .nilIface),false⟩
def Aiv:TI:=⟨.slice 3,1,24,(some (.slice none 0 0)),false⟩
def Aiw:TI:=⟨.int .i64,1,8,(some (.int .i64 0)),false⟩
def Aix : TI := ⟨.struct #[⟨ "Rows", 3, 0, false, "", "", 0⟩, ⟨ "Columns", 3, 1, false, "", "", 8⟩, ⟨ "Colours", 3, 2, false, "", "", 16⟩, ⟨ "Turns", 23, 3, false, "", "", 24⟩], 4, 48, (some (.agg #[(.int .i64 0), (.int .i64 0), (.int .i64 0), (.slice none 0 0)])), false⟩
def Aiy:TI:=⟨.int .u32,1,4,(some (.int .u32 0)),false⟩
def Aiz : TI := ⟨.struct #[⟨ "Places", 3, 0, false, "", "", 0⟩, ⟨ "Marks", 23, 1, false, "", "", 8⟩], 2, 32, (some (.agg #[(.int .i64 0), (.slice none 0 0)])), false⟩
def AiA:TI:=⟨.int .u16,1,2,(some (.int .u16 0)),false⟩
def AiB:TI:=⟨.slice 58,1,24,(some (.slice none 0 0)),false⟩
def AiC : TI := ⟨.struct #[⟨ "Lanes", 3, 0, false, "", "", 0⟩, ⟨ "Comparators", 54, 1, false, "", "", 8⟩], 2, 32, (some (.agg #[(.int .i64 0), (.slice none 0 0)])), false⟩
def AiD:TI:=⟨.array 2 3,2,16,(some (.agg #[(.int .i64 0),(.int .i64 0)])),true⟩
def AiE:TI:=⟨.slice 23,1,24,(some (.slice none 0 0)),false⟩
def AiF:TI:=⟨.func #[] #[3] false,1,8,(some .nilFunc),false⟩
def AiG:TI:=⟨.pointer 96,1,8,(some (.pointer none)),false⟩
def AiH : TI := ⟨.struct #[⟨ "Press", 36, 0, true, "", "", 0⟩, ⟨ "from", 71, 4, false, "", "spadille/back", 48⟩], 5, 72, (some (.agg #[(.int .i64 0), (.int .i64 0), (.int .i64 0), (.slice none 0 0), (.slice none 0 0)])), false⟩
def AiI : TI := ⟨.struct #[⟨ "places", 3, 0, false, "", "spadille/ring", 0⟩, ⟨ "set", 38, 1, false, "", "spadille/ring", 8⟩], 2, 16, (some (.agg #[(.int .i64 0), (.int .u32 0)])), true⟩
def sZ:TI:=⟨.int .u64,1,8,(some (.int .u64 0)),false⟩
def tC:TI:=⟨.func #[3] #[4] false,1,8,(some .nilFunc),false⟩
def tF:TI:=⟨.pointer 188,1,8,(some (.pointer none)),false⟩
def tH:TI:=⟨.int .u8,1,1,(some (.int .u8 0)),false⟩
def tJ:TI:=⟨.func #[99] #[4] false,1,8,(some .nilFunc),false⟩
def tK : TI := ⟨.struct #[⟨ "Worlds", 3, 0, false, "", "", 0⟩, ⟨ "Cells", 71, 1, false, "", "", 8⟩], 2, 32, (some (.agg #[(.int .i64 0), (.slice none 0 0)])), false⟩
def tL:TI:=⟨.array 11 3,11,88,(some (.agg #[(.int .i64 0),(.int .i64 0),(.int .i64 0),(.int .i64 0),(.int .i64 0),(.int .i64 0),(.int .i64 0),(.int .i64 0),(.int .i64 0),(.int .i64 0),(.int .i64 0)])),true⟩
def tN:TI:=⟨.int .u64,1,8,(some (.int .u64 0)),false⟩
def tO:TI:=⟨.array 2 170,2,16,(some (.agg #[(.int .u64 0),(.int .u64 0)])),true⟩
def tQ:TI:=⟨.array 7 171,14,112,(some (.agg #[(.int .u64 0),(.int .u64 0),(.int .u64 0),(.int .u64 0),(.int .u64 0),(.int .u64 0),(.int .u64 0),(.int .u64 0),(.int .u64 0),(.int .u64 0),(.int .u64 0),(.int .u64 0),(.int .u64 0),(.int .u64 0)])),true⟩
def tT:TI:=⟨.array 8 141,8,8,(some (.agg #[(.int .u8 0),(.int .u8 0),(.int .u8 0),(.int .u8 0),(.int .u8 0),(.int .u8 0),(.int .u8 0),(.int .u8 0)])),true⟩
def tV:TI:=⟨.array 8 185,64,64,(some (.agg #[(.int .u8 0),(.int .u8 0),(.int .u8 0),(.int .u8 0),(.int .u8 0),(.int .u8 0),(.int .u8 0),(.int .u8 0),(.int .u8 0),(.int .u8 0),(.int .u8 0),(.int .u8 0),(.int .u8 0),(.int .u8 0),(.int .u8 0),(.int .u8 0),(.int .u8 0),(.int .u8 0),(.int .u8 0),(.int .u8 0),(.int .u8 0),(.int .u8 0),(.int .u8 0),(.int .u8 0),(.int .u8 0),(.int .u8 0),(.int .u8 0),(.int .u8 0),(.int .u8 0),(.int .u8 0),(.int .u8 0),(.int .u8 0),(.int .u8 0),(.int .u8 0),(.int .u8 0),(.int .u8 0),(.int .u8 0),(.int .u8 0),(.int .u8 0),(.int .u8 0),(.int .u8 0),(.int .u8 0),(.int .u8 0),(.int .u8 0),(.int .u8 0),(.int .u8 0),(.int .u8 0),(.int .u8 0),(.int .u8 0),(.int .u8 0),(.int .u8 0),(.int .u8 0),(.int .u8 0),(.int .u8 0),(.int .u8 0),(.int .u8 0),(.int .u8 0),(.int .u8 0),(.int .u8 0),(.int .u8 0),(.int .u8 0),(.int .u8 0),(.int .u8 0),(.int .u8 0)])),true⟩
def tX : TI := ⟨.struct #[⟨ "rows", 71, 0, false, "", "spadille/press", 0⟩, ⟨ "differ", 186, 1, false, "", "spadille/press", 24⟩], 65, 88, (some (.agg #[(.slice none 0 0), (.int .u8 0), (.int .u8 0), (.int .u8 0), (.int .u8 0), (.int .u8 0), (.int .u8 0), (.int .u8 0), (.int .u8 0), (.int .u8 0), (.int .u8 0), (.int .u8 0), (.int .u8 0), (.int .u8 0), (.int .u8 0), (.int .u8 0), (.int .u8 0), (.int .u8 0), (.int .u8 0), (.int .u8 0), (.int .u8 0), (.int .u8 0), (.int .u8 0), (.int .u8 0), (.int .u8 0), (.int .u8 0), (.int .u8 0), (.int .u8 0), (.int .u8 0), (.int .u8 0), (.int .u8 0), (.int .u8 0), (.int .u8 0), (.int .u8 0), (.int .u8 0), (.int .u8 0), (.int .u8 0), (.int .u8 0), (.int .u8 0), (.int .u8 0), (.int .u8 0), (.int .u8 0), (.int .u8 0), (.int .u8 0), (.int .u8 0), (.int .u8 0), (.int .u8 0), (.int .u8 0), (.int .u8 0), (.int .u8 0), (.int .u8 0), (.int .u8 0), (.int .u8 0), (.int .u8 0), (.int .u8 0), (.int .u8 0), (.int .u8 0), (.int .u8 0), (.int .u8 0), (.int .u8 0), (.int .u8 0), (.int .u8 0), (.int .u8 0), (.int .u8 0), (.int .u8 0)])), false⟩
def tY:TI:=⟨.slice 141,1,24,(some (.slice none 0 0)),false⟩
def tZ:TI:=⟨.int .i64,1,8,(some (.int .i64 0)),false⟩
def uA : TI := ⟨.struct #[⟨ "quarters", 3, 0, false, "", "spadille/back", 0⟩, ⟨ "flipped", 4, 1, false, "", "spadille/back", 8⟩], 2, 16, (some (.agg #[(.int .i64 0), (.bool false)])), true⟩
def uB:TI:=⟨.map 3 3,1,8,(some (.map none)),false⟩
def uC : TI := ⟨.struct #[⟨ "what", 20, 0, false, "", "spadille/know", 0⟩, ⟨ "e", 27, 1, false, "", "spadille/know", 16⟩], 2, 24, (some (.agg #[.nilIface, (.int .i64 0)])), false⟩
def uD : TI := ⟨.struct #[⟨ "m", 166, 0, false, "", "spadille/know", 0⟩, ⟨ "event", 23, 2, false, "", "spadille/know", 32⟩], 3, 56, (some (.agg #[(.int .i64 0), (.slice none 0 0), (.slice none 0 0)])), false⟩
def uE:TI:=⟨.slice 295,1,24,(some (.slice none 0 0)),false⟩
def uF:TI:=⟨.int .u8,1,1,(some (.int .u8 0)),false⟩
def uG:TI:=⟨.func #[219,220] #[20] false,1,8,(some .nilFunc),false⟩
def uH:TI:=⟨.map 301 4,1,8,(some (.map none)),false⟩
def uI : TI := ⟨.struct #[⟨ "heavy", 3, 0, false, "", "spadille/weigh", 0⟩, ⟨ "light", 3, 1, false, "", "spadille/weigh", 8⟩, ⟨ "both", 3, 2, false, "", "spadille/weigh", 16⟩, ⟨ "good", 3, 3, false, "", "spadille/weigh", 24⟩], 4, 32, (some (.agg #[(.int .i64 0), (.int .i64 0), (.int .i64 0), (.int .i64 0)])), true⟩
def uJ : TI := ⟨.struct #[⟨ "Rows", 3, 0, false, "", "", 0⟩, ⟨ "Columns", 3, 1, false, "", "", 8⟩, ⟨ "Long", 3, 2, false, "", "", 16⟩, ⟨ "Wide", 3, 3, false, "", "", 24⟩], 4, 32, (some (.agg #[(.int .i64 0), (.int .i64 0), (.int .i64 0), (.int .i64 0)])), true⟩
def uK : TI := ⟨.struct #[⟨ "From", 3, 0, false, "", "", 0⟩, ⟨ "To", 3, 1, false, "", "", 8⟩, ⟨ "Least", 3, 2, false, "", "", 16⟩, ⟨ "Most", 3, 3, false, "", "", 24⟩], 4, 32, (some (.agg #[(.int .i64 0), (.int .i64 0), (.int .i64 0), (.int .i64 0)])), true⟩
def uL:TI:=⟨.slice 246,1,24,(some (.slice none 0 0)),false⟩
def uM : TI := ⟨.struct #[⟨ "Rooms", 3, 0, false, "", "", 0⟩, ⟨ "Ways", 247, 1, false, "", "", 8⟩], 2, 32, (some (.agg #[(.int .i64 0), (.slice none 0 0)])), false⟩
def uN:TI:=⟨.int .u64,1,8,(some (.int .u64 0)),false⟩
def uO:TI:=⟨.pointer 3,1,8,(some (.pointer none)),false⟩
def uP:TI:=⟨.array 64 5,64,64,(some (.agg #[(.int .u8 0),(.int .u8 0),(.int .u8 0),(.int .u8 0),(.int .u8 0),(.int .u8 0),(.int .u8 0),(.int .u8 0),(.int .u8 0),(.int .u8 0),(.int .u8 0),(.int .u8 0),(.int .u8 0),(.int .u8 0),(.int .u8 0),(.int .u8 0),(.int .u8 0),(.int .u8 0),(.int .u8 0),(.int .u8 0),(.int .u8 0),(.int .u8 0),(.int .u8 0),(.int .u8 0),(.int .u8 0),(.int .u8 0),(.int .u8 0),(.int .u8 0),(.int .u8 0),(.int .u8 0),(.int .u8 0),(.int .u8 0),(.int .u8 0),(.int .u8 0),(.int .u8 0),(.int .u8 0),(.int .u8 0),(.int .u8 0),(.int .u8 0),(.int .u8 0),(.int .u8 0),(.int .u8 0),(.int .u8 0),(.int .u8 0),(.int .u8 0),(.int .u8 0),(.int .u8 0),(.int .u8 0),(.int .u8 0),(.int .u8 0),(.int .u8 0),(.int .u8 0),(.int .u8 0),(.int .u8 0),(.int .u8 0),(.int .u8 0),(.int .u8 0),(.int .u8 0),(.int .u8 0),(.int .u8 0),(.int .u8 0),(.int .u8 0),(.int .u8 0),(.int .u8 0)])),true⟩
def uQ:TI:=⟨.array 17 3,17,136,(some (.agg #[(.int .i64 0),(.int .i64 0),(.int .i64 0),(.int .i64 0),(.int .i64 0),(.int .i64 0),(.int .i64 0),(.int .i64 0),(.int .i64 0),(.int .i64 0),(.int .i64 0),(.int .i64 0),(.int .i64 0),(.int .i64 0),(.int .i64 0),(.int .i64 0),(.int .i64 0)])),true⟩
def uR:TI:=⟨.int .u64,1,8,(some (.int .u64 0)),false⟩
def uS:TI:=⟨.array 2 273,2,16,(some (.agg #[(.int .u64 0),(.int .u64 0)])),true⟩
def uT : TI := ⟨.struct #[⟨ "Sheet", 243, 0, true, "", "", 0⟩, ⟨ "blocks", 274, 4, false, "", "spadille/cut", 32⟩, ⟨ "full", 273, 6, false, "", "spadille/cut", 48⟩], 7, 56, (some (.agg #[(.int .i64 0), (.int .i64 0), (.int .i64 0), (.int .i64 0), (.int .u64 0), (.int .u64 0), (.int .u64 0)])), true⟩
def uU:TI:=⟨.pointer 284,1,8,(some (.pointer none)),false⟩
def uV : TI := ⟨.struct #[⟨ "books", 249, 0, false, "", "spadille/stamp", 0⟩, ⟨ "n", 23, 2, false, "", "spadille/stamp", 32⟩], 3, 56, (some (.agg #[(.int .i64 0), (.slice none 0 0), (.slice none 0 0)])), false⟩
def uW:TI:=⟨.array 8 220,8,8,(some (.agg #[(.int .u8 0),(.int .u8 0),(.int .u8 0),(.int .u8 0),(.int .u8 0),(.int .u8 0),(.int .u8 0),(.int .u8 0)])),true⟩
def uX : TI := ⟨.struct #[⟨ "pack", 239, 0, true, "", "spadille/weigh", 0⟩, ⟨ "n", 3, 4, false, "", "spadille/weigh", 32⟩], 5, 40, (some (.agg #[(.int .i64 0), (.int .i64 0), (.int .i64 0), (.int .i64 0), (.int .i64 0)])), true⟩
def uY:TI:=⟨.map 273 3,1,8,(some (.map none)),false⟩
def uZ : TI := ⟨.struct #[⟨ "of", 305, 0, false, "", "spadille/cut", 0⟩], 1, 8, (some (.agg #[(.map none)])), false⟩
def vB:TI:=⟨.map 3 4,1,8,(some (.map none)),false⟩
def vC : TI := ⟨.struct #[⟨ "Row", 3, 0, false, "", "", 0⟩, ⟨ "Column", 3, 1, false, "", "", 8⟩, ⟨ "Turned", 4, 2, false, "", "", 16⟩], 3, 24, (some (.agg #[(.int .i64 0), (.int .i64 0), (.bool false)])), true⟩
def vD:TI:=⟨.func #[323,273] #[4] false,1,8,(some .nilFunc),false⟩
def vE : TI := ⟨.struct #[⟨ "way", 3, 0, false, "", "spadille/stamp", 0⟩, ⟨ "room", 3, 1, false, "", "spadille/stamp", 8⟩, ⟨ "more", 4, 2, false, "", "spadille/stamp", 16⟩], 3, 24, (some (.agg #[(.int .i64 0), (.int .i64 0), (.bool false)])), true⟩
def vF:TI:=⟨.map 3 326,1,8,(some (.map none)),false⟩
def vG:TI:=⟨.slice 4,1,24,(some (.slice none 0 0)),false⟩
def AiJ:Tr TI:=(.node none (.node none (.node (some ti3) (.node none (.node none .nil (.node none .nil (.node none .nil (.node (some uI) .nil .nil)))) (.node (some Aiv) (.node none (.node (some AiE) .nil (.node none (.node (some vF) .nil .nil) .nil)) (.node none (.node none (.node (some uW) .nil .nil) .nil) .nil)) (.node none (.node none (.node none (.node (some uU) .nil .nil) .nil) .nil) (.node none .nil (.node (some uL) .nil .nil))))) (.node none (.node none (.node none (.node none .nil (.node none (.node (some vC) .nil .nil) .nil)) (.node (some AiI) (.node (some tJ) .nil .nil) .nil)) (.node none (.node none .nil (.node (some uB) .nil .nil)) (.node none (.node none (.node (some uZ) .nil .nil) .nil) (.node (some uJ) .nil .nil)))) (.node (some Aiw) (.node none (.node none (.node none (.node (some uP) .nil .nil) .nil) .nil) (.node none (.node (some tO) .nil .nil) .nil)) (.node none (.node (some AiF) .nil (.node (some uE) .nil .nil)) .nil)))) (.node (some ti5) (.node (some ti9) (.node none (.node none (.node none .nil (.node (some tZ) .nil .nil)) .nil) (.node none (.node none (.node none (.node (some uR) .nil .nil) .nil) .nil) (.node none (.node none (.node (some uY) .nil .nil) .nil) .nil))) (.node none (.node (some Aiz) .nil .nil) (.node none .nil (.node none (.node (some tT) .nil .nil) (.node (some uM) .nil .nil))))) (.node none (.node none (.node none (.node none (.node (some tC) .nil .nil) .nil) .nil) (.node (some AiA) .nil (.node none (.node none (.node (some vB) .nil .nil) .nil) .nil))) (.node none (.node none (.node none (.node (some tH) .nil .nil) (.node none (.node (some vG) .nil .nil) .nil)) (.node none (.node (some tQ) (.node (some uX) .nil .nil) .nil) .nil)) (.node none .nil (.node none (.node (some tY) .nil .nil) .nil)))))) (.node none (.node (some ti4) (.node none (.node none (.node none .nil (.node (some AiH) .nil .nil)) (.node none (.node none .nil (.node (some uA) .nil .nil)) .nil)) (.node none (.node none .nil (.node none (.node (some tL) .nil .nil) .nil)) (.node (some AiC) (.node none .nil (.node (some uD) .nil .nil)) .nil))) (.node none (.node (some Aiu) (.node (some Aix) (.node none .nil (.node none (.node (some vD) .nil .nil) .nil)) .nil) (.node none (.node none (.node none (.node (some uT) .nil .nil) .nil) .nil) .nil)) (.node none (.node none (.node none (.node (some tF) .nil .nil) .nil) (.node none .nil (.node (some uH) .nil .nil))) (.node none (.node (some AiG) (.node none (.node (some uV) .nil .nil) .nil) (.node (some uF) .nil .nil)) (.node none (.node (some tX) .nil .nil) .nil))))) (.node none (.node none (.node none (.node none (.node none (.node (some sZ) .nil .nil) .nil) .nil) (.node none (.node none (.node none (.node (some uS) .nil .nil) .nil) .nil) .nil)) (.node none (.node none .nil (.node none (.node (some tN) .nil .nil) .nil)) (.node (some AiD) .nil (.node none (.node (some tV) .nil .nil) (.node (some uN) .nil .nil))))) (.node none (.node none (.node (some Aiy) (.node none .nil (.node none (.node (some vE) .nil .nil) .nil)) (.node none (.node (some tK) .nil .nil) .nil)) (.node (some AiB) (.node none .nil (.node (some uC) .nil .nil)) (.node none .nil (.node (some uK) .nil .nil)))) (.node none (.node none (.node none (.node none (.node (some uQ) .nil .nil) .nil) .nil) .nil) (.node none (.node none .nil (.node (some uG) .nil .nil)) (.node none .nil (.node (some uO) .nil .nil))))))))
noncomputable def tt:TT:=AiJ.get
def AiK:Tr Xq:=(.node none (.node none (.node none (.node none (.node (some ⟨4,c15,[.tmp 2]⟩) (.node none (.node (some ⟨24,c63,[.tmp 0]⟩) (.node (some ⟨21,lJ,[.tmp 4]⟩) .nil .nil) (.node (some ⟨20,nU,[.tmp 2,.tmp 3]⟩) .nil .nil)) (.node none .nil (.node (some ⟨9,oM,[.tmp 2]⟩) .nil .nil))) (.node none (.node none (.node (some ⟨10,lQ,[.tmp 2]⟩) .nil .nil) (.node (some ⟨17,oI,[.tmp 2]⟩) .nil .nil)) .nil)) (.node none (.node (some ⟨20,c39,[.tmp 0]⟩) (.node (some ⟨32,c71,[.tmp 4,.tmp 5]⟩) (.node none (.node (some ⟨26,qR,[.tmp 6]⟩) .nil .nil) .nil) .nil) (.node (some ⟨134,X9,[]⟩) (.node (some ⟨22,mQ,[.tmp 2]⟩) .nil .nil) .nil)) (.node none (.node none (.node (some ⟨65,lX,[]⟩) .nil .nil) .nil) (.node (some ⟨27,Yd,[.tmp 2]⟩) (.node (some ⟨38,nM,[.tmp 2]⟩) .nil .nil) (.node (some ⟨62,pO,[.tmp 2]⟩) .nil .nil))))) (.node none (.node none (.node none (.node (some ⟨8,c67,[.tmp 2]⟩) (.node none (.node (some ⟨12,qB,[.tmp 3]⟩) .nil .nil) .nil) (.node (some ⟨15,nY,[.tmp 6]⟩) .nil .nil)) (.node (some ⟨11,c99,[.tmp 2]⟩) .nil (.node (some ⟨80,oQ,[.tmp 2,.tmp 3]⟩) .nil .nil))) (.node none (.node none (.node (some ⟨18,lU,[.tmp 2,.tmp 3]⟩) .nil .nil) .nil) (.node (some ⟨24,Yb,[.cell 4 99]⟩) (.node (some ⟨14,nL,[.tmp 2]⟩) .nil .nil) (.node (some ⟨137,pI,[.tmp 6]⟩) .nil .nil)))) (.node none (.node (some ⟨39,c43,[.cell 4 41,.tmp 5]⟩) (.node none (.node none (.node (some ⟨15,qX,[.tmp 6]⟩) .nil .nil) .nil) (.node (some ⟨34,oF,[.tmp 4]⟩) .nil .nil)) (.node none (.node (some ⟨31,nD,[.cell 4 214]⟩) .nil .nil) (.node (some ⟨10,pE,[.tmp 4]⟩) .nil .nil))) (.node none (.node none (.node (some ⟨84,mE,[.tmp 8]⟩) .nil .nil) .nil) (.node (some ⟨15,lH,[.tmp 6]⟩) (.node (some ⟨18,nQ,[.tmp 2]⟩) .nil .nil) (.node (some ⟨115,pW,[.tmp 8]⟩) .nil .nil)))))) (.node none (.node (some ⟨183,c9,[.tmp 4]⟩) (.node none (.node none (.node none (.node (some ⟨38,lL,[.tmp 4]⟩) .nil .nil) (.node (some ⟨7,nW,[.tmp 2]⟩) .nil .nil)) (.node (some ⟨17,c97,[.tmp 2,.tmp 3]⟩) .nil (.node (some ⟨35,oO,[.cell 2 276,.tmp 3]⟩) .nil .nil))) (.node none (.node none (.node (some ⟨31,lS,[.tmp 2]⟩) (.node (some ⟨63,rE,[.tmp 6,.tmp 7]⟩) .nil .nil) .nil) .nil) (.node none (.node (some ⟨38,nJ,[.cell 2 173]⟩) .nil .nil) (.node (some ⟨12,pF,[.tmp 2]⟩) .nil .nil)))) (.node none (.node (some ⟨38,c41,[.tmp 4,.tmp 5]⟩) (.node (some ⟨16,c73,[.tmp 4]⟩) (.node (some ⟨25,Yh,[.tmp 2]⟩) (.node (some ⟨55,qV,[]⟩) .nil .nil) .nil) .nil) (.node none (.node (some ⟨11,Yj,[.tmp 4]⟩) .nil .nil) (.node (some ⟨42,oW,[.tmp 2]⟩) .nil .nil))) (.node (some ⟨8,c57,[.cell 2 41]⟩) (.node none (.node (some ⟨32,lZ,[]⟩) .nil .nil) (.node (some ⟨41,oJ,[.cell 4 173]⟩) .nil .nil)) (.node (some ⟨15,Ye,[.tmp 2]⟩) (.node (some ⟨42,nO,[.tmp 4,.tmp 5,.tmp 6]⟩) .nil .nil) (.node (some ⟨53,pR,[.tmp 2]⟩) .nil .nil))))) (.node none (.node none (.node none .nil (.node (some ⟨24,X6,[.tmp 6]⟩) (.node (some ⟨47,mO,[.tmp 4]⟩) .nil .nil) (.node (some ⟨28,oV,[.tmp 8,.tmp 9]⟩) .nil .nil))) (.node none (.node none (.node (some ⟨49,Yi,[]⟩) .nil .nil) .nil) (.node (some ⟨48,kW,[.tmp 10]⟩) .nil (.node (some ⟨22,pK,[.tmp 6]⟩) .nil .nil)))) (.node none (.node none (.node (some ⟨53,c77,[.tmp 2,.tmp 3]⟩) (.node none (.node (some ⟨13,rC,[.tmp 4]⟩) .nil .nil) .nil) (.node (some ⟨47,oG,[.tmp 2,.tmp 3,.tmp 4]⟩) .nil .nil)) (.node none (.node (some ⟨23,nH,[.tmp 6]⟩) .nil .nil) .nil)) (.node (some ⟨30,c61,[.cell 4 99]⟩) (.node none .nil (.node (some ⟨9,oK,[.tmp 2]⟩) .nil .nil)) (.node (some ⟨17,Yf,[.tmp 4]⟩) (.node (some ⟨39,nS,[.cell 2 239]⟩) .nil .nil) (.node (some ⟨47,pX,[]⟩) .nil .nil))))))) (.node none (.node none (.node none (.node (some ⟨27,c16,[.tmp 4]⟩) (.node none (.node none (.node (some ⟨17,lK,[.cell 2 173,.tmp 3]⟩) .nil .nil) (.node (some ⟨76,nV,[]⟩) .nil .nil)) (.node (some ⟨15,c96,[.tmp 6]⟩) .nil (.node (some ⟨44,oN,[.tmp 6]⟩) .nil .nil))) (.node none (.node none (.node none (.node (some ⟨24,rD,[.tmp 4,.tmp 5]⟩) .nil .nil) .nil) .nil) (.node (some ⟨110,kV,[.tmp 2,.tmp 3]⟩) (.node (some ⟨6,Yl,[.tmp 2]⟩) .nil .nil) .nil))) (.node (some ⟨24,c24,[.tmp 0]⟩) (.node (some ⟨15,c40,[.tmp 2]⟩) (.node (some ⟨19,c72,[.tmp 2,.tmp 3]⟩) (.node (some ⟨19,Yg,[.tmp 2]⟩) (.node (some ⟨10,qU,[.tmp 3]⟩) .nil .nil) .nil) .nil) .nil) (.node (some ⟨15,c56,[.tmp 4]⟩) (.node none (.node (some ⟨57,lY,[.tmp 6,.tmp 7]⟩) .nil .nil) .nil) (.node (some ⟨11,kY,[.tmp 4]⟩) (.node (some ⟨7,nN,[.tmp 2]⟩) .nil .nil) (.node (some ⟨3,pQ,[.tmp 2]⟩) .nil .nil))))) (.node none (.node none (.node none (.node none .nil (.node (some ⟨36,nZ,[.tmp 10]⟩) .nil .nil)) (.node (some ⟨15,X5,[.tmp 6]⟩) (.node (some ⟨18,mM,[.cell 2 208]⟩) .nil .nil) (.node (some ⟨20,oU,[]⟩) .nil .nil))) (.node none (.node (some ⟨9,c84,[.tmp 4]⟩) (.node (some ⟨35,lV,[.tmp 0]⟩) (.node (some ⟨15,rF,[.tmp 4,.tmp 5]⟩) .nil .nil) .nil) .nil) (.node (some ⟨19,Yc,[.tmp 2]⟩) .nil (.node (some ⟨29,pJ,[.tmp 2]⟩) .nil .nil)))) (.node none (.node (some ⟨11,c44,[]⟩) (.node (some ⟨39,c76,[.tmp 2]⟩) (.node none (.node (some ⟨29,rA,[]⟩) .nil .nil) .nil) .nil) (.node none (.node (some ⟨25,nG,[.tmp 6]⟩) .nil .nil) .nil)) (.node none (.node none (.node (some ⟨168,mK,[.tmp 8,.tmp 9]⟩) .nil .nil) .nil) (.node none (.node (some ⟨15,nR,[.tmp 4]⟩) .nil .nil) (.node (some ⟨32,Ym,[]⟩) .nil .nil)))))) (.node none (.node none (.node (some ⟨17,c18,[.tmp 4]⟩) (.node none (.node (some ⟨46,c66,[.tmp 2]⟩) .nil (.node (some ⟨33,nX,[.tmp 2]⟩) .nil .nil)) (.node (some ⟨35,c98,[.tmp 0]⟩) .nil (.node (some ⟨7,oP,[.tmp 2]⟩) .nil .nil))) (.node none (.node (some ⟨8,c82,[.tmp 2]⟩) (.node (some ⟨39,lT,[.tmp 2,.tmp 3]⟩) .nil .nil) .nil) (.node (some ⟨42,Ya,[.tmp 2]⟩) (.node (some ⟨21,nK,[.cell 4 173]⟩) .nil .nil) (.node (some ⟨11,pG,[.tmp 2]⟩) .nil .nil)))) (.node none (.node (some ⟨45,c42,[.tmp 4,.tmp 5]⟩) (.node none (.node (some ⟨19,lM,[.tmp 4]⟩) (.node (some ⟨14,qW,[.tmp 7]⟩) .nil .nil) .nil) (.node (some ⟨28,oD,[]⟩) .nil .nil)) (.node none (.node (some ⟨38,Yk,[.tmp 2]⟩) .nil .nil) (.node (some ⟨50,oZ,[.tmp 2]⟩) .nil .nil))) (.node none (.node none (.node (some ⟨133,mD,[.tmp 6]⟩) .nil .nil) .nil) (.node (some ⟨16,kZ,[.tmp 6,.tmp 7]⟩) (.node (some ⟨27,nP,[.tmp 4]⟩) .nil .nil) (.node (some ⟨5,pV,[.tmp 2]⟩) .nil .nil))))) (.node none (.node (some ⟨26,c22,[.tmp 4]⟩) (.node none (.node (some ⟨44,c70,[.tmp 4,.tmp 5]⟩) (.node none (.node (some ⟨30,qC,[.cell 8 239]⟩) .nil .nil) .nil) .nil) (.node (some ⟨23,X7,[.tmp 4]⟩) (.node (some ⟨22,mP,[.cell 4 208]⟩) .nil .nil) .nil)) (.node (some ⟨16,c54,[.cell 2 99,.tmp 3]⟩) (.node none (.node (some ⟨56,lW,[]⟩) .nil .nil) .nil) (.node (some ⟨6,kX,[.tmp 2]⟩) .nil (.node (some ⟨15,pM,[.tmp 6]⟩) .nil .nil)))) (.node (some ⟨50,c30,[.tmp 0]⟩) (.node (some ⟨25,c46,[.tmp 2]⟩) (.node none (.node (some ⟨68,lN,[.tmp 2,.tmp 3]⟩) .nil .nil) (.node (some ⟨30,oH,[.tmp 8]⟩) .nil .nil)) (.node none (.node (some ⟨18,nI,[.tmp 2,.tmp 3]⟩) .nil .nil) .nil)) (.node (some ⟨40,c62,[.cell 4 41,.tmp 5]⟩) (.node none .nil (.node (some ⟨50,oL,[.cell 4 270]⟩) .nil .nil)) (.node (some ⟨20,lI,[.tmp 4]⟩) (.node (some ⟨16,nT,[.tmp 2,.tmp 3]⟩) .nil .nil) (.node (some ⟨7,pY,[.tmp 3]⟩) .nil .nil))))))))
noncomputable def IB:FuncId→Option Xq:=AiK.get
end Go.TpF
