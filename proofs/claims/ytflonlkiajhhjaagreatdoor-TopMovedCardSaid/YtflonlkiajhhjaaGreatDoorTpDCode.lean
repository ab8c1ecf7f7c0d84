/- Made from wip. -/
import Derived.Test.YtflonlkiajhhjaaGreatDoorSpFramex
import Derived.Test.YtflonlkiajhhjaaGreatDoorTpDNodesx

set_option maxRecDepth 100000
namespace Go.TpD
open Go.Sp
def c3:RC:=Qw
def c10:RC:=Nf
def c11:RC:=Ng
def c12:RC:=KS
def c13:RC:=Nh
def c14:RC:=
 .seq (.reg [] [
  rq 0 (.assign (kb false)) 4])
 (.seq (.reg [] [
   rq 4 (.buildSlice 23 3 #[(0,(ki 3)),(1,(ki 2)),(2,(ki 1))]) 23,rq 5 (cf 15 #[(tp 4)] #[23]) 23,rq 6 (cf 50 #[(tp 5)] #[23]) 30,Ap 3 6 30,EM 7 3 0 3,EM 8 3 1 27,AQ 1 7 3,AQ 2 8 27])
 (.seq (.reg [] [
   Ap 9 2 27,rq 10 (.binOp .eql 27 (tp 9) (ki 0) 27) 4,Ap 11 10 4,DD 12 1 3 11 true,rg 13 (.binOp .eql 3 (tp 12) (ki 16) 3) 4 11 true,rq 14 (.pick (tp 11) (tp 13) (kb false)) 4,Ap 15 14 4,rg 16 (cf 51 #[] #[]) 4 15 true,rq 17 (.pick (tp 15) (tp 16) (kb false)) 4,AQ 0 17 4])
 (.ret)))
def c15:RC:=
 .seq (.reg [] [
  rq 2 (.assign (.const (.slice none 0 0))) 23])
 (.seq (.reg [] [
   Ap 3 0 23,AQ 2 3 23])
 (.ret))
def c22:RC:=
 .seq (.reg [] [
  rq 4 (.assign (kb false)) 4])
 (.seq (.seq (.reg [] [
   Ap 6 0 23,EN 7 6 23,Ap 8 1 23,EN 9 8 23,rq 10 (.binOp .neq 3 (tp 7) (tp 9) 3) 4])
 (.cond (tp 10) (.seq (.reg [] [
   rq 4 (.assign (kb false)) 4])
  (.ret))
 (.skip)))
 (.seq (.seq (.reg [] [
   Ap 11 0 23,EN 12 11 23,rq 13 (.move (ki 0)) 3])
 (.block 0 (.loop (.seq (.reg [] [
   L8 14 13 12])
   (.seq (.cond (tp 14) (.skip)
   (.exit 0))
   (.seq (.block 1 (.seq (.reg [] [
     Ap 15 13 3,
     AQ 5 15 3])
    (.seq (.reg [0, 1, 2, 3, 4, 5, 6, 7, 8] [
      Ap 16 0 23,
      Ap 17 5 3,
      D5 18 23 16 17,
      Ce 19 18 3,
      Ap 20 1 23,
      Ap 21 5 3,
      D5 22 23 20 21,
      Ce 23 22 3,
      rq 24 (.binOp .neq 3 (tp 19) (tp 23) 3) 4])
    (.cond (tp 24) (.seq (.reg [] [
      rq 4 (.assign (kb false)) 4])
     (.ret))
    (.skip)))))
   (.reg [] [
     FB 25 13,
     Ap 13 25 3])))))))
 (.seq (.reg [] [
   rq 4 (.assign (kb true)) 4])
 (.ret))))
def c45:RC:=Ni
def c46:RC:=KT
def c47:RC:=Oi
def c48:RC:=Ov
def c49:RC:=Qz
def c50:RC:=
 .seq (.reg [] [
  Cz 2 0 3,Cz 3 0 27])
 (.seq (.seq (.reg [] [
   Ap 17 0 23,EN 18 17 23,rq 19 (.binOp .eql 3 (tp 18) (ki 0) 3) 4])
 (.cond (tp 19) (.seq (.reg [] [
   Cz 2 0 3,
   Cz 3 4 27])
  (.ret))
 (.skip)))
 (.seq (.reg [] [
   Cz 4 0 3,Cz 5 9 3])
 (.seq (.seq (.reg [] [
   Ap 20 0 23,EN 21 20 23,rq 22 (.move (ki 0)) 3])
 (.block 0 (.loop (.seq (.reg [] [
   L8 23 22 21])
   (.seq (.cond (tp 23) (.skip)
   (.exit 0))
   (.seq (.block 1 (.seq (.reg [] [
     D5 24 23 20 22,
     Ce 25 24 3,
     AQ 7 25 3])
    (.seq (.block 2 (.seq (.reg [] [
      Ap 27 7 3,
      rq 28 (cf 80 #[(ki 1),(tp 27),(ki 9)] #[3,3,3]) 4,
      rq 29 (.unOp .not 4 (tp 28)) 4,
      AQ 26 29 4])
     (.cond (tp 26) (.seq (.reg [] [
       Cz 2 0 3,
       Cz 3 1 27])
      (.ret))
     (.seq (.reg [] [
       Ap 31 7 3,
       Ap 32 5 3,
       rq 33 (.binOp .gtr 3 (tp 31) (tp 32) 3) 4,
       AQ 30 33 4])
      (.cond (tp 30) (.seq (.reg [] [
        Cz 2 0 3,
        Cz 3 7 27])
       (.ret))
      (.skip))))))
    (.seq (.reg [] [
      Ap 34 7 3,
      AQ 5 34 3])
    (.reg [] [
      Ap 35 4 3,
      Ap 36 7 3,
      rq 37 (.binOp .add 3 (tp 35) (tp 36) 3) 3,
      rq 38 (cb .min #[(tp 37),(ki 10)] #[3,3]) 3,
      AQ 4 38 3])))))
   (.reg [] [
     FB 39 22,
     Ap 22 39 3])))))))
 (.seq (.seq (.reg [] [
   Ap 40 4 3,rq 41 (.binOp .gtr 3 (tp 40) (ki 9) 3) 4])
 (.cond (tp 41) (.seq (.reg [] [
   Cz 2 0 3,
   Cz 3 3 27])
  (.ret))
 (.skip)))
 (.seq (.reg [] [
   Cz 8 1 3,Cz 9 1 3])
 (.seq (.seq (.reg [] [
   Ap 42 4 3,rq 43 (.move (ki 0)) 3])
 (.block 3 (.loop (.seq (.reg [] [
   rq 44 (.binOp .lss 3 (tp 43) (tp 42) 3) 4])
   (.seq (.cond (tp 44) (.skip)
   (.exit 3))
   (.seq (.block 4 (.seq (.reg [] [
     Ap 45 43 3,
     AQ 10 45 3])
    (.reg [] [
      Ap 46 8 3,
      Ap 47 10 3,
      FB 48 47,
      rq 49 (.binOp .mul 3 (tp 46) (tp 48) 3) 3,
      AQ 8 49 3])))
   (.reg [] [
     FB 50 43,
     Ap 43 50 3])))))))
 (.seq (.seq (.reg [] [
   Ap 51 0 23,EN 52 51 23,rq 53 (.move (ki 0)) 3])
 (.block 5 (.loop (.seq (.reg [] [
   L8 54 53 52])
   (.seq (.cond (tp 54) (.skip)
   (.exit 5))
   (.seq (.block 6 (.seq (.reg [] [
     Ap 55 53 3,
     D5 56 23 51 53,
     Ce 57 56 3,
     AQ 11 55 3,
     AQ 12 57 3])
    (.seq (.reg [] [
      Ap 58 12 3,
      rq 59 (.move (ki 0)) 3])
    (.block 7 (.loop (.seq (.reg [] [
      rq 60 (.binOp .lss 3 (tp 59) (tp 58) 3) 4])
      (.seq (.cond (tp 60) (.skip)
      (.exit 7))
      (.seq (.block 8 (.seq (.reg [] [
        Ap 61 59 3,
        AQ 13 61 3])
       (.seq (.reg [] [
         Ap 62 12 3,
         Ap 63 13 3,
         rq 64 (.binOp .sub 3 (tp 62) (tp 63) 3) 3,
         AQ 14 64 3])
       (.seq (.seq (.reg [] [
         Ap 65 0 23,
         Ap 66 11 3,
         FB 67 66,
         rq 68 (.slice 23 (tp 65) (some (tp 67)) none none) 23,
         EN 69 68 23,
         rq 70 (.move (ki 0)) 3])
       (.block 9 (.loop (.seq (.reg [] [
         L8 71 70 69])
         (.seq (.cond (tp 71) (.skip)
         (.exit 9))
         (.seq (.block 10 (.seq (.reg [] [
           D5 72 23 68 70,
           Ce 73 72 3,
           AQ 16 73 3])
          (.seq (.reg [] [
            Ap 74 16 3,
            Ap 75 13 3,
            rq 76 (.binOp .gtr 3 (tp 74) (tp 75) 3) 4])
          (.cond (tp 76) (.reg [] [
            Ap 77 14 3,
            FB 78 77,
            AQ 14 78 3])
          (.skip)))))
         (.reg [] [
           FB 79 70,
           Ap 70 79 3])))))))
       (.reg [] [
         Ap 80 9 3,
         Ap 81 14 3,
         rq 82 (.binOp .mul 3 (tp 80) (tp 81) 3) 3,
         AQ 9 82 3])))))
      (.reg [] [
        FB 83 59,
        Ap 59 83 3])))))))))
   (.reg [] [
     FB 84 53,
     Ap 53 84 3])))))))
 (.seq (.reg [] [
   Ap 85 8 3,Ap 86 9 3,rq 87 (.binOp .quo 3 (tp 85) (tp 86) 3) 3,AQ 2 87 3,Cz 3 0 27])
 (.ret)))))))))
def c51:RC:=
 .seq (.reg [] [
  rq 0 (.assign (kb false)) 4])
 (.seq (.reg [] [
   rq 4 (.buildSlice 23 3 #[(0,(ki 4)),(1,(ki 1)),(2,(ki 1))]) 23,rq 5 (cf 15 #[(tp 4)] #[23]) 23,rq 6 (cf 110 #[(tp 5)] #[23]) 28,Ap 3 6 28,EM 7 3 0 23,EM 8 3 1 27,AQ 1 7 23,AQ 2 8 27])
 (.seq (.reg [] [
   Ap 9 2 27,rq 10 (.binOp .eql 27 (tp 9) (ki 0) 27) 4,Ap 11 10 4,DD 12 1 23 11 true,rg 13 (.buildSlice 23 2 #[(0,(ki 3)),(1,(ki 3))]) 23 11 true,rg 14 (cf 15 #[(tp 13)] #[23]) 23 11 true,rg 15 (cf 22 #[(tp 12),(tp 14)] #[23,23]) 4 11 true,rq 16 (.pick (tp 11) (tp 15) (kb false)) 4,Ap 17 16 4,rg 18 (cf 111 #[] #[]) 4 17 true,rq 19 (.pick (tp 17) (tp 18) (kb false)) 4,AQ 0 19 4])
 (.ret)))
def c66:RC:=
 .seq (.reg [] [
  rq 1 (.box 56 (tp 0)) 0,Cz 2 0 27])
 (.seq (.block 0 (.seq (.reg [] [
   DR 6 56 1 0,
   Ce 7 6 3,
   rq 8 (cf 123 #[(ki 1),(tp 7),(ki 7)] #[3,3,3]) 4,
   rq 9 (.unOp .not 4 (tp 8)) 4,
   AQ 5 9 4])
  (.cond (tp 5) (.seq (.reg [] [
    Cz 2 1 27])
   (.ret))
  (.seq (.reg [] [
    DR 11 56 1 1,
    Ce 12 11 54,
    EN 13 12 54,
    rq 14 (.binOp .gtr 3 (tp 13) (ki 24) 3) 4,
    AQ 10 14 4])
   (.cond (tp 10) (.seq (.reg [] [
     Cz 2 3 27])
    (.ret))
   (.skip))))))
 (.seq (.seq (.reg [] [
   DR 15 56 1 1,Ce 16 15 54,EN 17 16 54,rq 18 (.move (ki 0)) 3])
 (.block 1 (.loop (.seq (.reg [] [
   L8 19 18 17])
   (.seq (.cond (tp 19) (.skip)
   (.exit 1))
   (.seq (.block 2 (.seq (.reg [] [
     D5 20 54 16 18,
     Ce 21 20 58,
     rq 4 (.alloc 58) 0,
     rn (.store 58 (tp 4) (tp 21)) 0])
    (.block 3 (.seq (.reg [] [
      rq 23 (.indexAddr 58 (tp 4) (ki 0)) 0,
      Ce 24 23 3,
      rq 25 (.indexAddr 58 (tp 4) (ki 1)) 0,
      Ce 26 25 3,
      rq 27 (cb .min #[(tp 24),(tp 26)] #[3,3]) 3,
      rq 28 (.binOp .lss 3 (tp 27) (ki 0) 3) 4,
      Ap 29 28 4,
      rg 30 (.indexAddr 58 (tp 4) (ki 0)) 0 29 false,
      rg 31 (.load 3 (tp 30)) 3 29 false,
      rg 32 (.indexAddr 58 (tp 4) (ki 1)) 0 29 false,
      rg 33 (.load 3 (tp 32)) 3 29 false,
      rg 34 (cb .max #[(tp 31),(tp 33)] #[3,3]) 3 29 false,
      rg 35 (.fieldAddr 56 (tp 1) 0) 0 29 false,
      rg 36 (.load 3 (tp 35)) 3 29 false,
      rg 37 (.binOp .geq 3 (tp 34) (tp 36) 3) 4 29 false,
      rq 38 (.pick (tp 29) (kb true) (tp 37)) 4,
      AQ 22 38 4])
     (.cond (tp 22) (.seq (.reg [] [
       Cz 2 2 27])
      (.ret))
     (.seq (.reg [] [
       rq 40 (.indexAddr 58 (tp 4) (ki 0)) 0,
       Ce 41 40 3,
       rq 42 (.indexAddr 58 (tp 4) (ki 1)) 0,
       Ce 43 42 3,
       rq 44 (.binOp .geq 3 (tp 41) (tp 43) 3) 4,
       AQ 39 44 4])
      (.cond (tp 39) (.seq (.reg [] [
        Cz 2 7 27])
       (.ret))
      (.skip))))))))
   (.reg [] [
     FB 45 18,
     Ap 18 45 3])))))))
 (.seq (.reg [] [
   Cz 2 0 27])
 (.ret))))
def c67:RC:=
 .seq (.reg [] [
  rq 2 (.assign (.const (.slice none 0 0))) 23])
 (.seq (.seq (.reg [] [
   Ap 3 0 23,rq 4 (.binOp .eql 23 (tp 3) (.const (.slice none 0 0)) 23) 4])
 (.cond (tp 4) (.seq (.reg [] [
   rq 2 (.assign (.const (.slice none 0 0))) 23])
  (.ret))
 (.skip)))
 (.seq (.reg [] [
   rq 5 (.buildSlice 23 0 #[]) 23,Ap 6 0 23,rq 7 (cb .append #[(tp 5),(tp 6)] #[23,23]) 23,AQ 2 7 23])
 (.ret)))
def c71:RC:=
 .seq (.reg [] [
  Cz 4 0 3,Cz 5 0 27])
 (.seq (.seq (.reg [] [
   Ap 9 0 23,Ap 10 1 3,rq 11 (cf 73 #[(tp 9),(tp 10)] #[23,3]) 27,AQ 6 11 27])
 (.seq (.reg [] [
   Ap 12 6 27,rq 13 (.binOp .neq 27 (tp 12) (ki 0) 27) 4])
 (.cond (tp 13) (.seq (.reg [] [
   Ap 14 6 27,
   Cz 4 0 3,
   AQ 5 14 27])
  (.ret))
 (.skip))))
 (.seq (.reg [] [
   Ap 16 0 23,rq 17 (cf 77 #[(tp 16)] #[23]) 123,Ap 15 17 123,EM 18 15 0 23,EM 19 15 1 3,AQ 7 18 23,AQ 8 19 3])
 (.seq (.seq (.reg [] [
   Ap 20 8 3,Ap 21 1 3,rq 22 (.binOp .gtr 3 (tp 20) (tp 21) 3) 4])
 (.cond (tp 22) (.seq (.reg [] [
   Cz 4 0 3,
   Cz 5 0 27])
  (.ret))
 (.skip)))
 (.seq (.reg [] [
   Ap 23 1 3,Ap 24 0 23,EN 25 24 23,rq 26 (.binOp .add 3 (tp 23) (tp 25) 3) 3,Ap 27 8 3,rq 28 (.binOp .sub 3 (tp 26) (tp 27) 3) 3,Ap 29 0 23,EN 30 29 23,rq 31 (cf 127 #[(tp 28),(tp 30)] #[3,3]) 3,AQ 4 31 3,Cz 5 0 27])
 (.ret)))))
def c72:RC:=
 .seq (.reg [] [
  rq 1 (.box 56 (tp 0)) 0,rq 2 (.assign (kb false)) 4,Cz 3 0 27])
 (.seq (.reg [] [
   Ce 7 1 56,rq 8 (cf 128 #[(tp 7)] #[56]) 174,Ap 6 8 174,EM 9 6 0 173,EM 10 6 1 27,rq 4 (.alloc 173) 0,rn (.store 173 (tp 4) (tp 9)) 0,AQ 5 10 27])
 (.seq (.seq (.reg [] [
   Ap 11 5 27,rq 12 (.binOp .neq 27 (tp 11) (ki 0) 27) 4])
 (.cond (tp 12) (.seq (.reg [] [
   Ap 13 5 27,
   rq 2 (.assign (kb false)) 4,
   AQ 3 13 27])
  (.ret))
 (.skip)))
 (.seq (.reg [] [
   Ce 14 4 173,DR 15 56 1 0,Ce 16 15 3,rq 17 (cf 129 #[(tp 14),(tp 16)] #[173,3]) 3,rq 18 (.binOp .lss 3 (tp 17) (ki 0) 3) 4,AQ 2 18 4,Cz 3 0 27])
 (.ret))))
def c73:RC:=
 .seq (.reg [] [
  Cz 4 0 27])
 (.seq (.reg [] [
   Ap 6 0 23,rq 7 (cf 76 #[(tp 6)] #[23]) 27,AQ 5 7 27])
 (.seq (.seq (.reg [] [
   Ap 8 5 27,rq 9 (.binOp .eql 27 (tp 8) (ki 0) 27) 4,Ap 10 9 4,DD 11 1 3 10 true,rg 12 (cf 100 #[(ki 1),(tp 11),(ki 16)] #[3,3,3]) 4 10 true,rg 13 (.unOp .not 4 (tp 12)) 4 10 true,rq 14 (.pick (tp 10) (tp 13) (kb false)) 4])
 (.cond (tp 14) (.seq (.reg [] [
   Cz 4 1 27])
  (.ret))
 (.skip)))
 (.seq (.reg [] [
   Ap 15 5 27,AQ 4 15 27])
 (.ret))))
def c76:RC:=
 .seq (.reg [] [
  Cz 2 0 27])
 (.seq (.seq (.reg [] [
   Ap 7 0 23,EN 8 7 23,AQ 3 8 3])
 (.block 0 (.seq (.reg [] [
   Ap 10 3 3,
   rq 11 (.binOp .eql 3 (tp 10) (ki 0) 3) 4,
   AQ 9 11 4])
  (.cond (tp 9) (.seq (.reg [] [
    Cz 2 4 27])
   (.ret))
  (.seq (.reg [] [
    Ap 13 3 3,
    rq 14 (.binOp .gtr 3 (tp 13) (ki 10) 3) 4,
    AQ 12 14 4])
   (.cond (tp 12) (.seq (.reg [] [
     Cz 2 3 27])
    (.ret))
   (.skip)))))))
 (.seq (.reg [] [
   rq 4 (.assign (.const (.int .u16 0))) 53])
 (.seq (.seq (.reg [] [
   Ap 15 0 23,EN 16 15 23,rq 17 (.move (ki 0)) 3])
 (.block 1 (.loop (.seq (.reg [] [
   L8 18 17 16])
   (.seq (.cond (tp 18) (.skip)
   (.exit 1))
   (.seq (.block 2 (.seq (.reg [] [
     D5 19 23 15 17,
     Ce 20 19 3,
     AQ 6 20 3])
    (.seq (.block 3 (.seq (.reg [] [
      Ap 22 6 3,
      Ap 23 0 23,
      EN 24 23 23,
      rq 25 (.binOp .sub 3 (tp 24) (ki 1) 3) 3,
      rq 26 (cf 100 #[(ki 0),(tp 22),(tp 25)] #[3,3,3]) 4,
      rq 27 (.unOp .not 4 (tp 26)) 4,
      AQ 21 27 4])
     (.cond (tp 21) (.seq (.reg [] [
       Cz 2 2 27])
      (.ret))
     (.seq (.reg [] [
       Ap 29 4 53,
       Ap 30 6 3,
       rq 31 (.binOp .shr 53 (tp 29) (tp 30) 3) 53,
       rq 32 (.binOp .and 53 (tp 31) (.const (.int .u16 1)) 53) 53,
       rq 33 (.binOp .eql 53 (tp 32) (.const (.int .u16 1)) 53) 4,
       AQ 28 33 4])
      (.cond (tp 28) (.seq (.reg [] [
        Cz 2 6 27])
       (.ret))
      (.skip))))))
    (.reg [] [
      Ap 34 4 53,
      Ap 35 6 3,
      rq 36 (.binOp .shl 53 (.const (.int .u16 1)) (tp 35) 3) 53,
      rq 37 (.binOp .or 53 (tp 34) (tp 36) 53) 53,
      AQ 4 37 53]))))
   (.reg [] [
     FB 38 17,
     Ap 17 38 3])))))))
 (.seq (.reg [] [
   Cz 2 0 27])
 (.ret)))))
def c77:RC:=
 .seq (.reg [] [
  rq 2 (.assign (.const (.slice none 0 0))) 23,Cz 3 0 3])
 (.seq (.reg [] [
   Ap 10 0 23,EN 11 10 23,rq 12 (.makeSlice 23 (tp 11) (tp 11)) 23,AQ 4 12 23])
 (.seq (.seq (.reg [] [
   Ap 13 0 23,EN 14 13 23,rq 15 (.move (ki 0)) 3])
 (.block 0 (.loop (.seq (.reg [] [
   L8 16 15 14])
   (.seq (.cond (tp 16) (.skip)
   (.exit 0))
   (.seq (.block 1 (.seq (.reg [] [
     Ap 17 15 3,
     D5 18 23 13 15,
     Ce 19 18 3,
     AQ 5 17 3,
     AQ 6 19 3])
    (.reg [] [
      Ap 20 4 23,
      Ap 21 6 3,
      Ap 22 5 3,
      D5 23 23 20 21,
      rn (.store 3 (tp 23) (tp 22)) 0])))
   (.reg [] [
     FB 24 15,
     Ap 15 24 3])))))))
 (.seq (.reg [] [
   Ap 25 0 23,EN 26 25 23,rq 27 (.makeSlice 23 (tp 26) (tp 26)) 23,AQ 7 27 23,Cz 8 0 3])
 (.seq (.seq (.reg [] [
   Cz 9 1 3])
 (.block 2 (.loop (.seq (.seq (.reg [] [
   Ap 28 9 3,
   Ap 29 0 23,
   EN 30 29 23,
   rq 31 (.binOp .lss 3 (tp 28) (tp 30) 3) 4])
   (.cond (tp 31) (.skip)
   (.exit 2)))
   (.seq (.block 3 (.seq (.seq (.reg [0, 1, 2, 3, 4, 5, 6, 7, 8, 9] [
     Ap 34 4 23,
     Ap 35 9 3,
     D5 36 23 34 35,
     Ce 37 36 3,
     Ap 38 4 23,
     Ap 39 9 3,
     rq 40 (.binOp .sub 3 (tp 39) (ki 1) 3) 3,
     D5 41 23 38 40,
     Ce 42 41 3,
     rq 43 (.binOp .lss 3 (tp 37) (tp 42) 3) 4])
    (.cond (tp 43) (.reg [] [
      Ap 44 8 3,
      FB 45 44,
      AQ 8 45 3])
    (.skip)))
    (.reg [] [
      Ap 46 7 23,
      Ap 47 9 3,
      Ap 48 8 3,
      D5 49 23 46 47,
      rn (.store 3 (tp 49) (tp 48)) 0])))
   (.reg [] [
     Ap 32 9 3,
     FB 33 32,
     AQ 9 33 3]))))))
 (.seq (.reg [] [
   Ap 50 7 23,Ap 51 8 3,FB 52 51,AQ 2 50 23,AQ 3 52 3])
 (.ret))))))
def c80:RC:=QA
def c84:RC:=
 .seq (.reg [] [
  rq 4 (.assign (kb false)) 4])
 (.seq (.reg [] [
   Ap 5 0 23,Ap 6 1 133,rq 7 (cf 138 #[(tp 5),(tp 6)] #[23,133]) 3,rq 8 (.binOp .geq 3 (tp 7) (ki 0) 3) 4,AQ 4 8 4])
 (.ret))
def c90:RC:=QB
def c96:RC:=
 .seq (.reg [] [
  rq 6 (.assign (kb false)) 4])
 (.seq (.reg [] [
   Ap 7 0 3,Ap 8 1 3,rq 9 (.binOp .leq 3 (tp 7) (tp 8) 3) 4,Ap 10 9 4,DD 11 1 3 10 true,DD 12 2 3 10 true,rg 13 (.binOp .leq 3 (tp 11) (tp 12) 3) 4 10 true,rq 14 (.pick (tp 10) (tp 13) (kb false)) 4,AQ 6 14 4])
 (.ret))
def XP:RC:=
 .seq (.reg [] [
  rq 6 (.assign (kb false)) 4])
 (.seq (.reg [] [
   Ap 7 0 3,Ap 8 1 3,rq 9 (.binOp .leq 3 (tp 7) (tp 8) 3) 4,Ap 10 9 4,DD 11 1 3 10 true,DD 12 2 3 10 true,rg 13 (.binOp .leq 3 (tp 11) (tp 12) 3) 4 10 true,rq 14 (.pick (tp 10) (tp 13) (kb false)) 4,AQ 6 14 4])
 (.ret))
def Ua:RC:=Jw
def Ub:RC:=Ow
def Ud:RC:=JN
def Ue:RC:=Oy
def Uf:RC:=KU
def Ug:RC:=HY
def XQ:RC:=
 .seq (.reg [] [
  rq 2 (.assign (.const (.slice none 0 0))) 23,Cz 3 0 27])
 (.seq (.seq (.reg [] [
   Ap 5 0 23,rq 6 (cf 159 #[(tp 5)] #[23]) 27,AQ 4 6 27])
 (.seq (.reg [] [
   Ap 7 4 27,rq 8 (.binOp .neq 27 (tp 7) (ki 0) 27) 4])
 (.cond (tp 8) (.seq (.reg [] [
   Ap 9 4 27,
   rq 2 (.assign (.const (.slice none 0 0))) 23,
   AQ 3 9 27])
  (.ret))
 (.skip))))
 (.seq (.reg [] [
   Ap 10 0 23,rq 11 (cf 160 #[(tp 10)] #[23]) 204,rq 12 (cf 161 #[(tp 11)] #[204]) 204,rq 13 (cf 162 #[(tp 12)] #[204]) 23,AQ 2 13 23,Cz 3 0 27])
 (.ret)))
def XR:RC:=
 .seq (.reg [] [
  rq 0 (.assign (kb false)) 4])
 (.seq (.reg [] [
   rq 4 (.buildSlice 23 5 #[(0,(ki 0)),(1,(ki 1)),(2,(ki 2)),(3,(ki 0)),(4,(ki 1))]) 23,rq 5 (cf 15 #[(tp 4)] #[23]) 23,rq 6 (.buildSlice 23 5 #[(0,(ki 1)),(1,(ki 2)),(2,(ki 0)),(3,(ki 1)),(4,(ki 0))]) 23,rq 7 (cf 15 #[(tp 6)] #[23]) 23,rq 8 (.build 26 #[(0,(ki 3)),(1,(tp 5)),(2,(tp 7))]) 26,rq 9 (cf 13 #[(tp 8)] #[26]) 30,Ap 3 9 30,EM 10 3 0 3,EM 11 3 1 27,AQ 1 10 3,AQ 2 11 27])
 (.seq (.reg [] [
   Ap 12 2 27,rq 13 (.binOp .eql 27 (tp 12) (ki 0) 27) 4,Ap 14 13 4,DD 15 1 3 14 true,rg 16 (.binOp .eql 3 (tp 15) (ki 3) 3) 4 14 true,rq 17 (.pick (tp 14) (tp 16) (kb false)) 4,Ap 18 17 4,rg 19 (cf 163 #[] #[]) 4 18 true,rq 20 (.pick (tp 18) (tp 19) (kb false)) 4,AQ 0 20 4])
 (.ret)))
def XT:RC:=
 .seq (.reg [] [
  rq 1 (.box 36 (tp 0)) 0,rq 2 (.assign (.const (.pointer none))) 92,Cz 3 0 27])
 (.seq (.seq (.reg [] [
   DR 14 36 1 0,Ce 15 14 3,rq 16 (cf 96 #[(ki 1),(tp 15),(ki 4)] #[3,3,3]) 4,rq 17 (.unOp .not 4 (tp 16)) 4,Ap 18 17 4,rg 19 (.fieldAddr 36 (tp 1) 1) 0 18 false,rg 20 (.load 3 (tp 19)) 3 18 false,rg 21 (cf 96 #[(ki 1),(tp 20),(ki 4)] #[3,3,3]) 4 18 false,rg 22 (.unOp .not 4 (tp 21)) 4 18 false,rq 23 (.pick (tp 18) (kb true) (tp 22)) 4,Ap 24 23 4,rg 25 (.fieldAddr 36 (tp 1) 2) 0 24 false,rg 26 (.load 3 (tp 25)) 3 24 false,rg 27 (cf 96 #[(ki 1),(tp 26),(ki 4)] #[3,3,3]) 4 24 false,rg 28 (.unOp .not 4 (tp 27)) 4 24 false,rq 29 (.pick (tp 24) (kb true) (tp 28)) 4])
 (.cond (tp 29) (.seq (.reg [] [
   rq 2 (.assign (.const (.pointer none))) 92,
   Cz 3 1 27])
  (.ret))
 (.skip)))
 (.seq (.reg [] [
   Ce 30 1 36,rq 31 (.build 96 #[(0,(tp 30))]) 96,rq 32 (.box 96 (tp 31)) 92,AQ 4 32 92])
 (.seq (.reg [] [
   rq 5 (.assign (ki (-1))) 3])
 (.seq (.reg [] [
   rq 6 (.assign (.const (.int .u8 0))) 5])
 (.seq (.seq (.reg [] [
   DR 33 36 1 3,Ce 34 33 23,EN 35 34 23,rq 36 (.move (ki 0)) 3])
 (.block 0 (.loop (.seq (.reg [] [
   L8 37 36 35])
   (.seq (.cond (tp 37) (.skip)
   (.exit 0))
   (.seq (.block 1 (.seq (.reg [] [
     D5 38 23 34 36,
     Ce 39 38 3,
     AQ 8 39 3])
    (.seq (.block 2 (.seq (.reg [] [
      Ap 41 8 3,
      rq 42 (cf 96 #[(ki 0),(tp 41),(ki 7)] #[3,3,3]) 4,
      rq 43 (.unOp .not 4 (tp 42)) 4,
      AQ 40 43 4])
     (.cond (tp 40) (.seq (.reg [] [
       rq 2 (.assign (.const (.pointer none))) 92,
       Cz 3 2 27])
      (.ret))
     (.seq (.reg [] [
       DR 45 36 1 0,
       Ce 46 45 3,
       DR 47 36 1 1,
       Ce 48 47 3,
       rq 49 (.binOp .neq 3 (tp 46) (tp 48) 3) 4,
       Ap 50 49 4,
       DD 51 8 3 50 true,
       rg 52 (cf 164 #[(tp 51)] #[3]) 208 50 true,
       rg 53 (.field 208 (tp 52) 0) 3 50 true,
       rg 54 (.binOp .rem 3 (tp 53) (ki 2) 3) 3 50 true,
       rg 55 (.binOp .eql 3 (tp 54) (ki 1) 3) 4 50 true,
       rq 56 (.pick (tp 50) (tp 55) (kb false)) 4,
       AQ 44 56 4])
      (.cond (tp 44) (.seq (.reg [] [
        rq 2 (.assign (.const (.pointer none))) 92,
        Cz 3 8 27])
       (.ret))
      (.seq (.reg [] [
        Ap 58 8 3,
        Ap 59 5 3,
        rq 60 (.binOp .leq 3 (tp 58) (tp 59) 3) 4,
        AQ 57 60 4])
       (.cond (tp 57) (.seq (.reg [] [
         rq 2 (.assign (.const (.pointer none))) 92,
         Cz 3 7 27])
        (.ret))
       (.skip))))))))
    (.seq (.reg [] [
      Ap 61 8 3,
      AQ 5 61 3])
    (.seq (.reg [] [
      Ap 62 6 5,
      Ap 63 8 3,
      rq 64 (.binOp .shl 5 (.const (.int .u8 1)) (tp 63) 3) 5,
      rq 65 (.binOp .or 5 (tp 62) (tp 64) 5) 5,
      AQ 6 65 5])
    (.reg [0, 1, 2, 3, 4, 5, 6, 7, 8, 9, 10, 11, 12] [
      Ap 66 4 92,
      Ap 67 4 92,
      rq 68 (.nilCheck (tp 67)) 0,
      DR 69 96 68 1,
      Ce 70 69 71,
      Ce 71 1 36,
      Ap 72 8 3,
      ⟨(some 73),cf 165 #[(tp 71),(tp 72)] #[36,3],23,none,[(tp 69)]⟩,
      rq 74 (.buildSlice 71 1 #[(0,(tp 73))]) 71,
      rq 75 (cb .append #[(tp 70),(tp 74)] #[71,71]) 71,
      rq 76 (.nilCheck (tp 66)) 0,
      DR 77 96 76 1,
      rn (.store 71 (tp 77) (tp 75)) 0]))))))
   (.reg [] [
     FB 78 36,
     Ap 36 78 3])))))))
 (.seq (.seq (.reg [] [
   Ap 79 6 5,rq 80 (.binOp .and 5 (tp 79) (.const (.int .u8 1)) 5) 5,rq 81 (.binOp .eql 5 (tp 80) (.const (.int .u8 0)) 5) 4])
 (.cond (tp 81) (.seq (.reg [] [
   rq 2 (.assign (.const (.pointer none))) 92,
   Cz 3 21 27])
  (.ret))
 (.skip)))
 (.seq (.seq (.reg [] [
   DR 82 36 1 3,Ce 83 82 23,EN 84 83 23,rq 85 (.move (ki 0)) 3])
 (.block 3 (.loop (.seq (.reg [] [
   L8 86 85 84])
   (.seq (.cond (tp 86) (.skip)
   (.exit 3))
   (.seq (.block 4 (.seq (.reg [] [
     D5 87 23 83 85,
     Ce 88 87 3,
     AQ 10 88 3])
    (.seq (.reg [] [
      DR 89 36 1 3,
      Ce 90 89 23,
      EN 91 90 23,
      rq 92 (.move (ki 0)) 3])
    (.block 5 (.loop (.seq (.reg [] [
      L8 93 92 91])
      (.seq (.cond (tp 93) (.skip)
      (.exit 5))
      (.seq (.block 6 (.seq (.reg [] [
        D5 94 23 90 92,
        Ce 95 94 3,
        AQ 12 95 3])
       (.seq (.reg [] [
         Ap 96 10 3,
         rq 97 (cf 164 #[(tp 96)] #[3]) 208,
         Ap 98 12 3,
         rq 99 (cf 164 #[(tp 98)] #[3]) 208,
         rq 100 (cf 166 #[(tp 97),(tp 99)] #[208,208]) 208,
         rq 101 (cf 167 #[(tp 100)] #[208]) 3,
         AQ 13 101 3])
       (.seq (.reg [] [
         Ap 102 6 5,
         Ap 103 13 3,
         rq 104 (.binOp .shr 5 (tp 102) (tp 103) 3) 5,
         rq 105 (.binOp .and 5 (tp 104) (.const (.int .u8 1)) 5) 5,
         rq 106 (.binOp .eql 5 (tp 105) (.const (.int .u8 0)) 5) 4])
       (.cond (tp 106) (.seq (.reg [] [
         rq 2 (.assign (.const (.pointer none))) 92,
         Cz 3 21 27])
        (.ret))
       (.skip))))))
      (.reg [] [
        FB 107 92,
        Ap 92 107 3])))))))))
   (.reg [] [
     FB 108 85,
     Ap 85 108 3])))))))
 (.seq (.reg [] [
   Ap 109 4 92,AQ 2 109 92,Cz 3 0 27])
 (.ret)))))))))
def XU:RC:=
 .seq (.reg [] [
  rq 6 (.assign (kb false)) 4])
 (.seq (.reg [] [
   Ap 7 0 3,Ap 8 1 3,rq 9 (.binOp .leq 3 (tp 7) (tp 8) 3) 4,Ap 10 9 4,DD 11 1 3 10 true,DD 12 2 3 10 true,rg 13 (.binOp .leq 3 (tp 11) (tp 12) 3) 4 10 true,rq 14 (.pick (tp 10) (tp 13) (kb false)) 4,AQ 6 14 4])
 (.ret))
def XZ:RC:=
 .seq (.reg [] [
  Cz 4 0 3])
 (.seq (.reg [] [
   Cz 5 1 3])
 (.seq (.seq (.reg [] [
   Ap 7 1 3,rq 8 (.move (ki 0)) 3])
 (.block 0 (.loop (.seq (.reg [] [
   rq 9 (.binOp .lss 3 (tp 8) (tp 7) 3) 4])
   (.seq (.cond (tp 9) (.skip)
   (.exit 0))
   (.seq (.block 1 (.seq (.reg [] [
     Ap 10 8 3,
     AQ 6 10 3])
    (.reg [] [
      Ap 11 5 3,
      Ap 12 0 3,
      Ap 13 6 3,
      rq 14 (.binOp .sub 3 (tp 12) (tp 13) 3) 3,
      rq 15 (.binOp .mul 3 (tp 11) (tp 14) 3) 3,
      Ap 16 6 3,
      FB 17 16,
      rq 18 (.binOp .quo 3 (tp 15) (tp 17) 3) 3,
      AQ 5 18 3])))
   (.reg [] [
     FB 19 8,
     Ap 8 19 3])))))))
 (.seq (.reg [] [
   Ap 20 5 3,AQ 4 20 3])
 (.ret))))
def X0:RC:=
 .seq (.reg [] [
  rq 1 (.box 56 (tp 0)) 0,rq 2 (.alloc 173) 0,Cz 3 0 27])
 (.seq (.seq (.reg [] [
   Ce 5 1 56,rq 6 (cf 66 #[(tp 5)] #[56]) 27,AQ 4 6 27])
 (.seq (.reg [] [
   Ap 7 4 27,rq 8 (.binOp .neq 27 (tp 7) (ki 0) 27) 4])
 (.cond (tp 8) (.seq (.reg [] [
   rq 9 (.build 173 #[]) 173,
   Ap 10 4 27,
   rn (.store 173 (tp 2) (tp 9)) 0,
   AQ 3 10 27])
  (.ret))
 (.skip))))
 (.seq (.reg [0, 1, 3, 4, 2, 5, 6, 7] [
   DR 11 56 1 0,Ce 12 11 3,DR 14 56 1 1,Ce 15 14 54,
   ⟨(some 13),cf 177 #[(tp 12)] #[3],173,none,[(tp 14)]⟩,rq 16 (cf 178 #[(tp 13),(tp 15)] #[173,54]) 173,rn (.store 173 (tp 2) (tp 16)) 0,Cz 3 0 27])
 (.ret)))
def X3:RC:=
 .seq (.reg [] [
  rq 2 (.box 173 (tp 0)) 0,Cz 4 0 3])
 (.seq (.seq (.reg [] [
   rq 8 (.move (ki 0)) 3])
 (.block 0 (.loop (.seq (.reg [] [
   rq 9 (.binOp .lss 3 (tp 8) (ki 2) 3) 0])
   (.seq (.cond (tp 9) (.skip)
   (.exit 0))
   (.seq (.block 1 (.seq (.reg [] [
     Ap 10 8 3,
     AQ 5 10 3])
    (.seq (.reg [] [
      rq 6 (.assign (.const (.int .u64 0))) 170])
    (.seq (.seq (.reg [] [
      Cz 7 1 3])
    (.block 2 (.loop (.seq (.seq (.reg [] [
      Ap 11 7 3,
      Ap 12 1 3,
      rq 13 (.binOp .lss 3 (tp 11) (tp 12) 3) 4])
      (.cond (tp 13) (.skip)
      (.exit 2)))
      (.seq (.block 3 (.reg [0, 1, 2, 3, 4, 5, 6, 7, 8, 9, 10, 11, 12, 13, 14] [
        Ap 16 6 170,
        Ap 17 7 3,
        rq 18 (.binOp .sub 3 (tp 17) (ki 1) 3) 3,
        Ap 19 5 3,
        D5 20 173 2 18,
        D5 21 171 20 19,
        Ce 22 21 170,
        Ap 23 7 3,
        Ap 24 5 3,
        D5 25 173 2 23,
        D5 26 171 25 24,
        Ce 27 26 170,
        rq 28 (.binOp .andNot 170 (tp 22) (tp 27) 170) 170,
        rq 29 (.binOp .or 170 (tp 16) (tp 28) 170) 170,
        AQ 6 29 170]))
      (.reg [] [
        Ap 14 7 3,
        FB 15 14,
        AQ 7 15 3]))))))
    (.seq (.reg [] [
      Ap 30 6 170,
      rq 31 (.binOp .neq 170 (tp 30) (.const (.int .u64 0)) 170) 4])
    (.cond (tp 31) (.seq (.reg [] [
      Ap 32 5 3,
      rq 33 (.binOp .mul 3 (ki 64) (tp 32) 3) 3,
      Ap 34 6 170,
      rq 35 (cf 179 #[(tp 34)] #[170]) 3,
      rq 36 (.binOp .add 3 (tp 33) (tp 35) 3) 3,
      AQ 4 36 3])
     (.ret))
    (.skip)))))))
   (.reg [] [
     FB 37 8,
     Ap 8 37 3])))))))
 (.seq (.reg [] [
   rq 4 (.assign (ki (-1))) 3])
 (.ret)))
def X4:RC:=
 .seq (.reg [] [
  Cz 4 0 3])
 (.seq (.seq (.reg [] [
   Ap 6 0 23,EN 7 6 23,rq 8 (.move (ki 0)) 3])
 (.block 0 (.loop (.seq (.reg [] [
   L8 9 8 7])
   (.seq (.cond (tp 9) (.skip)
   (.exit 0))
   (.seq (.block 1 (.seq (.reg [] [
     Ap 10 8 3,
     AQ 5 10 3])
    (.seq (.reg [] [
      Ap 11 1 133,
      Ap 12 0 23,
      Ap 13 5 3,
      D5 14 23 12 13,
      Ce 15 14 3,
      rq 16 (.call ⟨.value (tp 11),#[(tp 15)],#[3]⟩) 4])
    (.cond (tp 16) (.seq (.reg [] [
      Ap 17 5 3,
      AQ 4 17 3])
     (.ret))
    (.skip)))))
   (.reg [] [
     FB 18 8,
     Ap 8 18 3])))))))
 (.seq (.reg [] [
   rq 4 (.assign (ki (-1))) 3])
 (.ret)))
def X5:RC:=
 .seq (.reg [] [
  rq 1 (.box 36 (tp 0)) 0,Cz 2 0 3,Cz 3 0 27])
 (.seq (.reg [] [
   Ce 9 1 36,rq 10 (cf 112 #[(tp 9)] #[36]) 93,Ap 8 10 93,EM 11 8 0 92,EM 12 8 1 27,AQ 4 11 92,AQ 5 12 27])
 (.seq (.seq (.reg [] [
   Ap 13 5 27,rq 14 (.binOp .neq 27 (tp 13) (ki 0) 27) 4])
 (.cond (tp 14) (.seq (.reg [] [
   Ap 15 5 27,
   Cz 2 0 3,
   AQ 3 15 27])
  (.ret))
 (.skip)))
 (.seq (.reg [] [
   Cz 6 0 3])
 (.seq (.seq (.reg [] [
   Ap 16 4 92,rq 17 (.nilCheck (tp 16)) 0,DR 18 96 17 0,DR 19 36 18 3,Ce 20 19 23,EN 21 20 23,rq 22 (.move (ki 0)) 3])
 (.block 0 (.loop (.seq (.reg [] [
   L8 23 22 21])
   (.seq (.cond (tp 23) (.skip)
   (.exit 0))
   (.seq (.block 1 (.seq (.reg [] [
     Ap 24 22 3,
     AQ 7 24 3])
    (.reg [] [
      Ap 25 6 3,
      Ap 26 4 92,
      Ap 27 7 3,
      rq 28 (cf 186 #[(tp 26),(tp 27)] #[92,3]) 3,
      rq 29 (.binOp .add 3 (tp 25) (tp 28) 3) 3,
      AQ 6 29 3])))
   (.reg [] [
     FB 30 22,
     Ap 22 30 3])))))))
 (.seq (.reg [] [
   Ap 31 6 3,Ap 32 4 92,rq 33 (.nilCheck (tp 32)) 0,DR 34 96 33 0,DR 35 36 34 3,Ce 36 35 23,EN 37 36 23,rq 38 (.binOp .quo 3 (tp 31) (tp 37) 3) 3,AQ 2 38 3,Cz 3 0 27])
 (.ret))))))
def Uh:RC:=JO
def Ui:RC:=JP
def X6:RC:=
 .seq (.reg [] [
  Cz 2 0 27])
 (.seq (.seq (.reg [] [
   Ap 7 0 23,EN 8 7 23,rq 9 (.binOp .eql 3 (tp 8) (ki 0) 3) 4])
 (.cond (tp 9) (.seq (.reg [] [
   Cz 2 4 27])
  (.ret))
 (.skip)))
 (.seq (.reg [] [
   Cz 3 0 3,Cz 4 21 3])
 (.seq (.seq (.reg [] [
   Ap 10 0 23,EN 11 10 23,rq 12 (.move (ki 0)) 3])
 (.block 0 (.loop (.seq (.reg [] [
   L8 13 12 11])
   (.seq (.cond (tp 13) (.skip)
   (.exit 0))
   (.seq (.block 1 (.seq (.reg [] [
     D5 14 23 10 12,
     Ce 15 14 3,
     AQ 6 15 3])
    (.seq (.block 2 (.seq (.reg [] [
      Ap 17 6 3,
      rq 18 (cf 198 #[(ki 1),(tp 17),(ki 21)] #[3,3,3]) 4,
      rq 19 (.unOp .not 4 (tp 18)) 4,
      AQ 16 19 4])
     (.cond (tp 16) (.seq (.reg [] [
       Cz 2 1 27])
      (.ret))
     (.seq (.reg [] [
       Ap 21 6 3,
       Ap 22 4 3,
       rq 23 (.binOp .gtr 3 (tp 21) (tp 22) 3) 4,
       AQ 20 23 4])
      (.cond (tp 20) (.seq (.reg [] [
        Cz 2 7 27])
       (.ret))
      (.skip))))))
    (.seq (.reg [] [
      Ap 24 6 3,
      AQ 4 24 3])
    (.reg [] [
      Ap 25 3 3,
      Ap 26 6 3,
      rq 27 (.binOp .add 3 (tp 25) (tp 26) 3) 3,
      rq 28 (cb .min #[(tp 27),(ki 22)] #[3,3]) 3,
      AQ 3 28 3])))))
   (.reg [] [
     FB 29 12,
     Ap 12 29 3])))))))
 (.seq (.seq (.reg [] [
   Ap 30 3 3,rq 31 (.binOp .gtr 3 (tp 30) (ki 21) 3) 4])
 (.cond (tp 31) (.seq (.reg [] [
   Cz 2 3 27])
  (.ret))
 (.skip)))
 (.seq (.reg [] [
   Cz 2 0 27])
 (.ret))))))
def X7:RC:=
 .seq (.reg [] [
  rq 2 (.alloc 204) 0])
 (.seq (.reg [] [
   rq 3 (.alloc 204) 0])
 (.seq (.seq (.reg [] [
   Ap 6 0 23,EN 7 6 23,rq 8 (.move (ki 0)) 3])
 (.block 0 (.loop (.seq (.reg [] [
   L8 9 8 7])
   (.seq (.cond (tp 9) (.skip)
   (.exit 0))
   (.seq (.block 1 (.seq (.reg [] [
     D5 10 23 6 8,
     Ce 11 10 3,
     AQ 5 11 3])
    (.reg [] [
      Ap 12 5 3,
      D5 13 204 3 12,
      Ce 14 13 3,
      FB 15 14,
      D5 16 204 3 12,
      rn (.store 3 (tp 16) (tp 15)) 0])))
   (.reg [] [
     FB 17 8,
     Ap 8 17 3])))))))
 (.seq (.reg [] [
   Ce 18 3 204,rn (.store 204 (tp 2) (tp 18)) 0])
 (.ret))))
def X9:RC:=
 .seq (.reg [] [
  rq 1 (.box 204 (tp 0)) 0,rq 2 (.alloc 204) 0])
 (.seq (.reg [] [
   rq 3 (.alloc 204) 0])
 (.seq (.reg [0, 1, 2] [
   rq 4 (.slice 204 (tp 3) none none none) 23,rq 5 (.slice 204 (tp 1) (some (ki 1)) none none) 23,rq 6 (cb .copy #[(tp 4),(tp 5)] #[23,23]) 3])
 (.seq (.reg [] [
   rq 7 (.indexAddr 204 (tp 3) (ki 0)) 0,rn (.store 3 (tp 7) (ki 0)) 0])
 (.seq (.reg [] [
   Ce 8 1 204,rq 9 (cf 199 #[(tp 8)] #[204]) 3,D5 10 204 3 9,Ce 11 10 3,FB 12 11,D5 13 204 3 9,rn (.store 3 (tp 13) (tp 12)) 0])
 (.seq (.reg [] [
   Ce 14 3 204,rn (.store 204 (tp 2) (tp 14)) 0])
 (.ret))))))
def Ya:RC:=
 .seq (.reg [] [
  rq 1 (.box 204 (tp 0)) 0,rq 2 (.assign (.const (.slice none 0 0))) 23])
 (.seq (.reg [] [
   rq 3 (.assign (.const (.slice none 0 0))) 23])
 (.seq (.seq (.reg [] [
   Cz 4 21 3])
 (.block 0 (.loop (.seq (.seq (.reg [] [
   Ap 5 4 3,
   rq 6 (.binOp .gtr 3 (tp 5) (ki 0) 3) 4])
   (.cond (tp 6) (.skip)
   (.exit 0)))
   (.seq (.block 1 (.reg [] [
     Ap 9 3 23,
     Ap 10 4 3,
     rq 11 (.buildSlice 23 1 #[(0,(tp 10))]) 23,
     Ap 12 4 3,
     D5 13 204 1 12,
     Ce 14 13 3,
     rq 15 (cf 200 #[(tp 11),(tp 14)] #[23,3]) 23,
     rq 16 (cb .append #[(tp 9),(tp 15)] #[23,23]) 23,
     AQ 3 16 23]))
   (.reg [] [
     Ap 7 4 3,
     rq 8 (.binOp .sub 3 (tp 7) (ki 1) 3) 3,
     AQ 4 8 3]))))))
 (.seq (.reg [] [
   Ap 17 3 23,AQ 2 17 23])
 (.ret))))
def Yb:RC:=
 .seq (.reg [] [
  rq 0 (.assign (kb false)) 4])
 (.seq (.reg [] [
   rq 4 (.build 58 #[(0,(ki 0)),(1,(ki 1))]) 58,rq 5 (.build 58 #[(0,(ki 1)),(1,(ki 2))]) 58,rq 6 (.build 58 #[(0,(ki 0)),(1,(ki 1))]) 58,rq 7 (.buildSlice 54 3 #[(0,(tp 4)),(1,(tp 5)),(2,(tp 6))]) 54,rq 8 (.build 56 #[(0,(ki 3)),(1,(tp 7))]) 56,rq 9 (cf 72 #[(tp 8)] #[56]) 117,Ap 3 9 117,EM 10 3 0 4,EM 11 3 1 27,AQ 1 10 4,AQ 2 11 27])
 (.seq (.reg [] [
   Ap 12 2 27,rq 13 (.binOp .eql 27 (tp 12) (ki 0) 27) 4,Ap 14 13 4,DD 15 1 4 14 true,rq 16 (.pick (tp 14) (tp 15) (kb false)) 4,Ap 17 16 4,rg 18 (cf 201 #[] #[]) 4 17 true,rq 19 (.pick (tp 17) (tp 18) (kb false)) 4,AQ 0 19 4])
 (.ret)))
def Yc:RC:=
 .seq (.reg [] [
  rq 2 (.alloc 208) 0])
 (.seq (.seq (.reg [] [
   Ap 3 0 3])
 (.block 0 (.seq (.reg [] [
   rq 5 (.binOp .eql 3 (tp 3) (ki 4) 3) 4,
   AQ 4 5 4])
  (.cond (tp 4) (.seq (.reg [] [
    rq 6 (.build 208 #[(0,(ki 0)),(1,(kb true))]) 208,
    rn (.store 208 (tp 2) (tp 6)) 0])
   (.ret))
  (.seq (.reg [] [
    rq 8 (.binOp .eql 3 (tp 3) (ki 5) 3) 4,
    AQ 7 8 4])
   (.cond (tp 7) (.seq (.reg [] [
     rq 9 (.build 208 #[(0,(ki 2)),(1,(kb true))]) 208,
     rn (.store 208 (tp 2) (tp 9)) 0])
    (.ret))
   (.seq (.reg [] [
     rq 11 (.binOp .eql 3 (tp 3) (ki 6) 3) 4,
     AQ 10 11 4])
    (.cond (tp 10) (.seq (.reg [] [
      rq 12 (.build 208 #[(0,(ki 1)),(1,(kb true))]) 208,
      rn (.store 208 (tp 2) (tp 12)) 0])
     (.ret))
    (.seq (.reg [] [
      rq 14 (.binOp .eql 3 (tp 3) (ki 7) 3) 4,
      AQ 13 14 4])
     (.cond (tp 13) (.seq (.reg [] [
       rq 15 (.build 208 #[(0,(ki 3)),(1,(kb true))]) 208,
       rn (.store 208 (tp 2) (tp 15)) 0])
      (.ret))
     (.skip)))))))))))
 (.seq (.reg [] [
   Ap 16 0 3,rq 17 (.build 208 #[(0,(tp 16)),(1,(kb false))]) 208,rn (.store 208 (tp 2) (tp 17)) 0])
 (.ret)))
def Yd:RC:=
 .seq (.reg [] [
  rq 2 (.box 36 (tp 0)) 0,rq 4 (.assign (.const (.slice none 0 0))) 23])
 (.seq (.reg [] [
   DR 8 36 2 0,Ce 9 8 3,DR 10 36 2 1,Ce 11 10 3,rq 12 (.binOp .mul 3 (tp 9) (tp 11) 3) 3,rq 13 (.makeSlice 23 (tp 12) (tp 12)) 23,AQ 5 13 23])
 (.seq (.seq (.reg [] [
   Ap 14 5 23,EN 15 14 23,rq 16 (.move (ki 0)) 3])
 (.block 0 (.loop (.seq (.reg [] [
   L8 17 16 15])
   (.seq (.cond (tp 17) (.skip)
   (.exit 0))
   (.seq (.block 1 (.seq (.reg [] [
     Ap 18 16 3,
     AQ 6 18 3])
    (.reg [] [
      Ap 19 5 23,
      Ap 20 6 3,
      Ap 21 6 3,
      D5 22 23 19 20,
      rn (.store 3 (tp 22) (tp 21)) 0])))
   (.reg [] [
     FB 23 16,
     Ap 16 23 3])))))))
 (.seq (.reg [] [
   Ap 24 1 3,rq 25 (cf 164 #[(tp 24)] #[3]) 208,rq 7 (.alloc 208) 0,rn (.store 208 (tp 7) (tp 25)) 0])
 (.seq (.seq (.reg [] [
   DR 26 208 7 0,Ce 27 26 3,rq 28 (.binOp .eql 3 (tp 27) (ki 2) 3) 4])
 (.cond (tp 28) (.reg [] [
   Ap 29 5 23,
   rq 30 (cf 202 #[(tp 29)] #[23]) 0])
 (.seq (.reg [] [
   DR 31 208 7 0,
   Ce 32 31 3,
   rq 33 (.move (ki 0)) 3])
  (.block 2 (.loop (.seq (.reg [] [
    rq 34 (.binOp .lss 3 (tp 33) (tp 32) 3) 4])
    (.seq (.cond (tp 34) (.skip)
    (.exit 2))
    (.seq (.block 3 (.reg [] [
      Ap 35 5 23,
      DR 36 36 2 0,
      Ce 37 36 3,
      rq 38 (cf 203 #[(tp 35),(tp 37)] #[23,3]) 23,
      AQ 5 38 23]))
    (.reg [] [
      FB 39 33,
      Ap 33 39 3])))))))))
 (.seq (.seq (.reg [] [
   DR 40 208 7 1,Ce 41 40 4])
 (.cond (tp 41) (.reg [] [
   Ap 42 5 23,
   DR 43 36 2 1,
   Ce 44 43 3,
   rq 45 (cf 204 #[(tp 42),(tp 44)] #[23,3]) 23,
   AQ 5 45 23])
 (.skip)))
 (.seq (.reg [] [
   Ap 46 5 23,AQ 4 46 23])
 (.ret)))))))
def Ye:RC:=
 .seq (.reg [] [
  rq 2 (.box 208 (tp 0)) 0,rq 3 (.box 208 (tp 1)) 0,rq 4 (.alloc 208) 0])
 (.seq (.seq (.reg [] [
   DR 5 208 2 1,Ce 6 5 4])
 (.cond (tp 6) (.reg [] [
   DR 7 208 3 0,
   Ce 8 7 3,
   rq 9 (.unOp .neg 3 (tp 8)) 3,
   DR 10 208 3 0,
   rn (.store 3 (tp 10) (tp 9)) 0])
 (.skip)))
 (.seq (.reg [] [
   DR 11 208 2 0,Ce 12 11 3,DR 13 208 3 0,Ce 14 13 3,rq 15 (.binOp .add 3 (tp 12) (tp 14) 3) 3,DR 16 208 2 1,Ce 17 16 4,DR 18 208 3 1,Ce 19 18 4,rq 20 (.binOp .neq 4 (tp 17) (tp 19) 4) 4,rq 21 (.build 208 #[(0,(tp 15)),(1,(tp 20))]) 208,rn (.store 208 (tp 4) (tp 21)) 0])
 (.ret)))
def Yf:RC:=
 .seq (.reg [] [
  rq 1 (.box 208 (tp 0)) 0,Cz 2 0 3])
 (.seq (.reg [] [
   DR 4 208 1 0,Ce 5 4 3,rq 6 (.binOp .add 3 (tp 5) (ki 4) 3) 3,rq 7 (.binOp .rem 3 (tp 6) (ki 4) 3) 3,AQ 3 7 3])
 (.seq (.block 0 (.seq (.reg [] [
   DR 9 208 1 1,
   Ce 10 9 4,
   rq 11 (.unOp .not 4 (tp 10)) 4,
   AQ 8 11 4])
  (.cond (tp 8) (.seq (.reg [] [
    Ap 12 3 3,
    AQ 2 12 3])
   (.ret))
  (.seq (.reg [] [
    Ap 14 3 3,
    rq 15 (.binOp .eql 3 (tp 14) (ki 0) 3) 4,
    AQ 13 15 4])
   (.cond (tp 13) (.seq (.reg [] [
     Cz 2 4 3])
    (.ret))
   (.seq (.reg [] [
     Ap 17 3 3,
     rq 18 (.binOp .eql 3 (tp 17) (ki 1) 3) 4,
     AQ 16 18 4])
    (.cond (tp 16) (.seq (.reg [] [
      Cz 2 6 3])
     (.ret))
    (.seq (.reg [] [
      Ap 20 3 3,
      rq 21 (.binOp .eql 3 (tp 20) (ki 2) 3) 4,
      AQ 19 21 4])
     (.cond (tp 19) (.seq (.reg [] [
       Cz 2 5 3])
      (.ret))
     (.skip))))))))))
 (.seq (.reg [] [
   Cz 2 7 3])
 (.ret))))
def Yg:RC:=
 .seq (.reg [] [
  rq 2 (.alloc 173) 0])
 (.seq (.reg [] [
   rq 3 (.alloc 173) 0])
 (.seq (.seq (.reg [] [
   Ap 6 0 3,rq 7 (.binOp .shl 3 (ki 1) (tp 6) 3) 3,rq 8 (.move (ki 0)) 3])
 (.block 0 (.loop (.seq (.reg [] [
   rq 9 (.binOp .lss 3 (tp 8) (tp 7) 3) 4])
   (.seq (.cond (tp 9) (.skip)
   (.exit 0))
   (.seq (.block 1 (.seq (.reg [] [
     Ap 10 8 3,
     AQ 4 10 3])
    (.seq (.reg [] [
      Ap 11 0 3,
      rq 12 (.move (ki 0)) 3])
    (.block 2 (.loop (.seq (.reg [] [
      rq 13 (.binOp .lss 3 (tp 12) (tp 11) 3) 4])
      (.seq (.cond (tp 13) (.skip)
      (.exit 2))
      (.seq (.block 3 (.seq (.reg [] [
        Ap 14 12 3,
        AQ 5 14 3])
       (.reg [0, 1, 2, 3, 4, 5, 6, 7, 8, 9, 10, 11, 12, 13, 14, 15, 16, 17, 18, 19, 20] [
         Ap 15 5 3,
         Ap 16 4 3,
         rq 17 (.binOp .quo 3 (tp 16) (ki 64) 3) 3,
         D5 18 173 3 15,
         D5 19 171 18 17,
         Ce 20 19 170,
         Ap 21 4 3,
         Ap 22 0 3,
         rq 23 (.binOp .sub 3 (tp 22) (ki 1) 3) 3,
         Ap 24 5 3,
         rq 25 (.binOp .sub 3 (tp 23) (tp 24) 3) 3,
         rq 26 (.binOp .shr 3 (tp 21) (tp 25) 3) 3,
         rq 27 (.binOp .and 3 (tp 26) (ki 1) 3) 3,
         rq 28 (.convert 3 170 (tp 27)) 170,
         Ap 29 4 3,
         rq 30 (.binOp .rem 3 (tp 29) (ki 64) 3) 3,
         rq 31 (.binOp .shl 170 (tp 28) (tp 30) 3) 170,
         rq 32 (.binOp .or 170 (tp 20) (tp 31) 170) 170,
         D5 33 173 3 15,
         D5 34 171 33 17,
         rn (.store 170 (tp 34) (tp 32)) 0])))
      (.reg [] [
        FB 35 12,
        Ap 12 35 3])))))))))
   (.reg [] [
     FB 36 8,
     Ap 8 36 3])))))))
 (.seq (.reg [] [
   Ce 37 3 173,rn (.store 173 (tp 2) (tp 37)) 0])
 (.ret))))
def Yh:RC:=
 .seq (.reg [] [
  rq 2 (.box 173 (tp 0)) 0,rq 4 (.alloc 173) 0])
 (.seq (.seq (.reg [] [
   Ap 8 1 54,EN 9 8 54,rq 10 (.move (ki 0)) 3])
 (.block 0 (.loop (.seq (.reg [] [
   L8 11 10 9])
   (.seq (.cond (tp 11) (.skip)
   (.exit 0))
   (.seq (.block 1 (.seq (.reg [] [
     D5 12 54 8 10,
     Ce 13 12 58,
     rq 6 (.alloc 58) 0,
     rn (.store 58 (tp 6) (tp 13)) 0])
    (.seq (.reg [] [
      Ce 14 2 173,
      rq 15 (.makeFunc (.func 217) #[(tp 14)] #[]) 266,
      AQ 7 15 266])
    (.reg [] [
      Ap 16 7 266,
      Ce 17 6 58,
      rq 18 (.call ⟨.value (tp 16),#[(tp 17)],#[58]⟩) 173,
      rn (.store 173 (tp 2) (tp 18)) 0]))))
   (.reg [] [
     FB 19 10,
     Ap 10 19 3])))))))
 (.seq (.reg [] [
   Ce 20 2 173,rn (.store 173 (tp 4) (tp 20)) 0])
 (.ret)))
def Yi:RC:=
 .seq (.reg [] [
  Cz 2 0 3])
 (.seq (.seq (.reg [] [
   Ap 3 0 170,rq 4 (.binOp .eql 170 (tp 3) (.const (.int .u64 0)) 170) 4])
 (.cond (tp 4) (.seq (.reg [] [
   Cz 2 64 3])
  (.ret))
 (.skip)))
 (.seq (.reg [] [
   Ap 5 0 170,Ap 6 0 170,rq 7 (.unOp .neg 170 (tp 6)) 170,rq 8 (.binOp .and 170 (tp 5) (tp 7) 170) 170,rq 9 (.binOp .mul 170 (tp 8) (.const (.int .u64 285870213051353865)) 170) 170,rq 10 (.binOp .shr 170 (tp 9) (.const (.int .u64 58)) 130) 170,rq 11 (.indexAddr 267 (.global 1) (tp 10)) 0,Ce 12 11 5,rq 13 (.convert 5 3 (tp 12)) 3,AQ 2 13 3])
 (.ret)))
def Yj:RC:=
 .seq (.reg [] [
  Cz 4 0 3])
 (.seq (.reg [] [
   Cz 5 1 3])
 (.seq (.seq (.reg [] [
   Ap 8 0 92,Ap 9 1 3,rq 10 (cf 222 #[(tp 8),(tp 9)] #[92,3]) 270,rq 11 (.move (ki 0)) 3])
 (.block 0 (.loop (.seq (.reg [] [
   rq 12 (.binOp .lss 3 (tp 11) (ki 17) 3) 0])
   (.seq (.cond (tp 12) (.skip)
   (.exit 0))
   (.seq (.block 1 (.seq (.reg [] [
     rq 13 (.index 270 (tp 10) (tp 11)) 3,
     AQ 7 13 3])
    (.seq (.reg [] [
      Ap 14 7 3,
      rq 15 (.move (ki 0)) 3])
    (.block 2 (.loop (.seq (.reg [] [
      rq 16 (.binOp .lss 3 (tp 15) (tp 14) 3) 4])
      (.seq (.cond (tp 16) (.skip)
      (.exit 2))
      (.seq (.block 3 (.reg [] [
        Ap 17 5 3,
        Ap 18 0 92,
        rq 19 (.nilCheck (tp 18)) 0,
        DR 20 96 19 0,
        DR 21 36 20 2,
        Ce 22 21 3,
        rq 23 (.binOp .mul 3 (tp 17) (tp 22) 3) 3,
        AQ 5 23 3]))
      (.reg [] [
        FB 24 15,
        Ap 15 24 3])))))))))
   (.reg [] [
     FB 25 11,
     Ap 11 25 3])))))))
 (.seq (.reg [] [
   Ap 26 5 3,AQ 4 26 3])
 (.ret))))
def Yk:RC:=
 .seq (.reg [] [
  rq 1 (.box 243 (tp 0)) 0,Cz 2 0 3,Cz 3 0 27])
 (.seq (.reg [] [
   Ce 7 1 243,rq 8 (cf 225 #[(tp 7)] #[243]) 277,Ap 6 8 277,EM 9 6 0 276,EM 10 6 1 27,rq 4 (.alloc 276) 0,rn (.store 276 (tp 4) (tp 9)) 0,AQ 5 10 27])
 (.seq (.seq (.reg [] [
   Ap 11 5 27,rq 12 (.binOp .neq 27 (tp 11) (ki 0) 27) 4])
 (.cond (tp 12) (.seq (.reg [] [
   Ap 13 5 27,
   Cz 2 0 3,
   AQ 3 13 27])
  (.ret))
 (.skip)))
 (.seq (.reg [] [
   Ce 14 4 276,rq 15 (cf 226 #[(tp 14)] #[276]) 3,AQ 2 15 3,Cz 3 0 27])
 (.ret))))
def Uj:RC:=Oz
def Yl:RC:=
 .seq (.reg [] [
  rq 6 (.assign (kb false)) 4])
 (.seq (.reg [] [
   Ap 7 0 3,Ap 8 1 3,rq 9 (.binOp .leq 3 (tp 7) (tp 8) 3) 4,Ap 10 9 4,DD 11 1 3 10 true,DD 12 2 3 10 true,rg 13 (.binOp .leq 3 (tp 11) (tp 12) 3) 4 10 true,rq 14 (.pick (tp 10) (tp 13) (kb false)) 4,AQ 6 14 4])
 (.ret))
def Ym:RC:=
 .seq (.reg [] [
  rq 1 (.box 204 (tp 0)) 0,Cz 2 0 3])
 (.seq (.reg [] [
   Cz 3 0 3])
 (.seq (.seq (.reg [] [
   rq 6 (.slice 204 (tp 1) (some (ki 1)) none none) 23,EN 7 6 23,rq 8 (.move (ki 0)) 3])
 (.block 0 (.loop (.seq (.reg [] [
   L8 9 8 7])
   (.seq (.cond (tp 9) (.skip)
   (.exit 0))
   (.seq (.block 1 (.seq (.reg [] [
     D5 10 23 6 8,
     Ce 11 10 3,
     AQ 5 11 3])
    (.reg [] [
      Ap 12 3 3,
      Ap 13 5 3,
      rq 14 (.binOp .add 3 (tp 12) (tp 13) 3) 3,
      AQ 3 14 3])))
   (.reg [] [
     FB 15 8,
     Ap 8 15 3])))))))
 (.seq (.reg [] [
   Ap 16 3 3,AQ 2 16 3])
 (.ret))))
def Yn:RC:=
 .seq (.reg [] [
  rq 4 (.assign (.const (.slice none 0 0))) 23])
 (.seq (.seq (.reg [] [
   Ap 9 1 3,rq 10 (.binOp .lss 3 (tp 9) (ki 0) 3) 4])
 (.cond (tp 10) (.reg [] [
   rq 11 (.makeInterface 9 (.const (.string ⟨#[99,97,110,110,111,116,32,98,101,32,110,101,103,97,116,105,118,101]⟩))) 20,
   rn (.panic (tp 11)) 0])
 (.skip)))
 (.seq (.reg [] [
   Ap 13 0 23,EN 14 13 23,rq 15 (.convert 3 130 (tp 14)) 130,Ap 16 1 3,rq 17 (.convert 3 130 (tp 16)) 130,rq 18 (cf 230 #[(tp 15),(tp 17)] #[130,130]) 288,Ap 12 18 288,EM 19 12 0 130,EM 20 12 1 130,AQ 5 19 130,AQ 6 20 130])
 (.seq (.seq (.reg [] [
   Ap 21 5 130,rq 22 (.binOp .gtr 130 (tp 21) (.const (.int .u64 0)) 130) 4,Ap 23 22 4,DD 24 6 130 23 false,rg 25 (.binOp .gtr 130 (tp 24) (.const (.int .u64 9223372036854775807)) 130) 4 23 false,rq 26 (.pick (tp 23) (kb true) (tp 25)) 4])
 (.cond (tp 26) (.reg [] [
   rq 27 (.makeInterface 9 (.const (.string ⟨#[116,104,101,32,114,101,115,117,108,116,32,111,102,32,40,108,101,110,40,120,41,32,42,32,99,111,117,110,116,41,32,111,118,101,114,102,108,111,119,115]⟩))) 20,
   rn (.panic (tp 27)) 0])
 (.skip)))
 (.seq (.reg [] [
   Ap 28 6 130,rq 29 (.convert 130 3 (tp 28)) 3,rq 30 (.makeSlice 23 (tp 29) (tp 29)) 23,AQ 7 30 23])
 (.seq (.reg [] [
   Ap 31 7 23,Ap 32 0 23,rq 33 (cb .copy #[(tp 31),(tp 32)] #[23,23]) 3,AQ 8 33 3])
 (.seq (.block 0 (.loop (.seq (.seq (.reg [] [
   Ap 34 8 3,
   Ap 35 7 23,
   EN 36 35 23,
   rq 37 (.binOp .lss 3 (tp 34) (tp 36) 3) 4])
   (.cond (tp 37) (.skip)
   (.exit 0)))
   (.block 1 (.reg [0, 1, 2, 3, 4, 5, 6, 7, 8, 9] [
     Ap 38 8 3,
     Ap 39 7 23,
     Ap 40 8 3,
     rq 41 (.slice 23 (tp 39) (some (tp 40)) none none) 23,
     Ap 42 7 23,
     Ap 43 8 3,
     rq 44 (.slice 23 (tp 42) none (some (tp 43)) none) 23,
     rq 45 (cb .copy #[(tp 41),(tp 44)] #[23,23]) 3,
     rq 46 (.binOp .add 3 (tp 38) (tp 45) 3) 3,
     AQ 8 46 3])))))
 (.seq (.reg [] [
   Ap 47 7 23,AQ 4 47 23])
 (.ret))))))))
def Yo:RC:=
 .seq (.reg [] [
  rq 0 (.assign (kb false)) 4])
 (.seq (.reg [] [
   rq 4 (.buildSlice 23 5 #[(0,(ki 0)),(1,(ki 2)),(2,(ki 1)),(3,(ki 3)),(4,(ki 4))]) 23,rq 5 (cf 15 #[(tp 4)] #[23]) 23,rq 6 (cf 71 #[(tp 5),(ki 3)] #[23,3]) 30,Ap 3 6 30,EM 7 3 0 3,EM 8 3 1 27,AQ 1 7 3,AQ 2 8 27])
 (.seq (.reg [] [
   Ap 9 2 27,rq 10 (.binOp .eql 27 (tp 9) (ki 0) 27) 4,Ap 11 10 4,DD 12 1 3 11 true,rg 13 (.binOp .eql 3 (tp 12) (ki 6) 3) 4 11 true,rq 14 (.pick (tp 11) (tp 13) (kb false)) 4,Ap 15 14 4,rg 16 (cf 231 #[] #[]) 4 15 true,rq 17 (.pick (tp 15) (tp 16) (kb false)) 4,AQ 0 17 4])
 (.ret)))
def Yp:RC:=
 .seq (.reg [] [
  Ap 4 0 23,EN 5 4 23,rq 6 (.binOp .sub 3 (tp 5) (ki 1) 3) 3,Cz 2 0 3,AQ 3 6 3])
 (.block 0 (.loop (.seq (.seq (.reg [] [
   Ap 7 2 3,
   Ap 8 3 3,
   rq 9 (.binOp .lss 3 (tp 7) (tp 8) 3) 4])
   (.cond (tp 9) (.skip)
   (.exit 0)))
   (.seq (.block 1 (.reg [0, 1, 2, 3, 4, 5, 6, 7, 8, 9, 10, 11, 12, 13, 14, 15] [
     Ap 14 0 23,
     Ap 15 2 3,
     Ap 16 0 23,
     Ap 17 3 3,
     Ap 18 0 23,
     Ap 19 3 3,
     D5 20 23 18 19,
     Ce 21 20 3,
     Ap 22 0 23,
     Ap 23 2 3,
     D5 24 23 22 23,
     Ce 25 24 3,
     D5 26 23 14 15,
     rn (.store 3 (tp 26) (tp 21)) 0,
     D5 27 23 16 17,
     rn (.store 3 (tp 27) (tp 25)) 0]))
   (.reg [] [
     Ap 10 2 3,
     FB 11 10,
     Ap 12 3 3,
     rq 13 (.binOp .sub 3 (tp 12) (ki 1) 3) 3,
     AQ 2 11 3,
     AQ 3 13 3])))))
def Yq:RC:=
 .seq (.reg [] [
  rq 4 (.assign (.const (.slice none 0 0))) 23])
 (.seq (.reg [] [
   Ap 8 0 23,EN 9 8 23,rq 10 (.makeSlice 23 (ki 0) (tp 9)) 23,AQ 5 10 23])
 (.seq (.seq (.reg [] [
   Ap 11 1 3,rq 12 (.move (ki 0)) 3])
 (.block 0 (.loop (.seq (.reg [] [
   rq 13 (.binOp .lss 3 (tp 12) (tp 11) 3) 4])
   (.seq (.cond (tp 13) (.skip)
   (.exit 0))
   (.seq (.block 1 (.seq (.reg [] [
     Ap 14 12 3,
     AQ 6 14 3])
    (.seq (.reg [] [
      Ap 15 1 3,
      rq 16 (.binOp .sub 3 (tp 15) (ki 1) 3) 3,
      AQ 7 16 3])
    (.block 2 (.loop (.seq (.seq (.reg [] [
      Ap 17 7 3,
      rq 18 (.binOp .geq 3 (tp 17) (ki 0) 3) 4])
      (.cond (tp 18) (.skip)
      (.exit 2)))
      (.seq (.block 3 (.reg [] [
        Ap 21 5 23,
        Ap 22 0 23,
        Ap 23 7 3,
        Ap 24 1 3,
        rq 25 (.binOp .mul 3 (tp 23) (tp 24) 3) 3,
        Ap 26 6 3,
        rq 27 (.binOp .add 3 (tp 25) (tp 26) 3) 3,
        D5 28 23 22 27,
        Ce 29 28 3,
        rq 30 (.buildSlice 23 1 #[(0,(tp 29))]) 23,
        rq 31 (cb .append #[(tp 21),(tp 30)] #[23,23]) 23,
        AQ 5 31 23]))
      (.reg [] [
        Ap 19 7 3,
        rq 20 (.binOp .sub 3 (tp 19) (ki 1) 3) 3,
        AQ 7 20 3]))))))))
   (.reg [] [
     FB 32 12,
     Ap 12 32 3])))))))
 (.seq (.reg [] [
   Ap 33 5 23,AQ 4 33 23])
 (.ret))))
def Yr:RC:=
 .seq (.reg [] [
  rq 2 (.box 173 (tp 0)) 0,rq 3 (.box 58 (tp 1)) 0,rq 4 (.alloc 173) 0])
 (.seq (.seq (.reg [] [
   rq 8 (.move (ki 0)) 3])
 (.block 0 (.loop (.seq (.reg [] [
   rq 9 (.binOp .lss 3 (tp 8) (ki 2) 3) 0])
   (.seq (.cond (tp 9) (.skip)
   (.exit 0))
   (.seq (.block 1 (.seq (.reg [] [
     Ap 10 8 3,
     AQ 5 10 3])
    (.seq (.reg [0, 1, 2, 3, 4, 5, 6, 7, 8, 9, 10, 11, 12, 13] [
      rq 11 (.indexAddr 58 (tp 3) (ki 0)) 0,
      Ce 12 11 3,
      Ap 13 5 3,
      D5 14 173 2 12,
      D5 15 171 14 13,
      Ce 16 15 170,
      rq 17 (.indexAddr 58 (tp 3) (ki 1)) 0,
      Ce 18 17 3,
      Ap 19 5 3,
      D5 20 173 2 18,
      D5 21 171 20 19,
      Ce 22 21 170,
      AQ 6 16 170,
      AQ 7 22 170])
    (.reg [0, 1, 2, 3, 4, 5, 6, 7, 8, 9, 10, 11, 12, 13, 15, 14, 16, 17] [
      rq 23 (.indexAddr 58 (tp 3) (ki 0)) 0,
      Ce 24 23 3,
      Ap 25 5 3,
      rq 26 (.indexAddr 58 (tp 3) (ki 1)) 0,
      Ce 27 26 3,
      Ap 28 5 3,
      Ap 29 6 170,
      Ap 30 7 170,
      rq 31 (.binOp .and 170 (tp 29) (tp 30) 170) 170,
      Ap 32 6 170,
      Ap 33 7 170,
      rq 34 (.binOp .or 170 (tp 32) (tp 33) 170) 170,
      D5 35 173 2 24,
      D5 36 171 35 25,
      D5 37 173 2 27,
      ⟨none,.store 170 (tp 36) (tp 31),0,none,[(tp 26)]⟩,
      D5 38 171 37 28,
      rn (.store 170 (tp 38) (tp 34)) 0]))))
   (.reg [] [
     FB 39 8,
     Ap 8 39 3])))))))
 (.seq (.reg [] [
   Ce 40 2 173,rn (.store 173 (tp 4) (tp 40)) 0])
 (.ret)))
def Yt:RC:=
 .seq (.reg [] [
  rq 4 (.alloc 270) 0])
 (.seq (.reg [] [
   rq 5 (.assign (.const (.int .u16 0))) 53])
 (.seq (.seq (.reg [] [
   Ap 9 0 92,rq 10 (.nilCheck (tp 9)) 0,DR 11 96 10 1,Ce 12 11 71,Ap 13 1 3,D5 14 71 12 13,Ce 15 14 23,EN 16 15 23,rq 17 (.move (ki 0)) 3])
 (.block 0 (.loop (.seq (.reg [] [
   L8 18 17 16])
   (.seq (.cond (tp 18) (.skip)
   (.exit 0))
   (.seq (.block 1 (.seq (.reg [] [
     Ap 19 17 3,
     AQ 6 19 3])
    (.seq (.reg [] [
      Cz 7 0 3])
    (.seq (.seq (.reg [] [
      Ap 20 6 3,
      AQ 8 20 3])
    (.block 2 (.loop (.seq (.seq (.reg [] [
      Ap 21 5 53,
      Ap 22 8 3,
      rq 23 (.binOp .shr 53 (tp 21) (tp 22) 3) 53,
      rq 24 (.binOp .and 53 (tp 23) (.const (.int .u16 1)) 53) 53,
      rq 25 (.binOp .eql 53 (tp 24) (.const (.int .u16 0)) 53) 4])
      (.cond (tp 25) (.skip)
      (.exit 2)))
      (.seq (.block 3 (.seq (.reg [] [
        Ap 36 5 53,
        Ap 37 8 3,
        rq 38 (.binOp .shl 53 (.const (.int .u16 1)) (tp 37) 3) 53,
        rq 39 (.binOp .or 53 (tp 36) (tp 38) 53) 53,
        AQ 5 39 53])
       (.reg [] [
         Ap 40 7 3,
         FB 41 40,
         AQ 7 41 3])))
      (.reg [] [
        Ap 26 0 92,
        rq 27 (.nilCheck (tp 26)) 0,
        DR 28 96 27 1,
        Ce 29 28 71,
        Ap 30 1 3,
        D5 31 71 29 30,
        Ce 32 31 23,
        Ap 33 8 3,
        D5 34 23 32 33,
        Ce 35 34 3,
        AQ 8 35 3]))))))
    (.reg [] [
      Ap 42 7 3,
      D5 43 270 4 42,
      Ce 44 43 3,
      FB 45 44,
      D5 46 270 4 42,
      rn (.store 3 (tp 46) (tp 45)) 0])))))
   (.reg [] [
     FB 47 17,
     Ap 17 47 3])))))))
 (.seq (.reg [] [
   rq 48 (.indexAddr 270 (tp 4) (ki 0)) 0,rn (.store 3 (tp 48) (ki 0)) 0])
 (.seq (.reg [] [
   Ce 49 4 270,rn (.store 270 (tp 4) (tp 49)) 0])
 (.ret)))))
def Yu:RC:=
 .seq (.reg [] [
  rq 1 (.box 243 (tp 0)) 0,rq 2 (.alloc 276) 0,Cz 3 0 27])
 (.seq (.seq (.reg [] [
   Ce 5 1 243,rq 6 (cf 244 #[(tp 5)] #[243]) 27,AQ 4 6 27])
 (.seq (.reg [] [
   Ap 7 4 27,rq 8 (.binOp .neq 27 (tp 7) (ki 0) 27) 4])
 (.cond (tp 8) (.seq (.reg [] [
   rq 9 (.build 276 #[]) 276,
   Ap 10 4 27,
   rn (.store 276 (tp 2) (tp 9)) 0,
   AQ 3 10 27])
  (.ret))
 (.skip))))
 (.seq (.reg [0, 1, 2, 3, 4, 5, 6, 8, 9, 10, 11, 12, 13, 16, 17, 18, 19, 20, 21, 22, 7, 14, 15, 23, 24, 25] [
   Ce 11 1 243,DR 12 243 1 2,Ce 13 12 3,DR 14 243 1 3,Ce 15 14 3,DR 16 243 1 1,Ce 17 16 3,DR 19 243 1 3,Ce 20 19 3,DR 21 243 1 2,Ce 22 21 3,DR 23 243 1 1,Ce 24 23 3,DR 27 243 1 0,Ce 28 27 3,DR 29 243 1 1,Ce 30 29 3,rq 31 (.binOp .mul 3 (tp 28) (tp 30) 3) 3,rq 32 (.binOp .shl 273 (.const (.int .u64 1)) (tp 31) 3) 273,rq 33 (.binOp .sub 273 (tp 32) (.const (.int .u64 1)) 273) 273,
   ⟨(some 18),cf 245 #[(tp 13),(tp 15),(tp 17)] #[3,3,3],273,none,[(tp 29),(tp 27),(tp 23),(tp 21),(tp 19),(tp 1)]⟩,
   ⟨(some 25),cf 245 #[(tp 20),(tp 22),(tp 24)] #[3,3,3],273,none,[(tp 29),(tp 27),(tp 1)]⟩,rq 26 (.build 274 #[(0,(tp 18)),(1,(tp 25))]) 274,rq 34 (.build 276 #[(0,(tp 11)),(1,(tp 26)),(2,(tp 33))]) 276,rn (.store 276 (tp 2) (tp 34)) 0,Cz 3 0 27])
 (.ret)))
def Yv:RC:=
 .seq (.reg [] [
  rq 1 (.box 276 (tp 0)) 0,Cz 2 0 3])
 (.seq (.reg [] [
   Ce 3 1 276,rq 4 (.makeMap 305 none) 305,rq 5 (.build 307 #[(0,(tp 4))]) 307,rq 6 (cf 246 #[(tp 3),(.const (.int .u64 0)),(tp 5)] #[276,273,307]) 3,AQ 2 6 3])
 (.ret))
def Yw:RC:=
 .seq (.reg [] [
  rq 1 (.box 249 (tp 0)) 0,rq 2 (.assign (.const (.pointer none))) 279,Cz 3 0 27])
 (.scope (.seq (.seq (.reg [] [
   Ce 15 1 249,
   rq 16 (cf 247 #[(tp 15)] #[249]) 27,
   AQ 4 16 27])
  (.seq (.reg [] [
    Ap 17 4 27,
    rq 18 (.binOp .neq 27 (tp 17) (ki 0) 27) 4])
  (.cond (tp 18) (.seq (.reg [] [
    Ap 19 4 27,
    rq 2 (.assign (.const (.pointer none))) 279,
    AQ 3 19 27])
   (.ret))
  (.skip))))
  (.seq (.reg [] [
    Ce 20 1 249,
    rq 21 (.build 284 #[(0,(tp 20))]) 284,
    rq 22 (.box 284 (tp 21)) 279,
    AQ 5 22 279])
  (.seq (.seq (.reg [] [
    DR 23 249 1 1,
    Ce 24 23 247,
    EN 25 24 247,
    rq 26 (.move (ki 0)) 3])
  (.block 0 (.loop (.seq (.reg [] [
    L8 27 26 25])
    (.seq (.cond (tp 27) (.skip)
    (.exit 0))
    (.seq (.block 1 (.seq (.reg [] [
      D5 28 247 24 26,
      Ce 29 28 246,
      rq 7 (.alloc 246) 0,
      rn (.store 246 (tp 7) (tp 29)) 0])
     (.reg [0, 1, 2, 3, 4, 5, 6, 7, 8, 9, 10, 11] [
       Ap 30 5 279,
       Ap 31 5 279,
       rq 32 (.nilCheck (tp 31)) 0,
       DR 33 284 32 1,
       Ce 34 33 23,
       DR 35 246 7 2,
       Ce 36 35 3,
       rq 37 (.buildSlice 23 1 #[(0,(tp 36))]) 23,
       rq 38 (cb .append #[(tp 34),(tp 37)] #[23,23]) 23,
       rq 39 (.nilCheck (tp 30)) 0,
       DR 40 284 39 1,
       rn (.store 23 (tp 40) (tp 38)) 0])))
    (.reg [] [
      FB 41 26,
      Ap 26 41 3])))))))
  (.seq (.reg [] [
    rq 8 (.assign (.func 248)) 133])
  (.seq (.label 0)
  (.block 2 (.loop (.block 3 (.seq (.reg [] [
    Ap 42 5 279,
    rq 43 (cf 249 #[(tp 42)] #[279]) 23,
    AQ 9 43 23])
    (.seq (.seq (.reg [] [
      Ap 44 9 23,
      rq 45 (cf 84 #[(tp 44),(.func 250)] #[23,133]) 4,
      rq 46 (.unOp .not 4 (tp 45)) 4])
    (.cond (tp 46) (.seq (.reg [] [
      Ap 47 5 279,
      AQ 2 47 279,
      Cz 3 0 27])
     (.ret))
    (.skip)))
    (.seq (.seq (.reg [] [
      Ap 48 9 23,
      EN 49 48 23,
      rq 50 (.move (ki 0)) 3])
    (.block 4 (.loop (.seq (.reg [] [
      L8 51 50 49])
      (.seq (.cond (tp 51) (.skip)
      (.exit 4))
      (.seq (.block 5 (.seq (.reg [] [
        Ap 52 50 3,
        D5 53 23 48 50,
        Ce 54 53 3,
        AQ 10 52 3,
        AQ 11 54 3])
       (.seq (.reg [] [
         Ap 55 9 23,
         EN 56 55 23,
         rq 57 (.move (ki 0)) 3])
       (.block 6 (.loop (.seq (.reg [] [
         L8 58 57 56])
         (.seq (.cond (tp 58) (.skip)
         (.exit 6))
         (.seq (.block 7 (.seq (.reg [] [
           Ap 59 57 3,
           D5 60 23 55 57,
           Ce 61 60 3,
           AQ 12 59 3,
           AQ 13 61 3])
          (.seq (.seq (.reg [] [
            Ap 62 11 3,
            rq 63 (.binOp .leq 3 (tp 62) (ki 0) 3) 4,
            Ap 64 63 4,
            DD 65 13 3 64 false,
            rg 66 (.binOp .geq 3 (tp 65) (ki 0) 3) 4 64 false,
            rq 67 (.pick (tp 64) (kb true) (tp 66)) 4])
          (.cond (tp 67) (.exit 7)
          (.skip)))
          (.seq (.reg [] [
            Ap 68 5 279,
            Ap 69 10 3,
            Ap 70 12 3,
            Ap 71 8 133,
            rq 72 (cf 251 #[(tp 68),(tp 69),(tp 70),(tp 71)] #[279,3,3,133]) 309,
            AQ 14 72 309])
          (.seq (.reg [] [
            Ap 73 14 309,
            rq 74 (.binOp .neq 309 (tp 73) (.const (.map none)) 309) 4])
          (.cond (tp 74) (.seq (.reg [] [
            Ap 75 5 279,
            Ap 76 14 309,
            rq 77 (cf 252 #[(tp 75),(tp 76)] #[279,309]) 0])
           (.exit 3))
          (.skip)))))))
         (.reg [] [
           FB 78 57,
           Ap 57 78 3])))))))))
      (.reg [] [
        FB 79 50,
        Ap 50 79 3])))))))
    (.seq (.reg [] [
      rq 2 (.assign (.const (.pointer none))) 279,
      Cz 3 12 27])
    (.ret)))))))))))))
 0 (.seq (.skip)
  (.block 2 (.loop (.block 3 (.seq (.reg [] [
    Ap 42 5 279,
    rq 43 (cf 249 #[(tp 42)] #[279]) 23,
    AQ 9 43 23])
    (.seq (.seq (.reg [] [
      Ap 44 9 23,
      rq 45 (cf 84 #[(tp 44),(.func 250)] #[23,133]) 4,
      rq 46 (.unOp .not 4 (tp 45)) 4])
    (.cond (tp 46) (.seq (.reg [] [
      Ap 47 5 279,
      AQ 2 47 279,
      Cz 3 0 27])
     (.ret))
    (.skip)))
    (.seq (.seq (.reg [] [
      Ap 48 9 23,
      EN 49 48 23,
      rq 50 (.move (ki 0)) 3])
    (.block 4 (.loop (.seq (.reg [] [
      L8 51 50 49])
      (.seq (.cond (tp 51) (.skip)
      (.exit 4))
      (.seq (.block 5 (.seq (.reg [] [
        Ap 52 50 3,
        D5 53 23 48 50,
        Ce 54 53 3,
        AQ 10 52 3,
        AQ 11 54 3])
       (.seq (.reg [] [
         Ap 55 9 23,
         EN 56 55 23,
         rq 57 (.move (ki 0)) 3])
       (.block 6 (.loop (.seq (.reg [] [
         L8 58 57 56])
         (.seq (.cond (tp 58) (.skip)
         (.exit 6))
         (.seq (.block 7 (.seq (.reg [] [
           Ap 59 57 3,
           D5 60 23 55 57,
           Ce 61 60 3,
           AQ 12 59 3,
           AQ 13 61 3])
          (.seq (.seq (.reg [] [
            Ap 62 11 3,
            rq 63 (.binOp .leq 3 (tp 62) (ki 0) 3) 4,
            Ap 64 63 4,
            DD 65 13 3 64 false,
            rg 66 (.binOp .geq 3 (tp 65) (ki 0) 3) 4 64 false,
            rq 67 (.pick (tp 64) (kb true) (tp 66)) 4])
          (.cond (tp 67) (.exit 7)
          (.skip)))
          (.seq (.reg [] [
            Ap 68 5 279,
            Ap 69 10 3,
            Ap 70 12 3,
            Ap 71 8 133,
            rq 72 (cf 251 #[(tp 68),(tp 69),(tp 70),(tp 71)] #[279,3,3,133]) 309,
            AQ 14 72 309])
          (.seq (.reg [] [
            Ap 73 14 309,
            rq 74 (.binOp .neq 309 (tp 73) (.const (.map none)) 309) 4])
          (.cond (tp 74) (.seq (.reg [] [
            Ap 75 5 279,
            Ap 76 14 309,
            rq 77 (cf 252 #[(tp 75),(tp 76)] #[279,309]) 0])
           (.exit 3))
          (.skip)))))))
         (.reg [] [
           FB 78 57,
           Ap 57 78 3])))))))))
      (.reg [] [
        FB 79 50,
        Ap 50 79 3])))))))
    (.seq (.reg [] [
      rq 2 (.assign (.const (.pointer none))) 279,
      Cz 3 12 27])
    (.ret))))))))))
def Yy:RC:=
 .seq (.reg [] [
  rq 4 (.assign (.const (.int .u64 0))) 130,rq 5 (.assign (.const (.int .u64 0))) 130])
 (.seq (.cond (kb false) (.seq (.reg [] [
   Ap 11 0 130,
   rq 12 (.convert 130 38 (tp 11)) 38,
   Ap 13 1 130,
   rq 14 (.convert 130 38 (tp 13)) 38,
   rq 15 (cf 255 #[(tp 12),(tp 14)] #[38,38]) 313,
   Ap 10 15 313,
   EM 16 10 0 38,
   EM 17 10 1 38,
   AQ 6 16 38,
   AQ 7 17 38])
  (.seq (.reg [] [
    Ap 18 6 38,
    rq 19 (.convert 38 130 (tp 18)) 130,
    Ap 20 7 38,
    rq 21 (.convert 38 130 (tp 20)) 130,
    AQ 4 19 130,
    AQ 5 21 130])
  (.ret)))
 (.skip))
 (.seq (.reg [] [
   Ap 23 0 130,Ap 24 1 130,rq 25 (cf 256 #[(tp 23),(tp 24)] #[170,170]) 315,Ap 22 25 315,EM 26 22 0 170,EM 27 22 1 170,AQ 8 26 170,AQ 9 27 170])
 (.seq (.reg [] [
   Ap 28 8 170,Ap 29 9 170,AQ 4 28 130,AQ 5 29 130])
 (.ret))))
def Yz:RC:=
 .seq (.reg [] [
  rq 0 (.assign (kb false)) 4])
 (.seq (.reg [] [
   rq 9 (.buildSlice 23 4 #[(0,(ki 0)),(1,(ki 1)),(2,(ki 2)),(3,(ki 3))]) 23,rq 10 (cf 15 #[(tp 9)] #[23]) 23,rq 11 (.build 36 #[(0,(ki 2)),(1,(ki 2)),(2,(ki 2)),(3,(tp 10))]) 36,rq 12 (cf 146 #[(tp 11)] #[36]) 30,Ap 8 12 30,EM 13 8 0 3,EM 14 8 1 27,AQ 1 13 3,AQ 2 14 27])
 (.seq (.reg [] [
   rq 16 (.build 243 #[(0,(ki 2)),(1,(ki 3)),(2,(ki 2)),(3,(ki 1))]) 243,rq 17 (cf 190 #[(tp 16)] #[243]) 30,Ap 15 17 30,EM 18 15 0 3,EM 19 15 1 27,AQ 3 18 3,AQ 4 19 27])
 (.seq (.reg [] [
   rq 21 (.build 246 #[(0,(ki 0)),(1,(ki 1)),(2,(ki 5)),(3,(ki 9))]) 246,rq 22 (.build 246 #[(0,(ki 1)),(1,(ki 2)),(2,(ki 0)),(3,(ki 7))]) 246,rq 23 (.build 246 #[(0,(ki 2)),(1,(ki 0)),(2,(ki 4)),(3,(ki 6))]) 246,rq 24 (.buildSlice 247 3 #[(0,(tp 21)),(1,(tp 22)),(2,(tp 23))]) 247,rq 25 (.build 249 #[(0,(ki 3)),(1,(tp 24))]) 249,rq 26 (cf 257 #[(tp 25),(ki 0)] #[249,3]) 61,Ap 20 26 61,EM 27 20 0 3,EM 28 20 1 3,EM 29 20 2 27,AQ 5 27 3,AQ 6 28 3,AQ 7 29 27])
 (.seq (.reg [] [
   Ap 30 2 27,rq 31 (.binOp .eql 27 (tp 30) (ki 0) 27) 4,Ap 32 31 4,DD 33 4 27 32 true,rg 34 (.binOp .eql 27 (tp 33) (ki 0) 27) 4 32 true,rq 35 (.pick (tp 32) (tp 34) (kb false)) 4,Ap 36 35 4,DD 37 7 27 36 true,rg 38 (.binOp .eql 27 (tp 37) (ki 0) 27) 4 36 true,rq 39 (.pick (tp 36) (tp 38) (kb false)) 4,Ap 40 39 4,DD 41 1 3 40 true,rg 42 (.binOp .eql 3 (tp 41) (ki 6) 3) 4 40 true,rq 43 (.pick (tp 40) (tp 42) (kb false)) 4,Ap 44 43 4,DD 45 3 3 44 true,rg 46 (.binOp .eql 3 (tp 45) (ki 3) 3) 4 44 true,rq 47 (.pick (tp 44) (tp 46) (kb false)) 4,Ap 48 47 4,DD 49 5 3 48 true,rg 50 (.binOp .eql 3 (tp 49) (ki 5) 3) 4 48 true,rq 51 (.pick (tp 48) (tp 50) (kb false)) 4,Ap 52 51 4,DD 53 6 3 52 true,rg 54 (.binOp .eql 3 (tp 53) (ki 6) 3) 4 52 true,rq 55 (.pick (tp 52) (tp 54) (kb false)) 4,AQ 0 55 4])
 (.ret)))))
def YA:RC:=
 .seq (.reg [] [
  rq 1 (.box 243 (tp 0)) 0,Cz 2 0 27])
 (.seq (.seq (.reg [0, 1, 2, 3, 4, 5, 6, 7, 8, 9, 10, 11, 12, 13, 14, 15, 16, 17, 18, 19] [
   DR 5 243 1 0,Ce 6 5 3,DR 7 243 1 1,Ce 8 7 3,DR 9 243 1 2,Ce 10 9 3,DR 11 243 1 3,Ce 12 11 3,rq 13 (cb .min #[(tp 6),(tp 8),(tp 10),(tp 12)] #[3,3,3,3]) 3,DR 14 243 1 0,Ce 15 14 3,DR 16 243 1 1,Ce 17 16 3,DR 18 243 1 2,Ce 19 18 3,DR 20 243 1 3,Ce 21 20 3,rq 22 (cb .max #[(tp 15),(tp 17),(tp 19),(tp 21)] #[3,3,3,3]) 3,AQ 3 13 3,AQ 4 22 3])
 (.seq (.reg [] [
   Ap 23 3 3,rq 24 (.binOp .lss 3 (tp 23) (ki 1) 3) 4,Ap 25 24 4,DD 26 4 3 25 false,rg 27 (.binOp .gtr 3 (tp 26) (ki 6) 3) 4 25 false,rq 28 (.pick (tp 25) (kb true) (tp 27)) 4])
 (.cond (tp 28) (.seq (.reg [] [
   Cz 2 1 27])
  (.ret))
 (.skip))))
 (.seq (.reg [] [
   Cz 2 0 27])
 (.ret)))
def YB:RC:=
 .seq (.reg [] [
  rq 6 (.assign (.const (.int .u64 0))) 273])
 (.seq (.reg [0, 1, 2, 3, 4] [
   Ap 9 1 3,rq 10 (.binOp .shl 273 (.const (.int .u64 1)) (tp 9) 3) 273,rq 11 (.binOp .sub 273 (tp 10) (.const (.int .u64 1)) 273) 273,rq 7 (.assign (.const (.int .u64 0))) 273,AQ 8 11 273])
 (.seq (.seq (.reg [] [
   Ap 12 0 3,rq 13 (.move (ki 0)) 3])
 (.block 0 (.loop (.seq (.reg [] [
   rq 14 (.binOp .lss 3 (tp 13) (tp 12) 3) 4])
   (.seq (.cond (tp 14) (.skip)
   (.exit 0))
   (.seq (.block 1 (.reg [] [
     Ap 15 7 273,
     Ap 16 2 3,
     rq 17 (.binOp .shl 273 (tp 15) (tp 16) 3) 273,
     Ap 18 8 273,
     rq 19 (.binOp .or 273 (tp 17) (tp 18) 273) 273,
     AQ 7 19 273]))
   (.reg [] [
     FB 20 13,
     Ap 13 20 3])))))))
 (.seq (.reg [] [
   Ap 21 7 273,AQ 6 21 273])
 (.ret))))
def YC:RC:=
 .seq (.reg [] [
  rq 3 (.box 276 (tp 0)) 0,rq 4 (.box 273 (tp 1)) 0,rq 5 (.box 307 (tp 2)) 0,Cz 6 0 3])
 (.seq (.seq (.reg [] [
   Ce 7 4 273,DR 8 276 3 2,Ce 9 8 273,rq 10 (.binOp .eql 273 (tp 7) (tp 9) 273) 4])
 (.cond (tp 10) (.seq (.reg [] [
   Cz 6 1 3])
  (.ret))
 (.skip)))
 (.seq (.reg [] [
   Ce 11 5 307,Ce 12 4 273,rq 13 (.makeFunc (.func 264) #[] #[(tp 3),(tp 4),(tp 5)]) 91,rq 14 (cf 263 #[(tp 11),(tp 12),(tp 13)] #[307,273,91]) 3,AQ 6 14 3])
 (.ret)))
def Zt:RC:=
 .seq (.reg [] [
  rq 1 (.box 249 (tp 0)) 0,Cz 2 0 27])
 (.seq (.block 0 (.seq (.reg [] [
   DR 6 249 1 0,
   Ce 7 6 3,
   rq 8 (cf 267 #[(ki 2),(tp 7),(ki 6)] #[3,3,3]) 4,
   rq 9 (.unOp .not 4 (tp 8)) 4,
   AQ 5 9 4])
  (.cond (tp 5) (.seq (.reg [] [
    Cz 2 1 27])
   (.ret))
  (.seq (.reg [] [
    DR 11 249 1 1,
    Ce 12 11 247,
    EN 13 12 247,
    rq 14 (.binOp .gtr 3 (tp 13) (ki 12) 3) 4,
    AQ 10 14 4])
   (.cond (tp 10) (.seq (.reg [] [
     Cz 2 3 27])
    (.ret))
   (.skip))))))
 (.seq (.seq (.reg [] [
   DR 15 249 1 1,Ce 16 15 247,EN 17 16 247,rq 18 (.move (ki 0)) 3])
 (.block 1 (.loop (.seq (.reg [] [
   L8 19 18 17])
   (.seq (.cond (tp 19) (.skip)
   (.exit 1))
   (.seq (.block 2 (.seq (.reg [] [
     D5 20 247 16 18,
     Ce 21 20 246,
     rq 4 (.alloc 246) 0,
     rn (.store 246 (tp 4) (tp 21)) 0])
    (.block 3 (.seq (.reg [] [
      DR 23 246 4 0,
      Ce 24 23 3,
      DR 25 246 4 1,
      Ce 26 25 3,
      rq 27 (cb .min #[(tp 24),(tp 26)] #[3,3]) 3,
      rq 28 (.binOp .lss 3 (tp 27) (ki 0) 3) 4,
      Ap 29 28 4,
      rg 30 (.fieldAddr 246 (tp 4) 0) 0 29 false,
      rg 31 (.load 3 (tp 30)) 3 29 false,
      rg 32 (.fieldAddr 246 (tp 4) 1) 0 29 false,
      rg 33 (.load 3 (tp 32)) 3 29 false,
      rg 34 (cb .max #[(tp 31),(tp 33)] #[3,3]) 3 29 false,
      rg 35 (.fieldAddr 249 (tp 1) 0) 0 29 false,
      rg 36 (.load 3 (tp 35)) 3 29 false,
      rg 37 (.binOp .geq 3 (tp 34) (tp 36) 3) 4 29 false,
      rq 38 (.pick (tp 29) (kb true) (tp 37)) 4,
      AQ 22 38 4])
     (.cond (tp 22) (.seq (.reg [] [
       Cz 2 2 27])
      (.ret))
     (.seq (.reg [] [
       DR 40 246 4 0,
       Ce 41 40 3,
       DR 42 246 4 1,
       Ce 43 42 3,
       rq 44 (.binOp .eql 3 (tp 41) (tp 43) 3) 4,
       AQ 39 44 4])
      (.cond (tp 39) (.seq (.reg [] [
        Cz 2 13 27])
       (.ret))
      (.seq (.reg [] [
        DR 46 246 4 2,
        Ce 47 46 3,
        rq 48 (.binOp .lss 3 (tp 47) (ki 0) 3) 4,
        Ap 49 48 4,
        rg 50 (.fieldAddr 246 (tp 4) 3) 0 49 false,
        rg 51 (.load 3 (tp 50)) 3 49 false,
        rg 52 (.binOp .gtr 3 (tp 51) (ki 99) 3) 4 49 false,
        rq 53 (.pick (tp 49) (kb true) (tp 52)) 4,
        Ap 54 53 4,
        rg 55 (.fieldAddr 246 (tp 4) 2) 0 54 false,
        rg 56 (.load 3 (tp 55)) 3 54 false,
        rg 57 (.fieldAddr 246 (tp 4) 3) 0 54 false,
        rg 58 (.load 3 (tp 57)) 3 54 false,
        rg 59 (.binOp .gtr 3 (tp 56) (tp 58) 3) 4 54 false,
        rq 60 (.pick (tp 54) (kb true) (tp 59)) 4,
        AQ 45 60 4])
       (.cond (tp 45) (.seq (.reg [] [
         Cz 2 1 27])
        (.ret))
       (.skip))))))))))
   (.reg [] [
     FB 61 18,
     Ap 18 61 3])))))))
 (.seq (.reg [] [
   Cz 2 0 27])
 (.ret))))
def Zu:RC:=
 .seq (.reg [] [
  rq 2 (.assign (kb false)) 4])
 (.seq (.reg [] [
   rq 2 (.assign (kb true)) 4])
 (.ret))
def Zv:RC:=
 .seq (.reg [] [
  rq 2 (.assign (.const (.slice none 0 0))) 23])
 (.seq (.reg [] [
   Ap 6 0 279,rq 7 (.nilCheck (tp 6)) 0,DR 8 284 7 0,DR 9 249 8 0,Ce 10 9 3,rq 11 (.makeSlice 23 (tp 10) (tp 10)) 23,AQ 3 11 23])
 (.seq (.seq (.reg [] [
   Ap 12 0 279,rq 13 (.nilCheck (tp 12)) 0,DR 14 284 13 0,DR 15 249 14 1,Ce 16 15 247,EN 17 16 247,rq 18 (.move (ki 0)) 3])
 (.block 0 (.loop (.seq (.reg [] [
   L8 19 18 17])
   (.seq (.cond (tp 19) (.skip)
   (.exit 0))
   (.seq (.block 1 (.seq (.reg [] [
     Ap 20 18 3,
     D5 21 247 16 18,
     Ce 22 21 246,
     rq 5 (.alloc 246) 0,
     AQ 4 20 3,
     rn (.store 246 (tp 5) (tp 22)) 0])
    (.seq (.reg [0, 1, 2, 3, 4, 5, 6, 7, 8, 9, 10, 11, 12, 13, 14] [
      Ap 23 3 23,
      DR 24 246 5 1,
      Ce 25 24 3,
      D5 26 23 23 25,
      Ce 27 26 3,
      Ap 28 0 279,
      rq 29 (.nilCheck (tp 28)) 0,
      DR 30 284 29 1,
      Ce 31 30 23,
      Ap 32 4 3,
      D5 33 23 31 32,
      Ce 34 33 3,
      rq 35 (.binOp .add 3 (tp 27) (tp 34) 3) 3,
      D5 36 23 23 25,
      rn (.store 3 (tp 36) (tp 35)) 0])
    (.reg [0, 1, 2, 3, 4, 5, 6, 7, 8, 9, 10, 11, 12, 13, 14] [
      Ap 37 3 23,
      DR 38 246 5 0,
      Ce 39 38 3,
      D5 40 23 37 39,
      Ce 41 40 3,
      Ap 42 0 279,
      rq 43 (.nilCheck (tp 42)) 0,
      DR 44 284 43 1,
      Ce 45 44 23,
      Ap 46 4 3,
      D5 47 23 45 46,
      Ce 48 47 3,
      rq 49 (.binOp .sub 3 (tp 41) (tp 48) 3) 3,
      D5 50 23 37 39,
      rn (.store 3 (tp 50) (tp 49)) 0]))))
   (.reg [] [
     FB 51 18,
     Ap 18 51 3])))))))
 (.seq (.reg [] [
   Ap 52 3 23,AQ 2 52 23])
 (.ret))))
def Zw:RC:=
 .seq (.reg [] [
  rq 2 (.assign (kb false)) 4])
 (.seq (.reg [] [
   Ap 3 0 3,rq 4 (.binOp .neq 3 (tp 3) (ki 0) 3) 4,AQ 2 4 4])
 (.ret))
def Zx:RC:=
 .seq (.reg [] [
  rq 8 (.assign (.const (.map none))) 309])
 (.seq (.reg [] [
   rq 17 (.makeMap 327 none) 327,Ap 18 1 3,rq 19 (.build 326 #[(0,(ki (-1)))]) 326,rn (.insert 327 (tp 17) (tp 18) (tp 19)) 0,Ap 20 17 327,rq 9 (.alloc 327) 0,rn (.store 327 (tp 9) (tp 20)) 0])
 (.seq (.seq (.reg [] [
   Ap 21 1 3,rq 22 (.buildSlice 23 1 #[(0,(tp 21))]) 23,rq 10 (.alloc 23) 0,rn (.store 23 (tp 10) (tp 22)) 0])
 (.block 0 (.loop (.seq (.seq (.reg [] [
   Ce 23 10 23,
   EN 24 23 23,
   rq 25 (.binOp .gtr 3 (tp 24) (ki 0) 3) 4])
   (.cond (tp 25) (.skip)
   (.exit 0)))
   (.seq (.block 1 (.seq (.reg [] [
     Ce 28 10 23,
     rq 29 (.indexAddr 23 (tp 28) (ki 0)) 0,
     Ce 30 29 3,
     rq 11 (.alloc 3) 0,
     rn (.store 3 (tp 11) (tp 30)) 0])
    (.seq (.seq (.reg [] [
      Ce 31 11 3,
      Ap 32 2 3,
      rq 33 (.binOp .eql 3 (tp 31) (tp 32) 3) 4])
    (.cond (tp 33) (.seq (.reg [] [
      rq 34 (.makeMap 309 none) 309,
      AQ 12 34 309])
     (.seq (.block 2 (.loop (.seq (.seq (.reg [] [
       Ce 35 11 3,
       Ap 36 1 3,
       rq 37 (.binOp .neq 3 (tp 35) (tp 36) 3) 4])
       (.cond (tp 37) (.skip)
       (.exit 2)))
       (.block 3 (.seq (.reg [] [
         Ce 38 9 327,
         Ce 39 11 3,
         rq 40 (.lookup 327 (tp 38) (tp 39) false) 326,
         rq 13 (.alloc 326) 0,
         rn (.store 326 (tp 13) (tp 40)) 0])
        (.seq (.reg [] [
          Ap 41 12 309,
          DR 42 326 13 0,
          Ce 43 42 3,
          DR 44 326 13 2,
          Ce 45 44 4,
          rn (.mapUpdate 309 (tp 41) (tp 43) (tp 45)) 0])
        (.reg [] [
          DR 46 326 13 1,
          Ce 47 46 3,
          rn (.store 3 (tp 11) (tp 47)) 0])))))))
     (.seq (.reg [] [
       Ap 48 12 309,
       AQ 8 48 309])
     (.ret))))
    (.skip)))
    (.seq (.reg [] [
      rq 49 (.makeFunc (.func 268) #[] #[(tp 9),(tp 11),(tp 10)]) 329,
      AQ 14 49 329])
    (.seq (.reg [] [
      Ap 50 0 279,
      rq 51 (.nilCheck (tp 50)) 0,
      DR 52 284 51 0,
      DR 53 249 52 1,
      Ce 54 53 247,
      EN 55 54 247,
      rq 56 (.move (ki 0)) 3])
    (.block 4 (.loop (.seq (.reg [] [
      L8 57 56 55])
      (.seq (.cond (tp 57) (.skip)
      (.exit 4))
      (.seq (.block 5 (.seq (.reg [] [
        Ap 58 56 3,
        D5 59 247 54 56,
        Ce 60 59 246,
        rq 16 (.alloc 246) 0,
        AQ 15 58 3,
        rn (.store 246 (tp 16) (tp 60)) 0])
       (.seq (.seq (.reg [0, 1, 2, 3, 4, 5, 6, 7, 8, 9, 10, 11, 12, 13, 14, 15, 16, 17, 18, 19, 20] [
         DR 61 246 16 0,
         Ce 62 61 3,
         Ce 63 11 3,
         rq 64 (.binOp .eql 3 (tp 62) (tp 63) 3) 4,
         Ap 65 64 4,
         DD 66 0 279 65 true,
         rg 67 (.nilCheck (tp 66)) 0 65 true,
         rg 68 (.fieldAddr 284 (tp 67) 1) 0 65 true,
         rg 69 (.load 23 (tp 68)) 23 65 true,
         DD 70 15 3 65 true,
         rg 71 (.indexAddr 23 (tp 69) (tp 70)) 0 65 true,
         rg 72 (.load 3 (tp 71)) 3 65 true,
         rg 73 (.fieldAddr 246 (tp 16) 3) 0 65 true,
         rg 74 (.load 3 (tp 73)) 3 65 true,
         rg 75 (.binOp .lss 3 (tp 72) (tp 74) 3) 4 65 true,
         rq 76 (.pick (tp 65) (tp 75) (kb false)) 4,
         Ap 77 76 4,
         DD 78 3 133 77 true,
         DD 79 15 3 77 true,
         rg 80 (.call ⟨.value (tp 78),#[(tp 79)],#[3]⟩) 4 77 true,
         rq 81 (.pick (tp 77) (tp 80) (kb false)) 4])
       (.cond (tp 81) (.reg [] [
         Ap 82 14 329,
         DR 83 246 16 1,
         Ce 84 83 3,
         Ap 85 15 3,
         rq 86 (.call ⟨.value (tp 82),#[(tp 84),(tp 85),(kb true)],#[3,3,4]⟩) 0])
       (.skip)))
       (.seq (.reg [0, 1, 2, 3, 4, 5, 6, 7, 8, 9, 10, 11, 12, 13, 14, 15, 16, 17, 18, 19, 20] [
         DR 87 246 16 1,
         Ce 88 87 3,
         Ce 89 11 3,
         rq 90 (.binOp .eql 3 (tp 88) (tp 89) 3) 4,
         Ap 91 90 4,
         DD 92 0 279 91 true,
         rg 93 (.nilCheck (tp 92)) 0 91 true,
         rg 94 (.fieldAddr 284 (tp 93) 1) 0 91 true,
         rg 95 (.load 23 (tp 94)) 23 91 true,
         DD 96 15 3 91 true,
         rg 97 (.indexAddr 23 (tp 95) (tp 96)) 0 91 true,
         rg 98 (.load 3 (tp 97)) 3 91 true,
         rg 99 (.fieldAddr 246 (tp 16) 2) 0 91 true,
         rg 100 (.load 3 (tp 99)) 3 91 true,
         rg 101 (.binOp .gtr 3 (tp 98) (tp 100) 3) 4 91 true,
         rq 102 (.pick (tp 91) (tp 101) (kb false)) 4,
         Ap 103 102 4,
         DD 104 3 133 103 true,
         DD 105 15 3 103 true,
         rg 106 (.call ⟨.value (tp 104),#[(tp 105)],#[3]⟩) 4 103 true,
         rq 107 (.pick (tp 103) (tp 106) (kb false)) 4])
       (.cond (tp 107) (.reg [] [
         Ap 108 14 329,
         DR 109 246 16 0,
         Ce 110 109 3,
         Ap 111 15 3,
         rq 112 (.call ⟨.value (tp 108),#[(tp 110),(tp 111),(kb false)],#[3,3,4]⟩) 0])
       (.skip))))))
      (.reg [] [
        FB 113 56,
        Ap 56 113 3])))))))))))
   (.seq (.seq (.reg [] [
     Ce 114 10 23])
   (.reg [] [
     rq 10 (.alloc 23) 0,
     rn (.store 23 (tp 10) (tp 114)) 0]))
   (.reg [] [
     Ce 26 10 23,
     rq 27 (.slice 23 (tp 26) (some (ki 1)) none none) 23,
     rn (.store 23 (tp 10) (tp 27)) 0])))))))
 (.seq (.reg [] [
   rq 8 (.assign (.const (.map none))) 309])
 (.ret))))
def Uk:RC:=Iq
def Zy:RC:=
 .seq (.reg [] [
  rq 4 (.box 3 (tp 1)) 0,rq 5 (.box 133 (tp 2)) 0])
 (.seq (.reg [0, 1, 2, 3, 4, 5, 6, 7, 8, 9] [
   Ap 8 0 279,rq 9 (.nilCheck (tp 8)) 0,DR 10 284 9 0,DR 11 249 10 1,Ce 12 11 247,Ce 13 4 3,D5 14 247 12 13,Ce 15 14 246,rq 6 (.alloc 246) 0,rn (.store 246 (tp 6) (tp 15)) 0])
 (.block 0 (.loop (.seq (.seq (.reg [0, 1, 2, 3, 4, 5, 6, 7, 8, 9] [
   Ap 16 0 279,
   rq 17 (.nilCheck (tp 16)) 0,
   DR 18 284 17 1,
   Ce 19 18 23,
   Ce 20 4 3,
   D5 21 23 19 20,
   Ce 22 21 3,
   DR 23 246 6 2,
   Ce 24 23 3,
   rq 25 (.binOp .gtr 3 (tp 22) (tp 24) 3) 4])
   (.cond (tp 25) (.skip)
   (.exit 0)))
   (.block 1 (.seq (.reg [] [
     Ap 26 0 279,
     DR 27 246 6 0,
     Ce 28 27 3,
     DR 29 246 6 1,
     Ce 30 29 3,
     rq 31 (.makeFunc (.func 269) #[] #[(tp 4),(tp 5)]) 133,
     rq 32 (cf 251 #[(tp 26),(tp 28),(tp 30),(tp 31)] #[279,3,3,133]) 309,
     AQ 7 32 309])
    (.seq (.seq (.reg [] [
      Ap 33 7 309,
      rq 34 (.binOp .eql 309 (tp 33) (.const (.map none)) 309) 4])
    (.cond (tp 34) (.ret)
    (.skip)))
    (.seq (.reg [] [
      Ap 35 0 279,
      Ap 36 7 309,
      rq 37 (cf 252 #[(tp 35),(tp 36)] #[279,309]) 0])
    (.reg [0, 1, 2, 3, 4, 5, 6, 7, 8, 9] [
      Ap 38 0 279,
      rq 39 (.nilCheck (tp 38)) 0,
      DR 40 284 39 1,
      Ce 41 40 23,
      Ce 42 4 3,
      D5 43 23 41 42,
      Ce 44 43 3,
      rq 45 (.binOp .sub 3 (tp 44) (ki 1) 3) 3,
      D5 46 23 41 42,
      rn (.store 3 (tp 46) (tp 45)) 0])))))))))
def Zz:RC:=
 .seq (.reg [] [
  rq 4 (.assign (.const (.int .u32 0))) 38,rq 5 (.assign (.const (.int .u32 0))) 38])
 (.seq (.reg [] [
   Ap 7 0 38,rq 8 (.convert 38 170 (tp 7)) 170,Ap 9 1 38,rq 10 (.convert 38 170 (tp 9)) 170,rq 11 (.binOp .mul 170 (tp 8) (tp 10) 170) 170,AQ 6 11 170])
 (.seq (.reg [] [
   Ap 12 6 170,rq 13 (.binOp .shr 170 (tp 12) (.const (.int .u64 32)) 130) 170,rq 14 (.convert 170 38 (tp 13)) 38,Ap 15 6 170,rq 16 (.convert 170 38 (tp 15)) 38,AQ 4 14 38,AQ 5 16 38])
 (.ret)))
def ZA:RC:=
 .seq (.reg [] [
  rq 4 (.assign (.const (.int .u64 0))) 170,rq 5 (.assign (.const (.int .u64 0))) 170])
 (.seq (.reg [] [
   Ap 14 0 170,rq 15 (.binOp .and 170 (tp 14) (.const (.int .u64 4294967295)) 170) 170,AQ 6 15 170])
 (.seq (.reg [] [
   Ap 16 0 170,rq 17 (.binOp .shr 170 (tp 16) (.const (.int .u64 32)) 130) 170,AQ 7 17 170])
 (.seq (.reg [] [
   Ap 18 1 170,rq 19 (.binOp .and 170 (tp 18) (.const (.int .u64 4294967295)) 170) 170,AQ 8 19 170])
 (.seq (.reg [] [
   Ap 20 1 170,rq 21 (.binOp .shr 170 (tp 20) (.const (.int .u64 32)) 130) 170,AQ 9 21 170])
 (.seq (.reg [] [
   Ap 22 6 170,Ap 23 8 170,rq 24 (.binOp .mul 170 (tp 22) (tp 23) 170) 170,AQ 10 24 170])
 (.seq (.reg [] [
   Ap 25 7 170,Ap 26 8 170,rq 27 (.binOp .mul 170 (tp 25) (tp 26) 170) 170,Ap 28 10 170,rq 29 (.binOp .shr 170 (tp 28) (.const (.int .u64 32)) 130) 170,rq 30 (.binOp .add 170 (tp 27) (tp 29) 170) 170,AQ 11 30 170])
 (.seq (.reg [] [
   Ap 31 11 170,rq 32 (.binOp .and 170 (tp 31) (.const (.int .u64 4294967295)) 170) 170,AQ 12 32 170])
 (.seq (.reg [] [
   Ap 33 11 170,rq 34 (.binOp .shr 170 (tp 33) (.const (.int .u64 32)) 130) 170,AQ 13 34 170])
 (.seq (.reg [] [
   Ap 35 12 170,Ap 36 6 170,Ap 37 9 170,rq 38 (.binOp .mul 170 (tp 36) (tp 37) 170) 170,rq 39 (.binOp .add 170 (tp 35) (tp 38) 170) 170,AQ 12 39 170])
 (.seq (.reg [] [
   Ap 40 7 170,Ap 41 9 170,rq 42 (.binOp .mul 170 (tp 40) (tp 41) 170) 170,Ap 43 13 170,rq 44 (.binOp .add 170 (tp 42) (tp 43) 170) 170,Ap 45 12 170,rq 46 (.binOp .shr 170 (tp 45) (.const (.int .u64 32)) 130) 170,rq 47 (.binOp .add 170 (tp 44) (tp 46) 170) 170,AQ 4 47 170])
 (.seq (.reg [] [
   Ap 48 0 170,Ap 49 1 170,rq 50 (.binOp .mul 170 (tp 48) (tp 49) 170) 170,AQ 5 50 170])
 (.ret))))))))))))
def ZB:RC:=
 .seq (.reg [] [
  rq 2 (.box 249 (tp 0)) 0,Cz 4 0 3,Cz 5 0 3,Cz 6 0 27])
 (.seq (.reg [] [
   Ce 9 2 249,Ap 10 1 3,rq 11 (cf 270 #[(tp 9),(tp 10)] #[249,3]) 280,Ap 8 11 280,EM 12 8 0 279,EM 13 8 1 27,AQ 7 12 279,AQ 6 13 27])
 (.seq (.seq (.reg [] [
   Ap 14 6 27,rq 15 (.binOp .neq 27 (tp 14) (ki 0) 27) 4])
 (.cond (tp 15) (.seq (.reg [] [
   Ap 16 6 27,
   Cz 4 0 3,
   Cz 5 0 3,
   AQ 6 16 27])
  (.ret))
 (.skip)))
 (.seq (.reg [] [
   Ap 18 7 279,Ap 19 1 3,rq 20 (cf 271 #[(tp 18),(tp 19)] #[279,3]) 286,Ap 17 20 286,EM 21 17 0 3,EM 22 17 1 3,AQ 4 21 3,AQ 5 22 3])
 (.seq (.reg [] [
   Ap 23 4 3,Ap 24 5 3,AQ 4 23 3,AQ 5 24 3,Cz 6 0 27])
 (.ret)))))
def ZC:RC:=
 .seq (.reg [] [
  rq 3 (.box 307 (tp 0)) 0,Cz 6 0 3])
 (.seq (.seq (.reg [] [
   DR 11 307 3 0,Ce 12 11 305,Ap 13 1 273,rq 14 (.lookup 305 (tp 12) (tp 13) true) 107,Ap 10 14 107,EM 15 10 0 3,EM 16 10 1 4,AQ 7 15 3,AQ 8 16 4])
 (.seq (.reg [] [
   Ap 17 8 4])
 (.cond (tp 17) (.seq (.reg [] [
   Ap 18 7 3,
   AQ 6 18 3])
  (.ret))
 (.skip))))
 (.seq (.reg [] [
   Ap 19 2 91,rq 20 (.call ⟨.value (tp 19),#[],#[]⟩) 3,AQ 9 20 3])
 (.seq (.reg [] [
   DR 21 307 3 0,Ce 22 21 305,Ap 23 1 273,Ap 24 9 3,rn (.mapUpdate 305 (tp 22) (tp 23) (tp 24)) 0])
 (.seq (.reg [] [
   Ap 25 9 3,AQ 6 25 3])
 (.ret)))))
def ZE:RC:=
 .seq (.reg [] [
  Cz 3 0 3])
 (.seq (.reg [] [
   rq 4 (.alloc 3) 0,rn (.store 3 (tp 4) (ki 0)) 0])
 (.seq (.reg [] [
   Ce 5 0 276,Ce 6 1 273,rq 7 (.makeFunc (.func 266) #[] #[(tp 4),(tp 0),(tp 2)]) 324,rq 8 (cf 265 #[(tp 5),(tp 6),(tp 7)] #[276,273,324]) 0])
 (.seq (.reg [] [
   Ce 9 4 3,AQ 3 9 3])
 (.ret))))
def ZF:RC:=
 .seq (.reg [] [
  rq 3 (.box 276 (tp 0)) 0])
 (.seq (.reg [] [
   Ce 14 3 276,Ap 15 1 273,rq 16 (cf 272 #[(tp 14),(tp 15)] #[276,273]) 286,Ap 13 16 286,EM 17 13 0 3,EM 18 13 1 3,AQ 6 17 3,AQ 7 18 3])
 (.seq (.reg [] [
   rq 19 (.buildSlice 333 2 #[(0,(kb false)),(1,(kb true))]) 333,EN 20 19 333,rq 21 (.move (ki 0)) 3])
 (.block 0 (.loop (.seq (.reg [] [
   L8 22 21 20])
   (.seq (.cond (tp 22) (.skip)
   (.exit 0))
   (.seq (.block 1 (.seq (.reg [] [
     D5 23 333 19 21,
     Ce 24 23 4,
     AQ 9 24 4])
    (.seq (.reg [] [
      Ap 25 6 3,
      Ap 26 7 3,
      Ap 27 9 4,
      rq 28 (.build 323 #[(0,(tp 25)),(1,(tp 26)),(2,(tp 27))]) 323,
      rq 10 (.alloc 323) 0,
      rn (.store 323 (tp 10) (tp 28)) 0])
    (.seq (.seq (.reg [] [
      Ap 29 9 4,
      Ap 30 29 4,
      rg 31 (.fieldAddr 276 (tp 3) 0) 0 30 true,
      rg 32 (.fieldAddr 243 (tp 31) 2) 0 30 true,
      rg 33 (.load 3 (tp 32)) 3 30 true,
      rg 34 (.fieldAddr 276 (tp 3) 0) 0 30 true,
      rg 35 (.fieldAddr 243 (tp 34) 3) 0 30 true,
      rg 36 (.load 3 (tp 35)) 3 30 true,
      rg 37 (.binOp .eql 3 (tp 33) (tp 36) 3) 4 30 true,
      rq 38 (.pick (tp 30) (tp 37) (kb false)) 4])
    (.cond (tp 38) (.ret)
    (.skip)))
    (.seq (.reg [] [
      Ce 40 3 276,
      Ap 41 1 273,
      Ce 42 10 323,
      rq 43 (cf 273 #[(tp 40),(tp 41),(tp 42)] #[276,273,323]) 334,
      Ap 39 43 334,
      EM 44 39 0 273,
      EM 45 39 1 4,
      AQ 11 44 273,
      AQ 12 45 4])
    (.seq (.reg [] [
      Ap 46 12 4,
      Ap 47 46 4,
      DD 48 2 324 47 true,
      rg 49 (.load 323 (tp 10)) 323 47 true,
      DD 50 11 273 47 true,
      rg 51 (.call ⟨.value (tp 48),#[(tp 49),(tp 50)],#[323,273]⟩) 4 47 true,
      rg 52 (.unOp .not 4 (tp 51)) 4 47 true,
      rq 53 (.pick (tp 47) (tp 52) (kb false)) 4])
    (.cond (tp 53) (.ret)
    (.skip))))))))
   (.reg [] [
     FB 54 21,
     Ap 21 54 3]))))))))
def ZG:RC:=
 .seq (.reg [] [
  rq 5 (.box 323 (tp 0)) 0,rq 7 (.assign (kb false)) 4])
 (.seq (.reg [0, 1, 2, 3, 4, 5, 6] [
   Ce 8 2 3,Ce 9 3 276,Ap 10 1 273,Ce 11 4 307,
   ⟨(some 12),cf 246 #[(tp 9),(tp 10),(tp 11)] #[276,273,307],3,none,[(tp 2)]⟩,rq 13 (.binOp .add 3 (tp 8) (tp 12) 3) 3,rn (.store 3 (tp 2) (tp 13)) 0])
 (.seq (.reg [] [
   rq 7 (.assign (kb true)) 4])
 (.ret)))
def ZH:RC:=
 .seq (.reg [] [
  rq 6 (.assign (kb false)) 4])
 (.seq (.reg [] [
   Ap 7 0 3,Ap 8 1 3,rq 9 (.binOp .leq 3 (tp 7) (tp 8) 3) 4,Ap 10 9 4,DD 11 1 3 10 true,DD 12 2 3 10 true,rg 13 (.binOp .leq 3 (tp 11) (tp 12) 3) 4 10 true,rq 14 (.pick (tp 10) (tp 13) (kb false)) 4,AQ 6 14 4])
 (.ret))
def ZI:RC:=
 .seq (.reg [] [
  Ce 12 3 327,Ap 13 0 3,rq 14 (.lookup 327 (tp 12) (tp 13) true) 328,Ap 11 14 328,EM 15 11 0 326,EM 16 11 1 4,rq 9 (.alloc 326) 0,rn (.store 326 (tp 9) (tp 15)) 0,AQ 10 16 4])
 (.seq (.reg [] [
   Ap 17 10 4,rq 18 (.unOp .not 4 (tp 17)) 4])
 (.cond (tp 18) (.seq (.reg [] [
   Ce 19 3 327,
   Ap 20 0 3,
   Ap 21 1 3,
   Ce 22 4 3,
   Ap 23 2 4,
   rq 24 (.build 326 #[(0,(tp 21)),(1,(tp 22)),(2,(tp 23))]) 326,
   rn (.mapUpdate 327 (tp 19) (tp 20) (tp 24)) 0])
  (.reg [] [
    Ce 25 5 23,
    Ap 26 0 3,
    rq 27 (.buildSlice 23 1 #[(0,(tp 26))]) 23,
    rq 28 (cb .append #[(tp 25),(tp 27)] #[23,23]) 23,
    rn (.store 23 (tp 5) (tp 28)) 0]))
 (.skip)))
def ZJ:RC:=
 .seq (.reg [] [
  rq 4 (.assign (kb false)) 4])
 (.seq (.reg [] [
   Ap 5 0 3,Ce 6 1 3,rq 7 (.binOp .neq 3 (tp 5) (tp 6) 3) 4,Ap 8 7 4,rg 9 (.load 133 (tp 2)) 133 8 true,DD 10 0 3 8 true,rg 11 (.call ⟨.value (tp 9),#[(tp 10)],#[3]⟩) 4 8 true,rq 12 (.pick (tp 8) (tp 11) (kb false)) 4,AQ 4 12 4])
 (.ret))
def ZK:RC:=
 .seq (.reg [] [
  rq 2 (.box 249 (tp 0)) 0,rq 4 (.assign (.const (.pointer none))) 279,Cz 5 0 27])
 (.seq (.seq (.reg [] [
   Ce 7 2 249,rq 8 (cf 247 #[(tp 7)] #[249]) 27,AQ 6 8 27])
 (.seq (.reg [] [
   Ap 9 6 27,rq 10 (.binOp .eql 27 (tp 9) (ki 0) 27) 4,Ap 11 10 4,DD 12 1 3 11 true,rg 13 (.fieldAddr 249 (tp 2) 1) 0 11 true,rg 14 (.load 247 (tp 13)) 247 11 true,rg 15 (cb .len #[(tp 14)] #[247]) 3 11 true,rg 16 (.binOp .sub 3 (tp 15) (ki 1) 3) 3 11 true,rg 17 (cf 267 #[(ki 0),(tp 12),(tp 16)] #[3,3,3]) 4 11 true,rg 18 (.unOp .not 4 (tp 17)) 4 11 true,rq 19 (.pick (tp 11) (tp 18) (kb false)) 4])
 (.cond (tp 19) (.seq (.reg [] [
   rq 4 (.assign (.const (.pointer none))) 279,
   Cz 5 2 27])
  (.ret))
 (.skip))))
 (.seq (.reg [] [
   Ce 20 2 249,rq 21 (cf 227 #[(tp 20)] #[249]) 280,EM 22 21 0 279,EM 23 21 1 27,AQ 4 22 279,AQ 5 23 27])
 (.ret)))
def ZL:RC:=
 .seq (.reg [] [
  Cz 4 0 3,Cz 5 0 3])
 (.seq (.reg [] [
   Ap 6 0 279,Ap 7 1 3,rq 8 (cf 253 #[(tp 6),(tp 7),(.func 274)] #[279,3,133]) 0])
 (.seq (.reg [] [
   Ap 9 0 279,rq 10 (.nilCheck (tp 9)) 0,DR 11 284 10 1,Ce 12 11 23,Ap 13 1 3,D5 14 23 12 13,Ce 15 14 3,AQ 4 15 3])
 (.seq (.reg [] [
   Ap 16 0 279,Ap 17 1 3,rq 18 (cf 275 #[(tp 16),(tp 17)] #[279,3]) 0])
 (.seq (.reg [0, 1, 2, 3, 4, 5, 6, 7, 8, 9] [
   Ap 19 4 3,Ap 20 0 279,rq 21 (.nilCheck (tp 20)) 0,DR 22 284 21 1,Ce 23 22 23,Ap 24 1 3,D5 25 23 23 24,Ce 26 25 3,AQ 4 19 3,AQ 5 26 3])
 (.ret)))))
def ZM:RC:=
 .seq (.reg [] [
  rq 2 (.box 276 (tp 0)) 0,Cz 4 0 3,Cz 5 0 3])
 (.seq (.reg [] [
   Cz 6 0 3])
 (.seq (.block 0 (.loop (.seq (.seq (.reg [] [
   Ap 7 1 273,
   Ap 8 6 3,
   rq 9 (.binOp .shr 273 (tp 7) (tp 8) 3) 273,
   rq 10 (.binOp .and 273 (tp 9) (.const (.int .u64 1)) 273) 273,
   rq 11 (.binOp .eql 273 (tp 10) (.const (.int .u64 1)) 273) 4])
   (.cond (tp 11) (.skip)
   (.exit 0)))
   (.block 1 (.reg [] [
     Ap 12 6 3,
     FB 13 12,
     AQ 6 13 3])))))
 (.seq (.reg [0, 1, 2, 3, 4, 5, 6, 7, 8, 9, 10, 11] [
   Ap 14 6 3,DR 15 276 2 0,DR 16 243 15 1,Ce 17 16 3,rq 18 (.binOp .quo 3 (tp 14) (tp 17) 3) 3,Ap 19 6 3,DR 20 276 2 0,DR 21 243 20 1,Ce 22 21 3,rq 23 (.binOp .rem 3 (tp 19) (tp 22) 3) 3,AQ 4 18 3,AQ 5 23 3])
 (.ret))))
def ZN:RC:=
 .seq (.reg [] [
  rq 3 (.box 276 (tp 0)) 0,rq 5 (.box 323 (tp 2)) 0,rq 6 (.assign (.const (.int .u64 0))) 273,rq 7 (.assign (kb false)) 4])
 (.seq (.reg [] [
   DR 12 276 3 0,Ce 13 12 243,DR 14 323 5 2,Ce 15 14 4,rq 16 (cf 276 #[(tp 13),(tp 15)] #[243,4]) 286,Ap 11 16 286,EM 17 11 0 3,EM 18 11 1 3,AQ 8 17 3,AQ 9 18 3])
 (.seq (.seq (.reg [] [
   DR 19 323 5 0,Ce 20 19 3,Ap 21 8 3,rq 22 (.binOp .add 3 (tp 20) (tp 21) 3) 3,DR 23 276 3 0,DR 24 243 23 0,Ce 25 24 3,rq 26 (.binOp .gtr 3 (tp 22) (tp 25) 3) 4,Ap 27 26 4,rg 28 (.fieldAddr 323 (tp 5) 1) 0 27 false,rg 29 (.load 3 (tp 28)) 3 27 false,DD 30 9 3 27 false,rg 31 (.binOp .add 3 (tp 29) (tp 30) 3) 3 27 false,rg 32 (.fieldAddr 276 (tp 3) 0) 0 27 false,rg 33 (.fieldAddr 243 (tp 32) 1) 0 27 false,rg 34 (.load 3 (tp 33)) 3 27 false,rg 35 (.binOp .gtr 3 (tp 31) (tp 34) 3) 4 27 false,rq 36 (.pick (tp 27) (kb true) (tp 35)) 4])
 (.cond (tp 36) (.seq (.reg [] [
   rq 6 (.assign (.const (.int .u64 0))) 273,
   rq 7 (.assign (kb false)) 4])
  (.ret))
 (.skip)))
 (.seq (.reg [] [
   DR 37 276 3 1,rq 38 (.indexAddr 274 (tp 37) (ki 0)) 0,Ce 39 38 273,AQ 10 39 273])
 (.seq (.seq (.reg [] [
   DR 40 323 5 2,Ce 41 40 4])
 (.cond (tp 41) (.reg [] [
   DR 42 276 3 1,
   rq 43 (.indexAddr 274 (tp 42) (ki 1)) 0,
   Ce 44 43 273,
   AQ 10 44 273])
 (.skip)))
 (.seq (.reg [] [
   Ap 45 10 273,DR 46 323 5 0,Ce 47 46 3,DR 48 276 3 0,DR 49 243 48 1,Ce 50 49 3,rq 51 (.binOp .mul 3 (tp 47) (tp 50) 3) 3,DR 52 323 5 1,Ce 53 52 3,rq 54 (.binOp .add 3 (tp 51) (tp 53) 3) 3,rq 55 (.binOp .shl 273 (tp 45) (tp 54) 3) 273,AQ 10 55 273])
 (.seq (.reg [] [
   Ap 56 1 273,Ap 57 10 273,rq 58 (.binOp .or 273 (tp 56) (tp 57) 273) 273,Ap 59 1 273,Ap 60 10 273,rq 61 (.binOp .and 273 (tp 59) (tp 60) 273) 273,rq 62 (.binOp .eql 273 (tp 61) (.const (.int .u64 0)) 273) 4,AQ 6 58 273,AQ 7 62 4])
 (.ret)))))))
def ZO:RC:=
 .seq (.reg [] [
  rq 2 (.assign (kb false)) 4])
 (.seq (.reg [] [
   rq 2 (.assign (kb true)) 4])
 (.ret))
def ZP:RC:=
 .seq (.reg [] [
  rq 3 (.box 3 (tp 1)) 0])
 (.seq (.reg [0, 1, 2, 3, 4, 5, 6, 7, 8, 9] [
   Ap 6 0 279,rq 7 (.nilCheck (tp 6)) 0,DR 8 284 7 0,DR 9 249 8 1,Ce 10 9 247,Ce 11 3 3,D5 12 247 10 11,Ce 13 12 246,rq 4 (.alloc 246) 0,rn (.store 246 (tp 4) (tp 13)) 0])
 (.block 0 (.loop (.seq (.seq (.reg [0, 1, 2, 3, 4, 5, 6, 7, 8, 9] [
   Ap 14 0 279,
   rq 15 (.nilCheck (tp 14)) 0,
   DR 16 284 15 1,
   Ce 17 16 23,
   Ce 18 3 3,
   D5 19 23 17 18,
   Ce 20 19 3,
   DR 21 246 4 3,
   Ce 22 21 3,
   rq 23 (.binOp .lss 3 (tp 20) (tp 22) 3) 4])
   (.cond (tp 23) (.skip)
   (.exit 0)))
   (.block 1 (.seq (.reg [] [
     Ap 24 0 279,
     DR 25 246 4 1,
     Ce 26 25 3,
     DR 27 246 4 0,
     Ce 28 27 3,
     rq 29 (.makeFunc (.func 277) #[] #[(tp 3)]) 133,
     rq 30 (cf 251 #[(tp 24),(tp 26),(tp 28),(tp 29)] #[279,3,3,133]) 309,
     AQ 5 30 309])
    (.seq (.seq (.reg [] [
      Ap 31 5 309,
      rq 32 (.binOp .eql 309 (tp 31) (.const (.map none)) 309) 4])
    (.cond (tp 32) (.ret)
    (.skip)))
    (.seq (.reg [] [
      Ap 33 0 279,
      Ap 34 5 309,
      rq 35 (cf 252 #[(tp 33),(tp 34)] #[279,309]) 0])
    (.reg [0, 1, 2, 3, 4, 5, 6, 7, 8, 9] [
      Ap 36 0 279,
      rq 37 (.nilCheck (tp 36)) 0,
      DR 38 284 37 1,
      Ce 39 38 23,
      Ce 40 3 3,
      D5 41 23 39 40,
      Ce 42 41 3,
      FB 43 42,
      D5 44 23 39 40,
      rn (.store 3 (tp 44) (tp 43)) 0])))))))))
def ZQ:RC:=
 .seq (.reg [] [
  rq 2 (.box 243 (tp 0)) 0,Cz 4 0 3,Cz 5 0 3])
 (.seq (.seq (.reg [] [
   Ap 6 1 4])
 (.cond (tp 6) (.seq (.reg [0, 1, 2, 3, 4, 5] [
   DR 7 243 2 3,
   Ce 8 7 3,
   DR 9 243 2 2,
   Ce 10 9 3,
   AQ 4 8 3,
   AQ 5 10 3])
  (.ret))
 (.skip)))
 (.seq (.reg [0, 1, 2, 3, 4, 5] [
   DR 11 243 2 2,Ce 12 11 3,DR 13 243 2 3,Ce 14 13 3,AQ 4 12 3,AQ 5 14 3])
 (.ret)))
def ZR:RC:=
 .seq (.reg [] [
  rq 3 (.assign (kb false)) 4])
 (.seq (.reg [] [
   Ap 4 0 3,Ce 5 1 3,rq 6 (.binOp .neq 3 (tp 4) (tp 5) 3) 4,AQ 3 6 4])
 (.ret))
def ti3:TI:=⟨.int .i64,1,8,(some (.int .i64 0)),false⟩
def ti4:TI:=⟨.bool,1,1,(some (.bool false)),false⟩
def ti5:TI:=⟨.int .u8,1,1,(some (.int .u8 0)),false⟩
def ti9:TI:=⟨.string,1,16,(some (.string ⟨#[]⟩)),false⟩
def Abc:TI:=⟨.slice 5,1,24,(some (.slice none 0 0)),false⟩
def Abd:TI:=⟨.slice 3,1,24,(some (.slice none 0 0)),false⟩
def Abe : TI := ⟨.struct #[⟨ "Kinds", 3, 0, false, "", "", 0⟩, ⟨ "Has", 23, 1, false, "", "", 8⟩, ⟨ "Wants", 23, 2, false, "", "", 32⟩], 3, 56, (some (.agg #[(.int .i64 0), (.slice none 0 0), (.slice none 0 0)])), false⟩
def Abf:TI:=⟨.int .i64,1,8,(some (.int .i64 0)),false⟩
def Abg : TI := ⟨.struct #[⟨ "Rows", 3, 0, false, "", "", 0⟩, ⟨ "Columns", 3, 1, false, "", "", 8⟩, ⟨ "Colours", 3, 2, false, "", "", 16⟩, ⟨ "Turns", 23, 3, false, "", "", 24⟩], 4, 48, (some (.agg #[(.int .i64 0), (.int .i64 0), (.int .i64 0), (.slice none 0 0)])), false⟩
def Abh:TI:=⟨.int .u32,1,4,(some (.int .u32 0)),false⟩
def Abi:TI:=⟨.int .u16,1,2,(some (.int .u16 0)),false⟩
def Abj:TI:=⟨.slice 58,1,24,(some (.slice none 0 0)),false⟩
def Abk : TI := ⟨.struct #[⟨ "Lanes", 3, 0, false, "", "", 0⟩, ⟨ "Comparators", 54, 1, false, "", "", 8⟩], 2, 32, (some (.agg #[(.int .i64 0), (.slice none 0 0)])), false⟩
def Abl:TI:=⟨.array 2 3,2,16,(some (.agg #[(.int .i64 0),(.int .i64 0)])),true⟩
def Abm:TI:=⟨.slice 23,1,24,(some (.slice none 0 0)),false⟩
def Abn:TI:=⟨.func #[] #[3] false,1,8,(some .nilFunc),false⟩
def Abo:TI:=⟨.pointer 96,1,8,(some (.pointer none)),false⟩
def Abp : TI := ⟨.struct #[⟨ "Press", 36, 0, true, "", "", 0⟩, ⟨ "from", 71, 4, false, "", "spadille/back", 48⟩], 5, 72, (some (.agg #[(.int .i64 0), (.int .i64 0), (.int .i64 0), (.slice none 0 0), (.slice none 0 0)])), false⟩
def fO:TI:=⟨.int .u64,1,8,(some (.int .u64 0)),false⟩
def fP:TI:=⟨.func #[3] #[4] false,1,8,(some .nilFunc),false⟩
def fQ:TI:=⟨.array 5 3,5,40,(some (.agg #[(.int .i64 0),(.int .i64 0),(.int .i64 0),(.int .i64 0),(.int .i64 0)])),true⟩
def fT:TI:=⟨.array 5 23,5,120,(some (.agg #[(.slice none 0 0),(.slice none 0 0),(.slice none 0 0),(.slice none 0 0),(.slice none 0 0)])),false⟩
def fU:TI:=⟨.int .u16,1,2,(some (.int .u16 0)),false⟩
def fV:TI:=⟨.pointer 201,1,8,(some (.pointer none)),false⟩
def fZ:TI:=⟨.int .u64,1,8,(some (.int .u64 0)),false⟩
def gD:TI:=⟨.array 2 170,2,16,(some (.agg #[(.int .u64 0),(.int .u64 0)])),true⟩
def gF:TI:=⟨.array 7 171,14,112,(some (.agg #[(.int .u64 0),(.int .u64 0),(.int .u64 0),(.int .u64 0),(.int .u64 0),(.int .u64 0),(.int .u64 0),(.int .u64 0),(.int .u64 0),(.int .u64 0),(.int .u64 0),(.int .u64 0),(.int .u64 0),(.int .u64 0)])),true⟩
def gG:TI:=⟨.array 32 5,32,32,(some (.agg #[(.int .u8 0),(.int .u8 0),(.int .u8 0),(.int .u8 0),(.int .u8 0),(.int .u8 0),(.int .u8 0),(.int .u8 0),(.int .u8 0),(.int .u8 0),(.int .u8 0),(.int .u8 0),(.int .u8 0),(.int .u8 0),(.int .u8 0),(.int .u8 0),(.int .u8 0),(.int .u8 0),(.int .u8 0),(.int .u8 0),(.int .u8 0),(.int .u8 0),(.int .u8 0),(.int .u8 0),(.int .u8 0),(.int .u8 0),(.int .u8 0),(.int .u8 0),(.int .u8 0),(.int .u8 0),(.int .u8 0),(.int .u8 0)])),true⟩
def gH:TI:=⟨.map 154 3,1,8,(some (.map none)),false⟩
def gI : TI := ⟨.struct #[⟨ "Tray", 26, 0, true, "", "", 0⟩, ⟨ "known", 199, 3, false, "", "spadille/mend", 56⟩], 4, 64, (some (.agg #[(.int .i64 0), (.slice none 0 0), (.slice none 0 0), (.map none)])), false⟩
def gK:TI:=⟨.array 22 3,22,176,(some (.agg #[(.int .i64 0),(.int .i64 0),(.int .i64 0),(.int .i64 0),(.int .i64 0),(.int .i64 0),(.int .i64 0),(.int .i64 0),(.int .i64 0),(.int .i64 0),(.int .i64 0),(.int .i64 0),(.int .i64 0),(.int .i64 0),(.int .i64 0),(.int .i64 0),(.int .i64 0),(.int .i64 0),(.int .i64 0),(.int .i64 0),(.int .i64 0),(.int .i64 0)])),true⟩
def gL : TI := ⟨.struct #[⟨ "quarters", 3, 0, false, "", "spadille/back", 0⟩, ⟨ "flipped", 4, 1, false, "", "spadille/back", 8⟩], 2, 16, (some (.agg #[(.int .i64 0), (.bool false)])), true⟩
def gM : TI := ⟨.struct #[⟨ "Rows", 3, 0, false, "", "", 0⟩, ⟨ "Columns", 3, 1, false, "", "", 8⟩, ⟨ "Long", 3, 2, false, "", "", 16⟩, ⟨ "Wide", 3, 3, false, "", "", 24⟩], 4, 32, (some (.agg #[(.int .i64 0), (.int .i64 0), (.int .i64 0), (.int .i64 0)])), true⟩
def gP : TI := ⟨.struct #[⟨ "From", 3, 0, false, "", "", 0⟩, ⟨ "To", 3, 1, false, "", "", 8⟩, ⟨ "Least", 3, 2, false, "", "", 16⟩, ⟨ "Most", 3, 3, false, "", "", 24⟩], 4, 32, (some (.agg #[(.int .i64 0), (.int .i64 0), (.int .i64 0), (.int .i64 0)])), true⟩
def gQ:TI:=⟨.slice 246,1,24,(some (.slice none 0 0)),false⟩
def gT : TI := ⟨.struct #[⟨ "Rooms", 3, 0, false, "", "", 0⟩, ⟨ "Ways", 247, 1, false, "", "", 8⟩], 2, 32, (some (.agg #[(.int .i64 0), (.slice none 0 0)])), false⟩
def gU:TI:=⟨.array 64 5,64,64,(some (.agg #[(.int .u8 0),(.int .u8 0),(.int .u8 0),(.int .u8 0),(.int .u8 0),(.int .u8 0),(.int .u8 0),(.int .u8 0),(.int .u8 0),(.int .u8 0),(.int .u8 0),(.int .u8 0),(.int .u8 0),(.int .u8 0),(.int .u8 0),(.int .u8 0),(.int .u8 0),(.int .u8 0),(.int .u8 0),(.int .u8 0),(.int .u8 0),(.int .u8 0),(.int .u8 0),(.int .u8 0),(.int .u8 0),(.int .u8 0),(.int .u8 0),(.int .u8 0),(.int .u8 0),(.int .u8 0),(.int .u8 0),(.int .u8 0),(.int .u8 0),(.int .u8 0),(.int .u8 0),(.int .u8 0),(.int .u8 0),(.int .u8 0),(.int .u8 0),(.int .u8 0),(.int .u8 0),(.int .u8 0),(.int .u8 0),(.int .u8 0),(.int .u8 0),(.int .u8 0),(.int .u8 0),(.int .u8 0),(.int .u8 0),(.int .u8 0),(.int .u8 0),(.int .u8 0),(.int .u8 0),(.int .u8 0),(.int .u8 0),(.int .u8 0),(.int .u8 0),(.int .u8 0),(.int .u8 0),(.int .u8 0),(.int .u8 0),(.int .u8 0),(.int .u8 0),(.int .u8 0)])),true⟩
def gV:TI:=⟨.array 17 3,17,136,(some (.agg #[(.int .i64 0),(.int .i64 0),(.int .i64 0),(.int .i64 0),(.int .i64 0),(.int .i64 0),(.int .i64 0),(.int .i64 0),(.int .i64 0),(.int .i64 0),(.int .i64 0),(.int .i64 0),(.int .i64 0),(.int .i64 0),(.int .i64 0),(.int .i64 0),(.int .i64 0)])),true⟩
def gW:TI:=⟨.int .u64,1,8,(some (.int .u64 0)),false⟩
def gX:TI:=⟨.array 2 273,2,16,(some (.agg #[(.int .u64 0),(.int .u64 0)])),true⟩
def gY : TI := ⟨.struct #[⟨ "Sheet", 243, 0, true, "", "", 0⟩, ⟨ "blocks", 274, 4, false, "", "spadille/cut", 32⟩, ⟨ "full", 273, 6, false, "", "spadille/cut", 48⟩], 7, 56, (some (.agg #[(.int .i64 0), (.int .i64 0), (.int .i64 0), (.int .i64 0), (.int .u64 0), (.int .u64 0), (.int .u64 0)])), true⟩
def gZ:TI:=⟨.pointer 284,1,8,(some (.pointer none)),false⟩
def iB : TI := ⟨.struct #[⟨ "books", 249, 0, false, "", "spadille/stamp", 0⟩, ⟨ "n", 23, 2, false, "", "spadille/stamp", 32⟩], 3, 56, (some (.agg #[(.int .i64 0), (.slice none 0 0), (.slice none 0 0)])), false⟩
def iC:TI:=⟨.map 273 3,1,8,(some (.map none)),false⟩
def iD : TI := ⟨.struct #[⟨ "of", 305, 0, false, "", "spadille/cut", 0⟩], 1, 8, (some (.agg #[(.map none)])), false⟩
def iE:TI:=⟨.map 3 4,1,8,(some (.map none)),false⟩
def iF : TI := ⟨.struct #[⟨ "Row", 3, 0, false, "", "", 0⟩, ⟨ "Column", 3, 1, false, "", "", 8⟩, ⟨ "Turned", 4, 2, false, "", "", 16⟩], 3, 24, (some (.agg #[(.int .i64 0), (.int .i64 0), (.bool false)])), true⟩
def iG:TI:=⟨.func #[323,273] #[4] false,1,8,(some .nilFunc),false⟩
def iH : TI := ⟨.struct #[⟨ "way", 3, 0, false, "", "spadille/stamp", 0⟩, ⟨ "room", 3, 1, false, "", "spadille/stamp", 8⟩, ⟨ "more", 4, 2, false, "", "spadille/stamp", 16⟩], 3, 24, (some (.agg #[(.int .i64 0), (.int .i64 0), (.bool false)])), true⟩
def iI:TI:=⟨.map 3 326,1,8,(some (.map none)),false⟩
def iJ:TI:=⟨.slice 4,1,24,(some (.slice none 0 0)),false⟩
def Abq:Tr TI:=(.node none (.node none (.node (some ti3) (.node none .nil (.node (some Abd) (.node none (.node (some Abm) .nil (.node (some gH) (.node (some iI) .nil .nil) .nil)) .nil) (.node none (.node none (.node none (.node (some gZ) .nil .nil) .nil) .nil) (.node none .nil (.node (some gQ) .nil .nil))))) (.node none (.node none (.node none (.node none .nil (.node none (.node (some iF) .nil .nil) .nil)) .nil) (.node none .nil (.node none (.node none (.node (some iD) .nil .nil) .nil) (.node (some gM) .nil .nil)))) (.node (some Abf) (.node none (.node none (.node none (.node (some gU) .nil .nil) .nil) .nil) (.node none (.node (some gD) .nil .nil) .nil)) (.node none (.node (some Abn) .nil .nil) .nil)))) (.node (some ti5) (.node (some ti9) (.node none .nil (.node none (.node none (.node none (.node (some gW) .nil .nil) .nil) .nil) (.node none (.node none (.node (some iC) .nil .nil) .nil) .nil))) (.node none (.node none (.node none .nil (.node (some gI) .nil .nil)) .nil) (.node none (.node none (.node (some fT) .nil .nil) .nil) (.node none .nil (.node (some gT) .nil .nil))))) (.node none (.node none (.node none (.node none (.node (some fP) .nil .nil) .nil) .nil) (.node (some Abi) .nil (.node none (.node (some gG) (.node (some iE) .nil .nil) .nil) .nil))) (.node none (.node none (.node none .nil (.node none (.node (some iJ) .nil .nil) .nil)) (.node none (.node (some gF) .nil .nil) .nil)) .nil)))) (.node none (.node (some ti4) (.node none (.node none (.node none .nil (.node (some Abp) .nil .nil)) (.node none (.node none .nil (.node (some gL) .nil .nil)) .nil)) (.node none .nil (.node (some Abk) (.node none (.node (some fQ) .nil .nil) .nil) .nil))) (.node none (.node none (.node (some Abg) (.node none .nil (.node none (.node (some iG) .nil .nil) .nil)) .nil) (.node none (.node none (.node none (.node (some gY) .nil .nil) .nil) .nil) .nil)) (.node none (.node none (.node none .nil (.node (some gK) .nil .nil)) .nil) (.node none (.node (some Abo) (.node (some fV) (.node (some iB) .nil .nil) .nil) .nil) .nil)))) (.node none (.node none (.node none (.node none (.node none (.node (some fO) .nil .nil) .nil) .nil) (.node none (.node none (.node none (.node (some gX) .nil .nil) .nil) .nil) .nil)) (.node (some Abe) (.node none .nil (.node none (.node (some fZ) .nil .nil) .nil)) (.node (some Abl) (.node none (.node (some fU) .nil .nil) .nil) .nil))) (.node none (.node (some Abc) (.node (some Abh) (.node none .nil (.node none (.node (some iH) .nil .nil) .nil)) .nil) (.node (some Abj) .nil (.node none .nil (.node (some gP) .nil .nil)))) (.node none (.node none (.node none (.node none (.node (some gV) .nil .nil) .nil) .nil) .nil) .nil)))))
noncomputable def tt:TT:=Abq.get
def Abr:Tr Xq:=(.node none (.node none (.node (some ⟨85,c3,[.tmp 4]⟩) (.node none (.node (some ⟨4,c15,[.tmp 2]⟩) (.node none (.node none (.node (some ⟨21,XZ,[.tmp 4]⟩) (.node (some ⟨17,Zz,[.tmp 4,.tmp 5]⟩) .nil .nil) .nil) .nil) (.node none (.node (some ⟨32,X6,[.tmp 2]⟩) .nil .nil) .nil)) (.node (some ⟨73,c47,[.tmp 2]⟩) (.node none (.node none (.node (some ⟨27,ZL,[.tmp 4,.tmp 5]⟩) .nil .nil) .nil) .nil) (.node (some ⟨21,XR,[.tmp 0]⟩) .nil .nil))) (.node none (.node none (.node (some ⟨32,c71,[.tmp 4,.tmp 5]⟩) (.node none (.node (some ⟨26,ZC,[.tmp 6]⟩) .nil .nil) .nil) (.node (some ⟨17,Ym,[.tmp 2]⟩) .nil .nil)) (.node none (.node (some ⟨22,Yf,[.tmp 2]⟩) .nil .nil) (.node (some ⟨56,Yz,[.tmp 0]⟩) .nil .nil))) (.node none .nil (.node none .nil (.node (some ⟨62,Zt,[.tmp 2]⟩) .nil .nil))))) (.node (some ⟨143,c11,[.tmp 2,.tmp 3]⟩) (.node none (.node none (.node (some ⟨8,c67,[.tmp 2]⟩) .nil .nil) (.node none (.node (some ⟨20,Yb,[.tmp 0]⟩) .nil .nil) (.node (some ⟨80,Yw,[.tmp 2,.tmp 3]⟩) .nil .nil))) (.node (some ⟨20,c51,[.tmp 0]⟩) (.node none (.node none (.node (some ⟨45,ZP,[]⟩) .nil .nil) .nil) .nil) (.node none (.node (some ⟨14,Yi,[.tmp 2]⟩) .nil .nil) .nil))) (.node none (.node none (.node none (.node none (.node (some ⟨15,ZH,[.tmp 6]⟩) .nil .nil) .nil) (.node (some ⟨34,Yq,[.tmp 4]⟩) .nil .nil)) (.node (some ⟨11,Ue,[.tmp 2]⟩) .nil .nil)) (.node none .nil (.node (some ⟨15,XU,[.tmp 6]⟩) .nil (.node (some ⟨115,Zx,[.tmp 8]⟩) .nil .nil)))))) (.node none (.node none (.node none (.node none (.node none (.node (some ⟨38,X3,[.tmp 4]⟩) (.node (some ⟨25,ZB,[.tmp 4,.tmp 5,.tmp 6]⟩) .nil .nil) .nil) .nil) (.node none (.node (some ⟨15,X9,[.cell 2 204]⟩) .nil .nil) (.node (some ⟨35,Yu,[.cell 2 276,.tmp 3]⟩) .nil .nil))) (.node (some ⟨13,c49,[.tmp 2]⟩) (.node none (.node none (.node (some ⟨63,ZN,[.tmp 6,.tmp 7]⟩) .nil .nil) .nil) .nil) (.node none (.node (some ⟨38,Yg,[.cell 2 173]⟩) .nil .nil) .nil))) (.node none (.node none (.node (some ⟨16,c73,[.tmp 4]⟩) (.node none (.node (some ⟨55,ZF,[]⟩) .nil .nil) .nil) (.node (some ⟨18,Yo,[.tmp 0]⟩) .nil .nil)) (.node (some ⟨15,Ub,[.tmp 6]⟩) .nil .nil)) (.node none (.node none .nil (.node (some ⟨41,Yr,[.cell 4 173]⟩) .nil .nil)) (.node none .nil (.node (some ⟨53,Zv,[.tmp 2]⟩) .nil .nil))))) (.node (some ⟨12,c13,[.tmp 2,.tmp 3]⟩) (.node none (.node none (.node none .nil (.node (some ⟨10,Uj,[.tmp 4]⟩) .nil .nil)) (.node none (.node (some ⟨47,Yd,[.tmp 4]⟩) .nil .nil) .nil)) (.node none (.node none (.node none (.node (some ⟨7,ZR,[.tmp 3]⟩) .nil .nil) .nil) .nil) (.node none .nil (.node (some ⟨22,YB,[.tmp 6]⟩) .nil .nil)))) (.node none (.node (some ⟨13,c45,[.tmp 2]⟩) (.node (some ⟨53,c77,[.tmp 2,.tmp 3]⟩) (.node none (.node (some ⟨13,ZJ,[.tmp 4]⟩) .nil .nil) .nil) .nil) (.node (some ⟨52,Ug,[.tmp 4]⟩) .nil .nil)) (.node none (.node none (.node (some ⟨16,Uh,[.tmp 2]⟩) .nil .nil) .nil) (.node none .nil (.node (some ⟨47,Zy,[]⟩) .nil .nil))))))) (.node none (.node none (.node none (.node none (.node none (.node none (.node (some ⟨17,X0,[.cell 2 173,.tmp 3]⟩) (.node (some ⟨51,ZA,[.tmp 4,.tmp 5]⟩) .nil .nil) .nil) .nil) (.node (some ⟨15,c96,[.tmp 6]⟩) (.node (some ⟨19,X7,[.cell 2 204]⟩) .nil .nil) .nil)) (.node (some ⟨49,c48,[.tmp 2]⟩) (.node (some ⟨15,c80,[.tmp 6]⟩) (.node none (.node (some ⟨24,ZM,[.tmp 4,.tmp 5]⟩) .nil .nil) .nil) .nil) (.node (some ⟨110,XT,[.tmp 2,.tmp 3]⟩) .nil .nil))) (.node none (.node none (.node (some ⟨19,c72,[.tmp 2,.tmp 3]⟩) (.node none (.node (some ⟨10,ZE,[.tmp 3]⟩) .nil .nil) .nil) (.node (some ⟨48,Yn,[.tmp 4]⟩) .nil .nil)) (.node (some ⟨30,Ua,[.tmp 2]⟩) .nil .nil)) (.node none .nil (.node none .nil (.node (some ⟨3,Zu,[.tmp 2]⟩) .nil .nil))))) (.node (some ⟨44,c12,[.tmp 2,.tmp 3]⟩) (.node none (.node none .nil (.node (some ⟨15,XP,[.tmp 6]⟩) (.node (some ⟨18,Yc,[.cell 2 208]⟩) .nil .nil) .nil)) (.node none (.node (some ⟨9,c84,[.tmp 4]⟩) (.node none (.node (some ⟨15,ZQ,[.tmp 4,.tmp 5]⟩) .nil .nil) .nil) .nil) (.node none .nil (.node (some ⟨29,YA,[.tmp 2]⟩) .nil .nil)))) (.node none (.node none (.node (some ⟨39,c76,[.tmp 2]⟩) (.node none (.node (some ⟨29,ZI,[]⟩) .nil .nil) .nil) .nil) (.node (some ⟨8,Uf,[.tmp 2]⟩) .nil .nil)) (.node none .nil (.node none .nil (.node (some ⟨32,Uk,[]⟩) .nil .nil)))))) (.node none (.node (some ⟨54,c10,[.tmp 4]⟩) (.node none (.node none (.node (some ⟨46,c66,[.tmp 2]⟩) .nil .nil) (.node none (.node (some ⟨18,Ya,[.tmp 2]⟩) .nil .nil) (.node (some ⟨7,Yv,[.tmp 2]⟩) .nil .nil))) (.node (some ⟨88,c50,[.tmp 2,.tmp 3]⟩) (.node none (.node (some ⟨39,X5,[.tmp 2,.tmp 3]⟩) (.node (some ⟨3,ZO,[.tmp 2]⟩) .nil .nil) .nil) .nil) (.node none (.node (some ⟨21,Yh,[.cell 4 173]⟩) .nil .nil) .nil))) (.node none (.node none (.node none (.node (some ⟨19,X4,[.tmp 4]⟩) (.node (some ⟨14,ZG,[.tmp 7]⟩) .nil .nil) .nil) (.node (some ⟨28,Yp,[]⟩) .nil .nil)) (.node (some ⟨27,Ud,[.tmp 2]⟩) .nil .nil)) (.node none (.node (some ⟨15,c90,[.tmp 2]⟩) .nil .nil) (.node none (.node (some ⟨27,Yj,[.tmp 4]⟩) .nil .nil) (.node (some ⟨5,Zw,[.tmp 2]⟩) .nil .nil))))) (.node (some ⟨18,c14,[.tmp 0]⟩) (.node (some ⟨26,c22,[.tmp 4]⟩) (.node none (.node none .nil (.node (some ⟨15,Yl,[.tmp 6]⟩) .nil .nil)) (.node none (.node (some ⟨22,Ye,[.cell 4 208]⟩) .nil .nil) (.node (some ⟨30,Yy,[.tmp 4,.tmp 5]⟩) .nil .nil))) (.node none .nil (.node none .nil (.node (some ⟨15,YC,[.tmp 6]⟩) .nil .nil)))) (.node none (.node (some ⟨25,c46,[.tmp 2]⟩) (.node none (.node none (.node (some ⟨24,ZK,[.tmp 4,.tmp 5]⟩) .nil .nil) .nil) .nil) (.node (some ⟨14,XQ,[.tmp 2,.tmp 3]⟩) .nil .nil)) (.node none (.node none (.node (some ⟨38,Ui,[.tmp 4]⟩) .nil .nil) (.node (some ⟨50,Yt,[.cell 4 270]⟩) .nil .nil)) (.node none (.node (some ⟨16,Yk,[.tmp 2,.tmp 3]⟩) .nil .nil) .nil)))))))
noncomputable def Gt:FuncId→Option Xq:=Abr.get
end Go.TpD
