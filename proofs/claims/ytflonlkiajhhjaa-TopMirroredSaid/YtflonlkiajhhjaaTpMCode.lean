/- Made from wip. -/
import Derived.Test.YtflonlkiajhhjaaSpFramex
import Derived.Test.YtflonlkiajhhjaaTpMNodes

set_option maxRecDepth 100000
namespace Go.TpM
open Go.Sp
def c4:RC:=Nf
def c5:RC:=VU
def c10:RC:=
 .seq (.reg [] [
  rq 1 (.box 38 (tp 0)) 0,rq 2 (.assign (.const (.slice none 0 0))) 39,Cz 3 0 28])
 (.seq (.reg [] [
   Ce 11 1 38,rq 12 (cf 27 #[(tp 11)] #[38]) 75,Ap 10 12 75,EM 13 10 0 74,EM 14 10 1 28,rq 4 (.alloc 74) 0,rn (.store 74 (tp 4) (tp 13)) 0,AQ 5 14 28])
 (.seq (.seq (.reg [] [
   Ap 15 5 28,rq 16 (.binOp .neq 28 (tp 15) (ki 0) 28) 4])
 (.cond (tp 16) (.seq (.reg [] [
   Ap 17 5 28,
   rq 2 (.assign (.const (.slice none 0 0))) 39,
   AQ 3 17 28])
  (.ret))
 (.skip)))
 (.seq (.reg [] [
   rq 18 (.makeMap 77 none) 77,rq 19 (.build 79 #[(0,(tp 18))]) 79,rq 6 (.alloc 79) 0,rn (.store 79 (tp 6) (tp 19)) 0])
 (.seq (.reg [] [
   rq 7 (.alloc 39) 0])
 (.seq (.reg [] [
   rq 8 (.alloc 71) 0,rn (.store 71 (tp 8) (.const (.int .u64 0))) 0])
 (.seq (.block 0 (.loop (.seq (.seq (.reg [] [
   Ce 20 8 71,
   DR 21 74 4 2,
   Ce 22 21 71,
   rq 23 (.binOp .neq 71 (tp 20) (tp 22) 71) 4])
   (.cond (tp 23) (.skip)
   (.exit 0)))
   (.block 1 (.seq (.reg [] [
     rq 9 (.alloc 4) 0,
     rn (.store 4 (tp 9) (kb true)) 0])
    (.seq (.reg [] [
      Ce 24 4 74,
      Ce 25 8 71,
      rq 26 (.makeFunc (.func 29) #[] #[(tp 4),(tp 6),(tp 7),(tp 8),(tp 9)]) 82,
      rq 27 (cf 28 #[(tp 24),(tp 25),(tp 26)] #[74,71,82]) 0])
    (.seq (.reg [] [
      Ce 28 9 4])
    (.cond (tp 28) (.seq (.reg [] [
      rq 2 (.assign (.const (.slice none 0 0))) 39,
      Cz 3 12 28])
     (.ret))
    (.skip)))))))))
 (.seq (.reg [] [
   Ce 29 7 39,AQ 2 29 39,Cz 3 0 28])
 (.ret))))))))
def c11:RC:=Ng
def c12:RC:=
 .seq (.reg [] [
  rq 0 (.assign (kb false)) 4])
 (.seq (.reg [] [
   rq 9 (.buildSlice 23 4 #[(0,(ki 0)),(1,(ki 1)),(2,(ki 2)),(3,(ki 3))]) 23,rq 10 (cf 5 #[(tp 9)] #[23]) 23,rq 11 (.build 26 #[(0,(ki 2)),(1,(ki 2)),(2,(ki 2)),(3,(tp 10))]) 26,rq 12 (cf 25 #[(tp 11)] #[26]) 33,Ap 8 12 33,EM 13 8 0 3,EM 14 8 1 28,AQ 1 13 3,AQ 2 14 28])
 (.seq (.reg [] [
   rq 16 (.build 38 #[(0,(ki 2)),(1,(ki 3)),(2,(ki 2)),(3,(ki 1))]) 38,rq 17 (cf 34 #[(tp 16)] #[38]) 33,Ap 15 17 33,EM 18 15 0 3,EM 19 15 1 28,AQ 3 18 3,AQ 4 19 28])
 (.seq (.reg [] [
   rq 21 (.build 89 #[(0,(ki 0)),(1,(ki 1)),(2,(ki 5)),(3,(ki 9))]) 89,rq 22 (.build 89 #[(0,(ki 1)),(1,(ki 2)),(2,(ki 0)),(3,(ki 7))]) 89,rq 23 (.build 89 #[(0,(ki 2)),(1,(ki 0)),(2,(ki 4)),(3,(ki 6))]) 89,rq 24 (.buildSlice 90 3 #[(0,(tp 21)),(1,(tp 22)),(2,(tp 23))]) 90,rq 25 (.build 92 #[(0,(ki 3)),(1,(tp 24))]) 92,rq 26 (cf 35 #[(tp 25),(ki 0)] #[92,3]) 86,Ap 20 26 86,EM 27 20 0 3,EM 28 20 1 3,EM 29 20 2 28,AQ 5 27 3,AQ 6 28 3,AQ 7 29 28])
 (.seq (.reg [] [
   Ap 30 2 28,rq 31 (.binOp .eql 28 (tp 30) (ki 0) 28) 4,Ap 32 31 4,DD 33 4 28 32 true,rg 34 (.binOp .eql 28 (tp 33) (ki 0) 28) 4 32 true,rq 35 (.pick (tp 32) (tp 34) (kb false)) 4,Ap 36 35 4,DD 37 7 28 36 true,rg 38 (.binOp .eql 28 (tp 37) (ki 0) 28) 4 36 true,rq 39 (.pick (tp 36) (tp 38) (kb false)) 4,Ap 40 39 4,DD 41 1 3 40 true,rg 42 (.binOp .eql 3 (tp 41) (ki 6) 3) 4 40 true,rq 43 (.pick (tp 40) (tp 42) (kb false)) 4,Ap 44 43 4,DD 45 3 3 44 true,rg 46 (.binOp .eql 3 (tp 45) (ki 3) 3) 4 44 true,rq 47 (.pick (tp 44) (tp 46) (kb false)) 4,Ap 48 47 4,DD 49 5 3 48 true,rg 50 (.binOp .eql 3 (tp 49) (ki 5) 3) 4 48 true,rq 51 (.pick (tp 48) (tp 50) (kb false)) 4,Ap 52 51 4,DD 53 6 3 52 true,rg 54 (.binOp .eql 3 (tp 53) (ki 6) 3) 4 52 true,rq 55 (.pick (tp 52) (tp 54) (kb false)) 4,AQ 0 55 4])
 (.ret)))))
def c13:RC:=Nh
def c14:RC:=Ni
def c15:RC:=Oi
def c16:RC:=Ov
def c17:RC:=Ow
def c18:RC:=Oy
def c19:RC:=Oz
def c20:RC:=OA
def c25:RC:=
 .seq (.reg [] [
  rq 1 (.box 26 (tp 0)) 0,Cz 2 0 3,Cz 3 0 28])
 (.seq (.reg [] [
   Ce 9 1 26,rq 10 (cf 42 #[(tp 9)] #[26]) 55,Ap 8 10 55,EM 11 8 0 54,EM 12 8 1 28,AQ 4 11 54,AQ 5 12 28])
 (.seq (.seq (.reg [] [
   Ap 13 5 28,rq 14 (.binOp .neq 28 (tp 13) (ki 0) 28) 4])
 (.cond (tp 14) (.seq (.reg [] [
   Ap 15 5 28,
   Cz 2 0 3,
   AQ 3 15 28])
  (.ret))
 (.skip)))
 (.seq (.reg [] [
   Cz 6 0 3])
 (.seq (.seq (.reg [] [
   Ap 16 4 54,rq 17 (.nilCheck (tp 16)) 0,DR 18 59 17 0,DR 19 26 18 3,Ce 20 19 23,EN 21 20 23,rq 22 (.move (ki 0)) 3])
 (.block 0 (.loop (.seq (.reg [] [
   L8 23 22 21])
   (.seq (.cond (tp 23) (.skip)
   (.exit 0))
   (.seq (.block 1 (.seq (.reg [] [
     Ap 24 22 3,
     AQ 7 24 3])
    (.reg [] [
      Ap 25 6 3,
      Ap 26 4 54,
      Ap 27 7 3,
      rq 28 (cf 52 #[(tp 26),(tp 27)] #[54,3]) 3,
      rq 29 (.binOp .add 3 (tp 25) (tp 28) 3) 3,
      AQ 6 29 3])))
   (.reg [] [
     FB 30 22,
     Ap 22 30 3])))))))
 (.seq (.reg [] [
   Ap 31 6 3,Ap 32 4 54,rq 33 (.nilCheck (tp 32)) 0,DR 34 59 33 0,DR 35 26 34 3,Ce 36 35 23,EN 37 36 23,rq 38 (.binOp .quo 3 (tp 31) (tp 37) 3) 3,AQ 2 38 3,Cz 3 0 28])
 (.ret))))))
def c27:RC:=OB
def c28:RC:=
 .seq (.reg [] [
  rq 3 (.box 74 (tp 0)) 0])
 (.seq (.reg [] [
   Ce 14 3 74,Ap 15 1 71,rq 16 (cf 55 #[(tp 14),(tp 15)] #[74,71]) 95,Ap 13 16 95,EM 17 13 0 3,EM 18 13 1 3,AQ 6 17 3,AQ 7 18 3])
 (.seq (.reg [] [
   rq 19 (.buildSlice 113 2 #[(0,(kb false)),(1,(kb true))]) 113,EN 20 19 113,rq 21 (.move (ki 0)) 3])
 (.block 0 (.loop (.seq (.reg [] [
   L8 22 21 20])
   (.seq (.cond (tp 22) (.skip)
   (.exit 0))
   (.seq (.block 1 (.seq (.reg [] [
     D5 23 113 19 21,
     Ce 24 23 4,
     AQ 9 24 4])
    (.seq (.reg [] [
      Ap 25 6 3,
      Ap 26 7 3,
      Ap 27 9 4,
      rq 28 (.build 46 #[(0,(tp 25)),(1,(tp 26)),(2,(tp 27))]) 46,
      rq 10 (.alloc 46) 0,
      rn (.store 46 (tp 10) (tp 28)) 0])
    (.seq (.seq (.reg [] [
      Ap 29 9 4,
      Ap 30 29 4,
      rg 31 (.fieldAddr 74 (tp 3) 0) 0 30 true,
      rg 32 (.fieldAddr 38 (tp 31) 2) 0 30 true,
      rg 33 (.load 3 (tp 32)) 3 30 true,
      rg 34 (.fieldAddr 74 (tp 3) 0) 0 30 true,
      rg 35 (.fieldAddr 38 (tp 34) 3) 0 30 true,
      rg 36 (.load 3 (tp 35)) 3 30 true,
      rg 37 (.binOp .eql 3 (tp 33) (tp 36) 3) 4 30 true,
      rq 38 (.pick (tp 30) (tp 37) (kb false)) 4])
    (.cond (tp 38) (.ret)
    (.skip)))
    (.seq (.reg [] [
      Ce 40 3 74,
      Ap 41 1 71,
      Ce 42 10 46,
      rq 43 (cf 39 #[(tp 40),(tp 41),(tp 42)] #[74,71,46]) 97,
      Ap 39 43 97,
      EM 44 39 0 71,
      EM 45 39 1 4,
      AQ 11 44 71,
      AQ 12 45 4])
    (.seq (.reg [] [
      Ap 46 12 4,
      Ap 47 46 4,
      DD 48 2 82 47 true,
      rg 49 (.load 46 (tp 10)) 46 47 true,
      DD 50 11 71 47 true,
      rg 51 (.call ⟨.value (tp 48),#[(tp 49),(tp 50)],#[46,71]⟩) 4 47 true,
      rg 52 (.unOp .not 4 (tp 51)) 4 47 true,
      rq 53 (.pick (tp 47) (tp 52) (kb false)) 4])
    (.cond (tp 53) (.ret)
    (.skip))))))))
   (.reg [] [
     FB 54 21,
     Ap 21 54 3]))))))))
def c29:RC:=
 .seq (.reg [] [
  rq 7 (.box 46 (tp 0)) 0,rq 9 (.assign (kb false)) 4])
 (.seq (.seq (.reg [] [
   Ce 10 2 74,Ap 11 1 71,Ce 12 3 79,rq 13 (cf 30 #[(tp 10),(tp 11),(tp 12)] #[74,71,79]) 3,rq 14 (.binOp .eql 3 (tp 13) (ki 0) 3) 4])
 (.cond (tp 14) (.seq (.reg [] [
   rq 9 (.assign (kb true)) 4])
  (.ret))
 (.skip)))
 (.seq (.reg [] [
   Ce 15 4 39,Ce 16 7 46,rq 17 (.buildSlice 39 1 #[(0,(tp 16))]) 39,rq 18 (cb .append #[(tp 15),(tp 17)] #[39,39]) 39,Ap 19 1 71,rn (.store 39 (tp 4) (tp 18)) 0,rn (.store 71 (tp 5) (tp 19)) 0,rn (.store 4 (tp 6) (kb false)) 0])
 (.seq (.reg [] [
   rq 9 (.assign (kb false)) 4])
 (.ret))))
def c30:RC:=
 .seq (.reg [] [
  rq 3 (.box 74 (tp 0)) 0,rq 4 (.box 71 (tp 1)) 0,rq 5 (.box 79 (tp 2)) 0,Cz 6 0 3])
 (.seq (.seq (.reg [] [
   Ce 7 4 71,DR 8 74 3 2,Ce 9 8 71,rq 10 (.binOp .eql 71 (tp 7) (tp 9) 71) 4])
 (.cond (tp 10) (.seq (.reg [] [
   Cz 6 1 3])
  (.ret))
 (.skip)))
 (.seq (.reg [] [
   Ce 11 5 79,Ce 12 4 71,rq 13 (.makeFunc (.func 57) #[] #[(tp 3),(tp 4),(tp 5)]) 115,rq 14 (cf 56 #[(tp 11),(tp 12),(tp 13)] #[79,71,115]) 3,AQ 6 14 3])
 (.ret)))
def c31:RC:=OC
def c32:RC:=OD
def c33:RC:=QL
def c34:RC:=
 .seq (.reg [] [
  rq 1 (.box 38 (tp 0)) 0,Cz 2 0 3,Cz 3 0 28])
 (.seq (.reg [] [
   Ce 7 1 38,rq 8 (cf 27 #[(tp 7)] #[38]) 75,Ap 6 8 75,EM 9 6 0 74,EM 10 6 1 28,rq 4 (.alloc 74) 0,rn (.store 74 (tp 4) (tp 9)) 0,AQ 5 10 28])
 (.seq (.seq (.reg [] [
   Ap 11 5 28,rq 12 (.binOp .neq 28 (tp 11) (ki 0) 28) 4])
 (.cond (tp 12) (.seq (.reg [] [
   Ap 13 5 28,
   Cz 2 0 3,
   AQ 3 13 28])
  (.ret))
 (.skip)))
 (.seq (.reg [] [
   Ce 14 4 74,rq 15 (cf 59 #[(tp 14)] #[74]) 3,AQ 2 15 3,Cz 3 0 28])
 (.ret))))
def c35:RC:=
 .seq (.reg [] [
  rq 2 (.box 92 (tp 0)) 0,Cz 4 0 3,Cz 5 0 3,Cz 6 0 28])
 (.seq (.reg [] [
   Ce 9 2 92,Ap 10 1 3,rq 11 (cf 60 #[(tp 9),(tp 10)] #[92,3]) 117,Ap 8 11 117,EM 12 8 0 116,EM 13 8 1 28,AQ 7 12 116,AQ 6 13 28])
 (.seq (.seq (.reg [] [
   Ap 14 6 28,rq 15 (.binOp .neq 28 (tp 14) (ki 0) 28) 4])
 (.cond (tp 15) (.seq (.reg [] [
   Ap 16 6 28,
   Cz 4 0 3,
   Cz 5 0 3,
   AQ 6 16 28])
  (.ret))
 (.skip)))
 (.seq (.reg [] [
   Ap 18 7 116,Ap 19 1 3,rq 20 (cf 61 #[(tp 18),(tp 19)] #[116,3]) 95,Ap 17 20 95,EM 21 17 0 3,EM 22 17 1 3,AQ 4 21 3,AQ 5 22 3])
 (.seq (.reg [] [
   Ap 23 4 3,Ap 24 5 3,AQ 4 23 3,AQ 5 24 3,Cz 6 0 28])
 (.ret)))))
def c36:RC:=OE
def c37:RC:=OG
def c38:RC:=QM
def c39:RC:=OH
def c40:RC:=OJ
def c41:RC:=OL
def c42:RC:=OM
def c43:RC:=OO
def c44:RC:=Pi
def c45:RC:=OP
def c46:RC:=Kg
def c47:RC:=OQ
def c48:RC:=
 .seq (.reg [] [
  rq 4 (.assign (kb false)) 4])
 (.seq (.reg [] [
   Ap 5 0 23,Ap 6 1 84,rq 7 (cf 71 #[(tp 5),(tp 6)] #[23,84]) 3,rq 8 (.binOp .geq 3 (tp 7) (ki 0) 3) 4,AQ 4 8 4])
 (.ret))
def c50:RC:=OT
def c52:RC:=
 .seq (.reg [] [
  Cz 4 0 3])
 (.seq (.reg [] [
   Cz 5 1 3])
 (.seq (.seq (.reg [] [
   Ap 8 0 54,Ap 9 1 3,rq 10 (cf 75 #[(tp 8),(tp 9)] #[54,3]) 134,rq 11 (.move (ki 0)) 3])
 (.block 0 (.loop (.seq (.reg [] [
   rq 12 (.binOp .lss 3 (tp 11) (ki 17) 3) 0])
   (.seq (.cond (tp 12) (.skip)
   (.exit 0))
   (.seq (.block 1 (.seq (.reg [] [
     rq 13 (.index 134 (tp 10) (tp 11)) 3,
     AQ 7 13 3])
    (.seq (.reg [] [
      Ap 14 7 3,
      rq 15 (.move (ki 0)) 3])
    (.block 2 (.loop (.seq (.reg [] [
      rq 16 (.binOp .lss 3 (tp 15) (tp 14) 3) 4])
      (.seq (.cond (tp 16) (.skip)
      (.exit 2))
      (.seq (.block 3 (.reg [] [
        Ap 17 5 3,
        Ap 18 0 54,
        rq 19 (.nilCheck (tp 18)) 0,
        DR 20 59 19 0,
        DR 21 26 20 2,
        Ce 22 21 3,
        rq 23 (.binOp .mul 3 (tp 17) (tp 22) 3) 3,
        AQ 5 23 3]))
      (.reg [] [
        FB 24 15,
        Ap 15 24 3])))))))))
   (.reg [] [
     FB 25 11,
     Ap 11 25 3])))))))
 (.seq (.reg [] [
   Ap 26 5 3,AQ 4 26 3])
 (.ret))))
def c54:RC:=OU
def c55:RC:=OW
def c56:RC:=
 .seq (.reg [] [
  rq 3 (.box 79 (tp 0)) 0,Cz 6 0 3])
 (.seq (.seq (.reg [] [
   DR 11 79 3 0,Ce 12 11 77,Ap 13 1 71,rq 14 (.lookup 77 (tp 12) (tp 13) true) 140,Ap 10 14 140,EM 15 10 0 3,EM 16 10 1 4,AQ 7 15 3,AQ 8 16 4])
 (.seq (.reg [] [
   Ap 17 8 4])
 (.cond (tp 17) (.seq (.reg [] [
   Ap 18 7 3,
   AQ 6 18 3])
  (.ret))
 (.skip))))
 (.seq (.reg [] [
   Ap 19 2 115,rq 20 (.call ⟨.value (tp 19),#[],#[]⟩) 3,AQ 9 20 3])
 (.seq (.reg [] [
   DR 21 79 3 0,Ce 22 21 77,Ap 23 1 71,Ap 24 9 3,rn (.mapUpdate 77 (tp 22) (tp 23) (tp 24)) 0])
 (.seq (.reg [] [
   Ap 25 9 3,AQ 6 25 3])
 (.ret)))))
def c57:RC:=
 .seq (.reg [] [
  Cz 3 0 3])
 (.seq (.reg [] [
   rq 4 (.alloc 3) 0,rn (.store 3 (tp 4) (ki 0)) 0])
 (.seq (.reg [] [
   Ce 5 0 74,Ce 6 1 71,rq 7 (.makeFunc (.func 58) #[] #[(tp 4),(tp 0),(tp 2)]) 82,rq 8 (cf 28 #[(tp 5),(tp 6),(tp 7)] #[74,71,82]) 0])
 (.seq (.reg [] [
   Ce 9 4 3,AQ 3 9 3])
 (.ret))))
def c58:RC:=
 .seq (.reg [] [
  rq 5 (.box 46 (tp 0)) 0,rq 7 (.assign (kb false)) 4])
 (.seq (.reg [0, 1, 2, 3, 4, 5, 6] [
   Ce 8 2 3,Ce 9 3 74,Ap 10 1 71,Ce 11 4 79,
   ⟨(some 12),cf 30 #[(tp 9),(tp 10),(tp 11)] #[74,71,79],3,none,[(tp 2)]⟩,rq 13 (.binOp .add 3 (tp 8) (tp 12) 3) 3,rn (.store 3 (tp 2) (tp 13)) 0])
 (.seq (.reg [] [
   rq 7 (.assign (kb true)) 4])
 (.ret)))
def c59:RC:=
 .seq (.reg [] [
  rq 1 (.box 74 (tp 0)) 0,Cz 2 0 3])
 (.seq (.reg [] [
   Ce 3 1 74,rq 4 (.makeMap 77 none) 77,rq 5 (.build 79 #[(0,(tp 4))]) 79,rq 6 (cf 30 #[(tp 3),(.const (.int .u64 0)),(tp 5)] #[74,71,79]) 3,AQ 2 6 3])
 (.ret))
def c60:RC:=
 .seq (.reg [] [
  rq 2 (.box 92 (tp 0)) 0,rq 4 (.assign (.const (.pointer none))) 116,Cz 5 0 28])
 (.seq (.seq (.reg [] [
   Ce 7 2 92,rq 8 (cf 78 #[(tp 7)] #[92]) 28,AQ 6 8 28])
 (.seq (.reg [] [
   Ap 9 6 28,rq 10 (.binOp .eql 28 (tp 9) (ki 0) 28) 4,Ap 11 10 4,DD 12 1 3 11 true,rg 13 (.fieldAddr 92 (tp 2) 1) 0 11 true,rg 14 (.load 90 (tp 13)) 90 11 true,rg 15 (cb .len #[(tp 14)] #[90]) 3 11 true,rg 16 (.binOp .sub 3 (tp 15) (ki 1) 3) 3 11 true,rg 17 (cf 79 #[(ki 0),(tp 12),(tp 16)] #[3,3,3]) 4 11 true,rg 18 (.unOp .not 4 (tp 17)) 4 11 true,rq 19 (.pick (tp 11) (tp 18) (kb false)) 4])
 (.cond (tp 19) (.seq (.reg [] [
   rq 4 (.assign (.const (.pointer none))) 116,
   Cz 5 2 28])
  (.ret))
 (.skip))))
 (.seq (.reg [] [
   Ce 20 2 92,rq 21 (cf 76 #[(tp 20)] #[92]) 117,EM 22 21 0 116,EM 23 21 1 28,AQ 4 22 116,AQ 5 23 28])
 (.ret)))
def c61:RC:=
 .seq (.reg [] [
  Cz 4 0 3,Cz 5 0 3])
 (.seq (.reg [] [
   Ap 6 0 116,Ap 7 1 3,rq 8 (cf 80 #[(tp 6),(tp 7),(.func 81)] #[116,3,84]) 0])
 (.seq (.reg [] [
   Ap 9 0 116,rq 10 (.nilCheck (tp 9)) 0,DR 11 139 10 1,Ce 12 11 23,Ap 13 1 3,D5 14 23 12 13,Ce 15 14 3,AQ 4 15 3])
 (.seq (.reg [] [
   Ap 16 0 116,Ap 17 1 3,rq 18 (cf 82 #[(tp 16),(tp 17)] #[116,3]) 0])
 (.seq (.reg [0, 1, 2, 3, 4, 5, 6, 7, 8, 9] [
   Ap 19 4 3,Ap 20 0 116,rq 21 (.nilCheck (tp 20)) 0,DR 22 139 21 1,Ce 23 22 23,Ap 24 1 3,D5 25 23 23 24,Ce 26 25 3,AQ 4 19 3,AQ 5 26 3])
 (.ret)))))
def c62:RC:=QN
def c63:RC:=OX
def c64:RC:=
 .seq (.reg [] [
  rq 2 (.box 26 (tp 0)) 0,rq 4 (.assign (.const (.slice none 0 0))) 23])
 (.seq (.reg [] [
   DR 8 26 2 0,Ce 9 8 3,DR 10 26 2 1,Ce 11 10 3,rq 12 (.binOp .mul 3 (tp 9) (tp 11) 3) 3,rq 13 (.makeSlice 23 (tp 12) (tp 12)) 23,AQ 5 13 23])
 (.seq (.seq (.reg [] [
   Ap 14 5 23,EN 15 14 23,rq 16 (.move (ki 0)) 3])
 (.block 0 (.loop (.seq (.reg [] [
   L8 17 16 15])
   (.seq (.cond (tp 17) (.skip)
   (.exit 0))
   (.seq (.block 1 (.seq (.reg [] [
     Ap 18 16 3,
     AQ 6 18 3])
    (.reg [] [
      Ap 19 5 23,
      Ap 20 6 3,
      Ap 21 6 3,
      D5 22 23 19 20,
      rn (.store 3 (tp 22) (tp 21)) 0])))
   (.reg [] [
     FB 23 16,
     Ap 16 23 3])))))))
 (.seq (.reg [] [
   Ap 24 1 3,rq 25 (cf 63 #[(tp 24)] #[3]) 122,rq 7 (.alloc 122) 0,rn (.store 122 (tp 7) (tp 25)) 0])
 (.seq (.seq (.reg [] [
   DR 26 122 7 0,Ce 27 26 3,rq 28 (.binOp .eql 3 (tp 27) (ki 2) 3) 4])
 (.cond (tp 28) (.reg [] [
   Ap 29 5 23,
   rq 30 (cf 83 #[(tp 29)] #[23]) 0])
 (.seq (.reg [] [
   DR 31 122 7 0,
   Ce 32 31 3,
   rq 33 (.move (ki 0)) 3])
  (.block 2 (.loop (.seq (.reg [] [
    rq 34 (.binOp .lss 3 (tp 33) (tp 32) 3) 4])
    (.seq (.cond (tp 34) (.skip)
    (.exit 2))
    (.seq (.block 3 (.reg [] [
      Ap 35 5 23,
      DR 36 26 2 0,
      Ce 37 36 3,
      rq 38 (cf 84 #[(tp 35),(tp 37)] #[23,3]) 23,
      AQ 5 38 23]))
    (.reg [] [
      FB 39 33,
      Ap 33 39 3])))))))))
 (.seq (.seq (.reg [] [
   DR 40 122 7 1,Ce 41 40 4])
 (.cond (tp 41) (.reg [] [
   Ap 42 5 23,
   DR 43 26 2 1,
   Ce 44 43 3,
   rq 45 (cf 85 #[(tp 42),(tp 44)] #[23,3]) 23,
   AQ 5 45 23])
 (.skip)))
 (.seq (.reg [] [
   Ap 46 5 23,AQ 4 46 23])
 (.ret)))))))
def c65:RC:=QO
def c66:RC:=OZ
def c67:RC:=O0
def c68:RC:=Kc
def c69:RC:=QR
def c70:RC:=O1
def c71:RC:=
 .seq (.reg [] [
  Cz 4 0 3])
 (.seq (.seq (.reg [] [
   Ap 6 0 23,EN 7 6 23,rq 8 (.move (ki 0)) 3])
 (.block 0 (.loop (.seq (.reg [] [
   L8 9 8 7])
   (.seq (.cond (tp 9) (.skip)
   (.exit 0))
   (.seq (.block 1 (.seq (.reg [] [
     Ap 10 8 3,
     AQ 5 10 3])
    (.seq (.reg [] [
      Ap 11 1 84,
      Ap 12 0 23,
      Ap 13 5 3,
      D5 14 23 12 13,
      Ce 15 14 3,
      rq 16 (.call ⟨.value (tp 11),#[(tp 15)],#[3]⟩) 4])
    (.cond (tp 16) (.seq (.reg [] [
      Ap 17 5 3,
      AQ 4 17 3])
     (.ret))
    (.skip)))))
   (.reg [] [
     FB 18 8,
     Ap 8 18 3])))))))
 (.seq (.reg [] [
   rq 4 (.assign (ki (-1))) 3])
 (.ret)))
def c75:RC:=
 .seq (.reg [] [
  rq 4 (.alloc 134) 0])
 (.seq (.reg [] [
   rq 5 (.assign (.const (.int .u16 0))) 60])
 (.seq (.seq (.reg [] [
   Ap 9 0 54,rq 10 (.nilCheck (tp 9)) 0,DR 11 59 10 1,Ce 12 11 27,Ap 13 1 3,D5 14 27 12 13,Ce 15 14 23,EN 16 15 23,rq 17 (.move (ki 0)) 3])
 (.block 0 (.loop (.seq (.reg [] [
   L8 18 17 16])
   (.seq (.cond (tp 18) (.skip)
   (.exit 0))
   (.seq (.block 1 (.seq (.reg [] [
     Ap 19 17 3,
     AQ 6 19 3])
    (.seq (.reg [] [
      Cz 7 0 3])
    (.seq (.seq (.reg [] [
      Ap 20 6 3,
      AQ 8 20 3])
    (.block 2 (.loop (.seq (.seq (.reg [] [
      Ap 21 5 60,
      Ap 22 8 3,
      rq 23 (.binOp .shr 60 (tp 21) (tp 22) 3) 60,
      rq 24 (.binOp .and 60 (tp 23) (.const (.int .u16 1)) 60) 60,
      rq 25 (.binOp .eql 60 (tp 24) (.const (.int .u16 0)) 60) 4])
      (.cond (tp 25) (.skip)
      (.exit 2)))
      (.seq (.block 3 (.seq (.reg [] [
        Ap 36 5 60,
        Ap 37 8 3,
        rq 38 (.binOp .shl 60 (.const (.int .u16 1)) (tp 37) 3) 60,
        rq 39 (.binOp .or 60 (tp 36) (tp 38) 60) 60,
        AQ 5 39 60])
       (.reg [] [
         Ap 40 7 3,
         FB 41 40,
         AQ 7 41 3])))
      (.reg [] [
        Ap 26 0 54,
        rq 27 (.nilCheck (tp 26)) 0,
        DR 28 59 27 1,
        Ce 29 28 27,
        Ap 30 1 3,
        D5 31 27 29 30,
        Ce 32 31 23,
        Ap 33 8 3,
        D5 34 23 32 33,
        Ce 35 34 3,
        AQ 8 35 3]))))))
    (.reg [] [
      Ap 42 7 3,
      D5 43 134 4 42,
      Ce 44 43 3,
      FB 45 44,
      D5 46 134 4 42,
      rn (.store 3 (tp 46) (tp 45)) 0])))))
   (.reg [] [
     FB 47 17,
     Ap 17 47 3])))))))
 (.seq (.reg [] [
   rq 48 (.indexAddr 134 (tp 4) (ki 0)) 0,rn (.store 3 (tp 48) (ki 0)) 0])
 (.seq (.reg [] [
   Ce 49 4 134,rn (.store 134 (tp 4) (tp 49)) 0])
 (.ret)))))
def c76:RC:=
 .seq (.reg [] [
  rq 1 (.box 92 (tp 0)) 0,rq 2 (.assign (.const (.pointer none))) 116,Cz 3 0 28])
 (.scope (.seq (.seq (.reg [] [
   Ce 15 1 92,
   rq 16 (cf 78 #[(tp 15)] #[92]) 28,
   AQ 4 16 28])
  (.seq (.reg [] [
    Ap 17 4 28,
    rq 18 (.binOp .neq 28 (tp 17) (ki 0) 28) 4])
  (.cond (tp 18) (.seq (.reg [] [
    Ap 19 4 28,
    rq 2 (.assign (.const (.pointer none))) 116,
    AQ 3 19 28])
   (.ret))
  (.skip))))
  (.seq (.reg [] [
    Ce 20 1 92,
    rq 21 (.build 139 #[(0,(tp 20))]) 139,
    rq 22 (.box 139 (tp 21)) 116,
    AQ 5 22 116])
  (.seq (.seq (.reg [] [
    DR 23 92 1 1,
    Ce 24 23 90,
    EN 25 24 90,
    rq 26 (.move (ki 0)) 3])
  (.block 0 (.loop (.seq (.reg [] [
    L8 27 26 25])
    (.seq (.cond (tp 27) (.skip)
    (.exit 0))
    (.seq (.block 1 (.seq (.reg [] [
      D5 28 90 24 26,
      Ce 29 28 89,
      rq 7 (.alloc 89) 0,
      rn (.store 89 (tp 7) (tp 29)) 0])
     (.reg [0, 1, 2, 3, 4, 5, 6, 7, 8, 9, 10, 11] [
       Ap 30 5 116,
       Ap 31 5 116,
       rq 32 (.nilCheck (tp 31)) 0,
       DR 33 139 32 1,
       Ce 34 33 23,
       DR 35 89 7 2,
       Ce 36 35 3,
       rq 37 (.buildSlice 23 1 #[(0,(tp 36))]) 23,
       rq 38 (cb .append #[(tp 34),(tp 37)] #[23,23]) 23,
       rq 39 (.nilCheck (tp 30)) 0,
       DR 40 139 39 1,
       rn (.store 23 (tp 40) (tp 38)) 0])))
    (.reg [] [
      FB 41 26,
      Ap 26 41 3])))))))
  (.seq (.reg [] [
    rq 8 (.assign (.func 98)) 84])
  (.seq (.label 0)
  (.block 2 (.loop (.block 3 (.seq (.reg [] [
    Ap 42 5 116,
    rq 43 (cf 99 #[(tp 42)] #[116]) 23,
    AQ 9 43 23])
    (.seq (.seq (.reg [] [
      Ap 44 9 23,
      rq 45 (cf 48 #[(tp 44),(.func 100)] #[23,84]) 4,
      rq 46 (.unOp .not 4 (tp 45)) 4])
    (.cond (tp 46) (.seq (.reg [] [
      Ap 47 5 116,
      AQ 2 47 116,
      Cz 3 0 28])
     (.ret))
    (.skip)))
    (.seq (.seq (.reg [] [
      Ap 48 9 23,
      EN 49 48 23,
      rq 50 (.move (ki 0)) 3])
    (.block 4 (.loop (.seq (.reg [] [
      L8 51 50 49])
      (.seq (.cond (tp 51) (.skip)
      (.exit 4))
      (.seq (.block 5 (.seq (.reg [] [
        Ap 52 50 3,
        D5 53 23 48 50,
        Ce 54 53 3,
        AQ 10 52 3,
        AQ 11 54 3])
       (.seq (.reg [] [
         Ap 55 9 23,
         EN 56 55 23,
         rq 57 (.move (ki 0)) 3])
       (.block 6 (.loop (.seq (.reg [] [
         L8 58 57 56])
         (.seq (.cond (tp 58) (.skip)
         (.exit 6))
         (.seq (.block 7 (.seq (.reg [] [
           Ap 59 57 3,
           D5 60 23 55 57,
           Ce 61 60 3,
           AQ 12 59 3,
           AQ 13 61 3])
          (.seq (.seq (.reg [] [
            Ap 62 11 3,
            rq 63 (.binOp .leq 3 (tp 62) (ki 0) 3) 4,
            Ap 64 63 4,
            DD 65 13 3 64 false,
            rg 66 (.binOp .geq 3 (tp 65) (ki 0) 3) 4 64 false,
            rq 67 (.pick (tp 64) (kb true) (tp 66)) 4])
          (.cond (tp 67) (.exit 7)
          (.skip)))
          (.seq (.reg [] [
            Ap 68 5 116,
            Ap 69 10 3,
            Ap 70 12 3,
            Ap 71 8 84,
            rq 72 (cf 101 #[(tp 68),(tp 69),(tp 70),(tp 71)] #[116,3,3,84]) 156,
            AQ 14 72 156])
          (.seq (.reg [] [
            Ap 73 14 156,
            rq 74 (.binOp .neq 156 (tp 73) (.const (.map none)) 156) 4])
          (.cond (tp 74) (.seq (.reg [] [
            Ap 75 5 116,
            Ap 76 14 156,
            rq 77 (cf 102 #[(tp 75),(tp 76)] #[116,156]) 0])
           (.exit 3))
          (.skip)))))))
         (.reg [] [
           FB 78 57,
           Ap 57 78 3])))))))))
      (.reg [] [
        FB 79 50,
        Ap 50 79 3])))))))
    (.seq (.reg [] [
      rq 2 (.assign (.const (.pointer none))) 116,
      Cz 3 12 28])
    (.ret)))))))))))))
 0 (.seq (.skip)
  (.block 2 (.loop (.block 3 (.seq (.reg [] [
    Ap 42 5 116,
    rq 43 (cf 99 #[(tp 42)] #[116]) 23,
    AQ 9 43 23])
    (.seq (.seq (.reg [] [
      Ap 44 9 23,
      rq 45 (cf 48 #[(tp 44),(.func 100)] #[23,84]) 4,
      rq 46 (.unOp .not 4 (tp 45)) 4])
    (.cond (tp 46) (.seq (.reg [] [
      Ap 47 5 116,
      AQ 2 47 116,
      Cz 3 0 28])
     (.ret))
    (.skip)))
    (.seq (.seq (.reg [] [
      Ap 48 9 23,
      EN 49 48 23,
      rq 50 (.move (ki 0)) 3])
    (.block 4 (.loop (.seq (.reg [] [
      L8 51 50 49])
      (.seq (.cond (tp 51) (.skip)
      (.exit 4))
      (.seq (.block 5 (.seq (.reg [] [
        Ap 52 50 3,
        D5 53 23 48 50,
        Ce 54 53 3,
        AQ 10 52 3,
        AQ 11 54 3])
       (.seq (.reg [] [
         Ap 55 9 23,
         EN 56 55 23,
         rq 57 (.move (ki 0)) 3])
       (.block 6 (.loop (.seq (.reg [] [
         L8 58 57 56])
         (.seq (.cond (tp 58) (.skip)
         (.exit 6))
         (.seq (.block 7 (.seq (.reg [] [
           Ap 59 57 3,
           D5 60 23 55 57,
           Ce 61 60 3,
           AQ 12 59 3,
           AQ 13 61 3])
          (.seq (.seq (.reg [] [
            Ap 62 11 3,
            rq 63 (.binOp .leq 3 (tp 62) (ki 0) 3) 4,
            Ap 64 63 4,
            DD 65 13 3 64 false,
            rg 66 (.binOp .geq 3 (tp 65) (ki 0) 3) 4 64 false,
            rq 67 (.pick (tp 64) (kb true) (tp 66)) 4])
          (.cond (tp 67) (.exit 7)
          (.skip)))
          (.seq (.reg [] [
            Ap 68 5 116,
            Ap 69 10 3,
            Ap 70 12 3,
            Ap 71 8 84,
            rq 72 (cf 101 #[(tp 68),(tp 69),(tp 70),(tp 71)] #[116,3,3,84]) 156,
            AQ 14 72 156])
          (.seq (.reg [] [
            Ap 73 14 156,
            rq 74 (.binOp .neq 156 (tp 73) (.const (.map none)) 156) 4])
          (.cond (tp 74) (.seq (.reg [] [
            Ap 75 5 116,
            Ap 76 14 156,
            rq 77 (cf 102 #[(tp 75),(tp 76)] #[116,156]) 0])
           (.exit 3))
          (.skip)))))))
         (.reg [] [
           FB 78 57,
           Ap 57 78 3])))))))))
      (.reg [] [
        FB 79 50,
        Ap 50 79 3])))))))
    (.seq (.reg [] [
      rq 2 (.assign (.const (.pointer none))) 116,
      Cz 3 12 28])
    (.ret))))))))))
def c78:RC:=
 .seq (.reg [] [
  rq 1 (.box 92 (tp 0)) 0,Cz 2 0 28])
 (.seq (.block 0 (.seq (.reg [] [
   DR 6 92 1 0,
   Ce 7 6 3,
   rq 8 (cf 79 #[(ki 2),(tp 7),(ki 6)] #[3,3,3]) 4,
   rq 9 (.unOp .not 4 (tp 8)) 4,
   AQ 5 9 4])
  (.cond (tp 5) (.seq (.reg [] [
    Cz 2 1 28])
   (.ret))
  (.seq (.reg [] [
    DR 11 92 1 1,
    Ce 12 11 90,
    EN 13 12 90,
    rq 14 (.binOp .gtr 3 (tp 13) (ki 12) 3) 4,
    AQ 10 14 4])
   (.cond (tp 10) (.seq (.reg [] [
     Cz 2 3 28])
    (.ret))
   (.skip))))))
 (.seq (.seq (.reg [] [
   DR 15 92 1 1,Ce 16 15 90,EN 17 16 90,rq 18 (.move (ki 0)) 3])
 (.block 1 (.loop (.seq (.reg [] [
   L8 19 18 17])
   (.seq (.cond (tp 19) (.skip)
   (.exit 1))
   (.seq (.block 2 (.seq (.reg [] [
     D5 20 90 16 18,
     Ce 21 20 89,
     rq 4 (.alloc 89) 0,
     rn (.store 89 (tp 4) (tp 21)) 0])
    (.block 3 (.seq (.reg [] [
      DR 23 89 4 0,
      Ce 24 23 3,
      DR 25 89 4 1,
      Ce 26 25 3,
      rq 27 (cb .min #[(tp 24),(tp 26)] #[3,3]) 3,
      rq 28 (.binOp .lss 3 (tp 27) (ki 0) 3) 4,
      Ap 29 28 4,
      rg 30 (.fieldAddr 89 (tp 4) 0) 0 29 false,
      rg 31 (.load 3 (tp 30)) 3 29 false,
      rg 32 (.fieldAddr 89 (tp 4) 1) 0 29 false,
      rg 33 (.load 3 (tp 32)) 3 29 false,
      rg 34 (cb .max #[(tp 31),(tp 33)] #[3,3]) 3 29 false,
      rg 35 (.fieldAddr 92 (tp 1) 0) 0 29 false,
      rg 36 (.load 3 (tp 35)) 3 29 false,
      rg 37 (.binOp .geq 3 (tp 34) (tp 36) 3) 4 29 false,
      rq 38 (.pick (tp 29) (kb true) (tp 37)) 4,
      AQ 22 38 4])
     (.cond (tp 22) (.seq (.reg [] [
       Cz 2 2 28])
      (.ret))
     (.seq (.reg [] [
       DR 40 89 4 0,
       Ce 41 40 3,
       DR 42 89 4 1,
       Ce 43 42 3,
       rq 44 (.binOp .eql 3 (tp 41) (tp 43) 3) 4,
       AQ 39 44 4])
      (.cond (tp 39) (.seq (.reg [] [
        Cz 2 13 28])
       (.ret))
      (.seq (.reg [] [
        DR 46 89 4 2,
        Ce 47 46 3,
        rq 48 (.binOp .lss 3 (tp 47) (ki 0) 3) 4,
        Ap 49 48 4,
        rg 50 (.fieldAddr 89 (tp 4) 3) 0 49 false,
        rg 51 (.load 3 (tp 50)) 3 49 false,
        rg 52 (.binOp .gtr 3 (tp 51) (ki 99) 3) 4 49 false,
        rq 53 (.pick (tp 49) (kb true) (tp 52)) 4,
        Ap 54 53 4,
        rg 55 (.fieldAddr 89 (tp 4) 2) 0 54 false,
        rg 56 (.load 3 (tp 55)) 3 54 false,
        rg 57 (.fieldAddr 89 (tp 4) 3) 0 54 false,
        rg 58 (.load 3 (tp 57)) 3 54 false,
        rg 59 (.binOp .gtr 3 (tp 56) (tp 58) 3) 4 54 false,
        rq 60 (.pick (tp 54) (kb true) (tp 59)) 4,
        AQ 45 60 4])
       (.cond (tp 45) (.seq (.reg [] [
         Cz 2 1 28])
        (.ret))
       (.skip))))))))))
   (.reg [] [
     FB 61 18,
     Ap 18 61 3])))))))
 (.seq (.reg [] [
   Cz 2 0 28])
 (.ret))))
def c79:RC:=
 .seq (.reg [] [
  rq 6 (.assign (kb false)) 4])
 (.seq (.reg [] [
   Ap 7 0 3,Ap 8 1 3,rq 9 (.binOp .leq 3 (tp 7) (tp 8) 3) 4,Ap 10 9 4,DD 11 1 3 10 true,DD 12 2 3 10 true,rg 13 (.binOp .leq 3 (tp 11) (tp 12) 3) 4 10 true,rq 14 (.pick (tp 10) (tp 13) (kb false)) 4,AQ 6 14 4])
 (.ret))
def c80:RC:=
 .seq (.reg [] [
  rq 4 (.box 3 (tp 1)) 0,rq 5 (.box 84 (tp 2)) 0])
 (.seq (.reg [0, 1, 2, 3, 4, 5, 6, 7, 8, 9] [
   Ap 8 0 116,rq 9 (.nilCheck (tp 8)) 0,DR 10 139 9 0,DR 11 92 10 1,Ce 12 11 90,Ce 13 4 3,D5 14 90 12 13,Ce 15 14 89,rq 6 (.alloc 89) 0,rn (.store 89 (tp 6) (tp 15)) 0])
 (.block 0 (.loop (.seq (.seq (.reg [0, 1, 2, 3, 4, 5, 6, 7, 8, 9] [
   Ap 16 0 116,
   rq 17 (.nilCheck (tp 16)) 0,
   DR 18 139 17 1,
   Ce 19 18 23,
   Ce 20 4 3,
   D5 21 23 19 20,
   Ce 22 21 3,
   DR 23 89 6 2,
   Ce 24 23 3,
   rq 25 (.binOp .gtr 3 (tp 22) (tp 24) 3) 4])
   (.cond (tp 25) (.skip)
   (.exit 0)))
   (.block 1 (.seq (.reg [] [
     Ap 26 0 116,
     DR 27 89 6 0,
     Ce 28 27 3,
     DR 29 89 6 1,
     Ce 30 29 3,
     rq 31 (.makeFunc (.func 104) #[] #[(tp 4),(tp 5)]) 84,
     rq 32 (cf 101 #[(tp 26),(tp 28),(tp 30),(tp 31)] #[116,3,3,84]) 156,
     AQ 7 32 156])
    (.seq (.seq (.reg [] [
      Ap 33 7 156,
      rq 34 (.binOp .eql 156 (tp 33) (.const (.map none)) 156) 4])
    (.cond (tp 34) (.ret)
    (.skip)))
    (.seq (.reg [] [
      Ap 35 0 116,
      Ap 36 7 156,
      rq 37 (cf 102 #[(tp 35),(tp 36)] #[116,156]) 0])
    (.reg [0, 1, 2, 3, 4, 5, 6, 7, 8, 9] [
      Ap 38 0 116,
      rq 39 (.nilCheck (tp 38)) 0,
      DR 40 139 39 1,
      Ce 41 40 23,
      Ce 42 4 3,
      D5 43 23 41 42,
      Ce 44 43 3,
      rq 45 (.binOp .sub 3 (tp 44) (ki 1) 3) 3,
      D5 46 23 41 42,
      rn (.store 3 (tp 46) (tp 45)) 0])))))))))
def c81:RC:=
 .seq (.reg [] [
  rq 2 (.assign (kb false)) 4])
 (.seq (.reg [] [
   rq 2 (.assign (kb true)) 4])
 (.ret))
def c82:RC:=
 .seq (.reg [] [
  rq 3 (.box 3 (tp 1)) 0])
 (.seq (.reg [0, 1, 2, 3, 4, 5, 6, 7, 8, 9] [
   Ap 6 0 116,rq 7 (.nilCheck (tp 6)) 0,DR 8 139 7 0,DR 9 92 8 1,Ce 10 9 90,Ce 11 3 3,D5 12 90 10 11,Ce 13 12 89,rq 4 (.alloc 89) 0,rn (.store 89 (tp 4) (tp 13)) 0])
 (.block 0 (.loop (.seq (.seq (.reg [0, 1, 2, 3, 4, 5, 6, 7, 8, 9] [
   Ap 14 0 116,
   rq 15 (.nilCheck (tp 14)) 0,
   DR 16 139 15 1,
   Ce 17 16 23,
   Ce 18 3 3,
   D5 19 23 17 18,
   Ce 20 19 3,
   DR 21 89 4 3,
   Ce 22 21 3,
   rq 23 (.binOp .lss 3 (tp 20) (tp 22) 3) 4])
   (.cond (tp 23) (.skip)
   (.exit 0)))
   (.block 1 (.seq (.reg [] [
     Ap 24 0 116,
     DR 25 89 4 1,
     Ce 26 25 3,
     DR 27 89 4 0,
     Ce 28 27 3,
     rq 29 (.makeFunc (.func 105) #[] #[(tp 3)]) 84,
     rq 30 (cf 101 #[(tp 24),(tp 26),(tp 28),(tp 29)] #[116,3,3,84]) 156,
     AQ 5 30 156])
    (.seq (.seq (.reg [] [
      Ap 31 5 156,
      rq 32 (.binOp .eql 156 (tp 31) (.const (.map none)) 156) 4])
    (.cond (tp 32) (.ret)
    (.skip)))
    (.seq (.reg [] [
      Ap 33 0 116,
      Ap 34 5 156,
      rq 35 (cf 102 #[(tp 33),(tp 34)] #[116,156]) 0])
    (.reg [0, 1, 2, 3, 4, 5, 6, 7, 8, 9] [
      Ap 36 0 116,
      rq 37 (.nilCheck (tp 36)) 0,
      DR 38 139 37 1,
      Ce 39 38 23,
      Ce 40 3 3,
      D5 41 23 39 40,
      Ce 42 41 3,
      FB 43 42,
      D5 44 23 39 40,
      rn (.store 3 (tp 44) (tp 43)) 0])))))))))
def c83:RC:=
 .seq (.reg [] [
  Ap 4 0 23,EN 5 4 23,rq 6 (.binOp .sub 3 (tp 5) (ki 1) 3) 3,Cz 2 0 3,AQ 3 6 3])
 (.block 0 (.loop (.seq (.seq (.reg [] [
   Ap 7 2 3,
   Ap 8 3 3,
   rq 9 (.binOp .lss 3 (tp 7) (tp 8) 3) 4])
   (.cond (tp 9) (.skip)
   (.exit 0)))
   (.seq (.block 1 (.reg [0, 1, 2, 3, 4, 5, 6, 7, 8, 9, 10, 11, 12, 13, 14, 15] [
     Ap 14 0 23,
     Ap 15 2 3,
     Ap 16 0 23,
     Ap 17 3 3,
     Ap 18 0 23,
     Ap 19 3 3,
     D5 20 23 18 19,
     Ce 21 20 3,
     Ap 22 0 23,
     Ap 23 2 3,
     D5 24 23 22 23,
     Ce 25 24 3,
     D5 26 23 14 15,
     rn (.store 3 (tp 26) (tp 21)) 0,
     D5 27 23 16 17,
     rn (.store 3 (tp 27) (tp 25)) 0]))
   (.reg [] [
     Ap 10 2 3,
     FB 11 10,
     Ap 12 3 3,
     rq 13 (.binOp .sub 3 (tp 12) (ki 1) 3) 3,
     AQ 2 11 3,
     AQ 3 13 3])))))
def c84:RC:=
 .seq (.reg [] [
  rq 4 (.assign (.const (.slice none 0 0))) 23])
 (.seq (.reg [] [
   Ap 8 0 23,EN 9 8 23,rq 10 (.makeSlice 23 (ki 0) (tp 9)) 23,AQ 5 10 23])
 (.seq (.seq (.reg [] [
   Ap 11 1 3,rq 12 (.move (ki 0)) 3])
 (.block 0 (.loop (.seq (.reg [] [
   rq 13 (.binOp .lss 3 (tp 12) (tp 11) 3) 4])
   (.seq (.cond (tp 13) (.skip)
   (.exit 0))
   (.seq (.block 1 (.seq (.reg [] [
     Ap 14 12 3,
     AQ 6 14 3])
    (.seq (.reg [] [
      Ap 15 1 3,
      rq 16 (.binOp .sub 3 (tp 15) (ki 1) 3) 3,
      AQ 7 16 3])
    (.block 2 (.loop (.seq (.seq (.reg [] [
      Ap 17 7 3,
      rq 18 (.binOp .geq 3 (tp 17) (ki 0) 3) 4])
      (.cond (tp 18) (.skip)
      (.exit 2)))
      (.seq (.block 3 (.reg [] [
        Ap 21 5 23,
        Ap 22 0 23,
        Ap 23 7 3,
        Ap 24 1 3,
        rq 25 (.binOp .mul 3 (tp 23) (tp 24) 3) 3,
        Ap 26 6 3,
        rq 27 (.binOp .add 3 (tp 25) (tp 26) 3) 3,
        D5 28 23 22 27,
        Ce 29 28 3,
        rq 30 (.buildSlice 23 1 #[(0,(tp 29))]) 23,
        rq 31 (cb .append #[(tp 21),(tp 30)] #[23,23]) 23,
        AQ 5 31 23]))
      (.reg [] [
        Ap 19 7 3,
        rq 20 (.binOp .sub 3 (tp 19) (ki 1) 3) 3,
        AQ 7 20 3]))))))))
   (.reg [] [
     FB 32 12,
     Ap 12 32 3])))))))
 (.seq (.reg [] [
   Ap 33 5 23,AQ 4 33 23])
 (.ret))))
def c86:RC:=Ke
def c87:RC:=
 .seq (.reg [] [
  Ap 13 1 3,AQ 8 13 3])
 (.seq (.reg [] [
   Cz 9 0 3])
 (.seq (.reg [] [
   Ap 14 2 3,Ap 15 1 3,rq 16 (.binOp .sub 3 (tp 14) (tp 15) 3) 3,AQ 10 16 3])
 (.seq (.seq (.reg [] [
   Ap 17 10 3,rq 18 (.binOp .sub 3 (tp 17) (ki 1) 3) 3,rq 19 (.binOp .quo 3 (tp 18) (ki 2) 3) 3,AQ 11 19 3])
 (.block 0 (.loop (.seq (.seq (.reg [] [
   Ap 20 11 3,
   rq 21 (.binOp .geq 3 (tp 20) (ki 0) 3) 4])
   (.cond (tp 21) (.skip)
   (.exit 0)))
   (.seq (.block 1 (.reg [] [
     Ap 24 0 27,
     Ap 25 11 3,
     Ap 26 10 3,
     Ap 27 8 3,
     Ap 28 3 104,
     rq 29 (cf 108 #[(tp 24),(tp 25),(tp 26),(tp 27),(tp 28)] #[27,3,3,3,104]) 0]))
   (.reg [] [
     Ap 22 11 3,
     rq 23 (.binOp .sub 3 (tp 22) (ki 1) 3) 3,
     AQ 11 23 3]))))))
 (.seq (.reg [] [
   Ap 30 10 3,rq 31 (.binOp .sub 3 (tp 30) (ki 1) 3) 3,AQ 12 31 3])
 (.block 2 (.loop (.seq (.seq (.reg [] [
   Ap 32 12 3,
   rq 33 (.binOp .geq 3 (tp 32) (ki 0) 3) 4])
   (.cond (tp 33) (.skip)
   (.exit 2)))
   (.seq (.block 3 (.seq (.reg [0, 1, 2, 3, 4, 5, 6, 7, 8, 9, 10, 11, 12, 13, 14, 15, 16, 17, 18, 19] [
     Ap 36 0 27,
     Ap 37 8 3,
     Ap 38 0 27,
     Ap 39 8 3,
     Ap 40 12 3,
     rq 41 (.binOp .add 3 (tp 39) (tp 40) 3) 3,
     Ap 42 0 27,
     Ap 43 8 3,
     Ap 44 12 3,
     rq 45 (.binOp .add 3 (tp 43) (tp 44) 3) 3,
     D5 46 27 42 45,
     Ce 47 46 23,
     Ap 48 0 27,
     Ap 49 8 3,
     D5 50 27 48 49,
     Ce 51 50 23,
     D5 52 27 36 37,
     rn (.store 23 (tp 52) (tp 47)) 0,
     D5 53 27 38 41,
     rn (.store 23 (tp 53) (tp 51)) 0])
    (.reg [] [
      Ap 54 0 27,
      Ap 55 9 3,
      Ap 56 12 3,
      Ap 57 8 3,
      Ap 58 3 104,
      rq 59 (cf 108 #[(tp 54),(tp 55),(tp 56),(tp 57),(tp 58)] #[27,3,3,3,104]) 0])))
   (.reg [] [
     Ap 34 12 3,
     rq 35 (.binOp .sub 3 (tp 34) (ki 1) 3) 3,
     AQ 12 35 3])))))))))
def c88:RC:=
 .seq (.reg [] [
  Ap 13 2 3,Ap 14 1 3,rq 15 (.binOp .sub 3 (tp 13) (tp 14) 3) 3,AQ 8 15 3])
 (.seq (.reg [] [
   Ap 16 8 3,rq 17 (.binOp .geq 3 (tp 16) (ki 8) 3) 4])
 (.cond (tp 17) (.seq (.reg [] [
   Ap 18 8 3,
   rq 19 (.convert 3 163 (tp 18)) 163,
   rq 9 (.alloc 163) 0,
   rn (.store 163 (tp 9) (tp 19)) 0])
  (.seq (.reg [] [
    Ap 20 8 3,
    rq 21 (cf 109 #[(tp 20)] #[3]) 128,
    AQ 10 21 128])
  (.seq (.reg [] [
    Ap 22 1 3,
    Ap 23 8 3,
    rq 24 (.binOp .quo 3 (tp 23) (ki 4) 3) 3,
    rq 25 (.binOp .mul 3 (tp 24) (ki 2) 3) 3,
    rq 26 (.binOp .add 3 (tp 22) (tp 25) 3) 3,
    rq 27 (.binOp .sub 3 (tp 26) (ki 1) 3) 3,
    AQ 11 27 3])
  (.block 0 (.loop (.seq (.seq (.reg [] [
    Ap 28 11 3,
    Ap 29 1 3,
    Ap 30 8 3,
    rq 31 (.binOp .quo 3 (tp 30) (ki 4) 3) 3,
    rq 32 (.binOp .mul 3 (tp 31) (ki 2) 3) 3,
    rq 33 (.binOp .add 3 (tp 29) (tp 32) 3) 3,
    FB 34 33,
    rq 35 (.binOp .leq 3 (tp 28) (tp 34) 3) 4])
    (.cond (tp 35) (.skip)
    (.exit 0)))
    (.seq (.block 1 (.seq (.reg [] [
      rq 38 (cf 110 #[(tp 9)] #[163]) 70,
      Ap 39 10 128,
      rq 40 (.binOp .sub 128 (tp 39) (.const (.int .u64 1)) 128) 128,
      rq 41 (.binOp .and 128 (tp 38) (tp 40) 128) 128,
      rq 42 (.convert 128 3 (tp 41)) 3,
      AQ 12 42 3])
     (.seq (.seq (.reg [] [
       Ap 43 12 3,
       Ap 44 8 3,
       rq 45 (.binOp .geq 3 (tp 43) (tp 44) 3) 4])
     (.cond (tp 45) (.reg [] [
       Ap 46 12 3,
       Ap 47 8 3,
       rq 48 (.binOp .sub 3 (tp 46) (tp 47) 3) 3,
       AQ 12 48 3])
     (.skip)))
     (.reg [0, 1, 2, 3, 4, 5, 6, 7, 8, 9, 10, 11, 12, 13, 14, 15, 16, 17, 18, 19] [
       Ap 49 0 27,
       Ap 50 11 3,
       Ap 51 0 27,
       Ap 52 1 3,
       Ap 53 12 3,
       rq 54 (.binOp .add 3 (tp 52) (tp 53) 3) 3,
       Ap 55 0 27,
       Ap 56 1 3,
       Ap 57 12 3,
       rq 58 (.binOp .add 3 (tp 56) (tp 57) 3) 3,
       D5 59 27 55 58,
       Ce 60 59 23,
       Ap 61 0 27,
       Ap 62 11 3,
       D5 63 27 61 62,
       Ce 64 63 23,
       D5 65 27 49 50,
       rn (.store 23 (tp 65) (tp 60)) 0,
       D5 66 27 51 54,
       rn (.store 23 (tp 66) (tp 64)) 0]))))
    (.reg [] [
      Ap 36 11 3,
      FB 37 36,
      AQ 11 37 3]))))))))
 (.skip)))
def c89:RC:=
 .seq (.reg [] [
  Cz 8 0 3,Cz 9 0 145])
 (.seq (.reg [] [
   Ap 15 2 3,Ap 16 1 3,rq 17 (.binOp .sub 3 (tp 15) (tp 16) 3) 3,AQ 10 17 3])
 (.seq (.reg [] [
   rq 11 (.alloc 3) 0])
 (.seq (.reg [] [
   Ap 18 1 3,Ap 19 10 3,rq 20 (.binOp .quo 3 (tp 19) (ki 4) 3) 3,rq 21 (.binOp .mul 3 (tp 20) (ki 1) 3) 3,rq 22 (.binOp .add 3 (tp 18) (tp 21) 3) 3,AQ 12 22 3])
 (.seq (.reg [] [
   Ap 23 1 3,Ap 24 10 3,rq 25 (.binOp .quo 3 (tp 24) (ki 4) 3) 3,rq 26 (.binOp .mul 3 (tp 25) (ki 2) 3) 3,rq 27 (.binOp .add 3 (tp 23) (tp 26) 3) 3,AQ 13 27 3])
 (.seq (.reg [] [
   Ap 28 1 3,Ap 29 10 3,rq 30 (.binOp .quo 3 (tp 29) (ki 4) 3) 3,rq 31 (.binOp .mul 3 (tp 30) (ki 3) 3) 3,rq 32 (.binOp .add 3 (tp 28) (tp 31) 3) 3,AQ 14 32 3])
 (.seq (.seq (.reg [] [
   Ap 33 10 3,rq 34 (.binOp .geq 3 (tp 33) (ki 8) 3) 4])
 (.cond (tp 34) (.seq (.seq (.reg [] [
   Ap 35 10 3,
   rq 36 (.binOp .geq 3 (tp 35) (ki 50) 3) 4])
  (.cond (tp 36) (.seq (.reg [] [
    Ap 37 0 27,
    Ap 38 12 3,
    Ap 39 3 104,
    rq 40 (cf 111 #[(tp 37),(tp 38),(tp 11),(tp 39)] #[27,3,167,104]) 3,
    AQ 12 40 3])
   (.seq (.reg [] [
     Ap 41 0 27,
     Ap 42 13 3,
     Ap 43 3 104,
     rq 44 (cf 111 #[(tp 41),(tp 42),(tp 11),(tp 43)] #[27,3,167,104]) 3,
     AQ 13 44 3])
   (.reg [] [
     Ap 45 0 27,
     Ap 46 14 3,
     Ap 47 3 104,
     rq 48 (cf 111 #[(tp 45),(tp 46),(tp 11),(tp 47)] #[27,3,167,104]) 3,
     AQ 14 48 3])))
  (.skip)))
  (.reg [] [
    Ap 49 0 27,
    Ap 50 12 3,
    Ap 51 13 3,
    Ap 52 14 3,
    Ap 53 3 104,
    rq 54 (cf 112 #[(tp 49),(tp 50),(tp 51),(tp 52),(tp 11),(tp 53)] #[27,3,3,3,167,104]) 3,
    AQ 13 54 3]))
 (.skip)))
 (.seq (.reg [] [
   Ce 55 11 3])
 (.block 0 (.seq (.reg [] [
   rq 58 (.binOp .eql 3 (tp 55) (ki 0) 3) 4,
   AQ 57 58 4])
  (.cond (tp 57) (.seq (.reg [] [
    Ap 59 13 3,
    AQ 8 59 3,
    Cz 9 1 145])
   (.ret))
  (.seq (.reg [] [
    rq 61 (.binOp .eql 3 (tp 55) (ki 12) 3) 4,
    AQ 60 61 4])
   (.cond (tp 60) (.seq (.reg [] [
     Ap 62 13 3,
     AQ 8 62 3,
     Cz 9 2 145])
    (.ret))
   (.seq (.reg [] [
     Ap 56 13 3,
     AQ 8 56 3,
     Cz 9 0 145])
    (.ret))))))))))))))
def c90:RC:=
 .seq (.reg [] [
  Ap 10 1 3,AQ 8 10 3])
 (.seq (.reg [] [
   Ap 11 2 3,rq 12 (.binOp .sub 3 (tp 11) (ki 1) 3) 3,AQ 9 12 3])
 (.block 0 (.loop (.seq (.seq (.reg [] [
   Ap 13 8 3,
   Ap 14 9 3,
   rq 15 (.binOp .lss 3 (tp 13) (tp 14) 3) 4])
   (.cond (tp 15) (.skip)
   (.exit 0)))
   (.block 1 (.seq (.reg [0, 1, 2, 3, 4, 5, 6, 7, 8, 9, 10, 11, 12, 13, 14, 15] [
     Ap 16 0 27,
     Ap 17 8 3,
     Ap 18 0 27,
     Ap 19 9 3,
     Ap 20 0 27,
     Ap 21 9 3,
     D5 22 27 20 21,
     Ce 23 22 23,
     Ap 24 0 27,
     Ap 25 8 3,
     D5 26 27 24 25,
     Ce 27 26 23,
     D5 28 27 16 17,
     rn (.store 23 (tp 28) (tp 23)) 0,
     D5 29 27 18 19,
     rn (.store 23 (tp 29) (tp 27)) 0])
    (.seq (.reg [] [
      Ap 30 8 3,
      FB 31 30,
      AQ 8 31 3])
    (.reg [] [
      Ap 32 9 3,
      rq 33 (.binOp .sub 3 (tp 32) (ki 1) 3) 3,
      AQ 9 33 3]))))))))
def c91:RC:=
 .seq (.reg [] [
  rq 8 (.assign (kb false)) 4])
 (.seq (.reg [] [
   Ap 13 1 3,FB 14 13,AQ 9 14 3])
 (.seq (.seq (.reg [] [
   Cz 10 0 3])
 (.block 0 (.loop (.seq (.seq (.reg [] [
   Ap 15 10 3,
   rq 16 (.binOp .lss 3 (tp 15) (ki 5) 3) 4])
   (.cond (tp 16) (.skip)
   (.exit 0)))
   (.seq (.block 1 (.seq (.block 2 (.loop (.seq (.seq (.reg [0, 1, 2, 3, 4, 5, 6, 7, 8, 9, 10, 11, 12, 13, 14, 15, 16, 17] [
     Ap 19 9 3,
     Ap 20 2 3,
     rq 21 (.binOp .lss 3 (tp 19) (tp 20) 3) 4,
     Ap 22 21 4,
     DD 23 3 104 22 true,
     DD 24 0 27 22 true,
     DD 25 9 3 22 true,
     rg 26 (.indexAddr 27 (tp 24) (tp 25)) 0 22 true,
     rg 27 (.load 23 (tp 26)) 23 22 true,
     DD 28 0 27 22 true,
     DD 29 9 3 22 true,
     rg 30 (.binOp .sub 3 (tp 29) (ki 1) 3) 3 22 true,
     rg 31 (.indexAddr 27 (tp 28) (tp 30)) 0 22 true,
     rg 32 (.load 23 (tp 31)) 23 22 true,
     rg 33 (.call ⟨.value (tp 23),#[(tp 27),(tp 32)],#[23,23]⟩) 3 22 true,
     rg 34 (.binOp .lss 3 (tp 33) (ki 0) 3) 4 22 true,
     rg 35 (.unOp .not 4 (tp 34)) 4 22 true,
     rq 36 (.pick (tp 22) (tp 35) (kb false)) 4])
     (.cond (tp 36) (.skip)
     (.exit 2)))
     (.block 3 (.reg [] [
       Ap 37 9 3,
       FB 38 37,
       AQ 9 38 3])))))
    (.seq (.seq (.reg [] [
      Ap 39 9 3,
      Ap 40 2 3,
      rq 41 (.binOp .eql 3 (tp 39) (tp 40) 3) 4])
    (.cond (tp 41) (.seq (.reg [] [
      rq 8 (.assign (kb true)) 4])
     (.ret))
    (.skip)))
    (.seq (.seq (.reg [] [
      Ap 42 2 3,
      Ap 43 1 3,
      rq 44 (.binOp .sub 3 (tp 42) (tp 43) 3) 3,
      rq 45 (.binOp .lss 3 (tp 44) (ki 50) 3) 4])
    (.cond (tp 45) (.seq (.reg [] [
      rq 8 (.assign (kb false)) 4])
     (.ret))
    (.skip)))
    (.seq (.reg [0, 1, 2, 3, 4, 5, 6, 7, 8, 9, 10, 11, 12, 13, 14, 15, 16, 17] [
      Ap 46 0 27,
      Ap 47 9 3,
      Ap 48 0 27,
      Ap 49 9 3,
      rq 50 (.binOp .sub 3 (tp 49) (ki 1) 3) 3,
      Ap 51 0 27,
      Ap 52 9 3,
      rq 53 (.binOp .sub 3 (tp 52) (ki 1) 3) 3,
      D5 54 27 51 53,
      Ce 55 54 23,
      Ap 56 0 27,
      Ap 57 9 3,
      D5 58 27 56 57,
      Ce 59 58 23,
      D5 60 27 46 47,
      rn (.store 23 (tp 60) (tp 55)) 0,
      D5 61 27 48 50,
      rn (.store 23 (tp 61) (tp 59)) 0])
    (.seq (.seq (.reg [] [
      Ap 62 9 3,
      Ap 63 1 3,
      rq 64 (.binOp .sub 3 (tp 62) (tp 63) 3) 3,
      rq 65 (.binOp .geq 3 (tp 64) (ki 2) 3) 4])
    (.cond (tp 65) (.seq (.reg [] [
      Ap 66 9 3,
      rq 67 (.binOp .sub 3 (tp 66) (ki 1) 3) 3,
      AQ 11 67 3])
     (.block 4 (.loop (.seq (.seq (.reg [] [
       Ap 68 11 3,
       rq 69 (.binOp .geq 3 (tp 68) (ki 1) 3) 4])
       (.cond (tp 69) (.skip)
       (.exit 4)))
       (.seq (.block 5 (.seq (.seq (.reg [0, 1, 2, 3, 4, 5, 6, 7, 8, 9, 10, 11, 12] [
         Ap 72 3 104,
         Ap 73 0 27,
         Ap 74 11 3,
         D5 75 27 73 74,
         Ce 76 75 23,
         Ap 77 0 27,
         Ap 78 11 3,
         rq 79 (.binOp .sub 3 (tp 78) (ki 1) 3) 3,
         D5 80 27 77 79,
         Ce 81 80 23,
         rq 82 (.call ⟨.value (tp 72),#[(tp 76),(tp 81)],#[23,23]⟩) 3,
         rq 83 (.binOp .lss 3 (tp 82) (ki 0) 3) 4,
         rq 84 (.unOp .not 4 (tp 83)) 4])
        (.cond (tp 84) (.exit 4)
        (.skip)))
        (.reg [0, 1, 2, 3, 4, 5, 6, 7, 8, 9, 10, 11, 12, 13, 14, 15, 16, 17] [
          Ap 85 0 27,
          Ap 86 11 3,
          Ap 87 0 27,
          Ap 88 11 3,
          rq 89 (.binOp .sub 3 (tp 88) (ki 1) 3) 3,
          Ap 90 0 27,
          Ap 91 11 3,
          rq 92 (.binOp .sub 3 (tp 91) (ki 1) 3) 3,
          D5 93 27 90 92,
          Ce 94 93 23,
          Ap 95 0 27,
          Ap 96 11 3,
          D5 97 27 95 96,
          Ce 98 97 23,
          D5 99 27 85 86,
          rn (.store 23 (tp 99) (tp 94)) 0,
          D5 100 27 87 89,
          rn (.store 23 (tp 100) (tp 98)) 0])))
       (.reg [] [
         Ap 70 11 3,
         rq 71 (.binOp .sub 3 (tp 70) (ki 1) 3) 3,
         AQ 11 71 3]))))))
    (.skip)))
    (.seq (.reg [] [
      Ap 101 2 3,
      Ap 102 9 3,
      rq 103 (.binOp .sub 3 (tp 101) (tp 102) 3) 3,
      rq 104 (.binOp .geq 3 (tp 103) (ki 2) 3) 4])
    (.cond (tp 104) (.seq (.reg [] [
      Ap 105 9 3,
      FB 106 105,
      AQ 12 106 3])
     (.block 6 (.loop (.seq (.seq (.reg [] [
       Ap 107 12 3,
       Ap 108 2 3,
       rq 109 (.binOp .lss 3 (tp 107) (tp 108) 3) 4])
       (.cond (tp 109) (.skip)
       (.exit 6)))
       (.seq (.block 7 (.seq (.seq (.reg [0, 1, 2, 3, 4, 5, 6, 7, 8, 9, 10, 11, 12] [
         Ap 112 3 104,
         Ap 113 0 27,
         Ap 114 12 3,
         D5 115 27 113 114,
         Ce 116 115 23,
         Ap 117 0 27,
         Ap 118 12 3,
         rq 119 (.binOp .sub 3 (tp 118) (ki 1) 3) 3,
         D5 120 27 117 119,
         Ce 121 120 23,
         rq 122 (.call ⟨.value (tp 112),#[(tp 116),(tp 121)],#[23,23]⟩) 3,
         rq 123 (.binOp .lss 3 (tp 122) (ki 0) 3) 4,
         rq 124 (.unOp .not 4 (tp 123)) 4])
        (.cond (tp 124) (.exit 6)
        (.skip)))
        (.reg [0, 1, 2, 3, 4, 5, 6, 7, 8, 9, 10, 11, 12, 13, 14, 15, 16, 17] [
          Ap 125 0 27,
          Ap 126 12 3,
          Ap 127 0 27,
          Ap 128 12 3,
          rq 129 (.binOp .sub 3 (tp 128) (ki 1) 3) 3,
          Ap 130 0 27,
          Ap 131 12 3,
          rq 132 (.binOp .sub 3 (tp 131) (ki 1) 3) 3,
          D5 133 27 130 132,
          Ce 134 133 23,
          Ap 135 0 27,
          Ap 136 12 3,
          D5 137 27 135 136,
          Ce 138 137 23,
          D5 139 27 125 126,
          rn (.store 23 (tp 139) (tp 134)) 0,
          D5 140 27 127 129,
          rn (.store 23 (tp 140) (tp 138)) 0])))
       (.reg [] [
         Ap 110 12 3,
         FB 111 110,
         AQ 12 111 3]))))))
    (.skip)))))))))
   (.reg [] [
     Ap 17 10 3,
     FB 18 17,
     AQ 10 18 3]))))))
 (.seq (.reg [] [
   rq 8 (.assign (kb false)) 4])
 (.ret))))
def c92:RC:=
 .seq (.reg [] [
  Cz 10 0 3])
 (.seq (.reg [0, 1, 2, 3, 4, 5, 6, 7, 8, 9, 10, 11, 12, 13, 14, 15] [
   Ap 13 0 27,Ap 14 1 3,Ap 15 0 27,Ap 16 3 3,Ap 17 0 27,Ap 18 3 3,D5 19 27 17 18,Ce 20 19 23,Ap 21 0 27,Ap 22 1 3,D5 23 27 21 22,Ce 24 23 23,D5 25 27 13 14,rn (.store 23 (tp 25) (tp 20)) 0,D5 26 27 15 16,rn (.store 23 (tp 26) (tp 24)) 0])
 (.seq (.reg [] [
   Ap 27 1 3,FB 28 27,Ap 29 2 3,rq 30 (.binOp .sub 3 (tp 29) (ki 1) 3) 3,AQ 11 28 3,AQ 12 30 3])
 (.seq (.block 0 (.loop (.block 1 (.seq (.block 2 (.loop (.seq (.seq (.reg [0, 1, 2, 3, 4, 5, 6, 7, 8, 9, 10, 11, 12, 13, 14, 15, 16] [
        Ap 31 11 3,
        Ap 32 12 3,
        rq 33 (.binOp .leq 3 (tp 31) (tp 32) 3) 4,
        Ap 34 33 4,
        DD 35 4 104 34 true,
        DD 36 0 27 34 true,
        DD 37 1 3 34 true,
        rg 38 (.indexAddr 27 (tp 36) (tp 37)) 0 34 true,
        rg 39 (.load 23 (tp 38)) 23 34 true,
        DD 40 0 27 34 true,
        DD 41 11 3 34 true,
        rg 42 (.indexAddr 27 (tp 40) (tp 41)) 0 34 true,
        rg 43 (.load 23 (tp 42)) 23 34 true,
        rg 44 (.call ⟨.value (tp 35),#[(tp 39),(tp 43)],#[23,23]⟩) 3 34 true,
        rg 45 (.binOp .lss 3 (tp 44) (ki 0) 3) 4 34 true,
        rg 46 (.unOp .not 4 (tp 45)) 4 34 true,
        rq 47 (.pick (tp 34) (tp 46) (kb false)) 4])
   (.cond (tp 47) (.skip)
   (.exit 2)))
   (.block 3 (.reg [] [
     Ap 48 11 3,
     FB 49 48,
     AQ 11 49 3])))))
   (.seq (.block 4 (.loop (.seq (.seq (.reg [0, 1, 2, 3, 4, 5, 6, 7, 8, 9, 10, 11, 12, 13, 14, 15] [
     Ap 50 11 3,
     Ap 51 12 3,
     rq 52 (.binOp .leq 3 (tp 50) (tp 51) 3) 4,
     Ap 53 52 4,
     DD 54 4 104 53 true,
     DD 55 0 27 53 true,
     DD 56 1 3 53 true,
     rg 57 (.indexAddr 27 (tp 55) (tp 56)) 0 53 true,
     rg 58 (.load 23 (tp 57)) 23 53 true,
     DD 59 0 27 53 true,
     DD 60 12 3 53 true,
     rg 61 (.indexAddr 27 (tp 59) (tp 60)) 0 53 true,
     rg 62 (.load 23 (tp 61)) 23 53 true,
     rg 63 (.call ⟨.value (tp 54),#[(tp 58),(tp 62)],#[23,23]⟩) 3 53 true,
     rg 64 (.binOp .lss 3 (tp 63) (ki 0) 3) 4 53 true,
     rq 65 (.pick (tp 53) (tp 64) (kb false)) 4])
     (.cond (tp 65) (.skip)
     (.exit 4)))
     (.block 5 (.reg [] [
       Ap 66 12 3,
       rq 67 (.binOp .sub 3 (tp 66) (ki 1) 3) 3,
       AQ 12 67 3])))))
   (.seq (.seq (.reg [] [
     Ap 68 11 3,
     Ap 69 12 3,
     rq 70 (.binOp .gtr 3 (tp 68) (tp 69) 3) 4])
   (.cond (tp 70) (.exit 0)
   (.skip)))
   (.seq (.reg [0, 1, 2, 3, 4, 5, 6, 7, 8, 9, 10, 11, 12, 13, 14, 15] [
     Ap 71 0 27,
     Ap 72 11 3,
     Ap 73 0 27,
     Ap 74 12 3,
     Ap 75 0 27,
     Ap 76 12 3,
     D5 77 27 75 76,
     Ce 78 77 23,
     Ap 79 0 27,
     Ap 80 11 3,
     D5 81 27 79 80,
     Ce 82 81 23,
     D5 83 27 71 72,
     rn (.store 23 (tp 83) (tp 78)) 0,
     D5 84 27 73 74,
     rn (.store 23 (tp 84) (tp 82)) 0])
   (.seq (.reg [] [
     Ap 85 11 3,
     FB 86 85,
     AQ 11 86 3])
   (.reg [] [
     Ap 87 12 3,
     rq 88 (.binOp .sub 3 (tp 87) (ki 1) 3) 3,
     AQ 12 88 3])))))))))
 (.seq (.reg [] [
   Ap 89 11 3,AQ 10 89 3])
 (.ret)))))
def c93:RC:=
 .seq (.reg [] [
  Cz 10 0 3,rq 11 (.assign (kb false)) 4])
 (.seq (.reg [0, 1, 2, 3, 4, 5, 6, 7, 8, 9, 10, 11, 12, 13, 14, 15] [
   Ap 14 0 27,Ap 15 1 3,Ap 16 0 27,Ap 17 3 3,Ap 18 0 27,Ap 19 3 3,D5 20 27 18 19,Ce 21 20 23,Ap 22 0 27,Ap 23 1 3,D5 24 27 22 23,Ce 25 24 23,D5 26 27 14 15,rn (.store 23 (tp 26) (tp 21)) 0,D5 27 27 16 17,rn (.store 23 (tp 27) (tp 25)) 0])
 (.seq (.reg [] [
   Ap 28 1 3,FB 29 28,Ap 30 2 3,rq 31 (.binOp .sub 3 (tp 30) (ki 1) 3) 3,AQ 12 29 3,AQ 13 31 3])
 (.seq (.block 0 (.loop (.seq (.seq (.reg [0, 1, 2, 3, 4, 5, 6, 7, 8, 9, 10, 11, 12, 13, 14, 15] [
   Ap 32 12 3,
   Ap 33 13 3,
   rq 34 (.binOp .leq 3 (tp 32) (tp 33) 3) 4,
   Ap 35 34 4,
   DD 36 4 104 35 true,
   DD 37 0 27 35 true,
   DD 38 12 3 35 true,
   rg 39 (.indexAddr 27 (tp 37) (tp 38)) 0 35 true,
   rg 40 (.load 23 (tp 39)) 23 35 true,
   DD 41 0 27 35 true,
   DD 42 1 3 35 true,
   rg 43 (.indexAddr 27 (tp 41) (tp 42)) 0 35 true,
   rg 44 (.load 23 (tp 43)) 23 35 true,
   rg 45 (.call ⟨.value (tp 36),#[(tp 40),(tp 44)],#[23,23]⟩) 3 35 true,
   rg 46 (.binOp .lss 3 (tp 45) (ki 0) 3) 4 35 true,
   rq 47 (.pick (tp 35) (tp 46) (kb false)) 4])
   (.cond (tp 47) (.skip)
   (.exit 0)))
   (.block 1 (.reg [] [
     Ap 48 12 3,
     FB 49 48,
     AQ 12 49 3])))))
 (.seq (.block 2 (.loop (.seq (.seq (.reg [0, 1, 2, 3, 4, 5, 6, 7, 8, 9, 10, 11, 12, 13, 14, 15, 16] [
   Ap 50 12 3,
   Ap 51 13 3,
   rq 52 (.binOp .leq 3 (tp 50) (tp 51) 3) 4,
   Ap 53 52 4,
   DD 54 4 104 53 true,
   DD 55 0 27 53 true,
   DD 56 13 3 53 true,
   rg 57 (.indexAddr 27 (tp 55) (tp 56)) 0 53 true,
   rg 58 (.load 23 (tp 57)) 23 53 true,
   DD 59 0 27 53 true,
   DD 60 1 3 53 true,
   rg 61 (.indexAddr 27 (tp 59) (tp 60)) 0 53 true,
   rg 62 (.load 23 (tp 61)) 23 53 true,
   rg 63 (.call ⟨.value (tp 54),#[(tp 58),(tp 62)],#[23,23]⟩) 3 53 true,
   rg 64 (.binOp .lss 3 (tp 63) (ki 0) 3) 4 53 true,
   rg 65 (.unOp .not 4 (tp 64)) 4 53 true,
   rq 66 (.pick (tp 53) (tp 65) (kb false)) 4])
   (.cond (tp 66) (.skip)
   (.exit 2)))
   (.block 3 (.reg [] [
     Ap 67 13 3,
     rq 68 (.binOp .sub 3 (tp 67) (ki 1) 3) 3,
     AQ 13 68 3])))))
 (.seq (.seq (.reg [] [
   Ap 69 12 3,Ap 70 13 3,rq 71 (.binOp .gtr 3 (tp 69) (tp 70) 3) 4])
 (.cond (tp 71) (.seq (.reg [0, 1, 2, 3, 4, 5, 6, 7, 8, 9, 10, 11, 12, 13, 14, 15] [
   Ap 72 0 27,
   Ap 73 13 3,
   Ap 74 0 27,
   Ap 75 1 3,
   Ap 76 0 27,
   Ap 77 1 3,
   D5 78 27 76 77,
   Ce 79 78 23,
   Ap 80 0 27,
   Ap 81 13 3,
   D5 82 27 80 81,
   Ce 83 82 23,
   D5 84 27 72 73,
   rn (.store 23 (tp 84) (tp 79)) 0,
   D5 85 27 74 75,
   rn (.store 23 (tp 85) (tp 83)) 0])
  (.seq (.reg [] [
    Ap 86 13 3,
    AQ 10 86 3,
    rq 11 (.assign (kb true)) 4])
  (.ret)))
 (.skip)))
 (.seq (.reg [0, 1, 2, 3, 4, 5, 6, 7, 8, 9, 10, 11, 12, 13, 14, 15] [
   Ap 87 0 27,Ap 88 12 3,Ap 89 0 27,Ap 90 13 3,Ap 91 0 27,Ap 92 13 3,D5 93 27 91 92,Ce 94 93 23,Ap 95 0 27,Ap 96 12 3,D5 97 27 95 96,Ce 98 97 23,D5 99 27 87 88,rn (.store 23 (tp 99) (tp 94)) 0,D5 100 27 89 90,rn (.store 23 (tp 100) (tp 98)) 0])
 (.seq (.reg [] [
   Ap 101 12 3,FB 102 101,AQ 12 102 3])
 (.seq (.reg [] [
   Ap 103 13 3,rq 104 (.binOp .sub 3 (tp 103) (ki 1) 3) 3,AQ 13 104 3])
 (.seq (.block 4 (.loop (.block 5 (.seq (.block 6 (.loop (.seq (.seq (.reg [0, 1, 2, 3, 4, 5, 6, 7, 8, 9, 10, 11, 12, 13, 14, 15] [
        Ap 105 12 3,
        Ap 106 13 3,
        rq 107 (.binOp .leq 3 (tp 105) (tp 106) 3) 4,
        Ap 108 107 4,
        DD 109 4 104 108 true,
        DD 110 0 27 108 true,
        DD 111 12 3 108 true,
        rg 112 (.indexAddr 27 (tp 110) (tp 111)) 0 108 true,
        rg 113 (.load 23 (tp 112)) 23 108 true,
        DD 114 0 27 108 true,
        DD 115 1 3 108 true,
        rg 116 (.indexAddr 27 (tp 114) (tp 115)) 0 108 true,
        rg 117 (.load 23 (tp 116)) 23 108 true,
        rg 118 (.call ⟨.value (tp 109),#[(tp 113),(tp 117)],#[23,23]⟩) 3 108 true,
        rg 119 (.binOp .lss 3 (tp 118) (ki 0) 3) 4 108 true,
        rq 120 (.pick (tp 108) (tp 119) (kb false)) 4])
   (.cond (tp 120) (.skip)
   (.exit 6)))
   (.block 7 (.reg [] [
     Ap 121 12 3,
     FB 122 121,
     AQ 12 122 3])))))
   (.seq (.block 8 (.loop (.seq (.seq (.reg [0, 1, 2, 3, 4, 5, 6, 7, 8, 9, 10, 11, 12, 13, 14, 15, 16] [
     Ap 123 12 3,
     Ap 124 13 3,
     rq 125 (.binOp .leq 3 (tp 123) (tp 124) 3) 4,
     Ap 126 125 4,
     DD 127 4 104 126 true,
     DD 128 0 27 126 true,
     DD 129 13 3 126 true,
     rg 130 (.indexAddr 27 (tp 128) (tp 129)) 0 126 true,
     rg 131 (.load 23 (tp 130)) 23 126 true,
     DD 132 0 27 126 true,
     DD 133 1 3 126 true,
     rg 134 (.indexAddr 27 (tp 132) (tp 133)) 0 126 true,
     rg 135 (.load 23 (tp 134)) 23 126 true,
     rg 136 (.call ⟨.value (tp 127),#[(tp 131),(tp 135)],#[23,23]⟩) 3 126 true,
     rg 137 (.binOp .lss 3 (tp 136) (ki 0) 3) 4 126 true,
     rg 138 (.unOp .not 4 (tp 137)) 4 126 true,
     rq 139 (.pick (tp 126) (tp 138) (kb false)) 4])
     (.cond (tp 139) (.skip)
     (.exit 8)))
     (.block 9 (.reg [] [
       Ap 140 13 3,
       rq 141 (.binOp .sub 3 (tp 140) (ki 1) 3) 3,
       AQ 13 141 3])))))
   (.seq (.seq (.reg [] [
     Ap 142 12 3,
     Ap 143 13 3,
     rq 144 (.binOp .gtr 3 (tp 142) (tp 143) 3) 4])
   (.cond (tp 144) (.exit 4)
   (.skip)))
   (.seq (.reg [0, 1, 2, 3, 4, 5, 6, 7, 8, 9, 10, 11, 12, 13, 14, 15] [
     Ap 145 0 27,
     Ap 146 12 3,
     Ap 147 0 27,
     Ap 148 13 3,
     Ap 149 0 27,
     Ap 150 13 3,
     D5 151 27 149 150,
     Ce 152 151 23,
     Ap 153 0 27,
     Ap 154 12 3,
     D5 155 27 153 154,
     Ce 156 155 23,
     D5 157 27 145 146,
     rn (.store 23 (tp 157) (tp 152)) 0,
     D5 158 27 147 148,
     rn (.store 23 (tp 158) (tp 156)) 0])
   (.seq (.reg [] [
     Ap 159 12 3,
     FB 160 159,
     AQ 12 160 3])
   (.reg [] [
     Ap 161 13 3,
     rq 162 (.binOp .sub 3 (tp 161) (ki 1) 3) 3,
     AQ 13 162 3])))))))))
 (.seq (.reg [0, 1, 2, 3, 4, 5, 6, 7, 8, 9, 10, 11, 12, 13, 14, 15] [
   Ap 163 0 27,Ap 164 13 3,Ap 165 0 27,Ap 166 1 3,Ap 167 0 27,Ap 168 1 3,D5 169 27 167 168,Ce 170 169 23,Ap 171 0 27,Ap 172 13 3,D5 173 27 171 172,Ce 174 173 23,D5 175 27 163 164,rn (.store 23 (tp 175) (tp 170)) 0,D5 176 27 165 166,rn (.store 23 (tp 176) (tp 174)) 0])
 (.seq (.reg [] [
   Ap 177 13 3,AQ 10 177 3,rq 11 (.assign (kb false)) 4])
 (.ret))))))))))))
def c94:RC:=
 .seq (.reg [] [
  Cz 2 0 3])
 (.seq (.seq (.reg [] [
   Ap 3 0 152,rq 4 (.binOp .geq 152 (tp 3) (.const (.int .u32 65536)) 152) 4])
 (.cond (tp 4) (.seq (.reg [] [
   Ap 5 0 152,
   rq 6 (.binOp .shr 152 (tp 5) (.const (.int .u64 16)) 128) 152,
   AQ 0 6 152])
  (.reg [] [
    Cz 2 16 3]))
 (.skip)))
 (.seq (.seq (.reg [] [
   Ap 7 0 152,rq 8 (.binOp .geq 152 (tp 7) (.const (.int .u32 256)) 152) 4])
 (.cond (tp 8) (.seq (.reg [] [
   Ap 9 0 152,
   rq 10 (.binOp .shr 152 (tp 9) (.const (.int .u64 8)) 128) 152,
   AQ 0 10 152])
  (.reg [] [
    Ap 11 2 3,
    rq 12 (.binOp .add 3 (tp 11) (ki 8) 3) 3,
    AQ 2 12 3]))
 (.skip)))
 (.seq (.reg [] [
   Ap 13 2 3,Ap 14 0 152,rq 15 (.convert 152 5 (tp 14)) 5,rq 16 (.index 9 (.const (.string ⟨#[0,1,2,2,3,3,3,3,4,4,4,4,4,4,4,4,5,5,5,5,5,5,5,5,5,5,5,5,5,5,5,5,6,6,6,6,6,6,6,6,6,6,6,6,6,6,6,6,6,6,6,6,6,6,6,6,6,6,6,6,6,6,6,6,7,7,7,7,7,7,7,7,7,7,7,7,7,7,7,7,7,7,7,7,7,7,7,7,7,7,7,7,7,7,7,7,7,7,7,7,7,7,7,7,7,7,7,7,7,7,7,7,7,7,7,7,7,7,7,7,7,7,7,7,7,7,7,7,8,8,8,8,8,8,8,8,8,8,8,8,8,8,8,8,8,8,8,8,8,8,8,8,8,8,8,8,8,8,8,8,8,8,8,8,8,8,8,8,8,8,8,8,8,8,8,8,8,8,8,8,8,8,8,8,8,8,8,8,8,8,8,8,8,8,8,8,8,8,8,8,8,8,8,8,8,8,8,8,8,8,8,8,8,8,8,8,8,8,8,8,8,8,8,8,8,8,8,8,8,8,8,8,8,8,8,8,8,8,8,8,8,8,8,8,8,8,8,8,8,8,8,8,8,8,8,8]⟩)) (tp 15)) 5,rq 17 (.convert 5 3 (tp 16)) 3,rq 18 (.binOp .add 3 (tp 13) (tp 17) 3) 3,AQ 2 18 3])
 (.ret))))
def c95:RC:=O3
def c96:RC:=QS
def c98:RC:=
 .seq (.reg [] [
  rq 2 (.assign (kb false)) 4])
 (.seq (.reg [] [
   rq 2 (.assign (kb true)) 4])
 (.ret))
def c99:RC:=
 .seq (.reg [] [
  rq 2 (.assign (.const (.slice none 0 0))) 23])
 (.seq (.reg [] [
   Ap 6 0 116,rq 7 (.nilCheck (tp 6)) 0,DR 8 139 7 0,DR 9 92 8 0,Ce 10 9 3,rq 11 (.makeSlice 23 (tp 10) (tp 10)) 23,AQ 3 11 23])
 (.seq (.seq (.reg [] [
   Ap 12 0 116,rq 13 (.nilCheck (tp 12)) 0,DR 14 139 13 0,DR 15 92 14 1,Ce 16 15 90,EN 17 16 90,rq 18 (.move (ki 0)) 3])
 (.block 0 (.loop (.seq (.reg [] [
   L8 19 18 17])
   (.seq (.cond (tp 19) (.skip)
   (.exit 0))
   (.seq (.block 1 (.seq (.reg [] [
     Ap 20 18 3,
     D5 21 90 16 18,
     Ce 22 21 89,
     rq 5 (.alloc 89) 0,
     AQ 4 20 3,
     rn (.store 89 (tp 5) (tp 22)) 0])
    (.seq (.reg [0, 1, 2, 3, 4, 5, 6, 7, 8, 9, 10, 11, 12, 13, 14] [
      Ap 23 3 23,
      DR 24 89 5 1,
      Ce 25 24 3,
      D5 26 23 23 25,
      Ce 27 26 3,
      Ap 28 0 116,
      rq 29 (.nilCheck (tp 28)) 0,
      DR 30 139 29 1,
      Ce 31 30 23,
      Ap 32 4 3,
      D5 33 23 31 32,
      Ce 34 33 3,
      rq 35 (.binOp .add 3 (tp 27) (tp 34) 3) 3,
      D5 36 23 23 25,
      rn (.store 3 (tp 36) (tp 35)) 0])
    (.reg [0, 1, 2, 3, 4, 5, 6, 7, 8, 9, 10, 11, 12, 13, 14] [
      Ap 37 3 23,
      DR 38 89 5 0,
      Ce 39 38 3,
      D5 40 23 37 39,
      Ce 41 40 3,
      Ap 42 0 116,
      rq 43 (.nilCheck (tp 42)) 0,
      DR 44 139 43 1,
      Ce 45 44 23,
      Ap 46 4 3,
      D5 47 23 45 46,
      Ce 48 47 3,
      rq 49 (.binOp .sub 3 (tp 41) (tp 48) 3) 3,
      D5 50 23 37 39,
      rn (.store 3 (tp 50) (tp 49)) 0]))))
   (.reg [] [
     FB 51 18,
     Ap 18 51 3])))))))
 (.seq (.reg [] [
   Ap 52 3 23,AQ 2 52 23])
 (.ret))))
def X4:RC:=
 .seq (.reg [] [
  rq 2 (.assign (kb false)) 4])
 (.seq (.reg [] [
   Ap 3 0 3,rq 4 (.binOp .neq 3 (tp 3) (ki 0) 3) 4,AQ 2 4 4])
 (.ret))
def X5:RC:=
 .seq (.reg [] [
  rq 8 (.assign (.const (.map none))) 156])
 (.seq (.reg [] [
   rq 17 (.makeMap 171 none) 171,Ap 18 1 3,rq 19 (.build 170 #[(0,(ki (-1)))]) 170,rn (.insert 171 (tp 17) (tp 18) (tp 19)) 0,Ap 20 17 171,rq 9 (.alloc 171) 0,rn (.store 171 (tp 9) (tp 20)) 0])
 (.seq (.seq (.reg [] [
   Ap 21 1 3,rq 22 (.buildSlice 23 1 #[(0,(tp 21))]) 23,rq 10 (.alloc 23) 0,rn (.store 23 (tp 10) (tp 22)) 0])
 (.block 0 (.loop (.seq (.seq (.reg [] [
   Ce 23 10 23,
   EN 24 23 23,
   rq 25 (.binOp .gtr 3 (tp 24) (ki 0) 3) 4])
   (.cond (tp 25) (.skip)
   (.exit 0)))
   (.seq (.block 1 (.seq (.reg [] [
     Ce 28 10 23,
     rq 29 (.indexAddr 23 (tp 28) (ki 0)) 0,
     Ce 30 29 3,
     rq 11 (.alloc 3) 0,
     rn (.store 3 (tp 11) (tp 30)) 0])
    (.seq (.seq (.reg [] [
      Ce 31 11 3,
      Ap 32 2 3,
      rq 33 (.binOp .eql 3 (tp 31) (tp 32) 3) 4])
    (.cond (tp 33) (.seq (.reg [] [
      rq 34 (.makeMap 156 none) 156,
      AQ 12 34 156])
     (.seq (.block 2 (.loop (.seq (.seq (.reg [] [
       Ce 35 11 3,
       Ap 36 1 3,
       rq 37 (.binOp .neq 3 (tp 35) (tp 36) 3) 4])
       (.cond (tp 37) (.skip)
       (.exit 2)))
       (.block 3 (.seq (.reg [] [
         Ce 38 9 171,
         Ce 39 11 3,
         rq 40 (.lookup 171 (tp 38) (tp 39) false) 170,
         rq 13 (.alloc 170) 0,
         rn (.store 170 (tp 13) (tp 40)) 0])
        (.seq (.reg [] [
          Ap 41 12 156,
          DR 42 170 13 0,
          Ce 43 42 3,
          DR 44 170 13 2,
          Ce 45 44 4,
          rn (.mapUpdate 156 (tp 41) (tp 43) (tp 45)) 0])
        (.reg [] [
          DR 46 170 13 1,
          Ce 47 46 3,
          rn (.store 3 (tp 11) (tp 47)) 0])))))))
     (.seq (.reg [] [
       Ap 48 12 156,
       AQ 8 48 156])
     (.ret))))
    (.skip)))
    (.seq (.reg [] [
      rq 49 (.makeFunc (.func 113) #[] #[(tp 9),(tp 11),(tp 10)]) 173,
      AQ 14 49 173])
    (.seq (.reg [] [
      Ap 50 0 116,
      rq 51 (.nilCheck (tp 50)) 0,
      DR 52 139 51 0,
      DR 53 92 52 1,
      Ce 54 53 90,
      EN 55 54 90,
      rq 56 (.move (ki 0)) 3])
    (.block 4 (.loop (.seq (.reg [] [
      L8 57 56 55])
      (.seq (.cond (tp 57) (.skip)
      (.exit 4))
      (.seq (.block 5 (.seq (.reg [] [
        Ap 58 56 3,
        D5 59 90 54 56,
        Ce 60 59 89,
        rq 16 (.alloc 89) 0,
        AQ 15 58 3,
        rn (.store 89 (tp 16) (tp 60)) 0])
       (.seq (.seq (.reg [0, 1, 2, 3, 4, 5, 6, 7, 8, 9, 10, 11, 12, 13, 14, 15, 16, 17, 18, 19, 20] [
         DR 61 89 16 0,
         Ce 62 61 3,
         Ce 63 11 3,
         rq 64 (.binOp .eql 3 (tp 62) (tp 63) 3) 4,
         Ap 65 64 4,
         DD 66 0 116 65 true,
         rg 67 (.nilCheck (tp 66)) 0 65 true,
         rg 68 (.fieldAddr 139 (tp 67) 1) 0 65 true,
         rg 69 (.load 23 (tp 68)) 23 65 true,
         DD 70 15 3 65 true,
         rg 71 (.indexAddr 23 (tp 69) (tp 70)) 0 65 true,
         rg 72 (.load 3 (tp 71)) 3 65 true,
         rg 73 (.fieldAddr 89 (tp 16) 3) 0 65 true,
         rg 74 (.load 3 (tp 73)) 3 65 true,
         rg 75 (.binOp .lss 3 (tp 72) (tp 74) 3) 4 65 true,
         rq 76 (.pick (tp 65) (tp 75) (kb false)) 4,
         Ap 77 76 4,
         DD 78 3 84 77 true,
         DD 79 15 3 77 true,
         rg 80 (.call ⟨.value (tp 78),#[(tp 79)],#[3]⟩) 4 77 true,
         rq 81 (.pick (tp 77) (tp 80) (kb false)) 4])
       (.cond (tp 81) (.reg [] [
         Ap 82 14 173,
         DR 83 89 16 1,
         Ce 84 83 3,
         Ap 85 15 3,
         rq 86 (.call ⟨.value (tp 82),#[(tp 84),(tp 85),(kb true)],#[3,3,4]⟩) 0])
       (.skip)))
       (.seq (.reg [0, 1, 2, 3, 4, 5, 6, 7, 8, 9, 10, 11, 12, 13, 14, 15, 16, 17, 18, 19, 20] [
         DR 87 89 16 1,
         Ce 88 87 3,
         Ce 89 11 3,
         rq 90 (.binOp .eql 3 (tp 88) (tp 89) 3) 4,
         Ap 91 90 4,
         DD 92 0 116 91 true,
         rg 93 (.nilCheck (tp 92)) 0 91 true,
         rg 94 (.fieldAddr 139 (tp 93) 1) 0 91 true,
         rg 95 (.load 23 (tp 94)) 23 91 true,
         DD 96 15 3 91 true,
         rg 97 (.indexAddr 23 (tp 95) (tp 96)) 0 91 true,
         rg 98 (.load 3 (tp 97)) 3 91 true,
         rg 99 (.fieldAddr 89 (tp 16) 2) 0 91 true,
         rg 100 (.load 3 (tp 99)) 3 91 true,
         rg 101 (.binOp .gtr 3 (tp 98) (tp 100) 3) 4 91 true,
         rq 102 (.pick (tp 91) (tp 101) (kb false)) 4,
         Ap 103 102 4,
         DD 104 3 84 103 true,
         DD 105 15 3 103 true,
         rg 106 (.call ⟨.value (tp 104),#[(tp 105)],#[3]⟩) 4 103 true,
         rq 107 (.pick (tp 103) (tp 106) (kb false)) 4])
       (.cond (tp 107) (.reg [] [
         Ap 108 14 173,
         DR 109 89 16 0,
         Ce 110 109 3,
         Ap 111 15 3,
         rq 112 (.call ⟨.value (tp 108),#[(tp 110),(tp 111),(kb false)],#[3,3,4]⟩) 0])
       (.skip))))))
      (.reg [] [
        FB 113 56,
        Ap 56 113 3])))))))))))
   (.seq (.seq (.reg [] [
     Ce 114 10 23])
   (.reg [] [
     rq 10 (.alloc 23) 0,
     rn (.store 23 (tp 10) (tp 114)) 0]))
   (.reg [] [
     Ce 26 10 23,
     rq 27 (.slice 23 (tp 26) (some (ki 1)) none none) 23,
     rn (.store 23 (tp 10) (tp 27)) 0])))))))
 (.seq (.reg [] [
   rq 8 (.assign (.const (.map none))) 156])
 (.ret))))
def V3:RC:=Hy
def X6:RC:=
 .seq (.reg [] [
  rq 4 (.assign (kb false)) 4])
 (.seq (.reg [] [
   Ap 5 0 3,Ce 6 1 3,rq 7 (.binOp .neq 3 (tp 5) (tp 6) 3) 4,Ap 8 7 4,rg 9 (.load 84 (tp 2)) 84 8 true,DD 10 0 3 8 true,rg 11 (.call ⟨.value (tp 9),#[(tp 10)],#[3]⟩) 4 8 true,rq 12 (.pick (tp 8) (tp 11) (kb false)) 4,AQ 4 12 4])
 (.ret))
def X7:RC:=
 .seq (.reg [] [
  rq 3 (.assign (kb false)) 4])
 (.seq (.reg [] [
   Ap 4 0 3,Ce 5 1 3,rq 6 (.binOp .neq 3 (tp 4) (tp 5) 3) 4,AQ 3 6 4])
 (.ret))
def X9:RC:=
 .seq (.reg [] [
  rq 2 (.assign (.const (.slice none 0 0))) 23])
 (.seq (.seq (.reg [] [
   Ap 3 0 23,rq 4 (.binOp .eql 23 (tp 3) (.const (.slice none 0 0)) 23) 4])
 (.cond (tp 4) (.seq (.reg [] [
   rq 2 (.assign (.const (.slice none 0 0))) 23])
  (.ret))
 (.skip)))
 (.seq (.reg [] [
   rq 5 (.buildSlice 23 0 #[]) 23,Ap 6 0 23,rq 7 (cb .append #[(tp 5),(tp 6)] #[23,23]) 23,AQ 2 7 23])
 (.ret)))
def Ya:RC:=
 .seq (.reg [] [
  Ap 12 1 3,AQ 10 12 3])
 (.block 0 (.loop (.block 1 (.seq (.reg [] [
   Ap 13 10 3,
   rq 14 (.binOp .mul 3 (ki 2) (tp 13) 3) 3,
   FB 15 14,
   AQ 11 15 3])
   (.seq (.seq (.reg [] [
     Ap 16 11 3,
     Ap 17 2 3,
     rq 18 (.binOp .geq 3 (tp 16) (tp 17) 3) 4])
   (.cond (tp 18) (.exit 0)
   (.skip)))
   (.seq (.seq (.reg [0, 1, 2, 3, 4, 5, 6, 7, 8, 9, 10, 11, 12, 13, 14, 15, 16, 17, 18, 19, 20, 21] [
     Ap 19 11 3,
     FB 20 19,
     Ap 21 2 3,
     rq 22 (.binOp .lss 3 (tp 20) (tp 21) 3) 4,
     Ap 23 22 4,
     DD 24 4 104 23 true,
     DD 25 0 27 23 true,
     DD 26 3 3 23 true,
     DD 27 11 3 23 true,
     rg 28 (.binOp .add 3 (tp 26) (tp 27) 3) 3 23 true,
     rg 29 (.indexAddr 27 (tp 25) (tp 28)) 0 23 true,
     rg 30 (.load 23 (tp 29)) 23 23 true,
     DD 31 0 27 23 true,
     DD 32 3 3 23 true,
     DD 33 11 3 23 true,
     rg 34 (.binOp .add 3 (tp 32) (tp 33) 3) 3 23 true,
     rg 35 (.binOp .add 3 (tp 34) (ki 1) 3) 3 23 true,
     rg 36 (.indexAddr 27 (tp 31) (tp 35)) 0 23 true,
     rg 37 (.load 23 (tp 36)) 23 23 true,
     rg 38 (.call ⟨.value (tp 24),#[(tp 30),(tp 37)],#[23,23]⟩) 3 23 true,
     rg 39 (.binOp .lss 3 (tp 38) (ki 0) 3) 4 23 true,
     rq 40 (.pick (tp 23) (tp 39) (kb false)) 4])
   (.cond (tp 40) (.reg [] [
     Ap 41 11 3,
     FB 42 41,
     AQ 11 42 3])
   (.skip)))
   (.seq (.seq (.reg [0, 1, 2, 3, 4, 5, 6, 7, 8, 9, 10, 11, 12, 13, 14, 15] [
     Ap 43 4 104,
     Ap 44 0 27,
     Ap 45 3 3,
     Ap 46 10 3,
     rq 47 (.binOp .add 3 (tp 45) (tp 46) 3) 3,
     D5 48 27 44 47,
     Ce 49 48 23,
     Ap 50 0 27,
     Ap 51 3 3,
     Ap 52 11 3,
     rq 53 (.binOp .add 3 (tp 51) (tp 52) 3) 3,
     D5 54 27 50 53,
     Ce 55 54 23,
     rq 56 (.call ⟨.value (tp 43),#[(tp 49),(tp 55)],#[23,23]⟩) 3,
     rq 57 (.binOp .lss 3 (tp 56) (ki 0) 3) 4,
     rq 58 (.unOp .not 4 (tp 57)) 4])
   (.cond (tp 58) (.ret)
   (.skip)))
   (.seq (.reg [0, 1, 2, 3, 4, 5, 6, 7, 8, 9, 10, 11, 12, 13, 14, 15, 16, 17, 18, 19, 20, 21, 22, 23] [
     Ap 59 0 27,
     Ap 60 3 3,
     Ap 61 10 3,
     rq 62 (.binOp .add 3 (tp 60) (tp 61) 3) 3,
     Ap 63 0 27,
     Ap 64 3 3,
     Ap 65 11 3,
     rq 66 (.binOp .add 3 (tp 64) (tp 65) 3) 3,
     Ap 67 0 27,
     Ap 68 3 3,
     Ap 69 11 3,
     rq 70 (.binOp .add 3 (tp 68) (tp 69) 3) 3,
     D5 71 27 67 70,
     Ce 72 71 23,
     Ap 73 0 27,
     Ap 74 3 3,
     Ap 75 10 3,
     rq 76 (.binOp .add 3 (tp 74) (tp 75) 3) 3,
     D5 77 27 73 76,
     Ce 78 77 23,
     D5 79 27 59 62,
     rn (.store 23 (tp 79) (tp 72)) 0,
     D5 80 27 63 66,
     rn (.store 23 (tp 80) (tp 78)) 0])
   (.reg [] [
     Ap 81 11 3,
     AQ 10 81 3])))))))))
def Yb:RC:=
 .seq (.reg [] [
  rq 2 (.assign (.const (.int .u64 0))) 128])
 (.seq (.reg [] [
   Ap 3 0 3,rq 4 (.convert 3 128 (tp 3)) 128,rq 5 (cf 69 #[(tp 4)] #[128]) 3,rq 6 (.binOp .shl 128 (.const (.int .u64 1)) (tp 5) 3) 128,AQ 2 6 128])
 (.ret))
def Yc:RC:=
 .seq (.reg [] [
  rq 2 (.assign (.const (.int .u64 0))) 70])
 (.seq (.reg [0, 1, 2, 3, 4, 5, 6, 7, 8, 9] [
   Ap 3 0 175,rq 4 (.nilCheck (tp 3)) 0,Ce 5 4 163,Ap 6 0 175,rq 7 (.nilCheck (tp 6)) 0,Ce 8 7 163,rq 9 (.binOp .shl 163 (tp 8) (.const (.int .u64 13)) 128) 163,rq 10 (.binOp .xor 163 (tp 5) (tp 9) 163) 163,rq 11 (.nilCheck (tp 3)) 0,rn (.store 163 (tp 11) (tp 10)) 0])
 (.seq (.reg [0, 1, 2, 3, 4, 5, 6, 7, 8, 9] [
   Ap 12 0 175,rq 13 (.nilCheck (tp 12)) 0,Ce 14 13 163,Ap 15 0 175,rq 16 (.nilCheck (tp 15)) 0,Ce 17 16 163,rq 18 (.binOp .shr 163 (tp 17) (.const (.int .u64 7)) 128) 163,rq 19 (.binOp .xor 163 (tp 14) (tp 18) 163) 163,rq 20 (.nilCheck (tp 12)) 0,rn (.store 163 (tp 20) (tp 19)) 0])
 (.seq (.reg [0, 1, 2, 3, 4, 5, 6, 7, 8, 9] [
   Ap 21 0 175,rq 22 (.nilCheck (tp 21)) 0,Ce 23 22 163,Ap 24 0 175,rq 25 (.nilCheck (tp 24)) 0,Ce 26 25 163,rq 27 (.binOp .shl 163 (tp 26) (.const (.int .u64 17)) 128) 163,rq 28 (.binOp .xor 163 (tp 23) (tp 27) 163) 163,rq 29 (.nilCheck (tp 21)) 0,rn (.store 163 (tp 29) (tp 28)) 0])
 (.seq (.reg [] [
   Ap 30 0 175,rq 31 (.nilCheck (tp 30)) 0,Ce 32 31 163,AQ 2 32 70])
 (.ret)))))
def Yd:RC:=
 .seq (.reg [] [
  Cz 8 0 3])
 (.seq (.reg [] [
   Ap 9 0 27,Ap 10 1 3,rq 11 (.binOp .sub 3 (tp 10) (ki 1) 3) 3,Ap 12 1 3,Ap 13 1 3,FB 14 13,Ap 15 2 167,Ap 16 3 104,rq 17 (cf 112 #[(tp 9),(tp 11),(tp 12),(tp 14),(tp 15),(tp 16)] #[27,3,3,3,167,104]) 3,AQ 8 17 3])
 (.ret))
def Ye:RC:=
 .seq (.reg [] [
  Cz 12 0 3])
 (.seq (.reg [] [
   Ap 14 0 27,Ap 15 1 3,Ap 16 2 3,Ap 17 4 167,Ap 18 5 104,rq 19 (cf 115 #[(tp 14),(tp 15),(tp 16),(tp 17),(tp 18)] #[27,3,3,167,104]) 95,Ap 13 19 95,EM 20 13 0 3,EM 21 13 1 3,AQ 1 20 3,AQ 2 21 3])
 (.seq (.reg [] [
   Ap 23 0 27,Ap 24 2 3,Ap 25 3 3,Ap 26 4 167,Ap 27 5 104,rq 28 (cf 115 #[(tp 23),(tp 24),(tp 25),(tp 26),(tp 27)] #[27,3,3,167,104]) 95,Ap 22 28 95,EM 29 22 0 3,EM 30 22 1 3,AQ 2 29 3,AQ 3 30 3])
 (.seq (.reg [] [
   Ap 32 0 27,Ap 33 1 3,Ap 34 2 3,Ap 35 4 167,Ap 36 5 104,rq 37 (cf 115 #[(tp 32),(tp 33),(tp 34),(tp 35),(tp 36)] #[27,3,3,167,104]) 95,Ap 31 37 95,EM 38 31 0 3,EM 39 31 1 3,AQ 1 38 3,AQ 2 39 3])
 (.seq (.reg [] [
   Ap 40 2 3,AQ 12 40 3])
 (.ret)))))
def Yf:RC:=
 .seq (.reg [] [
  Ce 12 3 171,Ap 13 0 3,rq 14 (.lookup 171 (tp 12) (tp 13) true) 172,Ap 11 14 172,EM 15 11 0 170,EM 16 11 1 4,rq 9 (.alloc 170) 0,rn (.store 170 (tp 9) (tp 15)) 0,AQ 10 16 4])
 (.seq (.reg [] [
   Ap 17 10 4,rq 18 (.unOp .not 4 (tp 17)) 4])
 (.cond (tp 18) (.seq (.reg [] [
   Ce 19 3 171,
   Ap 20 0 3,
   Ap 21 1 3,
   Ce 22 4 3,
   Ap 23 2 4,
   rq 24 (.build 170 #[(0,(tp 21)),(1,(tp 22)),(2,(tp 23))]) 170,
   rn (.mapUpdate 171 (tp 19) (tp 20) (tp 24)) 0])
  (.reg [] [
    Ce 25 5 23,
    Ap 26 0 3,
    rq 27 (.buildSlice 23 1 #[(0,(tp 26))]) 23,
    rq 28 (cb .append #[(tp 25),(tp 27)] #[23,23]) 23,
    rn (.store 23 (tp 5) (tp 28)) 0]))
 (.skip)))
def Yg:RC:=
 .seq (.reg [] [
  Cz 10 0 3,Cz 11 0 3])
 (.seq (.seq (.reg [0, 1, 2, 3, 4, 5, 6, 7, 8, 9, 10] [
   Ap 12 4 104,Ap 13 0 27,Ap 14 2 3,D5 15 27 13 14,Ce 16 15 23,Ap 17 0 27,Ap 18 1 3,D5 19 27 17 18,Ce 20 19 23,rq 21 (.call ⟨.value (tp 12),#[(tp 16),(tp 20)],#[23,23]⟩) 3,rq 22 (.binOp .lss 3 (tp 21) (ki 0) 3) 4])
 (.cond (tp 22) (.seq (.reg [] [
   Ap 23 3 167,
   rq 24 (.nilCheck (tp 23)) 0,
   Ce 25 24 3,
   FB 26 25,
   rq 27 (.nilCheck (tp 23)) 0,
   rn (.store 3 (tp 27) (tp 26)) 0])
  (.seq (.reg [] [
    Ap 28 2 3,
    Ap 29 1 3,
    AQ 10 28 3,
    AQ 11 29 3])
  (.ret)))
 (.skip)))
 (.seq (.reg [] [
   Ap 30 1 3,Ap 31 2 3,AQ 10 30 3,AQ 11 31 3])
 (.ret)))
def ti3:TI:=⟨.int .i64,1,8,(some (.int .i64 0)),false⟩
def ti4:TI:=⟨.bool,1,1,(some (.bool false)),false⟩
def ti5:TI:=⟨.int .u8,1,1,(some (.int .u8 0)),false⟩
def ti9:TI:=⟨.string,1,16,(some (.string ⟨#[]⟩)),false⟩
def AdB:TI:=⟨.slice 3,1,24,(some (.slice none 0 0)),false⟩
def AdC : TI := ⟨.struct #[⟨ "Rows", 3, 0, false, "", "", 0⟩, ⟨ "Columns", 3, 1, false, "", "", 8⟩, ⟨ "Colours", 3, 2, false, "", "", 16⟩, ⟨ "Turns", 23, 3, false, "", "", 24⟩], 4, 48, (some (.agg #[(.int .i64 0), (.int .i64 0), (.int .i64 0), (.slice none 0 0)])), false⟩
def AdD:TI:=⟨.slice 23,1,24,(some (.slice none 0 0)),false⟩
def AdE:TI:=⟨.int .i64,1,8,(some (.int .i64 0)),false⟩
def AdF : TI := ⟨.struct #[⟨ "Rows", 3, 0, false, "", "", 0⟩, ⟨ "Columns", 3, 1, false, "", "", 8⟩, ⟨ "Long", 3, 2, false, "", "", 16⟩, ⟨ "Wide", 3, 3, false, "", "", 24⟩], 4, 32, (some (.agg #[(.int .i64 0), (.int .i64 0), (.int .i64 0), (.int .i64 0)])), true⟩
def AdG:TI:=⟨.slice 46,1,24,(some (.slice none 0 0)),false⟩
def AdH:TI:=⟨.array 3 3,3,24,(some (.agg #[(.int .i64 0),(.int .i64 0),(.int .i64 0)])),true⟩
def AdI : TI := ⟨.struct #[⟨ "Row", 3, 0, false, "", "", 0⟩, ⟨ "Column", 3, 1, false, "", "", 8⟩, ⟨ "Turned", 4, 2, false, "", "", 16⟩], 3, 24, (some (.agg #[(.int .i64 0), (.int .i64 0), (.bool false)])), true⟩
def AdJ:TI:=⟨.func #[23,23] #[4] false,1,8,(some .nilFunc),false⟩
def AdK:TI:=⟨.pointer 59,1,8,(some (.pointer none)),false⟩
def AdL : TI := ⟨.struct #[⟨ "Press", 26, 0, true, "", "", 0⟩, ⟨ "from", 27, 4, false, "", "spadille/back", 48⟩], 5, 72, (some (.agg #[(.int .i64 0), (.int .i64 0), (.int .i64 0), (.slice none 0 0), (.slice none 0 0)])), false⟩
def AdM:TI:=⟨.int .u16,1,2,(some (.int .u16 0)),false⟩
def AdN:TI:=⟨.int .u64,1,8,(some (.int .u64 0)),false⟩
def AdO:TI:=⟨.int .u64,1,8,(some (.int .u64 0)),false⟩
def AdP:TI:=⟨.array 2 71,2,16,(some (.agg #[(.int .u64 0),(.int .u64 0)])),true⟩
def AdQ : TI := ⟨.struct #[⟨ "Sheet", 38, 0, true, "", "", 0⟩, ⟨ "blocks", 72, 4, false, "", "spadille/cut", 32⟩, ⟨ "full", 71, 6, false, "", "spadille/cut", 48⟩], 7, 56, (some (.agg #[(.int .i64 0), (.int .i64 0), (.int .i64 0), (.int .i64 0), (.int .u64 0), (.int .u64 0), (.int .u64 0)])), true⟩
def AdR:TI:=⟨.map 71 3,1,8,(some (.map none)),false⟩
def AdS : TI := ⟨.struct #[⟨ "of", 77, 0, false, "", "spadille/cut", 0⟩], 1, 8, (some (.agg #[(.map none)])), false⟩
def AdT:TI:=⟨.func #[46,71] #[4] false,1,8,(some .nilFunc),false⟩
def AdU:TI:=⟨.func #[3] #[4] false,1,8,(some .nilFunc),false⟩
def AdV : TI := ⟨.struct #[⟨ "From", 3, 0, false, "", "", 0⟩, ⟨ "To", 3, 1, false, "", "", 8⟩, ⟨ "Least", 3, 2, false, "", "", 16⟩, ⟨ "Most", 3, 3, false, "", "", 24⟩], 4, 32, (some (.agg #[(.int .i64 0), (.int .i64 0), (.int .i64 0), (.int .i64 0)])), true⟩
def AdW:TI:=⟨.slice 89,1,24,(some (.slice none 0 0)),false⟩
def AdX : TI := ⟨.struct #[⟨ "Rooms", 3, 0, false, "", "", 0⟩, ⟨ "Ways", 90, 1, false, "", "", 8⟩], 2, 32, (some (.agg #[(.int .i64 0), (.slice none 0 0)])), false⟩
def Zu:TI:=⟨.func #[23,23] #[3] false,1,8,(some .nilFunc),false⟩
def Zv:TI:=⟨.slice 4,1,24,(some (.slice none 0 0)),false⟩
def Zw:TI:=⟨.func #[] #[3] false,1,8,(some .nilFunc),false⟩
def Zx:TI:=⟨.pointer 139,1,8,(some (.pointer none)),false⟩
def Zy : TI := ⟨.struct #[⟨ "quarters", 3, 0, false, "", "spadille/back", 0⟩, ⟨ "flipped", 4, 1, false, "", "spadille/back", 8⟩], 2, 16, (some (.agg #[(.int .i64 0), (.bool false)])), true⟩
def Zz:TI:=⟨.int .u64,1,8,(some (.int .u64 0)),false⟩
def ZA:TI:=⟨.array 17 3,17,136,(some (.agg #[(.int .i64 0),(.int .i64 0),(.int .i64 0),(.int .i64 0),(.int .i64 0),(.int .i64 0),(.int .i64 0),(.int .i64 0),(.int .i64 0),(.int .i64 0),(.int .i64 0),(.int .i64 0),(.int .i64 0),(.int .i64 0),(.int .i64 0),(.int .i64 0),(.int .i64 0)])),true⟩
def ZB : TI := ⟨.struct #[⟨ "books", 92, 0, false, "", "spadille/stamp", 0⟩, ⟨ "n", 23, 2, false, "", "spadille/stamp", 32⟩], 3, 56, (some (.agg #[(.int .i64 0), (.slice none 0 0), (.slice none 0 0)])), false⟩
def ZC:TI:=⟨.int .i64,1,8,(some (.int .i64 0)),false⟩
def ZE:TI:=⟨.int .u32,1,4,(some (.int .u32 0)),false⟩
def ZF:TI:=⟨.map 3 4,1,8,(some (.map none)),false⟩
def ZG:TI:=⟨.int .u64,1,8,(some (.int .u64 0)),false⟩
def ZH:TI:=⟨.pointer 3,1,8,(some (.pointer none)),false⟩
def ZI : TI := ⟨.struct #[⟨ "way", 3, 0, false, "", "spadille/stamp", 0⟩, ⟨ "room", 3, 1, false, "", "spadille/stamp", 8⟩, ⟨ "more", 4, 2, false, "", "spadille/stamp", 16⟩], 3, 24, (some (.agg #[(.int .i64 0), (.int .i64 0), (.bool false)])), true⟩
def ZJ:TI:=⟨.map 3 170,1,8,(some (.map none)),false⟩
def AdY:Tr TI:=(.node none (.node none (.node (some ti3) (.node none (.node none .nil (.node none (.node (some AdS) .nil .nil) .nil)) (.node (some AdB) (.node (some AdG) (.node (some AdO) .nil .nil) (.node none (.node (some ZH) .nil .nil) .nil)) .nil)) (.node none (.node none (.node none .nil (.node none (.node (some ZG) .nil .nil) .nil)) (.node none .nil (.node (some Zw) .nil .nil))) (.node (some AdD) (.node none (.node none (.node (some ZB) .nil .nil) .nil) (.node none (.node (some ZJ) .nil .nil) .nil)) (.node (some AdL) .nil .nil)))) (.node (some ti5) (.node (some ti9) (.node none .nil (.node none (.node none (.node (some ZC) .nil .nil) .nil) (.node (some Zv) .nil .nil))) (.node none .nil (.node none (.node (some AdV) .nil .nil) .nil))) (.node none .nil (.node none (.node none (.node (some AdR) .nil .nil) .nil) .nil)))) (.node none (.node (some ti4) (.node none (.node none (.node none (.node none (.node (some Zz) .nil .nil) .nil) .nil) .nil) (.node none (.node none (.node (some AdP) .nil .nil) (.node (some Zu) .nil .nil)) (.node none (.node none (.node (some ZE) .nil .nil) .nil) .nil))) (.node none (.node none .nil (.node none (.node (some AdU) .nil .nil) (.node (some Zx) .nil .nil))) (.node (some AdE) (.node (some AdH) .nil .nil) (.node (some AdM) (.node (some AdX) (.node (some ZF) .nil .nil) .nil) .nil)))) (.node none (.node none (.node none .nil (.node (some AdJ) (.node (some AdT) .nil .nil) .nil)) (.node (some AdC) (.node none (.node (some AdQ) .nil .nil) (.node none (.node (some ZI) .nil .nil) .nil)) (.node none (.node (some AdW) .nil .nil) (.node (some Zy) .nil .nil)))) (.node none (.node none (.node (some AdF) (.node (some AdN) (.node (some ZA) .nil .nil) .nil) .nil) (.node (some AdK) .nil .nil)) (.node none (.node (some AdI) .nil .nil) .nil)))))
noncomputable def tt:TT:=AdY.get
def AdZ:Tr Xq:=(.node none (.node none (.node none (.node none (.node (some ⟨23,c15,[.tmp 4,.tmp 5]⟩) (.node (some ⟨29,c31,[.tmp 2]⟩) (.node (some ⟨18,c63,[.cell 2 122]⟩) .nil .nil) (.node (some ⟨25,c95,[.tmp 2]⟩) .nil .nil)) (.node (some ⟨26,c47,[.tmp 4]⟩) (.node (some ⟨15,c79,[.tmp 6]⟩) .nil .nil) (.node (some ⟨18,Yd,[.tmp 8]⟩) .nil .nil))) (.node none (.node (some ⟨63,c39,[.tmp 6,.tmp 7]⟩) (.node (some ⟨19,c71,[.tmp 4]⟩) .nil .nil) .nil) (.node (some ⟨24,c55,[.tmp 4,.tmp 5]⟩) (.node (some ⟨60,c87,[]⟩) .nil .nil) .nil))) (.node (some ⟨32,c11,[.tmp 2,.tmp 3]⟩) (.node (some ⟨33,c19,[.tmp 4,.tmp 5]⟩) (.node (some ⟨25,c35,[.tmp 4,.tmp 5,.tmp 6]⟩) (.node (some ⟨25,c67,[.tmp 2]⟩) .nil .nil) (.node (some ⟨53,c99,[.tmp 2]⟩) .nil .nil)) (.node none (.node (some ⟨28,c83,[]⟩) .nil .nil) (.node (some ⟨32,Yg,[.tmp 10,.tmp 11]⟩) .nil .nil))) (.node (some ⟨35,c27,[.cell 2 74,.tmp 3]⟩) (.node (some ⟨34,c43,[.tmp 4]⟩) (.node (some ⟨50,c75,[.cell 4 134]⟩) .nil .nil) .nil) (.node (some ⟨7,c59,[.tmp 2]⟩) (.node (some ⟨141,c91,[.tmp 8]⟩) .nil .nil) .nil)))) (.node (some ⟨4,c5,[.tmp 2]⟩) (.node none (.node (some ⟨26,c17,[.tmp 4]⟩) (.node (some ⟨17,c33,[.tmp 4]⟩) (.node (some ⟨22,c65,[.cell 4 122]⟩) .nil .nil) .nil) (.node none (.node (some ⟨3,c81,[.tmp 2]⟩) .nil .nil) (.node (some ⟨29,Yf,[]⟩) .nil .nil))) (.node (some ⟨39,c25,[.tmp 2,.tmp 3]⟩) (.node (some ⟨19,c41,[.tmp 2]⟩) .nil (.node (some ⟨7,X7,[.tmp 3]⟩) .nil .nil)) (.node (some ⟨10,c57,[.tmp 3]⟩) (.node (some ⟨63,c89,[.tmp 8,.tmp 9]⟩) .nil .nil) .nil))) (.node (some ⟨34,c13,[.tmp 6,.tmp 7]⟩) (.node none (.node (some ⟨35,c37,[.tmp 6]⟩) (.node (some ⟨8,c69,[.tmp 2]⟩) .nil .nil) (.node (some ⟨115,X5,[.tmp 8]⟩) .nil .nil)) .nil) (.node (some ⟨20,c29,[.tmp 9]⟩) (.node (some ⟨36,c45,[.tmp 4]⟩) .nil (.node (some ⟨7,Yb,[.tmp 2]⟩) .nil .nil)) (.node (some ⟨27,c61,[.tmp 4,.tmp 5]⟩) (.node (some ⟨178,c93,[.tmp 10,.tmp 11]⟩) .nil .nil) .nil))))) (.node none (.node (some ⟨367,c4,[.tmp 10]⟩) (.node none (.node (some ⟨107,c16,[.tmp 4]⟩) (.node (some ⟨48,c32,[.tmp 4]⟩) (.node (some ⟨47,c64,[.tmp 4]⟩) .nil .nil) (.node (some ⟨6,c96,[.tmp 2]⟩) .nil .nil)) (.node (some ⟨9,c48,[.tmp 4]⟩) (.node (some ⟨47,c80,[]⟩) .nil .nil) (.node (some ⟨41,Ye,[.tmp 12]⟩) .nil .nil))) (.node none (.node (some ⟨54,c40,[.tmp 4,.tmp 5]⟩) .nil (.node (some ⟨13,X6,[.tmp 4]⟩) .nil .nil)) (.node (some ⟨26,c56,[.tmp 6]⟩) (.node (some ⟨67,c88,[]⟩) .nil .nil) .nil))) (.node (some ⟨56,c12,[.tmp 0]⟩) (.node (some ⟨28,c20,[.tmp 4]⟩) (.node (some ⟨19,c36,[.tmp 4]⟩) (.node (some ⟨148,c68,[]⟩) .nil .nil) (.node (some ⟨5,X4,[.tmp 2]⟩) .nil .nil)) (.node (some ⟨27,c52,[.tmp 4]⟩) (.node (some ⟨34,c84,[.tmp 4]⟩) .nil .nil) .nil)) (.node (some ⟨55,c28,[]⟩) (.node (some ⟨14,c44,[]⟩) (.node (some ⟨80,c76,[.tmp 2,.tmp 3]⟩) .nil .nil) (.node (some ⟨82,Ya,[]⟩) .nil .nil)) (.node (some ⟨24,c60,[.tmp 4,.tmp 5]⟩) (.node (some ⟨90,c92,[.tmp 10]⟩) .nil .nil) .nil)))) (.node none (.node (some ⟨30,c10,[.tmp 2,.tmp 3]⟩) (.node (some ⟨26,c18,[.tmp 4,.tmp 5,.tmp 6]⟩) (.node (some ⟨16,c34,[.tmp 2,.tmp 3]⟩) (.node (some ⟨22,c66,[.tmp 2]⟩) .nil .nil) (.node (some ⟨3,c98,[.tmp 2]⟩) .nil .nil)) (.node (some ⟨25,c50,[.tmp 2]⟩) (.node (some ⟨45,c82,[]⟩) .nil .nil) .nil)) (.node none (.node (some ⟨110,c42,[.tmp 2,.tmp 3]⟩) .nil (.node (some ⟨8,X9,[.tmp 2]⟩) .nil .nil)) (.node (some ⟨14,c58,[.tmp 7]⟩) (.node (some ⟨34,c90,[]⟩) .nil .nil) .nil))) (.node (some ⟨76,c14,[.tmp 4]⟩) (.node none (.node (some ⟨15,c38,[.tmp 4,.tmp 5]⟩) (.node (some ⟨20,c70,[.tmp 4]⟩) .nil .nil) (.node (some ⟨32,V3,[]⟩) .nil .nil)) (.node (some ⟨22,c54,[.tmp 6]⟩) (.node (some ⟨53,c86,[]⟩) .nil .nil) .nil)) (.node (some ⟨15,c30,[.tmp 6]⟩) (.node (some ⟨66,c46,[.tmp 4]⟩) (.node (some ⟨62,c78,[.tmp 2]⟩) .nil .nil) (.node (some ⟨33,Yc,[.tmp 2]⟩) .nil .nil)) (.node (some ⟨15,c62,[.tmp 6]⟩) (.node (some ⟨19,c94,[.tmp 2]⟩) .nil .nil) .nil))))))
noncomputable def Gs:FuncId→Option Xq:=AdZ.get
end Go.TpM
