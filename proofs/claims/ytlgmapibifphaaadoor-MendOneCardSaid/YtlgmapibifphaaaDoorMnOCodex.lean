/- Made from wip. -/
import Derived.Test.YtlgmapibifphaaaDoorSpFramex

set_option maxRecDepth 100000
namespace Go.MnO
open Go.Sp
def Adf:RC:=.reg [] [Ce 26 1 45,rq 27 (cf 21 #[tp 26,ki 6,ki 4] #[45,3,3]) 24,rq 3 (.alloc 24) 0,rn (.store 24 (tp 3) (tp 27)) 0]
def Adg:RC:=.reg [] [DR 28 24 3 2,Ce 29 28 22,rq 30 (cf 22 #[tp 29,kb false] #[22,4]) 47,AQ 4 30 47]
def Adh:RC:=.reg [] [Ap 31 4 47,DR 32 24 3 1,Ce 33 32 22,rq 34 (cf 23 #[tp 33] #[22]) 3,rq 35 (.lookup 47 (tp 31) (tp 34) false) 3,AQ 5 35 3]
def Adi:RC:=.reg [] [DR 36 24 3 1,Ce 37 36 22,EN 38 37 22,rq 39 (.move (ki 0)) 3]
def Adj:RC:=.reg [] [Ap 42 7 3,FB 43 42,AQ 8 43 3]
def vH:RC:=.reg [] [Ap 44 8 3,DR 45 24 3 1,Ce 46 45 22,EN 47 46 22,rq 48 (.binOp .lss 3 (tp 44) (tp 47) 3) 4]
def vI:RC:=.reg [] [DR 51 24 3 1,Ce 52 51 22,Ap 53 7 3,Ap 54 8 3,rq 55 (cf 24 #[tp 52,tp 53,tp 54] #[22,3,3]) 22,AQ 9 55 22]
def vJ:RC:=.reg [] [Ap 56 4 47,Ap 57 9 22,rq 58 (cf 23 #[tp 57] #[22]) 3,rq 59 (.lookup 47 (tp 56) (tp 58) false) 3,AQ 10 59 3]
def vK:RC:=.reg [] [Ap 60 10 3,Ap 61 5 3,rq 62 (.binOp .sub 3 (tp 61) (ki 1) 3) 3,rq 63 (.binOp .lss 3 (tp 60) (tp 62) 3) 4,Ap 64 63 4,DD 65 10 3 64 false,DD 66 5 3 64 false,rg 67 (.binOp .add 3 (tp 66) (ki 1) 3) 3 64 false,rg 68 (.binOp .gtr 3 (tp 65) (tp 67) 3) 4 64 false,rq 69 (.pick (tp 64) (kb true) (tp 68)) 4]
def vL:RC:=.cond (tp 69) (.seq (.reg [] [rq 2 (.assign (kb false)) 4]) .ret) .skip
def vM:RC:=.reg [] [Ap 70 10 3,Ap 71 5 3,rq 72 (.binOp .lss 3 (tp 70) (tp 71) 3) 4]
def vN:RC:=.reg [] [Ap 73 6 27,Ap 74 7 3,Ap 75 8 3,rq 76 (.build 51 #[(0,(tp 74)),(1,(tp 75))]) 51,rq 77 (.buildSlice 27 1 #[(0,(tp 76))]) 27,rq 78 (cb .append #[tp 73,tp 77] #[27,27]) 27,AQ 6 78 27]
def vO:RC:=.reg [] [Ce 80 3 24,Ap 81 7 3,Ap 82 8 3,rq 83 (cf 25 #[tp 80,tp 81,tp 82] #[24,3,3]) 52,Ap 79 83 52,EM 84 79 0 24,EM 85 79 1 28,rq 11 (.alloc 24) 0,rn (.store 24 (tp 11) (tp 84)) 0,AQ 12 85 28]
def vP:RC:=.reg [] [Ap 86 12 28,rq 87 (.binOp .neq 28 (tp 86) (ki 0) 28) 4,Ap 88 87 4,rg 89 (.fieldAddr 24 (tp 11) 1) 0 88 false,rg 90 (.load 22 (tp 89)) 22 88 false,DD 91 9 22 88 false,rg 92 (cf 26 #[tp 90,tp 91] #[22,22]) 4 88 false,rg 93 (.unOp .not 4 (tp 92)) 4 88 false,rq 94 (.pick (tp 88) (kb true) (tp 93)) 4,Ap 95 94 4,rg 96 (.fieldAddr 24 (tp 11) 2) 0 95 false,rg 97 (.load 22 (tp 96)) 22 95 false,rg 98 (.fieldAddr 24 (tp 3) 2) 0 95 false,rg 99 (.load 22 (tp 98)) 22 95 false,rg 100 (cf 26 #[tp 97,tp 99] #[22,22]) 4 95 false,rg 101 (.unOp .not 4 (tp 100)) 4 95 false,rq 102 (.pick (tp 95) (kb true) (tp 101)) 4,Ap 103 102 4,rg 104 (.fieldAddr 24 (tp 11) 0) 0 103 false,rg 105 (.load 3 (tp 104)) 3 103 false,rg 106 (.fieldAddr 24 (tp 3) 0) 0 103 false,rg 107 (.load 3 (tp 106)) 3 103 false,rg 108 (.binOp .neq 3 (tp 105) (tp 107) 3) 4 103 false,rq 109 (.pick (tp 103) (kb true) (tp 108)) 4]
def vQ:RC:=.cond (tp 109) (.seq (.reg [] [rq 2 (.assign (kb false)) 4]) .ret) .skip
def vR:RC:=.seq (.seq vM (.cond (tp 72) vN .skip)) (.seq vO (.seq vP vQ))
def vS:RC:=.reg [] [Ap 49 8 3,FB 50 49,AQ 8 50 3]
def vT:RC:=.seq (.block 3 (.seq vI (.seq vJ (.seq (.seq vK vL) vR)))) vS
def vU:RC:=.block 2 (.loop (.seq (.seq vH (.cond (tp 48) .skip (.exit 2))) vT))
def vV:RC:=.seq (.reg [] [Ap 41 39 3,AQ 7 41 3]) (.seq Adj vU)
def vW:RC:=.reg [] [FB 110 39,Ap 39 110 3]
def vX:RC:=.seq (.reg [] [L8 40 39 38]) (.seq (.cond (tp 40) .skip (.exit 0)) (.seq (.block 1 vV) vW))
def vY:RC:=.reg [] [Ce 112 3 24,rq 113 (cf 13 #[tp 112] #[24]) 29,Ap 111 113 29,EM 114 111 0 27,EM 115 111 1 28,AQ 13 114 27,AQ 14 115 28]
def vZ:RC:=.reg [] [Ce 117 3 24,rq 118 (cf 16 #[tp 117] #[24]) 35,Ap 116 118 35,EM 119 116 0 34,EM 120 116 1 28,AQ 15 119 34,AQ 16 120 28]
def wB:RC:=.reg [] [Ap 121 14 28,rq 122 (.binOp .neq 28 (tp 121) (ki 0) 28) 4,Ap 123 122 4,DD 124 16 28 123 false,rg 125 (.binOp .neq 28 (tp 124) (ki 0) 28) 4 123 false,rq 126 (.pick (tp 123) (kb true) (tp 125)) 4,Ap 127 126 4,DD 128 13 27 127 false,DD 129 6 27 127 false,rg 130 (cf 15 #[tp 128,tp 129] #[27,27]) 4 127 false,rg 131 (.unOp .not 4 (tp 130)) 4 127 false,rq 132 (.pick (tp 127) (kb true) (tp 131)) 4,Ap 133 132 4,DD 134 13 27 133 false,rg 135 (cb .len #[tp 134] #[27]) 3 133 false,rg 136 (.binOp .eql 3 (tp 135) (ki 0) 3) 4 133 false,DD 137 5 3 133 false,rg 138 (.binOp .eql 3 (tp 137) (ki 0) 3) 4 133 false,rg 139 (.binOp .neq 4 (tp 136) (tp 138) 4) 4 133 false,rq 140 (.pick (tp 133) (kb true) (tp 139)) 4]
def wC:RC:=.cond (tp 140) (.seq (.reg [] [rq 2 (.assign (kb false)) 4]) .ret) .skip
def wI:RC:=.reg [] [Ap 141 15 34,EN 142 141 34,rq 143 (.move (ki 0)) 3]
def wJ:RC:=.reg [] [D5 145 34 141 143,Ce 146 145 22,AQ 18 146 22]
def wK:RC:=.reg [] [Ap 147 18 22,EN 148 147 22,rq 149 (.move (ki 0)) 3]
def wL:RC:=.reg [] [Ap 151 149 3,D5 152 22 147 149,Ce 153 152 3,AQ 19 151 3,AQ 20 153 3]
def wM:RC:=.reg [] [Ap 154 18 22,Ap 155 19 3,rq 156 (.slice 22 (tp 154) none (some (tp 155)) none) 22,EN 157 156 22,rq 158 (.move (ki 0)) 3]
def wN:RC:=.reg [] [D5 160 22 156 158,Ce 161 160 3,AQ 22 161 3]
def wO:RC:=.reg [] [Ap 162 13 27,EN 163 162 27,rq 164 (.move (ki 0)) 3]
def wP:RC:=.reg [] [D5 166 27 162 164,Ce 167 166 51,rq 25 (.alloc 51) 0,rn (.store 51 (tp 25) (tp 167)) 0]
def wQ:RC:=.reg [] [Ap 168 23 4,Ap 169 168 4,rg 170 (.load 51 (tp 25)) 51 169 false,DD 171 20 3 169 false,DD 172 22 3 169 false,rg 173 (cb .min #[tp 171,tp 172] #[3,3]) 3 169 false,DD 174 20 3 169 false,DD 175 22 3 169 false,rg 176 (cb .max #[tp 174,tp 175] #[3,3]) 3 169 false,rg 177 (.build 51 #[(0,(tp 173)),(1,(tp 176))]) 51 169 false,rg 178 (.binOp .eql 51 (tp 170) (tp 177) 51) 4 169 false,rq 179 (.pick (tp 169) (kb true) (tp 178)) 4,AQ 23 179 4]
def wR:RC:=.reg [] [FB 180 164,Ap 164 180 3]
def wS:RC:=.seq (.cond (tp 165) .skip (.exit 10)) (.seq (.block 11 (.seq wP wQ)) wR)
def wT:RC:=.loop (.seq (.reg [] [L8 165 164 163]) wS)
def wU:RC:=.cond (tp 182) (.seq (.reg [] [rq 2 (.assign (kb false)) 4]) .ret) .skip
def wV:RC:=.seq (.reg [] [Ap 181 23 4,rq 182 (.unOp .not 4 (tp 181)) 4]) wU
def wW:RC:=.seq (.reg [] [rq 23 (.assign (kb false)) 4]) (.seq (.seq wO (.block 10 wT)) wV)
def wZ:RC:=.reg [] [FB 183 158,Ap 158 183 3]
def xA:RC:=.seq (.cond (tp 159) .skip (.exit 8)) (.seq (.block 9 (.seq wN wW)) wZ)
def xB:RC:=.loop (.seq (.reg [] [L8 159 158 157]) xA)
def iW:RC:=.reg [] [FB 184 149,Ap 149 184 3]
def iX:RC:=.seq (.cond (tp 150) .skip (.exit 6)) (.seq (.block 7 (.seq wL (.seq wM (.block 8 xB)))) iW)
def iY:RC:=.loop (.seq (.reg [] [L8 150 149 148]) iX)
def iZ:RC:=.reg [] [FB 185 143,Ap 143 185 3]
def jA:RC:=.seq (.cond (tp 144) .skip (.exit 4)) (.seq (.block 5 (.seq wJ (.seq wK (.block 6 iY)))) iZ)
def jC:RC:=.loop (.seq (.reg [] [L8 144 143 142]) jA)
def XO:RC:=.seq (.reg [] [rq 186 (cf 12 #[] #[]) 4,AQ 2 186 4]) .ret
def jD:RC:=.seq vZ (.seq (.seq wB wC) (.seq (.seq wI (.block 4 jC)) XO))
def XP:RC:=.seq vY jD
def jE:RC:=.seq (.reg [] [rq 6 (.assign (.const (.slice none 0 0))) 27]) (.seq (.seq Adi (.block 0 (.loop vX))) XP)
def R3:RC:=.seq (.reg [] [rq 1 (.box 45 (tp 0)) 0,rq 2 (.assign (kb false)) 4]) (.seq Adf (.seq Adg (.seq Adh jE)))
def xC:RC:=.reg [] [rq 1 (.box 24 (tp 0)) 0,rq 2 (.assign (.const (.slice none 0 0))) 27,Cz 3 0 28]
def xD:RC:=.reg [] [Ce 10 1 24,rq 11 (cf 29 #[tp 10] #[24]) 38,Ap 9 11 38,EM 12 9 0 3,EM 13 9 1 28,AQ 4 12 3,AQ 5 13 28]
def xE:RC:=.reg [] [Ap 14 5 28,rq 15 (.binOp .neq 28 (tp 14) (ki 0) 28) 4]
def xG:RC:=.reg [] [Ap 16 5 28,rq 2 (.assign (.const (.slice none 0 0))) 27,AQ 3 16 28]
def xH:RC:=.reg [] [DR 17 24 1 1,Ce 18 17 22,EN 19 18 22,rq 20 (.move (ki 0)) 3]
def jJ:RC:=.reg [] [Ap 23 7 3,FB 24 23,AQ 8 24 3]
def jK:RC:=.reg [] [Ap 25 8 3,DR 26 24 1 1,Ce 27 26 22,EN 28 27 22,rq 29 (.binOp .lss 3 (tp 25) (tp 28) 3) 4]
def jL:RC:=.reg [] [Ce 32 1 24,Ap 33 7 3,Ap 34 8 3,rq 35 (cf 43 #[tp 32,tp 33,tp 34] #[24,3,3]) 24,rq 36 (cf 44 #[tp 35] #[24]) 3,Ap 37 4 3,rq 38 (.binOp .lss 3 (tp 36) (tp 37) 3) 4]
def kQ:RC:=.reg [] [Ap 39 6 27,Ap 40 7 3,Ap 41 8 3,rq 42 (.build 51 #[(0,(tp 40)),(1,(tp 41))]) 51,rq 43 (.buildSlice 27 1 #[(0,(tp 42))]) 27,rq 44 (cb .append #[tp 39,tp 43] #[27,27]) 27,AQ 6 44 27]
def kR:RC:=.reg [] [Ap 30 8 3,FB 31 30,AQ 8 31 3]
def kS:RC:=.seq (.seq jK (.cond (tp 29) .skip (.exit 2))) (.seq (.block 3 (.seq jL (.cond (tp 38) kQ .skip))) kR)
def kT:RC:=.seq (.reg [] [Ap 22 20 3,AQ 7 22 3]) (.seq jJ (.block 2 (.loop kS)))
def kU:RC:=.reg [] [FB 45 20,Ap 20 45 3]
def kV:RC:=.seq (.reg [] [L8 21 20 19]) (.seq (.cond (tp 21) .skip (.exit 0)) (.seq (.block 1 kT) kU))
def kW:RC:=.reg [] [Ap 46 6 27,AQ 2 46 27,Cz 3 0 28]
def XQ:RC:=.seq kW .ret
def kX:RC:=.seq (.reg [] [rq 6 (.assign (.const (.slice none 0 0))) 27]) (.seq (.seq xH (.block 0 (.loop kV))) XQ)
def kY:RC:=.seq xD (.seq (.seq xE (.cond (tp 15) (.seq xG .ret) .skip)) kX)
def R4:RC:=.seq xC kY
def xI:RC:=.reg [] [rq 1 (.box 24 (tp 0)) 0,rq 2 (.assign (.const (.slice none 0 0))) 34,Cz 3 0 28]
def xJ:RC:=.reg [] [Ce 5 1 24,rq 6 (cf 47 #[tp 5] #[24]) 28,AQ 4 6 28]
def xK:RC:=.reg [] [Ap 7 4 28,rq 8 (.binOp .neq 28 (tp 7) (ki 0) 28) 4]
def xL:RC:=.reg [] [Ap 9 4 28,rq 2 (.assign (.const (.slice none 0 0))) 34,AQ 3 9 28]
def xM:RC:=.reg [] [Ce 10 1 24,rq 11 (cf 48 #[tp 10] #[24]) 34,AQ 2 11 34,Cz 3 0 28]
def kZ:RC:=.seq (.seq xJ (.seq xK (.cond (tp 8) (.seq xL .ret) .skip))) (.seq xM .ret)
def R5:RC:=.seq xI kZ
def xN:RC:=.reg [] [DR 12 45 3 0,Ce 13 12 5,rq 14 (.convert 5 3 (tp 13)) 3,Ap 15 2 3,rq 16 (.binOp .rem 3 (tp 14) (tp 15) 3) 3,rq 17 (.binOp .add 3 (ki 1) (tp 16) 3) 3,rq 18 (.build 24 #[(0,(tp 17))]) 24,rq 7 (.alloc 24) 0,rn (.store 24 (tp 7) (tp 18)) 0]
def xO:RC:=.reg [] [DR 19 45 3 1,Ce 20 19 5,rq 21 (.convert 5 3 (tp 20)) 3,Ap 22 1 3,rq 23 (.binOp .rem 3 (tp 21) (tp 22) 3) 3,rq 24 (.binOp .add 3 (ki 1) (tp 23) 3) 3,rq 25 (.move (ki 0)) 3]
def xP:RC:=.reg [0,1,2,3,4,5,6,7,8,9,10,11,12,13] [DR 28 24 7 2,Ce 29 28 22,Ap 30 9 3,DR 31 45 3 2,D5 32 43 31 30,Ce 33 32 5,rq 34 (.convert 5 3 (tp 33)) 3,DR 35 24 7 0,Ce 36 35 3,rq 37 (.binOp .rem 3 (tp 34) (tp 36) 3) 3,rq 38 (.buildSlice 22 1 #[(0,(tp 37))]) 22,rq 39 (cb .append #[tp 29,tp 38] #[22,22]) 22,DR 40 24 7 2,rn (.store 22 (tp 40) (tp 39)) 0]
def xQ:RC:=.reg [] [Ap 41 8 22,DR 42 24 7 2,Ce 43 42 22,Ap 44 9 3,D5 45 22 43 44,Ce 46 45 3,rq 47 (.buildSlice 22 1 #[(0,(tp 46))]) 22,rq 48 (cb .append #[tp 41,tp 47] #[22,22]) 22,AQ 8 48 22]
def lH:RC:=.seq (.reg [] [Ap 27 25 3,AQ 9 27 3]) (.seq xP xQ)
def lI:RC:=.reg [] [FB 49 25,Ap 25 49 3]
def lJ:RC:=.seq (.reg [] [rq 26 (.binOp .lss 3 (tp 25) (tp 24) 3) 4]) (.seq (.cond (tp 26) .skip (.exit 0)) (.seq (.block 1 lH) lI))
def lK:RC:=.reg [] [Ap 50 8 22,EN 51 50 22,rq 52 (.binOp .gtr 3 (tp 51) (ki 0) 3) 4]
def lL:RC:=.reg [] [Ap 55 10 3,DR 56 45 3 3,D5 57 43 56 55,Ce 58 57 5,rq 59 (.convert 5 3 (tp 58)) 3,Ap 60 8 22,EN 61 60 22,rq 62 (.binOp .rem 3 (tp 59) (tp 61) 3) 3,AQ 11 62 3]
def lM:RC:=.reg [0,1,2,3,4,5,6,7,8,9] [DR 63 24 7 1,Ce 64 63 22,Ap 65 8 22,Ap 66 11 3,D5 67 22 65 66,Ce 68 67 3,rq 69 (.buildSlice 22 1 #[(0,(tp 68))]) 22,rq 70 (cb .append #[tp 64,tp 69] #[22,22]) 22,DR 71 24 7 1,rn (.store 22 (tp 71) (tp 70)) 0]
def lN:RC:=.reg [0,1,2,3,5,6,7,8,4,9,10] [rq 72 (.buildSlice 22 0 #[]) 22,Ap 73 8 22,Ap 74 11 3,rq 75 (.slice 22 (tp 73) none (some (tp 74)) none) 22,Ap 77 8 22,Ap 78 11 3,FB 79 78,rq 80 (.slice 22 (tp 77) (some (tp 79)) none none) 22,⟨(some 76),cb .append #[tp 72,tp 75] #[22,22],22,none,[(tp 77)]⟩,rq 81 (cb .append #[tp 76,tp 80] #[22,22]) 22,AQ 8 81 22]
def lQ:RC:=.reg [] [Ap 53 10 3,FB 54 53,AQ 10 54 3]
def lS:RC:=.seq (.seq lK (.cond (tp 52) .skip (.exit 2))) (.seq (.block 3 (.seq lL (.seq lM lN))) lQ)
def XR:RC:=.seq (.reg [] [Ce 82 7 24,rn (.store 24 (tp 6) (tp 82)) 0]) .ret
def XT:RC:=.seq (.seq (.reg [] [Cz 10 0 3]) (.block 2 (.loop lS))) XR
def lT:RC:=.seq (.reg [] [rq 8 (.assign (.const (.slice none 0 0))) 22]) (.seq (.seq xO (.block 0 (.loop lJ))) XT)
def R6:RC:=.seq (.reg [] [rq 3 (.box 45 (tp 0)) 0,rq 6 (.alloc 24) 0]) (.seq xN lT)
def xR:RC:=.reg [] [Ap 6 0 22,EN 7 6 22,rq 8 (.move (ki 0)) 3]
def xS:RC:=.reg [] [D5 10 22 6 8,Ce 11 10 3,AQ 5 11 3]
def xU:RC:=.reg [] [Ap 12 3 3,rq 13 (.binOp .mul 3 (ki 8) (tp 12) 3) 3,Ap 14 5 3,rq 15 (.binOp .add 3 (tp 13) (tp 14) 3) 3,AQ 3 15 3]
def xV:RC:=.reg [] [FB 16 8,Ap 8 16 3]
def lU:RC:=.seq (.cond (tp 9) .skip (.exit 0)) (.seq (.block 1 (.seq xS xU)) xV)
def lV:RC:=.block 0 (.loop (.seq (.reg [] [L8 9 8 7]) lU))
def XU:RC:=.seq (.reg [] [Ap 17 3 3,AQ 2 17 3]) .ret
def lW:RC:=.seq (.reg [] [Cz 3 0 3]) (.seq (.seq xR lV) XU)
def R7:RC:=.seq (.reg [] [Cz 2 0 3]) lW
def xW:RC:=.reg [] [rq 8 (.buildSlice 22 0 #[]) 22,Ap 9 0 22,rq 10 (cb .append #[tp 8,tp 9] #[22,22]) 22,AQ 7 10 22]
def xX:RC:=.reg [0,1,2,3,4,5,6,7,8,9,10,11,12,13,14,15] [Ap 11 7 22,Ap 12 1 3,Ap 13 7 22,Ap 14 2 3,Ap 15 7 22,Ap 16 2 3,D5 17 22 15 16,Ce 18 17 3,Ap 19 7 22,Ap 20 1 3,D5 21 22 19 20,Ce 22 21 3,D5 23 22 11 12,rn (.store 3 (tp 23) (tp 18)) 0,D5 24 22 13 14,rn (.store 3 (tp 24) (tp 22)) 0]
def xY:RC:=.seq (.reg [] [Ap 25 7 22,AQ 6 25 22]) .ret
def Wq:RC:=.seq (.reg [] [rq 6 (.assign (.const (.slice none 0 0))) 22]) (.seq xW (.seq xX xY))
def xZ:RC:=.reg [] [rq 3 (.box 24 (tp 0)) 0,rq 6 (.alloc 24) 0,Cz 7 0 28]
def yA:RC:=.reg [] [Ce 9 3 24,rq 10 (cf 47 #[tp 9] #[24]) 28,AQ 8 10 28]
def yB:RC:=.reg [] [Ap 11 8 28,rq 12 (.binOp .eql 28 (tp 11) (ki 0) 28) 4]
def yC:RC:=.reg [] [Ce 13 3 24,Ap 14 1 3,Ap 15 2 3,rq 16 (cf 57 #[tp 13,tp 14,tp 15] #[24,3,3]) 28,AQ 8 16 28]
def yD:RC:=.reg [] [Ap 17 8 28,rq 18 (.binOp .neq 28 (tp 17) (ki 0) 28) 4]
def yE:RC:=.reg [] [rq 19 (.build 24 #[]) 24,Ap 20 8 28,rn (.store 24 (tp 6) (tp 19)) 0,AQ 7 20 28]
def lX:RC:=.reg [] [Ce 21 3 24,Ap 22 1 3,Ap 23 2 3,rq 24 (cf 43 #[tp 21,tp 22,tp 23] #[24,3,3]) 24,rn (.store 24 (tp 6) (tp 24)) 0,Cz 7 0 28]
def XZ:RC:=.seq (.seq yD (.cond (tp 18) (.seq yE .ret) .skip)) (.seq lX .ret)
def R8:RC:=.seq xZ (.seq yA (.seq (.seq yB (.cond (tp 12) yC .skip)) XZ))
def yF:RC:=.reg [] [Ap 6 0 22,EN 7 6 22,Ap 8 1 22,EN 9 8 22,rq 10 (.binOp .neq 3 (tp 7) (tp 9) 3) 4]
def yG:RC:=.cond (tp 10) (.seq (.reg [] [rq 4 (.assign (kb false)) 4]) .ret) .skip
def yH:RC:=.reg [] [Ap 11 5 3,Ap 12 0 22,EN 13 12 22,rq 14 (.binOp .lss 3 (tp 11) (tp 13) 3) 4]
def lY:RC:=.reg [0,1,2,3,4,5,6,7,8] [Ap 17 0 22,Ap 18 5 3,D5 19 22 17 18,Ce 20 19 3,Ap 21 1 22,Ap 22 5 3,D5 23 22 21 22,Ce 24 23 3,rq 25 (.binOp .neq 3 (tp 20) (tp 24) 3) 4]
def lZ:RC:=.cond (tp 25) (.seq (.reg [] [rq 4 (.assign (kb false)) 4]) .ret) .skip
def mD:RC:=.reg [] [Ap 15 5 3,FB 16 15,AQ 5 16 3]
def mF:RC:=.seq (.seq yH (.cond (tp 14) .skip (.exit 0))) (.seq (.block 1 (.seq lY lZ)) mD)
def X0:RC:=.seq (.reg [] [rq 4 (.assign (kb true)) 4]) .ret
def mG:RC:=.seq (.seq (.reg [] [Cz 5 0 3]) (.block 0 (.loop mF))) X0
def R9:RC:=.seq (.reg [] [rq 4 (.assign (kb false)) 4]) (.seq (.seq yF yG) mG)
def yI:RC:=.reg [] [rq 1 (.box 24 (tp 0)) 0,Cz 2 0 3,Cz 3 0 28]
def yJ:RC:=.reg [] [Ce 5 1 24,rq 6 (cf 47 #[tp 5] #[24]) 28,AQ 4 6 28]
def yK:RC:=.reg [] [Ap 7 4 28,rq 8 (.binOp .neq 28 (tp 7) (ki 0) 28) 4]
def yL:RC:=.reg [] [Ap 9 4 28,Cz 2 0 3,AQ 3 9 28]
def yM:RC:=.reg [] [Ce 10 1 24,rq 11 (cf 44 #[tp 10] #[24]) 3,AQ 2 11 3,Cz 3 0 28]
def mH:RC:=.seq (.seq yJ (.seq yK (.cond (tp 8) (.seq yL .ret) .skip))) (.seq yM .ret)
def Sa:RC:=.seq yI mH
def yN:RC:=.reg [0,1,2,3,5,6,9,4,7,8,10] [DR 8 24 3 0,Ce 9 8 3,DR 10 24 3 1,Ce 11 10 22,DR 13 24 3 2,Ce 14 13 22,rq 7 (.alloc 24) 0,⟨(some 12),cf 63 #[tp 11] #[22],22,none,[(tp 13),(tp 8)]⟩,⟨(some 15),cf 63 #[tp 14] #[22],22,none,[(tp 8)]⟩,rq 16 (.build 24 #[(0,(tp 9)),(1,(tp 12)),(2,(tp 15))]) 24,rn (.store 24 (tp 7) (tp 16)) 0]
def yO:RC:=.reg [0,1,2,3,4,5,6,7,8,9,10,11,12,13,14,15,16,17,18,19] [DR 17 24 7 1,Ce 18 17 22,Ap 19 1 3,DR 20 24 7 1,Ce 21 20 22,Ap 22 2 3,DR 23 24 7 1,Ce 24 23 22,Ap 25 2 3,D5 26 22 24 25,Ce 27 26 3,DR 28 24 7 1,Ce 29 28 22,Ap 30 1 3,D5 31 22 29 30,Ce 32 31 3,D5 33 22 18 19,⟨none,.store 3 (tp 33) (tp 27),0,none,[(tp 20)]⟩,D5 34 22 21 22,rn (.store 3 (tp 34) (tp 32)) 0]
def yP:RC:=.seq (.reg [] [Ce 35 7 24,rn (.store 24 (tp 6) (tp 35)) 0]) .ret
def Ws:RC:=.seq (.reg [] [rq 3 (.box 24 (tp 0)) 0,rq 6 (.alloc 24) 0]) (.seq yN (.seq yO yP))
def yQ:RC:=.reg [] [Ce 4 1 24,rq 5 (cf 51 #[tp 4] #[24]) 80,AQ 3 5 80]
def yR:RC:=.reg [0,2,4,1,3,5,6,7] [Ap 6 3 80,Ce 8 1 24,Ap 10 3 80,⟨(some 7),cf 64 #[tp 6] #[79],3,none,[(tp 1)]⟩,rq 9 (cf 65 #[tp 8] #[24]) 94,rq 11 (cf 66 #[tp 9,tp 10] #[94,80]) 3,rq 12 (.binOp .sub 3 (tp 7) (tp 11) 3) 3,AQ 2 12 3]
def Wt:RC:=.seq (.reg [] [rq 1 (.box 24 (tp 0)) 0,Cz 2 0 3]) (.seq yQ (.seq yR .ret))
def yS:RC:=.reg [] [DR 8 24 1 0,Ce 9 8 3,rq 10 (cf 52 #[ki 1,tp 9,ki 5] #[3,3,3]) 4,rq 11 (.unOp .not 4 (tp 10)) 4,AQ 7 11 4]
def yT:RC:=.reg [] [DR 13 24 1 1,Ce 14 13 22,EN 15 14 22,rq 16 (.binOp .eql 3 (tp 15) (ki 0) 3) 4,AQ 12 16 4]
def yU:RC:=.reg [] [DR 18 24 1 1,Ce 19 18 22,EN 20 19 22,rq 21 (.binOp .gtr 3 (tp 20) (ki 10) 3) 4,AQ 17 21 4]
def mI:RC:=.reg [] [DR 23 24 1 2,Ce 24 23 22,EN 25 24 22,DR 26 24 1 1,Ce 27 26 22,EN 28 27 22,rq 29 (.binOp .neq 3 (tp 25) (tp 28) 3) 4,AQ 22 29 4]
def mK:RC:=.seq mI (.cond (tp 22) (.seq (.reg [] [Cz 2 5 28]) .ret) .skip)
def mM:RC:=.seq yU (.cond (tp 17) (.seq (.reg [] [Cz 2 3 28]) .ret) mK)
def mO:RC:=.seq yT (.cond (tp 12) (.seq (.reg [] [Cz 2 4 28]) .ret) mM)
def mP:RC:=.seq yS (.cond (tp 7) (.seq (.reg [] [Cz 2 1 28]) .ret) mO)
def mQ:RC:=.reg [] [DR 30 24 1 1,Ce 31 30 22,EN 32 31 22,rq 33 (.move (ki 0)) 3]
def nD:RC:=.reg [] [Ap 35 33 3,D5 36 22 31 33,Ce 37 36 3,AQ 4 35 3,AQ 5 37 3]
def nG:RC:=.reg [] [DR 38 24 1 2,Ce 39 38 22,Ap 40 4 3,D5 41 22 39 40,Ce 42 41 3,AQ 6 42 3]
def nH:RC:=.reg [] [Ap 43 5 3,Ap 44 6 3,rq 45 (cb .min #[tp 43,tp 44] #[3,3]) 3,DR 46 24 1 0,Ce 47 46 3,rq 48 (.binOp .sub 3 (tp 47) (ki 1) 3) 3,rq 49 (cf 52 #[ki 0,tp 45,tp 48] #[3,3,3]) 4,rq 50 (.unOp .not 4 (tp 49)) 4,Ap 51 50 4,DD 52 5 3 51 false,DD 53 6 3 51 false,rg 54 (cb .max #[tp 52,tp 53] #[3,3]) 3 51 false,rg 55 (.fieldAddr 24 (tp 1) 0) 0 51 false,rg 56 (.load 3 (tp 55)) 3 51 false,rg 57 (.binOp .geq 3 (tp 54) (tp 56) 3) 4 51 false,rq 58 (.pick (tp 51) (kb true) (tp 57)) 4]
def nJ:RC:=.seq nH (.cond (tp 58) (.seq (.reg [] [Cz 2 2 28]) .ret) .skip)
def nK:RC:=.reg [] [Ap 59 5 3,D5 60 97 3 59,Ce 61 60 3,FB 62 61,D5 63 97 3 59,rn (.store 3 (tp 63) (tp 62)) 0]
def nL:RC:=.reg [] [Ap 64 6 3,D5 65 97 3 64,Ce 66 65 3,rq 67 (.binOp .sub 3 (tp 66) (ki 1) 3) 3,D5 68 97 3 64,rn (.store 3 (tp 68) (tp 67)) 0]
def nM:RC:=.block 2 (.seq nD (.seq nG (.seq nJ (.seq nK nL))))
def nN:RC:=.reg [] [FB 69 33,Ap 33 69 3]
def nO:RC:=.seq (.reg [] [L8 34 33 32]) (.seq (.cond (tp 34) .skip (.exit 1)) (.seq nM nN))
def nP:RC:=.reg [] [Ce 70 3 97,rq 71 (.build 97 #[]) 97,rq 72 (.binOp .neq 97 (tp 70) (tp 71) 97) 4]
def nQ:RC:=.seq nP (.cond (tp 72) (.seq (.reg [] [Cz 2 17 28]) .ret) .skip)
def X3:RC:=.seq nQ (.seq (.reg [] [Cz 2 0 28]) .ret)
def nR:RC:=.seq (.reg [] [rq 3 (.alloc 97) 0]) (.seq (.seq mQ (.block 1 (.loop nO))) X3)
def Sb:RC:=.seq (.reg [] [rq 1 (.box 24 (tp 0)) 0,Cz 2 0 28]) (.seq (.block 0 mP) nR)
def yV:RC:=.reg [] [rq 1 (.box 24 (tp 0)) 0,rq 2 (.assign (.const (.slice none 0 0))) 34]
def zC:RC:=.reg [] [Ce 10 1 24,rq 11 (cf 65 #[tp 10] #[24]) 94,AQ 3 11 94]
def zD:RC:=.reg [] [Ce 12 1 24,rq 13 (cf 51 #[tp 12] #[24]) 80,AQ 5 13 80]
def zF:RC:=.reg [] [Ap 14 5 80,rq 15 (.binOp .neq 80 (tp 14) (.const (.int .u16 0)) 80) 4]
def zG:RC:=.reg [] [Ap 16 5 80,rq 17 (cf 67 #[tp 16] #[79]) 3,AQ 6 17 3]
def zH:RC:=.reg [0,1,2,3,4,5,6,7,8,9,10,11,12] [Ap 18 3 94,Ap 19 6 3,rq 20 (.buildSlice 22 1 #[(0,(tp 19))]) 22,Ap 21 5 80,Ap 22 6 3,rq 23 (.binOp .shl 80 (.const (.int .u16 1)) (tp 22) 3) 80,rq 24 (.binOp .andNot 80 (tp 21) (tp 23) 80) 80,Ap 25 3 94,Ap 26 5 80,rq 27 (cf 66 #[tp 25,tp 26] #[94,80]) 3,rq 28 (.binOp .sub 3 (tp 27) (ki 1) 3) 3,rq 29 (cf 68 #[tp 18,tp 20,tp 24,tp 28] #[94,22,80,3]) 22,AQ 7 29 22]
def zJ:RC:=.reg [] [Ap 30 4 34,Ap 31 7 22,rq 32 (.buildSlice 34 1 #[(0,(tp 31))]) 34,rq 33 (cb .append #[tp 30,tp 32] #[34,34]) 34,AQ 4 33 34]
def nS:RC:=.reg [] [Ap 34 7 22,EN 35 34 22,rq 36 (.move (ki 0)) 3]
def nT:RC:=.reg [] [D5 38 22 34 36,Ce 39 38 3,AQ 9 39 3]
def nU:RC:=.reg [] [Ap 40 5 80,Ap 41 9 3,rq 42 (.binOp .shl 80 (.const (.int .u16 1)) (tp 41) 3) 80,rq 43 (.binOp .andNot 80 (tp 40) (tp 42) 80) 80,AQ 5 43 80]
def nV:RC:=.reg [] [FB 44 36,Ap 36 44 3]
def nW:RC:=.seq (.cond (tp 37) .skip (.exit 2)) (.seq (.block 3 (.seq nT nU)) nV)
def nX:RC:=.loop (.seq (.reg [] [L8 37 36 35]) nW)
def nY:RC:=.block 1 (.seq zG (.seq zH (.seq zJ (.seq nS (.block 2 nX)))))
def nZ:RC:=.block 0 (.loop (.seq (.seq zF (.cond (tp 15) .skip (.exit 0))) nY))
def X4:RC:=.seq (.reg [] [Ap 45 4 34,AQ 2 45 34]) .ret
def oD:RC:=.seq (.reg [] [rq 4 (.assign (.const (.slice none 0 0))) 34]) (.seq (.seq zD nZ) X4)
def Sc:RC:=.seq yV (.seq zC oD)
def zK:RC:=.reg [] [rq 1 (.box 24 (tp 0)) 0,rq 2 (.assign (.const (.int .u16 0))) 80]
def zL:RC:=.reg [] [DR 6 24 1 1,Ce 7 6 22,EN 8 7 22,rq 9 (.move (ki 0)) 3]
def zM:RC:=.reg [] [Ap 11 9 3,D5 12 22 7 9,Ce 13 12 3,AQ 4 11 3,AQ 5 13 3]
def zN:RC:=.reg [] [Ap 14 5 3,DR 15 24 1 2,Ce 16 15 22,Ap 17 4 3,D5 18 22 16 17,Ce 19 18 3,rq 20 (.binOp .neq 3 (tp 14) (tp 19) 3) 4]
def zO:RC:=.reg [] [Ap 21 3 80,Ap 22 4 3,rq 23 (.binOp .shl 80 (.const (.int .u16 1)) (tp 22) 3) 80,rq 24 (.binOp .or 80 (tp 21) (tp 23) 80) 80,AQ 3 24 80]
def oF:RC:=.reg [] [FB 25 9,Ap 9 25 3]
def oG:RC:=.seq (.block 1 (.seq zM (.seq zN (.cond (tp 20) zO .skip)))) oF
def oH:RC:=.seq (.reg [] [L8 10 9 8]) (.seq (.cond (tp 10) .skip (.exit 0)) oG)
def X5:RC:=.seq (.reg [] [Ap 26 3 80,AQ 2 26 80]) .ret
def oI:RC:=.seq (.reg [] [rq 3 (.assign (.const (.int .u16 0))) 80]) (.seq (.seq zL (.block 0 (.loop oH))) X5)
def Sd:RC:=.seq zK oI
def zP:RC:=.reg [] [Ap 7 0 3,Ap 8 1 3,rq 9 (.binOp .leq 3 (tp 7) (tp 8) 3) 4,Ap 10 9 4,DD 11 1 3 10 true,DD 12 2 3 10 true,rg 13 (.binOp .leq 3 (tp 11) (tp 12) 3) 4 10 true,rq 14 (.pick (tp 10) (tp 13) (kb false)) 4,AQ 6 14 4]
def Wu:RC:=.seq (.reg [] [rq 6 (.assign (kb false)) 4]) (.seq zP .ret)
def zQ:RC:=.reg [] [Ap 5 0 80,Ap 6 1 3,rq 7 (.binOp .shr 80 (tp 5) (tp 6) 3) 80,rq 8 (.binOp .and 80 (tp 7) (.const (.int .u16 1)) 80) 80,rq 9 (.binOp .eql 80 (tp 8) (.const (.int .u16 1)) 80) 4,AQ 4 9 4]
def Wv:RC:=.seq (.reg [] [rq 4 (.assign (kb false)) 4]) (.seq zQ .ret)
def zR:RC:=.reg [] [Ap 8 1 3,Ap 9 2 3,rq 10 (cb .min #[tp 8,tp 9] #[3,3]) 3,rq 11 (.binOp .lss 3 (tp 10) (ki 0) 3) 4,Ap 12 11 4,DD 13 1 3 12 false,DD 14 2 3 12 false,rg 15 (cb .max #[tp 13,tp 14] #[3,3]) 3 12 false,rg 16 (.fieldAddr 24 (tp 3) 1) 0 12 false,rg 17 (.load 22 (tp 16)) 22 12 false,rg 18 (cb .len #[tp 17] #[22]) 3 12 false,rg 19 (.binOp .geq 3 (tp 15) (tp 18) 3) 4 12 false,rq 20 (.pick (tp 12) (kb true) (tp 19)) 4,AQ 7 20 4]
def zS:RC:=.reg [] [Ap 22 1 3,Ap 23 2 3,rq 24 (.binOp .geq 3 (tp 22) (tp 23) 3) 4,AQ 21 24 4]
def zT:RC:=.seq zS (.cond (tp 21) (.seq (.reg [] [Cz 6 7 28]) .ret) .skip)
def oJ:RC:=.seq zR (.cond (tp 7) (.seq (.reg [] [Cz 6 2 28]) .ret) zT)
def oK:RC:=.seq (.block 0 oJ) (.seq (.reg [] [Cz 6 0 28]) .ret)
def Sg:RC:=.seq (.reg [] [rq 3 (.box 24 (tp 0)) 0,Cz 6 0 28]) oK
def zU:RC:=.reg [] [Ap 4 0 80,rq 5 (.binOp .neq 80 (tp 4) (.const (.int .u16 0)) 80) 4]
def zV:RC:=.reg [] [Ap 10 3 22,Ap 11 0 80,rq 12 (cf 67 #[tp 11] #[79]) 3,rq 13 (.buildSlice 22 1 #[(0,(tp 12))]) 22,rq 14 (cb .append #[tp 10,tp 13] #[22,22]) 22,AQ 3 14 22]
def zW:RC:=.reg [] [Ap 6 0 80,Ap 7 0 80,rq 8 (.binOp .sub 80 (tp 7) (.const (.int .u16 1)) 80) 80,rq 9 (.binOp .and 80 (tp 6) (tp 8) 80) 80,AQ 0 9 80]
def zX:RC:=.seq (.seq zU (.cond (tp 5) .skip (.exit 0))) (.seq (.block 1 zV) zW)
def X6:RC:=.seq (.reg [] [Ap 15 3 22,AQ 2 15 22]) .ret
def oL:RC:=.seq (.reg [] [rq 3 (.assign (.const (.slice none 0 0))) 22]) (.seq (.block 0 (.loop zX)) X6)
def Si:RC:=.seq (.reg [] [rq 2 (.assign (.const (.slice none 0 0))) 22]) oL
def zY:RC:=.reg [0,1,2,3,4,5,6,7,8] [Ap 3 0 79,rq 4 (.binOp .shr 79 (tp 3) (.const (.int .u64 8)) 102) 79,rq 5 (.index 9 (.const (.string ⟨#[0,1,1,2,1,2,2,3,1,2,2,3,2,3,3,4,1,2,2,3,2,3,3,4,2,3,3,4,3,4,4,5,1,2,2,3,2,3,3,4,2,3,3,4,3,4,4,5,2,3,3,4,3,4,4,5,3,4,4,5,4,5,5,6,1,2,2,3,2,3,3,4,2,3,3,4,3,4,4,5,2,3,3,4,3,4,4,5,3,4,4,5,4,5,5,6,2,3,3,4,3,4,4,5,3,4,4,5,4,5,5,6,3,4,4,5,4,5,5,6,4,5,5,6,5,6,6,7,1,2,2,3,2,3,3,4,2,3,3,4,3,4,4,5,2,3,3,4,3,4,4,5,3,4,4,5,4,5,5,6,2,3,3,4,3,4,4,5,3,4,4,5,4,5,5,6,3,4,4,5,4,5,5,6,4,5,5,6,5,6,6,7,2,3,3,4,3,4,4,5,3,4,4,5,4,5,5,6,3,4,4,5,4,5,5,6,4,5,5,6,5,6,6,7,3,4,4,5,4,5,5,6,4,5,5,6,5,6,6,7,4,5,5,6,5,6,6,7,5,6,6,7,6,7,7,8]⟩)) (tp 4)) 5,Ap 6 0 79,rq 7 (.binOp .and 79 (tp 6) (.const (.int .u16 255)) 79) 79,rq 8 (.index 9 (.const (.string ⟨#[0,1,1,2,1,2,2,3,1,2,2,3,2,3,3,4,1,2,2,3,2,3,3,4,2,3,3,4,3,4,4,5,1,2,2,3,2,3,3,4,2,3,3,4,3,4,4,5,2,3,3,4,3,4,4,5,3,4,4,5,4,5,5,6,1,2,2,3,2,3,3,4,2,3,3,4,3,4,4,5,2,3,3,4,3,4,4,5,3,4,4,5,4,5,5,6,2,3,3,4,3,4,4,5,3,4,4,5,4,5,5,6,3,4,4,5,4,5,5,6,4,5,5,6,5,6,6,7,1,2,2,3,2,3,3,4,2,3,3,4,3,4,4,5,2,3,3,4,3,4,4,5,3,4,4,5,4,5,5,6,2,3,3,4,3,4,4,5,3,4,4,5,4,5,5,6,3,4,4,5,4,5,5,6,4,5,5,6,5,6,6,7,2,3,3,4,3,4,4,5,3,4,4,5,4,5,5,6,3,4,4,5,4,5,5,6,4,5,5,6,5,6,6,7,3,4,4,5,4,5,5,6,4,5,5,6,5,6,6,7,4,5,5,6,5,6,6,7,5,6,6,7,6,7,7,8]⟩)) (tp 7)) 5,rq 9 (.binOp .add 5 (tp 5) (tp 8) 5) 5,rq 10 (.convert 5 3 (tp 9)) 3,AQ 2 10 3]
def Ww:RC:=.seq (.reg [] [Cz 2 0 3]) (.seq zY .ret)
def zZ:RC:=.reg [] [Ap 3 0 79,rq 4 (.binOp .eql 79 (tp 3) (.const (.int .u16 0)) 79) 4]
def Aaa:RC:=.seq zZ (.cond (tp 4) (.seq (.reg [] [Cz 2 16 3]) .ret) .skip)
def Aab:RC:=.reg [] [Ap 5 0 79,Ap 6 0 79,rq 7 (.unOp .neg 79 (tp 6)) 79,rq 8 (.binOp .and 79 (tp 5) (tp 7) 79) 79,rq 9 (.convert 79 108 (tp 8)) 108,rq 10 (.binOp .mul 108 (tp 9) (.const (.int .u32 125613361)) 108) 108,rq 11 (.binOp .shr 108 (tp 10) (.const (.int .u64 27)) 102) 108,rq 12 (.indexAddr 107 (.global 0) (tp 11)) 0,Ce 13 12 5,rq 14 (.convert 5 3 (tp 13)) 3,AQ 2 14 3]
def Wx:RC:=.seq (.reg [] [Cz 2 0 3]) (.seq Aaa (.seq Aab .ret))
def Aac:RC:=.reg [] [DR 7 24 2 1,Ce 8 7 22,EN 9 8 22,rq 10 (.move (ki 0)) 3]
def Aad:RC:=.reg [] [Ap 13 1 80,Ap 14 6 3,rq 15 (cf 53 #[tp 13,tp 14] #[80,3]) 4]
def Aae:RC:=.reg [] [DR 16 24 2 1,Ce 17 16 22,Ap 18 6 3,D5 19 22 17 18,Ce 20 19 3,D5 21 97 5 20,Ce 22 21 3,FB 23 22,D5 24 97 5 20,rn (.store 3 (tp 24) (tp 23)) 0]
def Aaf:RC:=.reg [] [DR 25 24 2 2,Ce 26 25 22,Ap 27 6 3,D5 28 22 26 27,Ce 29 28 3,D5 30 97 5 29,Ce 31 30 3,rq 32 (.binOp .sub 3 (tp 31) (ki 1) 3) 3,D5 33 97 5 29,rn (.store 3 (tp 33) (tp 32)) 0]
def oM:RC:=.seq (.reg [] [Ap 12 10 3,AQ 6 12 3]) (.seq Aad (.cond (tp 15) (.seq Aae Aaf) .skip))
def oN:RC:=.reg [] [FB 34 10,Ap 10 34 3]
def oO:RC:=.seq (.reg [] [L8 11 10 9]) (.seq (.cond (tp 11) .skip (.exit 0)) (.seq (.block 1 oM) oN))
def oP:RC:=.reg [] [Ce 35 5 97,rq 36 (.build 97 #[]) 97,rq 37 (.binOp .eql 97 (tp 35) (tp 36) 97) 4,AQ 4 37 4]
def X7:RC:=.seq oP .ret
def oQ:RC:=.seq (.reg [] [rq 5 (.alloc 97) 0]) (.seq (.seq Aac (.block 0 (.loop oO))) X7)
def Sj:RC:=.seq (.reg [] [rq 2 (.box 24 (tp 0)) 0,rq 4 (.assign (kb false)) 4]) oQ
def Aag:RC:=.reg [] [Ap 3 0 22,Ap 4 0 22,EN 5 4 22,Ap 6 0 22,EN 7 6 22,rq 8 (.slice 22 (tp 3) none (some (tp 5)) (some (tp 7))) 22,AQ 2 8 22]
def Wy:RC:=.seq (.reg [] [rq 2 (.assign (.const (.slice none 0 0))) 22]) (.seq Aag .ret)
def Aah:RC:=.reg [] [rq 13 (.makeMap 47 none) 47,Ap 14 0 22,rq 15 (cf 23 #[tp 14] #[22]) 3,rn (.insert 47 (tp 13) (tp 15) (ki 0)) 0,Ap 16 13 47,AQ 5 16 47]
def Aai:RC:=.reg [] [Ap 17 0 22,rq 18 (.buildSlice 34 1 #[(0,(tp 17))]) 34,AQ 6 18 34]
def Aaj:RC:=.reg [] [Ap 19 6 34,EN 20 19 34,rq 21 (.binOp .gtr 3 (tp 20) (ki 0) 3) 4]
def Aak:RC:=.reg [] [Ap 24 6 34,rq 25 (.indexAddr 34 (tp 24) (ki 0)) 0,Ce 26 25 22,AQ 7 26 22]
def Aal:RC:=.reg [] [Ap 27 7 22,EN 28 27 22,rq 29 (.move (ki 0)) 3]
def oU:RC:=.reg [] [Ap 32 8 3,FB 33 32,AQ 9 33 3]
def oV:RC:=.reg [] [Ap 34 9 3,Ap 35 7 22,EN 36 35 22,rq 37 (.binOp .lss 3 (tp 34) (tp 36) 3) 4,Ap 38 37 4,DD 39 1 4 38 true,rg 40 (.unOp .not 4 (tp 39)) 4 38 true,DD 41 40 4 38 true,DD 42 9 3 41 false,DD 43 8 3 41 false,rg 44 (.binOp .add 3 (tp 43) (ki 1) 3) 3 41 false,rg 45 (.binOp .eql 3 (tp 42) (tp 44) 3) 4 41 false,rg 46 (.pick (tp 41) (kb true) (tp 45)) 4 38 true,rq 47 (.pick (tp 38) (tp 46) (kb false)) 4]
def oW:RC:=.reg [] [Ap 50 7 22,Ap 51 8 3,Ap 52 9 3,rq 53 (cf 24 #[tp 50,tp 51,tp 52] #[22,3,3]) 22,AQ 10 53 22]
def oZ:RC:=.reg [] [Ap 55 5 47,Ap 56 10 22,rq 57 (cf 23 #[tp 56] #[22]) 3,rq 58 (.lookup 47 (tp 55) (tp 57) true) 86,Ap 54 58 86,EM 59 54 0 3,EM 60 54 1 4,AQ 11 59 3,AQ 12 60 4]
def pE:RC:=.reg [] [Ap 63 5 47,Ap 64 10 22,rq 65 (cf 23 #[tp 64] #[22]) 3,Ap 66 5 47,Ap 67 7 22,rq 68 (cf 23 #[tp 67] #[22]) 3,rq 69 (.lookup 47 (tp 66) (tp 68) false) 3,FB 70 69,rn (.mapUpdate 47 (tp 63) (tp 65) (tp 70)) 0]
def pF:RC:=.reg [] [Ap 71 6 34,Ap 72 10 22,rq 73 (.buildSlice 34 1 #[(0,(tp 72))]) 34,rq 74 (cb .append #[tp 71,tp 73] #[34,34]) 34,AQ 6 74 34]
def pG:RC:=.seq (.reg [] [Ap 61 12 4,rq 62 (.unOp .not 4 (tp 61)) 4]) (.cond (tp 62) (.seq pE pF) .skip)
def pI:RC:=.reg [] [Ap 48 9 3,FB 49 48,AQ 9 49 3]
def pJ:RC:=.seq (.seq oV (.cond (tp 47) .skip (.exit 4))) (.seq (.block 5 (.seq oW (.seq oZ pG))) pI)
def pK:RC:=.seq (.reg [] [Ap 31 29 3,AQ 8 31 3]) (.seq oU (.block 4 (.loop pJ)))
def pM:RC:=.reg [] [FB 75 29,Ap 29 75 3]
def pO:RC:=.seq (.reg [] [L8 30 29 28]) (.seq (.cond (tp 30) .skip (.exit 2)) (.seq (.block 3 pK) pM))
def pQ:RC:=.reg [] [Ap 22 6 34,rq 23 (.slice 34 (tp 22) (some (ki 1)) none none) 34,AQ 6 23 34]
def pR:RC:=.seq (.block 1 (.seq Aak (.seq Aal (.block 2 (.loop pO))))) pQ
def pV:RC:=.block 0 (.loop (.seq (.seq Aaj (.cond (tp 21) .skip (.exit 0))) pR))
def X9:RC:=.seq (.reg [] [Ap 76 5 47,AQ 4 76 47]) .ret
def O7:RC:=.seq (.reg [] [rq 4 (.assign (.const (.map none))) 47]) (.seq Aah (.seq (.seq Aai pV) X9))
def Aam:RC:=.reg [] [Ap 6 0 27,EN 7 6 27,Ap 8 1 27,EN 9 8 27,rq 10 (.binOp .neq 3 (tp 7) (tp 9) 3) 4]
def Aan:RC:=.cond (tp 10) (.seq (.reg [] [rq 4 (.assign (kb false)) 4]) .ret) .skip
def Aao:RC:=.reg [] [Ap 11 5 3,Ap 12 0 27,EN 13 12 27,rq 14 (.binOp .lss 3 (tp 11) (tp 13) 3) 4]
def pW:RC:=.reg [0,1,2,3,4,5,6,7,8] [Ap 17 0 27,Ap 18 5 3,D5 19 27 17 18,Ce 20 19 51,Ap 21 1 27,Ap 22 5 3,D5 23 27 21 22,Ce 24 23 51,rq 25 (.binOp .neq 51 (tp 20) (tp 24) 51) 4]
def pX:RC:=.cond (tp 25) (.seq (.reg [] [rq 4 (.assign (kb false)) 4]) .ret) .skip
def pY:RC:=.reg [] [Ap 15 5 3,FB 16 15,AQ 5 16 3]
def qA:RC:=.seq (.seq Aao (.cond (tp 14) .skip (.exit 0))) (.seq (.block 1 (.seq pW pX)) pY)
def Ya:RC:=.seq (.reg [] [rq 4 (.assign (kb true)) 4]) .ret
def qB:RC:=.seq (.seq (.reg [] [Cz 5 0 3]) (.block 0 (.loop qA))) Ya
def O8:RC:=.seq (.reg [] [rq 4 (.assign (kb false)) 4]) (.seq (.seq Aam Aan) qB)
def Aap:RC:=.reg [] [rq 1 (.box 24 (tp 0)) 0,rq 2 (.assign (.const (.pointer none))) 94]
def Aaq:RC:=.reg [] [Ce 3 1 24,rq 4 (.makeMap 103 none) 103,rn (.insert 103 (tp 4) (.const (.int .u16 0)) (ki 0)) 0,Ap 5 4 103,rq 6 (.build 105 #[(0,(tp 3)),(1,(tp 5))]) 105,rq 7 (.box 105 (tp 6)) 94,AQ 2 7 94]
def TY:RC:=.seq Aap (.seq Aaq .ret)
def Aar:RC:=.reg [] [Ap 11 0 94,rq 12 (.nilCheck (tp 11)) 0,DR 13 105 12 1,Ce 14 13 103,Ap 15 1 80,rq 16 (.lookup 103 (tp 14) (tp 15) true) 86,Ap 10 16 86,EM 17 10 0 3,EM 18 10 1 4,AQ 5 17 3,AQ 6 18 4]
def Aas:RC:=.cond (tp 19) (.seq (.reg [] [Ap 20 5 3,AQ 4 20 3]) .ret) .skip
def Aat:RC:=.reg [] [Ap 21 1 80,rq 22 (cf 62 #[tp 21] #[80]) 22,EN 23 22 22,rq 24 (.move (ki 0)) 3]
def qC:RC:=.reg [] [D5 26 22 22 24,Ce 27 26 3,AQ 9 27 3]
def qR:RC:=.reg [] [Ap 28 7 3,Ap 29 0 94,Ap 30 1 80,Ap 31 9 3,rq 32 (.binOp .shl 80 (.const (.int .u16 1)) (tp 31) 3) 80,rq 33 (.binOp .andNot 80 (tp 30) (tp 32) 80) 80,rq 34 (cf 66 #[tp 29,tp 33] #[94,80]) 3,rq 35 (cb .max #[tp 28,tp 34] #[3,3]) 3,AQ 7 35 3]
def qU:RC:=.reg [] [FB 36 24,Ap 24 36 3]
def qV:RC:=.seq (.cond (tp 25) .skip (.exit 0)) (.seq (.block 1 (.seq qC qR)) qU)
def qW:RC:=.loop (.seq (.reg [] [L8 25 24 23]) qV)
def qX:RC:=.reg [] [Ap 37 0 94,rq 38 (.nilCheck (tp 37)) 0,DR 39 105 38 0,Ce 40 39 24,Ap 41 1 80,rq 42 (cf 71 #[tp 40,tp 41] #[24,80]) 4]
def rA:RC:=.reg [] [Ap 43 7 3,FB 44 43,AQ 7 44 3]
def rC:RC:=.reg [] [Ap 45 0 94,rq 46 (.nilCheck (tp 45)) 0,DR 47 105 46 1,Ce 48 47 103,Ap 49 1 80,Ap 50 7 3,rn (.mapUpdate 103 (tp 48) (tp 49) (tp 50)) 0]
def Yb:RC:=.seq rC (.seq (.reg [] [Ap 51 7 3,AQ 4 51 3]) .ret)
def Yc:RC:=.seq (.seq qX (.cond (tp 42) rA .skip)) Yb
def rD:RC:=.seq (.reg [] [Cz 7 0 3]) (.seq (.seq Aat (.block 0 qW)) Yc)
def rE:RC:=.seq (.seq Aar (.seq (.reg [] [Ap 19 6 4]) Aas)) rD
def O9:RC:=.seq (.reg [] [Cz 4 0 3]) rE
def Aau:RC:=.reg [] [Ap 13 1 22,Ap 14 1 22,EN 15 14 22,rq 16 (.binOp .sub 3 (tp 15) (ki 1) 3) 3,D5 17 22 13 16,Ce 18 17 3,AQ 9 18 3]
def Aav:RC:=.reg [0,1,2,3,4,5,6,7,8,9,10,11,12,13,14,15,16,17,18,19,20,21,22,23,24,25,26,27,28,29,31,30,32,33] [Ap 19 0 94,rq 20 (.nilCheck (tp 19)) 0,DR 21 105 20 0,DR 22 24 21 2,Ce 23 22 22,Ap 24 9 3,D5 25 22 23 24,Ce 26 25 3,Ap 27 0 94,rq 28 (.nilCheck (tp 27)) 0,DR 29 105 28 0,DR 30 24 29 1,Ce 31 30 22,Ap 32 1 22,rq 33 (.indexAddr 22 (tp 32) (ki 0)) 0,Ce 34 33 3,D5 35 22 31 34,Ce 36 35 3,rq 37 (.binOp .eql 3 (tp 26) (tp 36) 3) 4,Ap 38 37 4,DD 39 0 94 38 true,rg 40 (.nilCheck (tp 39)) 0 38 true,rg 41 (.fieldAddr 105 (tp 40) 0) 0 38 true,rg 42 (.load 24 (tp 41)) 24 38 true,DD 43 2 80 38 true,rg 44 (cf 71 #[tp 42,tp 43] #[24,80]) 4 38 true,rq 45 (.pick (tp 38) (tp 44) (kb false)) 4,Ap 46 45 4,DD 47 0 94 46 true,DD 48 2 80 46 true,DD 50 3 3 46 true,rg 49 (cf 66 #[tp 47,tp 48] #[94,80]) 3 46 true,rg 51 (.binOp .eql 3 (tp 49) (tp 50) 3) 4 46 true,rq 52 (.pick (tp 46) (tp 51) (kb false)) 4]
def Aaw:RC:=.seq (.reg [] [Ap 53 1 22,AQ 8 53 22]) .ret
def Aax:RC:=.reg [] [Ap 54 2 80,rq 55 (cf 62 #[tp 54] #[80]) 22,EN 56 55 22,rq 57 (.move (ki 0)) 3]
def rF:RC:=.reg [] [D5 59 22 55 57,Ce 60 59 3,AQ 11 60 3]
def rG:RC:=.reg [0,1,2,3,4,5,6,7,8,9,10,11,12,13,14,15,16] [Ap 61 0 94,rq 62 (.nilCheck (tp 61)) 0,DR 63 105 62 0,DR 64 24 63 1,Ce 65 64 22,Ap 66 11 3,D5 67 22 65 66,Ce 68 67 3,Ap 69 0 94,rq 70 (.nilCheck (tp 69)) 0,DR 71 105 70 0,DR 72 24 71 2,Ce 73 72 22,Ap 74 9 3,D5 75 22 73 74,Ce 76 75 3,rq 77 (.binOp .eql 3 (tp 68) (tp 76) 3) 4]
def rH:RC:=.reg [0,1,3,4,6,7,8,9,10,2,5,11,12] [Ap 78 0 94,Ap 79 1 22,Ap 81 11 3,rq 82 (.buildSlice 22 1 #[(0,(tp 81))]) 22,Ap 84 2 80,Ap 85 11 3,rq 86 (.binOp .shl 80 (.const (.int .u16 1)) (tp 85) 3) 80,rq 87 (.binOp .andNot 80 (tp 84) (tp 86) 80) 80,Ap 88 3 3,rq 80 (cf 72 #[tp 79] #[22]) 22,rq 83 (cb .append #[tp 80,tp 82] #[22,22]) 22,rq 89 (cf 68 #[tp 78,tp 83,tp 87,tp 88] #[94,22,80,3]) 22,AQ 12 89 22]
def rJ:RC:=.reg [] [Ap 90 12 22,rq 91 (.binOp .neq 22 (tp 90) (.const (.slice none 0 0)) 22) 4]
def rM:RC:=.seq (.reg [] [Ap 92 12 22,AQ 8 92 22]) .ret
def rO:RC:=.cond (tp 77) (.seq rH (.seq rJ (.cond (tp 91) rM .skip))) .skip
def rP:RC:=.reg [] [FB 93 57,Ap 57 93 3]
def rQ:RC:=.seq (.cond (tp 58) .skip (.exit 0)) (.seq (.block 1 (.seq rF (.seq rG rO))) rP)
def rR:RC:=.loop (.seq (.reg [] [L8 58 57 56]) rQ)
def Yd:RC:=.seq (.reg [] [rq 8 (.assign (.const (.slice none 0 0))) 22]) .ret
def rT:RC:=.seq (.seq Aav (.cond (tp 52) Aaw .skip)) (.seq (.seq Aax (.block 0 rR)) Yd)
def Pb:RC:=.seq (.reg [] [rq 8 (.assign (.const (.slice none 0 0))) 22]) (.seq Aau rT)
end Go.MnO
set_option maxRecDepth 100000
namespace Go.MnO
open Go.Sp
def c5:RC:=R3
def c12:RC:=
 .seq (.reg [] [
  rq 0 (.assign (kb false)) 4])
 (.seq (.reg [] [
   rq 20 (cf 39 #[] #[]) 24,rq 21 (cf 38 #[(tp 20)] #[24]) 60,Ap 19 21 60,EM 22 19 0 22,EM 23 19 1 28,AQ 1 22 22,AQ 2 23 28])
 (.seq (.reg [] [
   rq 25 (cf 39 #[] #[]) 24,rq 26 (cf 29 #[(tp 25)] #[24]) 38,Ap 24 26 38,EM 27 24 0 3,EM 28 24 1 28,AQ 3 27 3,AQ 4 28 28])
 (.seq (.reg [] [
   rq 30 (cf 40 #[] #[]) 24,rq 31 (cf 29 #[(tp 30)] #[24]) 38,Ap 29 31 38,EM 32 29 0 3,EM 33 29 1 28,AQ 5 32 3,AQ 6 33 28])
 (.seq (.reg [] [
   rq 35 (cf 39 #[] #[]) 24,rq 36 (cf 16 #[(tp 35)] #[24]) 35,Ap 34 36 35,EM 37 34 0 34,EM 38 34 1 28,AQ 7 37 34,AQ 8 38 28])
 (.seq (.reg [] [
   rq 40 (cf 39 #[] #[]) 24,rq 41 (.buildSlice 22 2 #[(0,(ki 0)),(1,(ki 4))]) 22,rq 42 (cf 42 #[(tp 41)] #[22]) 22,rq 43 (.buildSlice 22 3 #[(0,(ki 1)),(1,(ki 2)),(2,(ki 3))]) 22,rq 44 (cf 42 #[(tp 43)] #[22]) 22,rq 45 (.buildSlice 34 2 #[(0,(tp 42)),(1,(tp 44))]) 34,rq 46 (cf 41 #[(tp 45)] #[34]) 34,rq 47 (cf 18 #[(tp 40),(tp 46)] #[24,34]) 38,Ap 39 47 38,EM 48 39 0 3,EM 49 39 1 28,AQ 9 48 3,AQ 10 49 28])
 (.seq (.reg [] [
   rq 51 (cf 40 #[] #[]) 24,rq 52 (cf 25 #[(tp 51),(ki 0),(ki 2)] #[24,3,3]) 52,Ap 50 52 52,EM 53 50 0 24,EM 54 50 1 28,rq 11 (.alloc 24) 0,rn (.store 24 (tp 11) (tp 53)) 0,AQ 12 54 28])
 (.seq (.reg [] [
   rq 56 (cf 40 #[] #[]) 24,rq 57 (cf 13 #[(tp 56)] #[24]) 29,Ap 55 57 29,EM 58 55 0 27,EM 59 55 1 28,AQ 13 58 27,AQ 14 59 28])
 (.seq (.seq (.reg [] [
   Ap 60 2 28,rq 61 (.binOp .neq 28 (tp 60) (ki 0) 28) 4,Ap 62 61 4,DD 63 4 28 62 false,rg 64 (.binOp .neq 28 (tp 63) (ki 0) 28) 4 62 false,rq 65 (.pick (tp 62) (kb true) (tp 64)) 4,Ap 66 65 4,DD 67 6 28 66 false,rg 68 (.binOp .neq 28 (tp 67) (ki 0) 28) 4 66 false,rq 69 (.pick (tp 66) (kb true) (tp 68)) 4,Ap 70 69 4,DD 71 8 28 70 false,rg 72 (.binOp .neq 28 (tp 71) (ki 0) 28) 4 70 false,rq 73 (.pick (tp 70) (kb true) (tp 72)) 4,Ap 74 73 4,DD 75 10 28 74 false,rg 76 (.binOp .neq 28 (tp 75) (ki 0) 28) 4 74 false,rq 77 (.pick (tp 74) (kb true) (tp 76)) 4,Ap 78 77 4,DD 79 12 28 78 false,rg 80 (.binOp .neq 28 (tp 79) (ki 0) 28) 4 78 false,rq 81 (.pick (tp 78) (kb true) (tp 80)) 4,Ap 82 81 4,DD 83 14 28 82 false,rg 84 (.binOp .neq 28 (tp 83) (ki 0) 28) 4 82 false,rq 85 (.pick (tp 82) (kb true) (tp 84)) 4])
 (.cond (tp 85) (.seq (.reg [] [
   rq 0 (.assign (kb false)) 4])
  (.ret))
 (.skip)))
 (.seq (.reg [] [
   rq 87 (cf 27 #[(ki 5),(ki 3)] #[3,3]) 38,Ap 86 87 38,EM 88 86 0 3,EM 89 86 1 28,AQ 15 88 3,AQ 2 89 28])
 (.seq (.reg [] [
   rq 91 (cf 39 #[] #[]) 24,rq 92 (cf 31 #[(tp 91)] #[24]) 60,Ap 90 92 60,EM 93 90 0 22,EM 94 90 1 28,AQ 16 93 22,AQ 4 94 28])
 (.seq (.reg [] [
   rq 96 (cf 40 #[] #[]) 24,rq 97 (cf 30 #[(tp 96)] #[24]) 38,Ap 95 97 38,EM 98 95 0 3,EM 99 95 1 28,AQ 17 98 3,AQ 6 99 28])
 (.seq (.reg [] [
   rq 101 (cf 40 #[] #[]) 24,rq 102 (cf 16 #[(tp 101)] #[24]) 35,Ap 100 102 35,EM 103 100 0 34,EM 104 100 1 28,AQ 18 103 34,AQ 8 104 28])
 (.seq (.reg [] [
   rq 106 (cf 39 #[] #[]) 24,rq 107 (.buildSlice 22 2 #[(0,(ki 0)),(1,(ki 1))]) 22,rq 108 (cf 42 #[(tp 107)] #[22]) 22,rq 109 (.buildSlice 22 3 #[(0,(ki 2)),(1,(ki 3)),(2,(ki 4))]) 22,rq 110 (cf 42 #[(tp 109)] #[22]) 22,rq 111 (.buildSlice 34 2 #[(0,(tp 108)),(1,(tp 110))]) 34,rq 112 (cf 41 #[(tp 111)] #[34]) 34,rq 113 (cf 18 #[(tp 106),(tp 112)] #[24,34]) 38,Ap 105 113 38,EM 114 105 0 3,EM 115 105 1 28,AQ 10 115 28])
 (.seq (.reg [0, 1, 2, 3, 4, 5, 6, 7, 8, 9, 10, 11, 12, 13, 14, 15, 16, 17, 18, 19, 20, 21, 22, 23, 24, 25, 26, 27, 28, 29, 30, 31, 32, 33, 34, 35, 36, 37, 38, 39, 40, 41, 42, 43, 44, 45, 46, 48, 47, 49, 50, 51, 52, 53, 54, 55, 56, 58, 57, 59, 60, 61, 62, 63, 64, 65, 66, 67, 68, 69, 70, 71, 72, 73, 74, 75, 76, 77, 78, 79, 80, 81, 82, 83, 84, 85, 86, 88, 89, 90, 87, 91, 92, 93, 94, 96, 97, 98, 95, 99, 100, 101, 102] [
   Ap 116 2 28,rq 117 (.binOp .eql 28 (tp 116) (ki 0) 28) 4,Ap 118 117 4,DD 119 4 28 118 true,rg 120 (.binOp .eql 28 (tp 119) (ki 0) 28) 4 118 true,rq 121 (.pick (tp 118) (tp 120) (kb false)) 4,Ap 122 121 4,DD 123 6 28 122 true,rg 124 (.binOp .eql 28 (tp 123) (ki 0) 28) 4 122 true,rq 125 (.pick (tp 122) (tp 124) (kb false)) 4,Ap 126 125 4,DD 127 8 28 126 true,rg 128 (.binOp .eql 28 (tp 127) (ki 0) 28) 4 126 true,rq 129 (.pick (tp 126) (tp 128) (kb false)) 4,Ap 130 129 4,DD 131 10 28 130 true,rg 132 (.binOp .eql 28 (tp 131) (ki 14) 28) 4 130 true,rq 133 (.pick (tp 130) (tp 132) (kb false)) 4,Ap 134 133 4,DD 135 3 3 134 true,rg 136 (.binOp .eql 3 (tp 135) (ki 3) 3) 4 134 true,rq 137 (.pick (tp 134) (tp 136) (kb false)) 4,Ap 138 137 4,DD 139 5 3 138 true,rg 140 (.binOp .eql 3 (tp 139) (ki 2) 3) 4 138 true,rq 141 (.pick (tp 138) (tp 140) (kb false)) 4,Ap 142 141 4,DD 143 9 3 142 true,rg 144 (.binOp .eql 3 (tp 143) (ki 2) 3) 4 142 true,rq 145 (.pick (tp 142) (tp 144) (kb false)) 4,Ap 146 145 4,DD 147 15 3 146 true,rg 148 (.binOp .eql 3 (tp 147) (ki 3) 3) 4 146 true,rq 149 (.pick (tp 146) (tp 148) (kb false)) 4,Ap 150 149 4,DD 151 17 3 150 true,rg 152 (.binOp .eql 3 (tp 151) (ki 4) 3) 4 150 true,rq 153 (.pick (tp 150) (tp 152) (kb false)) 4,Ap 154 153 4,DD 155 1 22 154 true,rg 156 (.buildSlice 22 5 #[(0,(ki 0)),(1,(ki 1)),(2,(ki 2)),(3,(ki 3)),(4,(ki 4))]) 22 154 true,rg 157 (cf 42 #[(tp 156)] #[22]) 22 154 true,rg 158 (cf 26 #[(tp 155),(tp 157)] #[22,22]) 4 154 true,rq 159 (.pick (tp 154) (tp 158) (kb false)) 4,Ap 160 159 4,DD 161 7 34 160 true,rg 162 (.buildSlice 22 3 #[(0,(ki 0)),(1,(ki 1)),(2,(ki 2))]) 22 160 true,rg 164 (.buildSlice 22 2 #[(0,(ki 3)),(1,(ki 4))]) 22 160 true,rg 163 (cf 42 #[(tp 162)] #[22]) 22 160 true,rg 165 (cf 42 #[(tp 164)] #[22]) 22 160 true,rg 166 (.buildSlice 34 2 #[(0,(tp 163)),(1,(tp 165))]) 34 160 true,rg 167 (cf 41 #[(tp 166)] #[34]) 34 160 true,rg 168 (cf 20 #[(tp 161),(tp 167)] #[34,34]) 4 160 true,rq 169 (.pick (tp 160) (tp 168) (kb false)) 4,Ap 170 169 4,DD 171 18 34 170 true,rg 172 (.buildSlice 22 2 #[(0,(ki 0)),(1,(ki 2))]) 22 170 true,rg 174 (.buildSlice 22 2 #[(0,(ki 1)),(1,(ki 3))]) 22 170 true,rg 173 (cf 42 #[(tp 172)] #[22]) 22 170 true,rg 175 (cf 42 #[(tp 174)] #[22]) 22 170 true,rg 176 (.buildSlice 34 2 #[(0,(tp 173)),(1,(tp 175))]) 34 170 true,rg 177 (cf 41 #[(tp 176)] #[34]) 34 170 true,rg 178 (cf 20 #[(tp 171),(tp 177)] #[34,34]) 4 170 true,rq 179 (.pick (tp 170) (tp 178) (kb false)) 4,Ap 180 179 4,rg 181 (.fieldAddr 24 (tp 11) 1) 0 180 true,rg 182 (.load 22 (tp 181)) 22 180 true,rg 183 (.buildSlice 22 4 #[(0,(ki 1)),(1,(ki 0)),(2,(ki 0)),(3,(ki 1))]) 22 180 true,
   ⟨(some 184),cf 42 #[(tp 183)] #[22],22,(some ((some 180),true)),[(tp 181)]⟩,rg 185 (cf 26 #[(tp 182),(tp 184)] #[22,22]) 4 180 true,rq 186 (.pick (tp 180) (tp 185) (kb false)) 4,Ap 187 186 4,DD 188 13 27 187 true,rg 189 (.build 51 #[(0,(ki 0)),(1,(ki 2))]) 51 187 true,rg 190 (.build 51 #[(0,(ki 0)),(1,(ki 3))]) 51 187 true,rg 191 (.build 51 #[(0,(ki 1)),(1,(ki 2))]) 51 187 true,rg 192 (.build 51 #[(0,(ki 1)),(1,(ki 3))]) 51 187 true,rg 193 (.buildSlice 27 4 #[(0,(tp 189)),(1,(tp 190)),(2,(tp 191)),(3,(tp 192))]) 27 187 true,rg 194 (cf 15 #[(tp 188),(tp 193)] #[27,27]) 4 187 true,rq 195 (.pick (tp 187) (tp 194) (kb false)) 4,Ap 196 195 4,DD 197 16 22 196 true,rg 198 (.buildSlice 22 5 #[(0,(ki 1)),(1,(ki 2)),(2,(ki 0)),(3,(ki 4)),(4,(ki 3))]) 22 196 true,rg 199 (cf 42 #[(tp 198)] #[22]) 22 196 true,rg 200 (cf 26 #[(tp 197),(tp 199)] #[22,22]) 4 196 true,rq 201 (.pick (tp 196) (tp 200) (kb false)) 4,Ap 202 201 4,rg 204 (.build 51 #[(0,(ki 0)),(1,(ki 2))]) 51 202 true,rg 205 (.build 51 #[(0,(ki 1)),(1,(ki 3))]) 51 202 true,rg 206 (.buildSlice 27 2 #[(0,(tp 204)),(1,(tp 205))]) 27 202 true,rg 203 (cf 40 #[] #[]) 24 202 true,rg 207 (cf 34 #[(tp 203),(tp 206)] #[24,27]) 28 202 true,rg 208 (.binOp .eql 28 (tp 207) (ki 0) 28) 4 202 true,rq 209 (.pick (tp 202) (tp 208) (kb false)) 4,Ap 210 209 4,rg 212 (.build 51 #[(0,(ki 0)),(1,(ki 1))]) 51 210 true,rg 213 (.build 51 #[(0,(ki 2)),(1,(ki 3))]) 51 210 true,rg 214 (.buildSlice 27 2 #[(0,(tp 212)),(1,(tp 213))]) 27 210 true,rg 211 (cf 40 #[] #[]) 24 210 true,rg 215 (cf 34 #[(tp 211),(tp 214)] #[24,27]) 28 210 true,rg 216 (.binOp .eql 28 (tp 215) (ki 14) 28) 4 210 true,rq 217 (.pick (tp 210) (tp 216) (kb false)) 4,AQ 0 217 4])
 (.ret)))))))))))))))
def c13:RC:=R4
def c15:RC:=O8
def c16:RC:=R5
def c18:RC:=
 .seq (.reg [] [
  rq 2 (.box 24 (tp 0)) 0,Cz 4 0 3,Cz 5 0 28])
 (.seq (.seq (.reg [] [
   Ce 16 2 24,rq 17 (cf 47 #[(tp 16)] #[24]) 28,AQ 6 17 28])
 (.seq (.reg [] [
   Ap 18 6 28,rq 19 (.binOp .neq 28 (tp 18) (ki 0) 28) 4])
 (.cond (tp 19) (.seq (.reg [] [
   Ap 20 6 28,
   Cz 4 0 3,
   AQ 5 20 28])
  (.ret))
 (.skip))))
 (.seq (.reg [] [
   Ce 21 2 24,rq 22 (cf 51 #[(tp 21)] #[24]) 80,AQ 7 22 80])
 (.seq (.reg [] [
   rq 8 (.assign (.const (.int .u16 0))) 80])
 (.seq (.seq (.reg [] [
   Ap 23 1 34,EN 24 23 34,rq 25 (.move (ki 0)) 3])
 (.block 0 (.loop (.seq (.reg [] [
   L8 26 25 24])
   (.seq (.cond (tp 26) (.skip)
   (.exit 0))
   (.seq (.block 1 (.seq (.reg [] [
     D5 27 34 23 25,
     Ce 28 27 22,
     AQ 10 28 22])
    (.seq (.seq (.reg [] [
      Ap 29 10 22,
      EN 30 29 22,
      rq 31 (.binOp .eql 3 (tp 30) (ki 0) 3) 4])
    (.cond (tp 31) (.seq (.reg [] [
      Cz 4 0 3,
      Cz 5 4 28])
     (.ret))
    (.skip)))
    (.seq (.seq (.reg [] [
      Ap 32 10 22,
      EN 33 32 22,
      rq 34 (.move (ki 0)) 3])
    (.block 2 (.loop (.seq (.reg [] [
      L8 35 34 33])
      (.seq (.cond (tp 35) (.skip)
      (.exit 2))
      (.seq (.block 3 (.seq (.reg [] [
        D5 36 22 32 34,
        Ce 37 36 3,
        AQ 12 37 3])
       (.seq (.block 4 (.seq (.reg [] [
         Ap 39 12 3,
         DR 40 24 2 1,
         Ce 41 40 22,
         EN 42 41 22,
         rq 43 (.binOp .sub 3 (tp 42) (ki 1) 3) 3,
         rq 44 (cf 52 #[(ki 0),(tp 39),(tp 43)] #[3,3,3]) 4,
         rq 45 (.unOp .not 4 (tp 44)) 4,
         AQ 38 45 4])
        (.cond (tp 38) (.seq (.reg [] [
          Cz 4 0 3,
          Cz 5 2 28])
         (.ret))
        (.seq (.reg [] [
          Ap 47 8 80,
          Ap 48 12 3,
          rq 49 (cf 53 #[(tp 47),(tp 48)] #[80,3]) 4,
          AQ 46 49 4])
         (.cond (tp 46) (.seq (.reg [] [
           Cz 4 0 3,
           Cz 5 6 28])
          (.ret))
         (.seq (.reg [] [
           Ap 51 7 80,
           Ap 52 12 3,
           rq 53 (cf 53 #[(tp 51),(tp 52)] #[80,3]) 4,
           rq 54 (.unOp .not 4 (tp 53)) 4,
           AQ 50 54 4])
          (.cond (tp 50) (.seq (.reg [] [
            Cz 4 0 3,
            Cz 5 13 28])
           (.ret))
          (.skip))))))))
       (.reg [] [
         Ap 55 8 80,
         Ap 56 12 3,
         rq 57 (.binOp .shl 80 (.const (.int .u16 1)) (tp 56) 3) 80,
         rq 58 (.binOp .or 80 (tp 55) (tp 57) 80) 80,
         AQ 8 58 80]))))
      (.reg [] [
        FB 59 34,
        Ap 34 59 3])))))))
    (.seq (.reg [] [
      Ap 60 10 22,
      Ap 61 10 22,
      EN 62 61 22,
      rq 63 (.binOp .sub 3 (tp 62) (ki 1) 3) 3,
      D5 64 22 60 63,
      Ce 65 64 3,
      AQ 13 65 3])
    (.seq (.reg [] [
      Ap 66 10 22,
      EN 67 66 22,
      rq 68 (.move (ki 0)) 3])
    (.block 5 (.loop (.seq (.reg [] [
      L8 69 68 67])
      (.seq (.cond (tp 69) (.skip)
      (.exit 5))
      (.seq (.block 6 (.seq (.reg [] [
        D5 70 22 66 68,
        Ce 71 70 3,
        AQ 15 71 3])
       (.seq (.seq (.reg [0, 1, 2, 3, 4, 5, 6, 7, 8, 9, 10] [
         DR 72 24 2 2,
         Ce 73 72 22,
         Ap 74 13 3,
         D5 75 22 73 74,
         Ce 76 75 3,
         DR 77 24 2 1,
         Ce 78 77 22,
         Ap 79 15 3,
         D5 80 22 78 79,
         Ce 81 80 3,
         rq 82 (.binOp .neq 3 (tp 76) (tp 81) 3) 4])
       (.cond (tp 82) (.seq (.reg [] [
         Cz 4 0 3,
         Cz 5 14 28])
        (.ret))
       (.skip)))
       (.reg [] [
         Ap 83 15 3,
         AQ 13 83 3]))))
      (.reg [] [
        FB 84 68,
        Ap 68 84 3]))))))))))))
   (.reg [] [
     FB 85 25,
     Ap 25 85 3])))))))
 (.seq (.seq (.reg [] [
   Ap 86 8 80,Ap 87 7 80,rq 88 (.binOp .neq 80 (tp 86) (tp 87) 80) 4])
 (.cond (tp 88) (.seq (.reg [] [
   Cz 4 0 3,
   Cz 5 21 28])
  (.ret))
 (.skip)))
 (.seq (.reg [] [
   Ap 89 1 34,EN 90 89 34,AQ 4 90 3,Cz 5 0 28])
 (.ret)))))))
def c20:RC:=
 .seq (.reg [] [
  rq 4 (.assign (kb false)) 4])
 (.seq (.seq (.reg [] [
   Ap 6 0 34,EN 7 6 34,Ap 8 1 34,EN 9 8 34,rq 10 (.binOp .neq 3 (tp 7) (tp 9) 3) 4])
 (.cond (tp 10) (.seq (.reg [] [
   rq 4 (.assign (kb false)) 4])
  (.ret))
 (.skip)))
 (.seq (.seq (.reg [] [
   Cz 5 0 3])
 (.block 0 (.loop (.seq (.seq (.reg [] [
   Ap 11 5 3,
   Ap 12 0 34,
   EN 13 12 34,
   rq 14 (.binOp .lss 3 (tp 11) (tp 13) 3) 4])
   (.cond (tp 14) (.skip)
   (.exit 0)))
   (.seq (.block 1 (.seq (.reg [0, 1, 2, 3, 4, 5, 6, 7, 8, 9] [
     Ap 17 0 34,
     Ap 18 5 3,
     D5 19 34 17 18,
     Ce 20 19 22,
     Ap 21 1 34,
     Ap 22 5 3,
     D5 23 34 21 22,
     Ce 24 23 22,
     rq 25 (cf 26 #[(tp 20),(tp 24)] #[22,22]) 4,
     rq 26 (.unOp .not 4 (tp 25)) 4])
    (.cond (tp 26) (.seq (.reg [] [
      rq 4 (.assign (kb false)) 4])
     (.ret))
    (.skip))))
   (.reg [] [
     Ap 15 5 3,
     FB 16 15,
     AQ 5 16 3]))))))
 (.seq (.reg [] [
   rq 4 (.assign (kb true)) 4])
 (.ret))))
def c21:RC:=R6
def c22:RC:=O7
def c23:RC:=R7
def c24:RC:=Wq
def c25:RC:=R8
def c26:RC:=R9
def c27:RC:=
 .seq (.reg [] [
  Cz 4 0 3,Cz 5 0 28])
 (.seq (.seq (.reg [] [
   Ap 6 0 3,rq 7 (cf 52 #[(ki 1),(tp 6),(ki 10)] #[3,3,3]) 4,rq 8 (.unOp .not 4 (tp 7)) 4,Ap 9 8 4,DD 10 1 3 9 false,rg 11 (cf 52 #[(ki 1),(tp 10),(ki 5)] #[3,3,3]) 4 9 false,rg 12 (.unOp .not 4 (tp 11)) 4 9 false,rq 13 (.pick (tp 9) (kb true) (tp 12)) 4])
 (.cond (tp 13) (.seq (.reg [] [
   Cz 4 0 3,
   Cz 5 1 28])
  (.ret))
 (.skip)))
 (.seq (.reg [] [
   Ap 14 0 3,Ap 15 0 3,Ap 16 1 3,rq 17 (.binOp .add 3 (tp 15) (tp 16) 3) 3,rq 18 (.binOp .sub 3 (tp 17) (ki 1) 3) 3,Ap 19 1 3,rq 20 (.binOp .quo 3 (tp 18) (tp 19) 3) 3,rq 21 (.binOp .sub 3 (tp 14) (tp 20) 3) 3,AQ 4 21 3,Cz 5 0 28])
 (.ret)))
def c29:RC:=Sa
def c30:RC:=
 .seq (.reg [] [
  rq 1 (.box 24 (tp 0)) 0,Cz 2 0 3,Cz 3 0 28])
 (.seq (.seq (.reg [] [
   Ce 12 1 24,rq 13 (cf 47 #[(tp 12)] #[24]) 28,AQ 4 13 28])
 (.seq (.reg [] [
   Ap 14 4 28,rq 15 (.binOp .neq 28 (tp 14) (ki 0) 28) 4])
 (.cond (tp 15) (.seq (.reg [] [
   Ap 16 4 28,
   Cz 2 0 3,
   AQ 3 16 28])
  (.ret))
 (.skip))))
 (.seq (.reg [] [
   rq 5 (.assign (.func 58)) 88])
 (.seq (.reg [] [
   Ap 17 5 88,Ce 18 1 24,rq 19 (.call ⟨.value (tp 17),#[(tp 18)],#[24]⟩) 22,AQ 6 19 22])
 (.seq (.reg [] [
   Cz 7 0 3])
 (.seq (.seq (.reg [] [
   Ap 20 6 22,EN 21 20 22,rq 22 (.move (ki 0)) 3])
 (.block 0 (.loop (.seq (.reg [] [
   L8 23 22 21])
   (.seq (.cond (tp 23) (.skip)
   (.exit 0))
   (.seq (.block 1 (.seq (.reg [] [
     Ap 24 22 3,
     D5 25 22 20 22,
     Ce 26 25 3,
     AQ 8 24 3,
     AQ 9 26 3])
    (.seq (.reg [] [
      Ap 27 6 22,
      Ap 28 8 3,
      FB 29 28,
      rq 30 (.slice 22 (tp 27) (some (tp 29)) none none) 22,
      EN 31 30 22,
      rq 32 (.move (ki 0)) 3])
    (.block 2 (.loop (.seq (.reg [] [
      L8 33 32 31])
      (.seq (.cond (tp 33) (.skip)
      (.exit 2))
      (.seq (.block 3 (.seq (.reg [] [
        D5 34 22 30 32,
        Ce 35 34 3,
        AQ 11 35 3])
       (.seq (.reg [] [
         Ap 36 9 3,
         Ap 37 11 3,
         rq 38 (.binOp .gtr 3 (tp 36) (tp 37) 3) 4])
       (.cond (tp 38) (.reg [] [
         Ap 39 7 3,
         FB 40 39,
         AQ 7 40 3])
       (.skip)))))
      (.reg [] [
        FB 41 32,
        Ap 32 41 3])))))))))
   (.reg [] [
     FB 42 22,
     Ap 22 42 3])))))))
 (.seq (.reg [] [
   Ap 43 7 3,AQ 2 43 3,Cz 3 0 28])
 (.ret)))))))
def c31:RC:=
 .seq (.reg [] [
  rq 1 (.box 24 (tp 0)) 0,rq 2 (.assign (.const (.slice none 0 0))) 22,Cz 3 0 28])
 (.seq (.seq (.reg [] [
   Ce 5 1 24,rq 6 (cf 47 #[(tp 5)] #[24]) 28,AQ 4 6 28])
 (.seq (.reg [] [
   Ap 7 4 28,rq 8 (.binOp .neq 28 (tp 7) (ki 0) 28) 4])
 (.cond (tp 8) (.seq (.reg [] [
   Ap 9 4 28,
   rq 2 (.assign (.const (.slice none 0 0))) 22,
   AQ 3 9 28])
  (.ret))
 (.skip))))
 (.seq (.reg [] [
   Ce 10 1 24,rq 11 (cf 58 #[(tp 10)] #[24]) 22,AQ 2 11 22,Cz 3 0 28])
 (.ret)))
def c34:RC:=
 .seq (.reg [] [
  rq 2 (.box 24 (tp 0)) 0,Cz 4 0 28])
 (.seq (.seq (.reg [] [
   Ce 9 2 24,rq 10 (cf 47 #[(tp 9)] #[24]) 28,AQ 5 10 28])
 (.seq (.reg [] [
   Ap 11 5 28,rq 12 (.binOp .neq 28 (tp 11) (ki 0) 28) 4])
 (.cond (tp 12) (.seq (.reg [] [
   Ap 13 5 28,
   AQ 4 13 28])
  (.ret))
 (.skip))))
 (.seq (.seq (.reg [] [
   Ap 14 1 27,EN 15 14 27,rq 16 (.move (ki 0)) 3])
 (.block 0 (.loop (.seq (.reg [] [
   L8 17 16 15])
   (.seq (.cond (tp 17) (.skip)
   (.exit 0))
   (.seq (.block 1 (.seq (.reg [] [
     D5 18 27 14 16,
     Ce 19 18 51,
     rq 7 (.alloc 51) 0,
     rn (.store 51 (tp 7) (tp 19)) 0])
    (.seq (.seq (.reg [] [
      Ce 20 2 24,
      rq 21 (.indexAddr 51 (tp 7) (ki 0)) 0,
      Ce 22 21 3,
      rq 23 (.indexAddr 51 (tp 7) (ki 1)) 0,
      Ce 24 23 3,
      rq 25 (cf 57 #[(tp 20),(tp 22),(tp 24)] #[24,3,3]) 28,
      AQ 8 25 28])
    (.seq (.reg [] [
      Ap 26 8 28,
      rq 27 (.binOp .neq 28 (tp 26) (ki 0) 28) 4])
    (.cond (tp 27) (.seq (.reg [] [
      Ap 28 8 28,
      AQ 4 28 28])
     (.ret))
    (.skip))))
    (.reg [] [
      Ce 29 2 24,
      rq 30 (.indexAddr 51 (tp 7) (ki 0)) 0,
      Ce 31 30 3,
      rq 32 (.indexAddr 51 (tp 7) (ki 1)) 0,
      Ce 33 32 3,
      rq 34 (cf 43 #[(tp 29),(tp 31),(tp 33)] #[24,3,3]) 24,
      rn (.store 24 (tp 2) (tp 34)) 0]))))
   (.reg [] [
     FB 35 16,
     Ap 16 35 3])))))))
 (.seq (.seq (.reg [] [
   Ce 36 2 24,rq 37 (cf 51 #[(tp 36)] #[24]) 80,rq 38 (.binOp .neq 80 (tp 37) (.const (.int .u16 0)) 80) 4])
 (.cond (tp 38) (.seq (.reg [] [
   Cz 4 14 28])
  (.ret))
 (.skip)))
 (.seq (.reg [] [
   Cz 4 0 28])
 (.ret)))))
def c38:RC:=
 .seq (.reg [] [
  rq 1 (.box 24 (tp 0)) 0,rq 2 (.assign (.const (.slice none 0 0))) 22,Cz 3 0 28])
 (.seq (.seq (.reg [] [
   Ce 5 1 24,rq 6 (cf 47 #[(tp 5)] #[24]) 28,AQ 4 6 28])
 (.seq (.reg [] [
   Ap 7 4 28,rq 8 (.binOp .neq 28 (tp 7) (ki 0) 28) 4])
 (.cond (tp 8) (.seq (.reg [] [
   Ap 9 4 28,
   rq 2 (.assign (.const (.slice none 0 0))) 22,
   AQ 3 9 28])
  (.ret))
 (.skip))))
 (.seq (.reg [] [
   Ce 10 1 24,rq 11 (cf 51 #[(tp 10)] #[24]) 80,rq 12 (cf 62 #[(tp 11)] #[80]) 22,AQ 2 12 22,Cz 3 0 28])
 (.ret)))
def c39:RC:=
 .seq (.reg [] [
  rq 0 (.alloc 24) 0])
 (.seq (.reg [] [
   rq 1 (.buildSlice 22 5 #[(0,(ki 0)),(1,(ki 1)),(2,(ki 2)),(3,(ki 0)),(4,(ki 1))]) 22,rq 2 (cf 42 #[(tp 1)] #[22]) 22,rq 3 (.buildSlice 22 5 #[(0,(ki 1)),(1,(ki 2)),(2,(ki 0)),(3,(ki 1)),(4,(ki 0))]) 22,rq 4 (cf 42 #[(tp 3)] #[22]) 22,rq 5 (.build 24 #[(0,(ki 3)),(1,(tp 2)),(2,(tp 4))]) 24,rn (.store 24 (tp 0) (tp 5)) 0])
 (.ret))
def c40:RC:=
 .seq (.reg [] [
  rq 0 (.alloc 24) 0])
 (.seq (.reg [] [
   rq 1 (.buildSlice 22 4 #[(0,(ki 0)),(1,(ki 0)),(2,(ki 1)),(3,(ki 1))]) 22,rq 2 (cf 42 #[(tp 1)] #[22]) 22,rq 3 (.buildSlice 22 4 #[(0,(ki 1)),(1,(ki 1)),(2,(ki 0)),(3,(ki 0))]) 22,rq 4 (cf 42 #[(tp 3)] #[22]) 22,rq 5 (.build 24 #[(0,(ki 2)),(1,(tp 2)),(2,(tp 4))]) 24,rn (.store 24 (tp 0) (tp 5)) 0])
 (.ret))
def c41:RC:=
 .seq (.reg [] [
  rq 2 (.assign (.const (.slice none 0 0))) 34])
 (.seq (.reg [] [
   Ap 3 0 34,AQ 2 3 34])
 (.ret))
def c42:RC:=
 .seq (.reg [] [
  rq 2 (.assign (.const (.slice none 0 0))) 22])
 (.seq (.reg [] [
   Ap 3 0 22,AQ 2 3 22])
 (.ret))
def c43:RC:=Ws
def c44:RC:=Wt
def c47:RC:=Sb
def c48:RC:=Sc
def c51:RC:=Sd
def c52:RC:=Wu
def c53:RC:=Wv
def c57:RC:=Sg
def c58:RC:=
 .seq (.reg [] [
  rq 1 (.box 24 (tp 0)) 0,rq 2 (.assign (.const (.slice none 0 0))) 22])
 (.seq (.reg [] [
   rq 3 (.alloc 101) 0])
 (.seq (.seq (.reg [] [
   DR 9 24 1 1,Ce 10 9 22,EN 11 10 22,rq 12 (.move (ki 0)) 3])
 (.block 0 (.loop (.seq (.reg [] [
   L8 13 12 11])
   (.seq (.cond (tp 13) (.skip)
   (.exit 0))
   (.seq (.block 1 (.seq (.reg [] [
     Ap 14 12 3,
     D5 15 22 10 12,
     Ce 16 15 3,
     AQ 4 14 3,
     AQ 5 16 3])
    (.reg [] [
      Ap 17 5 3,
      Ap 18 5 3,
      D5 19 101 3 18,
      Ce 20 19 22,
      Ap 21 4 3,
      rq 22 (.buildSlice 22 1 #[(0,(tp 21))]) 22,
      rq 23 (cb .append #[(tp 20),(tp 22)] #[22,22]) 22,
      D5 24 101 3 17,
      rn (.store 22 (tp 24) (tp 23)) 0])))
   (.reg [] [
     FB 25 12,
     Ap 12 25 3])))))))
 (.seq (.reg [] [
   rq 6 (.assign (.const (.slice none 0 0))) 22])
 (.seq (.seq (.reg [] [
   DR 26 24 1 2,Ce 27 26 22,EN 28 27 22,rq 29 (.move (ki 0)) 3])
 (.block 2 (.loop (.seq (.reg [] [
   L8 30 29 28])
   (.seq (.cond (tp 30) (.skip)
   (.exit 2))
   (.seq (.block 3 (.seq (.reg [] [
     D5 31 22 27 29,
     Ce 32 31 3,
     AQ 8 32 3])
    (.reg [0, 1, 2, 3, 4, 5, 6, 7, 9, 10, 11, 12, 8, 13, 14, 15] [
      Ap 33 8 3,
      Ap 34 6 22,
      Ap 35 8 3,
      D5 36 101 3 35,
      Ce 37 36 22,
      rq 38 (.indexAddr 22 (tp 37) (ki 0)) 0,
      Ce 39 38 3,
      rq 40 (.buildSlice 22 1 #[(0,(tp 39))]) 22,
      Ap 42 8 3,
      D5 43 101 3 42,
      Ce 44 43 22,
      rq 45 (.slice 22 (tp 44) (some (ki 1)) none none) 22,
      ⟨(some 41),cb .append #[(tp 34),(tp 40)] #[22,22],22,none,[(tp 44),(tp 43)]⟩,
      AQ 6 41 22,
      D5 46 101 3 33,
      rn (.store 22 (tp 46) (tp 45)) 0])))
   (.reg [] [
     FB 47 29,
     Ap 29 47 3])))))))
 (.seq (.reg [] [
   Ap 48 6 22,AQ 2 48 22])
 (.ret))))))
def c62:RC:=Si
def c63:RC:=
 .seq (.reg [] [
  rq 2 (.assign (.const (.slice none 0 0))) 22])
 (.seq (.seq (.reg [] [
   Ap 3 0 22,rq 4 (.binOp .eql 22 (tp 3) (.const (.slice none 0 0)) 22) 4])
 (.cond (tp 4) (.seq (.reg [] [
   rq 2 (.assign (.const (.slice none 0 0))) 22])
  (.ret))
 (.skip)))
 (.seq (.reg [] [
   rq 5 (.buildSlice 22 0 #[]) 22,Ap 6 0 22,rq 7 (cb .append #[(tp 5),(tp 6)] #[22,22]) 22,AQ 2 7 22])
 (.ret)))
def c64:RC:=Ww
def c65:RC:=TY
def c66:RC:=O9
def c67:RC:=Wx
def c68:RC:=Pb
def c71:RC:=Sj
def c72:RC:=Wy
def ti3:TI:=⟨.int .i64,1,8,(some (.int .i64 0)),false⟩
def ti4:TI:=⟨.bool,1,1,(some (.bool false)),false⟩
def ti5:TI:=⟨.int .u8,1,1,(some (.int .u8 0)),false⟩
def ti9:TI:=⟨.string,1,16,(some (.string ⟨#[]⟩)),false⟩
def Aay:TI:=⟨.slice 3,1,24,(some (.slice none 0 0)),false⟩
def Aaz : TI := ⟨.struct #[⟨ "Kinds", 3, 0, false, "", "", 0⟩, ⟨ "Has", 22, 1, false, "", "", 8⟩, ⟨ "Wants", 22, 2, false, "", "", 32⟩], 3, 56, (some (.agg #[(.int .i64 0), (.slice none 0 0), (.slice none 0 0)])), false⟩
def AaA:TI:=⟨.slice 51,1,24,(some (.slice none 0 0)),false⟩
def AaB:TI:=⟨.int .i64,1,8,(some (.int .i64 0)),false⟩
def AaC:TI:=⟨.slice 22,1,24,(some (.slice none 0 0)),false⟩
def AaD:TI:=⟨.array 10 5,10,10,(some (.agg #[(.int .u8 0),(.int .u8 0),(.int .u8 0),(.int .u8 0),(.int .u8 0),(.int .u8 0),(.int .u8 0),(.int .u8 0),(.int .u8 0),(.int .u8 0)])),true⟩
def AaE : TI := ⟨.struct #[⟨ "Kinds", 5, 0, false, "", "", 0⟩, ⟨ "Places", 5, 1, false, "", "", 1⟩, ⟨ "Wants", 43, 2, false, "", "", 2⟩, ⟨ "Order", 43, 12, false, "", "", 12⟩], 22, 22, (some (.agg #[(.int .u8 0), (.int .u8 0), (.int .u8 0), (.int .u8 0), (.int .u8 0), (.int .u8 0), (.int .u8 0), (.int .u8 0), (.int .u8 0), (.int .u8 0), (.int .u8 0), (.int .u8 0), (.int .u8 0), (.int .u8 0), (.int .u8 0), (.int .u8 0), (.int .u8 0), (.int .u8 0), (.int .u8 0), (.int .u8 0), (.int .u8 0), (.int .u8 0)])), true⟩
def AaF:TI:=⟨.map 3 3,1,8,(some (.map none)),false⟩
def AaG:TI:=⟨.array 2 3,2,16,(some (.agg #[(.int .i64 0),(.int .i64 0)])),true⟩
def AaH:TI:=⟨.int .u16,1,2,(some (.int .u16 0)),false⟩
def AaI:TI:=⟨.int .u16,1,2,(some (.int .u16 0)),false⟩
def AaJ:TI:=⟨.pointer 105,1,8,(some (.pointer none)),false⟩
def AaK:TI:=⟨.array 5 3,5,40,(some (.agg #[(.int .i64 0),(.int .i64 0),(.int .i64 0),(.int .i64 0),(.int .i64 0)])),true⟩
def eP:TI:=⟨.array 5 22,5,120,(some (.agg #[(.slice none 0 0),(.slice none 0 0),(.slice none 0 0),(.slice none 0 0),(.slice none 0 0)])),false⟩
def eQ:TI:=⟨.int .u64,1,8,(some (.int .u64 0)),false⟩
def eT:TI:=⟨.map 80 3,1,8,(some (.map none)),false⟩
def eU : TI := ⟨.struct #[⟨ "Tray", 24, 0, true, "", "", 0⟩, ⟨ "known", 103, 3, false, "", "spadille/mend", 56⟩], 4, 64, (some (.agg #[(.int .i64 0), (.slice none 0 0), (.slice none 0 0), (.map none)])), false⟩
def fA:TI:=⟨.array 32 5,32,32,(some (.agg #[(.int .u8 0),(.int .u8 0),(.int .u8 0),(.int .u8 0),(.int .u8 0),(.int .u8 0),(.int .u8 0),(.int .u8 0),(.int .u8 0),(.int .u8 0),(.int .u8 0),(.int .u8 0),(.int .u8 0),(.int .u8 0),(.int .u8 0),(.int .u8 0),(.int .u8 0),(.int .u8 0),(.int .u8 0),(.int .u8 0),(.int .u8 0),(.int .u8 0),(.int .u8 0),(.int .u8 0),(.int .u8 0),(.int .u8 0),(.int .u8 0),(.int .u8 0),(.int .u8 0),(.int .u8 0),(.int .u8 0),(.int .u8 0)])),true⟩
def fB:TI:=⟨.int .u32,1,4,(some (.int .u32 0)),false⟩
def AaL:Tr TI:=(.node none (.node none (.node (some ti3) (.node none (.node none .nil (.node (some AaF) (.node (some AaH) .nil .nil) .nil)) (.node none (.node none .nil (.node (some eT) .nil .nil)) .nil)) (.node none (.node none .nil (.node (some AaG) .nil .nil)) (.node (some AaA) (.node (some AaD) .nil (.node (some fA) .nil .nil)) .nil))) (.node (some ti5) (.node (some ti9) (.node none (.node none .nil (.node (some AaK) .nil .nil)) .nil) (.node none (.node none .nil (.node (some eU) .nil .nil)) .nil)) (.node none (.node none (.node none .nil (.node (some eP) .nil .nil)) .nil) (.node none (.node (some AaE) .nil .nil) .nil)))) (.node none (.node (some ti4) (.node none (.node none .nil (.node none (.node (some AaI) .nil .nil) .nil)) (.node (some Aaz) .nil .nil)) (.node none .nil (.node (some AaB) (.node none .nil (.node (some fB) .nil .nil)) .nil))) (.node none (.node none (.node none (.node (some AaC) .nil .nil) .nil) .nil) (.node none (.node (some Aay) (.node none .nil (.node (some eQ) .nil .nil)) .nil) (.node none .nil (.node none (.node (some AaJ) .nil .nil) .nil))))))
noncomputable def tt:TT:=AaL.get
def AaM:Tr Xq:=(.node none (.node none (.node none (.node none (.node (some ⟨26,c15,[.tmp 4]⟩) (.node (some ⟨12,c31,[.tmp 2,.tmp 3]⟩) (.node (some ⟨8,c63,[.tmp 2]⟩) .nil .nil) .nil) (.node (some ⟨73,c47,[.tmp 2]⟩) .nil .nil)) (.node (some ⟨18,c23,[.tmp 2]⟩) (.node (some ⟨6,c39,[.cell 0 24]⟩) (.node (some ⟨38,c71,[.tmp 4]⟩) .nil .nil) .nil) .nil)) (.node none (.node none (.node none (.node (some ⟨15,c67,[.tmp 2]⟩) .nil .nil) .nil) (.node (some ⟨27,c51,[.tmp 2]⟩) .nil .nil)) (.node (some ⟨22,c27,[.tmp 4,.tmp 5]⟩) (.node (some ⟨36,c43,[.cell 6 24]⟩) .nil .nil) .nil))) (.node (some ⟨187,c5,[.tmp 2]⟩) (.node none (.node none (.node none (.node (some ⟨8,c65,[.tmp 2]⟩) .nil .nil) .nil) .nil) (.node (some ⟨25,c25,[.cell 6 24,.tmp 7]⟩) (.node (some ⟨4,c41,[.tmp 2]⟩) .nil .nil) (.node (some ⟨25,c57,[.tmp 6]⟩) .nil .nil))) (.node (some ⟨47,c13,[.tmp 2,.tmp 3]⟩) (.node (some ⟨83,c21,[.cell 6 24]⟩) .nil (.node (some ⟨10,c53,[.tmp 4]⟩) .nil .nil)) (.node (some ⟨12,c29,[.tmp 2,.tmp 3]⟩) .nil .nil)))) (.node none (.node none (.node none (.node (some ⟨12,c16,[.tmp 2,.tmp 3]⟩) (.node none (.node (some ⟨11,c64,[.tmp 2]⟩) .nil .nil) .nil) (.node (some ⟨46,c48,[.tmp 2]⟩) .nil .nil)) (.node (some ⟨26,c24,[.tmp 6]⟩) (.node (some ⟨6,c40,[.cell 0 24]⟩) (.node (some ⟨9,c72,[.tmp 2]⟩) .nil .nil) .nil) .nil)) (.node (some ⟨218,c12,[.tmp 0]⟩) (.node (some ⟨27,c20,[.tmp 4]⟩) (.node none (.node (some ⟨94,c68,[.tmp 8]⟩) .nil .nil) .nil) (.node (some ⟨15,c52,[.tmp 6]⟩) .nil .nil)) (.node none (.node (some ⟨13,c44,[.tmp 2]⟩) .nil .nil) .nil))) (.node none (.node none (.node (some ⟨91,c18,[.tmp 4,.tmp 5]⟩) (.node (some ⟨39,c34,[.tmp 4]⟩) (.node (some ⟨52,c66,[.tmp 4]⟩) .nil .nil) .nil) .nil) (.node (some ⟨26,c26,[.tmp 4]⟩) (.node (some ⟨4,c42,[.tmp 2]⟩) .nil .nil) (.node (some ⟨49,c58,[.tmp 2]⟩) .nil .nil))) (.node none (.node (some ⟨77,c22,[.tmp 4]⟩) (.node (some ⟨13,c38,[.tmp 2,.tmp 3]⟩) .nil .nil) .nil) (.node (some ⟨44,c30,[.tmp 2,.tmp 3]⟩) .nil (.node (some ⟨16,c62,[.tmp 2]⟩) .nil .nil))))))
noncomputable def OD:FuncId→Option Xq:=AaM.get
end Go.MnO
