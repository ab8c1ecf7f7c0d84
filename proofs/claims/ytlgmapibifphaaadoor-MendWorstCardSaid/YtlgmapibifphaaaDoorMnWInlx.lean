/- Made from wip. -/
import Derived.Test.YtlgmapibifphaaaDoorSpFramex
import Derived.Test.YtlgmapibifphaaaDoorSpLendx
import Derived.KernelRfl

set_option maxRecDepth 100000
namespace Go.MnW
open Go.Sp
def xQ:RC:=.reg [] [Ap 19 0 5,rq 20 (.convert 5 3 (tp 19)) 3,rq 21 (.binOp .rem 3 (tp 20) (ki 5) 3) 3,rq 22 (.binOp .add 3 (ki 1) (tp 21) 3) 3,Ap 23 1 5,rq 24 (.convert 5 3 (tp 23)) 3,rq 25 (.binOp .rem 3 (tp 24) (ki 4) 3) 3,rq 26 (.binOp .add 3 (ki 1) (tp 25) 3) 3,rq 5 (.alloc 3) 0,rq 6 (.alloc 3) 0,rn (.store 3 (tp 5) (tp 22)) 0,rn (.store 3 (tp 6) (tp 26)) 0]
def xR:RC:=.reg [] [Ce 28 5 3,Ce 29 6 3,rq 30 (cf 27 #[tp 28,tp 29] #[3,3]) 38,Ap 27 30 38,EM 31 27 0 3,EM 32 27 1 28,AQ 7 31 3,AQ 8 32 28]
def xS:RC:=.reg [0,1,2,3,4,5,6,7,8,9,10,11,12,13] [Ap 33 8 28,rq 34 (.binOp .neq 28 (tp 33) (ki 0) 28) 4,Ap 35 34 4,DD 36 7 3 35 false,rg 37 (.load 3 (tp 5)) 3 35 false,rg 38 (.load 3 (tp 5)) 3 35 false,rg 39 (.load 3 (tp 6)) 3 35 false,rg 40 (.binOp .add 3 (tp 38) (tp 39) 3) 3 35 false,rg 41 (.binOp .sub 3 (tp 40) (ki 1) 3) 3 35 false,rg 42 (.load 3 (tp 6)) 3 35 false,rg 43 (.binOp .quo 3 (tp 41) (tp 42) 3) 3 35 false,rg 44 (.binOp .sub 3 (tp 37) (tp 43) 3) 3 35 false,rg 45 (.binOp .neq 3 (tp 36) (tp 44) 3) 4 35 false,rq 46 (.pick (tp 35) (kb true) (tp 45)) 4]
def xU:RC:=.cond (tp 46) (.seq (.reg [] [rq 4 (.assign (kb false)) 4]) .ret) .skip
def xV:RC:=.reg [] [Ce 47 5 3,rq 48 (.makeSlice 22 (tp 47) (tp 47)) 22,rq 10 (.alloc 22) 0,rn (.store 22 (tp 10) (tp 48)) 0]
def mK:RC:=.reg [] [rq 49 (.makeFunc (.func 28) #[] #[tp 5,tp 10,tp 9,tp 6,tp 11]) 57,rn (.store 57 (tp 11) (tp 49)) 0]
def mM:RC:=.reg [] [Ce 50 11 57,rq 51 (.call ⟨.value (tp 50),#[ki 0],#[3]⟩) 0]
def mO:RC:=.reg [] [Ce 52 6 3,rq 53 (.build 24 #[(0,(tp 52))]) 24,rq 12 (.alloc 24) 0,rn (.store 24 (tp 12) (tp 53)) 0]
def mP:RC:=.reg [0,1,2,3,4,5,7,8,9,10,11,12,6,14,13,15,16,17] [DR 58 24 12 1,Ce 59 58 22,Ap 60 13 3,Ce 61 6 3,rq 62 (.binOp .rem 3 (tp 60) (tp 61) 3) 3,rq 63 (.buildSlice 22 1 #[(0,(tp 62))]) 22,DR 65 24 12 2,Ce 66 65 22,Ap 67 13 3,Ce 68 6 3,rq 69 (.binOp .rem 3 (tp 67) (tp 68) 3) 3,rq 70 (.buildSlice 22 1 #[(0,(tp 69))]) 22,⟨(some 64),cb .append #[tp 59,tp 63] #[22,22],22,none,[(tp 6),(tp 65)]⟩,DR 72 24 12 1,rq 71 (cb .append #[tp 66,tp 70] #[22,22]) 22,rn (.store 22 (tp 72) (tp 64)) 0,DR 73 24 12 2,rn (.store 22 (tp 73) (tp 71)) 0]
def mQ:RC:=.seq (.reg [] [Ap 57 55 3,AQ 13 57 3]) mP
def nD:RC:=.reg [] [FB 74 55,Ap 55 74 3]
def nG:RC:=.seq (.reg [] [rq 56 (.binOp .lss 3 (tp 55) (tp 54) 3) 4]) (.seq (.cond (tp 56) .skip (.exit 0)) (.seq (.block 1 mQ) nD))
def nH:RC:=.seq (.reg [] [Ce 54 5 3,rq 55 (.move (ki 0)) 3]) (.block 0 (.loop nG))
def nJ:RC:=.reg [] [Ap 75 14 3,Ce 76 5 3,rq 77 (.binOp .lss 3 (tp 75) (tp 76) 3) 4]
def nK:RC:=.reg [] [Ap 81 14 3,Ce 82 6 3,rq 83 (.binOp .add 3 (tp 81) (tp 82) 3) 3,Ce 84 5 3,rq 85 (cb .min #[tp 83,tp 84] #[3,3]) 3,AQ 15 85 3]
def nL:RC:=.reg [] [Ap 87 16 3,Ap 88 15 3,rq 89 (.binOp .lss 3 (tp 87) (tp 88) 3) 4]
def nM:RC:=.reg [0,1,2,3,4,5,6,7,8,9,10,11,12,13,14,15,16,17,18] [DR 92 24 12 2,Ce 93 92 22,Ap 94 16 3,DR 95 24 12 1,Ce 96 95 22,Ap 97 14 3,Ap 98 16 3,Ap 99 14 3,rq 100 (.binOp .sub 3 (tp 98) (tp 99) 3) 3,FB 101 100,Ap 102 15 3,Ap 103 14 3,rq 104 (.binOp .sub 3 (tp 102) (tp 103) 3) 3,rq 105 (.binOp .rem 3 (tp 101) (tp 104) 3) 3,rq 106 (.binOp .add 3 (tp 97) (tp 105) 3) 3,D5 107 22 96 106,Ce 108 107 3,D5 109 22 93 94,rn (.store 3 (tp 109) (tp 108)) 0]
def nN:RC:=.reg [] [Ap 90 16 3,FB 91 90,AQ 16 91 3]
def nO:RC:=.seq (.seq nL (.cond (tp 89) .skip (.exit 4))) (.seq (.block 5 nM) nN)
def nP:RC:=.seq (.reg [] [Ap 86 14 3,AQ 16 86 3]) (.block 4 (.loop nO))
def nQ:RC:=.reg [] [Ap 78 14 3,Ce 79 6 3,rq 80 (.binOp .add 3 (tp 78) (tp 79) 3) 3,AQ 14 80 3]
def nR:RC:=.seq (.seq nJ (.cond (tp 77) .skip (.exit 2))) (.seq (.block 3 (.seq nK nP)) nQ)
def nS:RC:=.reg [] [Ce 111 12 24,rq 112 (cf 29 #[tp 111] #[24]) 38,Ap 110 112 38,EM 113 110 0 3,EM 114 110 1 28,AQ 17 113 3,AQ 18 114 28]
def nT:RC:=.reg [] [Ce 115 9 3,Ap 116 7 3,rq 117 (.binOp .eql 3 (tp 115) (tp 116) 3) 4,Ap 118 117 4,DD 119 18 28 118 true,rg 120 (.binOp .eql 28 (tp 119) (ki 0) 28) 4 118 true,rq 121 (.pick (tp 118) (tp 120) (kb false)) 4,Ap 122 121 4,DD 123 17 3 122 true,DD 124 7 3 122 true,rg 125 (.binOp .eql 3 (tp 123) (tp 124) 3) 4 122 true,rq 126 (.pick (tp 122) (tp 125) (kb false)) 4,Ap 127 126 4,rg 128 (cf 12 #[] #[]) 4 127 true,rq 129 (.pick (tp 127) (tp 128) (kb false)) 4,AQ 4 129 4]
def Yq:RC:=.seq nS (.seq nT .ret)
def Yr:RC:=.seq (.seq (.reg [] [Cz 14 0 3]) (.block 2 (.loop nR))) Yq
def nU:RC:=.seq (.reg [] [rq 11 (.alloc 57) 0]) (.seq mK (.seq mM (.seq mO (.seq nH Yr))))
def nV:RC:=.seq (.reg [] [rq 9 (.alloc 3) 0,rn (.store 3 (tp 9) (ki 0)) 0]) (.seq xV nU)
def Ua:RC:=.seq (.reg [] [rq 4 (.assign (kb false)) 4]) (.seq xQ (.seq xR (.seq (.seq xS xU) nV)))
def nW:RC:=.reg [] [Ap 6 0 22,EN 7 6 22,rq 8 (.move (ki 0)) 3]
def nX:RC:=.reg [] [D5 10 22 6 8,Ce 11 10 3,AQ 5 11 3]
def nY:RC:=.reg [] [Ap 12 3 3,rq 13 (.binOp .mul 3 (ki 8) (tp 12) 3) 3,Ap 14 5 3,rq 15 (.binOp .add 3 (tp 13) (tp 14) 3) 3,AQ 3 15 3]
def nZ:RC:=.reg [] [FB 16 8,Ap 8 16 3]
def bM:RC:=.seq (.cond (tp 9) .skip (.exit 0)) (.seq (.block 1 (.seq nX nY)) nZ)
def bN:RC:=.block 0 (.loop (.seq (.reg [] [L8 9 8 7]) bM))
def VZ:RC:=.seq (.reg [] [Ap 17 3 3,AQ 2 17 3]) .ret
def bO:RC:=.seq (.reg [] [Cz 3 0 3]) (.seq (.seq nW bN) VZ)
def Ps:RC:=.seq (.reg [] [Cz 2 0 3]) bO
def oD:RC:=.reg [] [rq 8 (.buildSlice 22 0 #[]) 22,Ap 9 0 22,rq 10 (cb .append #[tp 8,tp 9] #[22,22]) 22,AQ 7 10 22]
def oF:RC:=.reg [0,1,2,3,4,5,6,7,8,9,10,11,12,13,14,15] [Ap 11 7 22,Ap 12 1 3,Ap 13 7 22,Ap 14 2 3,Ap 15 7 22,Ap 16 2 3,D5 17 22 15 16,Ce 18 17 3,Ap 19 7 22,Ap 20 1 3,D5 21 22 19 20,Ce 22 21 3,D5 23 22 11 12,rn (.store 3 (tp 23) (tp 18)) 0,D5 24 22 13 14,rn (.store 3 (tp 24) (tp 22)) 0]
def oG:RC:=.seq (.reg [] [Ap 25 7 22,AQ 6 25 22]) .ret
def Ub:RC:=.seq (.reg [] [rq 6 (.assign (.const (.slice none 0 0))) 22]) (.seq oD (.seq oF oG))
def oH:RC:=.reg [] [Ap 6 0 3,rq 7 (cf 52 #[ki 1,tp 6,ki 10] #[3,3,3]) 4,rq 8 (.unOp .not 4 (tp 7)) 4,Ap 9 8 4,DD 10 1 3 9 false,rg 11 (cf 52 #[ki 1,tp 10,ki 5] #[3,3,3]) 4 9 false,rg 12 (.unOp .not 4 (tp 11)) 4 9 false,rq 13 (.pick (tp 9) (kb true) (tp 12)) 4]
def oI:RC:=.cond (tp 13) (.seq (.reg [] [Cz 4 0 3,Cz 5 1 28]) .ret) .skip
def oJ:RC:=.reg [] [Ap 14 0 3,Ap 15 0 3,Ap 16 1 3,rq 17 (.binOp .add 3 (tp 15) (tp 16) 3) 3,rq 18 (.binOp .sub 3 (tp 17) (ki 1) 3) 3,Ap 19 1 3,rq 20 (.binOp .quo 3 (tp 18) (tp 19) 3) 3,rq 21 (.binOp .sub 3 (tp 14) (tp 20) 3) 3,AQ 4 21 3,Cz 5 0 28]
def Ud:RC:=.seq (.reg [] [Cz 4 0 3,Cz 5 0 28]) (.seq (.seq oH oI) (.seq oJ .ret))
def oK:RC:=.reg [] [Ce 4 1 24,rq 5 (cf 51 #[tp 4] #[24]) 80,AQ 3 5 80]
def oL:RC:=.reg [0,2,4,1,3,5,6,7] [Ap 6 3 80,Ce 8 1 24,Ap 10 3 80,⟨(some 7),cf 64 #[tp 6] #[79],3,none,[(tp 1)]⟩,rq 9 (cf 65 #[tp 8] #[24]) 94,rq 11 (cf 66 #[tp 9,tp 10] #[94,80]) 3,rq 12 (.binOp .sub 3 (tp 7) (tp 11) 3) 3,AQ 2 12 3]
def Ue:RC:=.seq (.reg [] [rq 1 (.box 24 (tp 0)) 0,Cz 2 0 3]) (.seq oK (.seq oL .ret))
def oM:RC:=.reg [] [DR 8 24 1 0,Ce 9 8 3,rq 10 (cf 52 #[ki 1,tp 9,ki 5] #[3,3,3]) 4,rq 11 (.unOp .not 4 (tp 10)) 4,AQ 7 11 4]
def oN:RC:=.reg [] [DR 13 24 1 1,Ce 14 13 22,EN 15 14 22,rq 16 (.binOp .eql 3 (tp 15) (ki 0) 3) 4,AQ 12 16 4]
def oO:RC:=.reg [] [DR 18 24 1 1,Ce 19 18 22,EN 20 19 22,rq 21 (.binOp .gtr 3 (tp 20) (ki 10) 3) 4,AQ 17 21 4]
def bP:RC:=.reg [] [DR 23 24 1 2,Ce 24 23 22,EN 25 24 22,DR 26 24 1 1,Ce 27 26 22,EN 28 27 22,rq 29 (.binOp .neq 3 (tp 25) (tp 28) 3) 4,AQ 22 29 4]
def bQ:RC:=.seq bP (.cond (tp 22) (.seq (.reg [] [Cz 2 5 28]) .ret) .skip)
def bR:RC:=.seq oO (.cond (tp 17) (.seq (.reg [] [Cz 2 3 28]) .ret) bQ)
def bS:RC:=.seq oN (.cond (tp 12) (.seq (.reg [] [Cz 2 4 28]) .ret) bR)
def bT:RC:=.seq oM (.cond (tp 7) (.seq (.reg [] [Cz 2 1 28]) .ret) bS)
def bU:RC:=.reg [] [DR 30 24 1 1,Ce 31 30 22,EN 32 31 22,rq 33 (.move (ki 0)) 3]
def bV:RC:=.reg [] [Ap 35 33 3,D5 36 22 31 33,Ce 37 36 3,AQ 4 35 3,AQ 5 37 3]
def bW:RC:=.reg [] [DR 38 24 1 2,Ce 39 38 22,Ap 40 4 3,D5 41 22 39 40,Ce 42 41 3,AQ 6 42 3]
def bX:RC:=.reg [] [Ap 43 5 3,Ap 44 6 3,rq 45 (cb .min #[tp 43,tp 44] #[3,3]) 3,DR 46 24 1 0,Ce 47 46 3,rq 48 (.binOp .sub 3 (tp 47) (ki 1) 3) 3,rq 49 (cf 52 #[ki 0,tp 45,tp 48] #[3,3,3]) 4,rq 50 (.unOp .not 4 (tp 49)) 4,Ap 51 50 4,DD 52 5 3 51 false,DD 53 6 3 51 false,rg 54 (cb .max #[tp 52,tp 53] #[3,3]) 3 51 false,rg 55 (.fieldAddr 24 (tp 1) 0) 0 51 false,rg 56 (.load 3 (tp 55)) 3 51 false,rg 57 (.binOp .geq 3 (tp 54) (tp 56) 3) 4 51 false,rq 58 (.pick (tp 51) (kb true) (tp 57)) 4]
def bY:RC:=.seq bX (.cond (tp 58) (.seq (.reg [] [Cz 2 2 28]) .ret) .skip)
def bZ:RC:=.reg [] [Ap 59 5 3,D5 60 97 3 59,Ce 61 60 3,FB 62 61,D5 63 97 3 59,rn (.store 3 (tp 63) (tp 62)) 0]
def cB:RC:=.reg [] [Ap 64 6 3,D5 65 97 3 64,Ce 66 65 3,rq 67 (.binOp .sub 3 (tp 66) (ki 1) 3) 3,D5 68 97 3 64,rn (.store 3 (tp 68) (tp 67)) 0]
def cK:RC:=.block 2 (.seq bV (.seq bW (.seq bY (.seq bZ cB))))
def cO:RC:=.reg [] [FB 69 33,Ap 33 69 3]
def cZ:RC:=.seq (.reg [] [L8 34 33 32]) (.seq (.cond (tp 34) .skip (.exit 1)) (.seq cK cO))
def dA:RC:=.reg [] [Ce 70 3 97,rq 71 (.build 97 #[]) 97,rq 72 (.binOp .neq 97 (tp 70) (tp 71) 97) 4]
def dB:RC:=.seq dA (.cond (tp 72) (.seq (.reg [] [Cz 2 17 28]) .ret) .skip)
def V3:RC:=.seq dB (.seq (.reg [] [Cz 2 0 28]) .ret)
def dC:RC:=.seq (.reg [] [rq 3 (.alloc 97) 0]) (.seq (.seq bU (.block 1 (.loop cZ))) V3)
def Pt:RC:=.seq (.reg [] [rq 1 (.box 24 (tp 0)) 0,Cz 2 0 28]) (.seq (.block 0 bT) dC)
def oP:RC:=.reg [] [rq 1 (.box 24 (tp 0)) 0,rq 2 (.assign (.const (.int .u16 0))) 80]
def oQ:RC:=.reg [] [DR 6 24 1 1,Ce 7 6 22,EN 8 7 22,rq 9 (.move (ki 0)) 3]
def oU:RC:=.reg [] [Ap 11 9 3,D5 12 22 7 9,Ce 13 12 3,AQ 4 11 3,AQ 5 13 3]
def oV:RC:=.reg [] [Ap 14 5 3,DR 15 24 1 2,Ce 16 15 22,Ap 17 4 3,D5 18 22 16 17,Ce 19 18 3,rq 20 (.binOp .neq 3 (tp 14) (tp 19) 3) 4]
def oW:RC:=.reg [] [Ap 21 3 80,Ap 22 4 3,rq 23 (.binOp .shl 80 (.const (.int .u16 1)) (tp 22) 3) 80,rq 24 (.binOp .or 80 (tp 21) (tp 23) 80) 80,AQ 3 24 80]
def dP:RC:=.reg [] [FB 25 9,Ap 9 25 3]
def dQ:RC:=.seq (.block 1 (.seq oU (.seq oV (.cond (tp 20) oW .skip)))) dP
def dR:RC:=.seq (.reg [] [L8 10 9 8]) (.seq (.cond (tp 10) .skip (.exit 0)) dQ)
def V4:RC:=.seq (.reg [] [Ap 26 3 80,AQ 2 26 80]) .ret
def dS:RC:=.seq (.reg [] [rq 3 (.assign (.const (.int .u16 0))) 80]) (.seq (.seq oQ (.block 0 (.loop dR))) V4)
def PI:RC:=.seq oP dS
def oZ:RC:=.reg [] [Ap 7 0 3,Ap 8 1 3,rq 9 (.binOp .leq 3 (tp 7) (tp 8) 3) 4,Ap 10 9 4,DD 11 1 3 10 true,DD 12 2 3 10 true,rg 13 (.binOp .leq 3 (tp 11) (tp 12) 3) 4 10 true,rq 14 (.pick (tp 10) (tp 13) (kb false)) 4,AQ 6 14 4]
def Uf:RC:=.seq (.reg [] [rq 6 (.assign (kb false)) 4]) (.seq oZ .ret)
def pE:RC:=.reg [] [Ap 5 0 80,Ap 6 1 3,rq 7 (.binOp .shr 80 (tp 5) (tp 6) 3) 80,rq 8 (.binOp .and 80 (tp 7) (.const (.int .u16 1)) 80) 80,rq 9 (.binOp .eql 80 (tp 8) (.const (.int .u16 1)) 80) 4,AQ 4 9 4]
def Ug:RC:=.seq (.reg [] [rq 4 (.assign (kb false)) 4]) (.seq pE .ret)
def pF:RC:=.reg [] [Ap 4 0 80,rq 5 (.binOp .neq 80 (tp 4) (.const (.int .u16 0)) 80) 4]
def pG:RC:=.reg [] [Ap 10 3 22,Ap 11 0 80,rq 12 (cf 67 #[tp 11] #[79]) 3,rq 13 (.buildSlice 22 1 #[(0,(tp 12))]) 22,rq 14 (cb .append #[tp 10,tp 13] #[22,22]) 22,AQ 3 14 22]
def pI:RC:=.reg [] [Ap 6 0 80,Ap 7 0 80,rq 8 (.binOp .sub 80 (tp 7) (.const (.int .u16 1)) 80) 80,rq 9 (.binOp .and 80 (tp 6) (tp 8) 80) 80,AQ 0 9 80]
def pJ:RC:=.seq (.seq pF (.cond (tp 5) .skip (.exit 0))) (.seq (.block 1 pG) pI)
def V5:RC:=.seq (.reg [] [Ap 15 3 22,AQ 2 15 22]) .ret
def dU:RC:=.seq (.reg [] [rq 3 (.assign (.const (.slice none 0 0))) 22]) (.seq (.block 0 (.loop pJ)) V5)
def PK:RC:=.seq (.reg [] [rq 2 (.assign (.const (.slice none 0 0))) 22]) dU
def pK:RC:=.reg [0,1,2,3,4,5,6,7,8] [Ap 3 0 79,rq 4 (.binOp .shr 79 (tp 3) (.const (.int .u64 8)) 102) 79,rq 5 (.index 9 (.const (.string ⟨#[0,1,1,2,1,2,2,3,1,2,2,3,2,3,3,4,1,2,2,3,2,3,3,4,2,3,3,4,3,4,4,5,1,2,2,3,2,3,3,4,2,3,3,4,3,4,4,5,2,3,3,4,3,4,4,5,3,4,4,5,4,5,5,6,1,2,2,3,2,3,3,4,2,3,3,4,3,4,4,5,2,3,3,4,3,4,4,5,3,4,4,5,4,5,5,6,2,3,3,4,3,4,4,5,3,4,4,5,4,5,5,6,3,4,4,5,4,5,5,6,4,5,5,6,5,6,6,7,1,2,2,3,2,3,3,4,2,3,3,4,3,4,4,5,2,3,3,4,3,4,4,5,3,4,4,5,4,5,5,6,2,3,3,4,3,4,4,5,3,4,4,5,4,5,5,6,3,4,4,5,4,5,5,6,4,5,5,6,5,6,6,7,2,3,3,4,3,4,4,5,3,4,4,5,4,5,5,6,3,4,4,5,4,5,5,6,4,5,5,6,5,6,6,7,3,4,4,5,4,5,5,6,4,5,5,6,5,6,6,7,4,5,5,6,5,6,6,7,5,6,6,7,6,7,7,8]⟩)) (tp 4)) 5,Ap 6 0 79,rq 7 (.binOp .and 79 (tp 6) (.const (.int .u16 255)) 79) 79,rq 8 (.index 9 (.const (.string ⟨#[0,1,1,2,1,2,2,3,1,2,2,3,2,3,3,4,1,2,2,3,2,3,3,4,2,3,3,4,3,4,4,5,1,2,2,3,2,3,3,4,2,3,3,4,3,4,4,5,2,3,3,4,3,4,4,5,3,4,4,5,4,5,5,6,1,2,2,3,2,3,3,4,2,3,3,4,3,4,4,5,2,3,3,4,3,4,4,5,3,4,4,5,4,5,5,6,2,3,3,4,3,4,4,5,3,4,4,5,4,5,5,6,3,4,4,5,4,5,5,6,4,5,5,6,5,6,6,7,1,2,2,3,2,3,3,4,2,3,3,4,3,4,4,5,2,3,3,4,3,4,4,5,3,4,4,5,4,5,5,6,2,3,3,4,3,4,4,5,3,4,4,5,4,5,5,6,3,4,4,5,4,5,5,6,4,5,5,6,5,6,6,7,2,3,3,4,3,4,4,5,3,4,4,5,4,5,5,6,3,4,4,5,4,5,5,6,4,5,5,6,5,6,6,7,3,4,4,5,4,5,5,6,4,5,5,6,5,6,6,7,4,5,5,6,5,6,6,7,5,6,6,7,6,7,7,8]⟩)) (tp 7)) 5,rq 9 (.binOp .add 5 (tp 5) (tp 8) 5) 5,rq 10 (.convert 5 3 (tp 9)) 3,AQ 2 10 3]
def Uh:RC:=.seq (.reg [] [Cz 2 0 3]) (.seq pK .ret)
def pM:RC:=.reg [] [Ap 3 0 79,rq 4 (.binOp .eql 79 (tp 3) (.const (.int .u16 0)) 79) 4]
def pO:RC:=.seq pM (.cond (tp 4) (.seq (.reg [] [Cz 2 16 3]) .ret) .skip)
def pQ:RC:=.reg [] [Ap 5 0 79,Ap 6 0 79,rq 7 (.unOp .neg 79 (tp 6)) 79,rq 8 (.binOp .and 79 (tp 5) (tp 7) 79) 79,rq 9 (.convert 79 108 (tp 8)) 108,rq 10 (.binOp .mul 108 (tp 9) (.const (.int .u32 125613361)) 108) 108,rq 11 (.binOp .shr 108 (tp 10) (.const (.int .u64 27)) 102) 108,rq 12 (.indexAddr 107 (.global 0) (tp 11)) 0,Ce 13 12 5,rq 14 (.convert 5 3 (tp 13)) 3,AQ 2 14 3]
def Ui:RC:=.seq (.reg [] [Cz 2 0 3]) (.seq pO (.seq pQ .ret))
def pR:RC:=.reg [] [DR 7 24 2 1,Ce 8 7 22,EN 9 8 22,rq 10 (.move (ki 0)) 3]
def pV:RC:=.reg [] [Ap 13 1 80,Ap 14 6 3,rq 15 (cf 53 #[tp 13,tp 14] #[80,3]) 4]
def pW:RC:=.reg [] [DR 16 24 2 1,Ce 17 16 22,Ap 18 6 3,D5 19 22 17 18,Ce 20 19 3,D5 21 97 5 20,Ce 22 21 3,FB 23 22,D5 24 97 5 20,rn (.store 3 (tp 24) (tp 23)) 0]
def pX:RC:=.reg [] [DR 25 24 2 2,Ce 26 25 22,Ap 27 6 3,D5 28 22 26 27,Ce 29 28 3,D5 30 97 5 29,Ce 31 30 3,rq 32 (.binOp .sub 3 (tp 31) (ki 1) 3) 3,D5 33 97 5 29,rn (.store 3 (tp 33) (tp 32)) 0]
def dV:RC:=.seq (.reg [] [Ap 12 10 3,AQ 6 12 3]) (.seq pV (.cond (tp 15) (.seq pW pX) .skip))
def dX:RC:=.reg [] [FB 34 10,Ap 10 34 3]
def dY:RC:=.seq (.reg [] [L8 11 10 9]) (.seq (.cond (tp 11) .skip (.exit 0)) (.seq (.block 1 dV) dX))
def dZ:RC:=.reg [] [Ce 35 5 97,rq 36 (.build 97 #[]) 97,rq 37 (.binOp .eql 97 (tp 35) (tp 36) 97) 4,AQ 4 37 4]
def V6:RC:=.seq dZ .ret
def eF:RC:=.seq (.reg [] [rq 5 (.alloc 97) 0]) (.seq (.seq pR (.block 0 (.loop dY))) V6)
def PM:RC:=.seq (.reg [] [rq 2 (.box 24 (tp 0)) 0,rq 4 (.assign (kb false)) 4]) eF
def pY:RC:=.reg [] [Ap 11 0 3,Ce 12 1 3,rq 13 (.binOp .eql 3 (tp 11) (tp 12) 3) 4]
def qA:RC:=.reg [] [Ce 14 2 22,rq 15 (cf 22 #[tp 14,kb false] #[22,4]) 47,rq 16 (.range 47 (tp 15)) 0]
def qB:RC:=.reg [] [rq 19 (.entry (tp 16)) 0,EM 20 19 1 3,AQ 8 20 3]
def qC:RC:=.reg [] [Ce 21 3 3,Ap 22 8 3,rq 23 (cb .max #[tp 21,tp 22] #[3,3]) 3,rn (.store 3 (tp 3) (tp 23)) 0]
def qR:RC:=.seq (.reg [] [rq 17 (.next (tp 16) false) 0,EM 18 17 0 4]) (.seq (.cond (tp 18) .skip (.exit 0)) (.block 1 (.seq qB qC)))
def eG:RC:=.seq pY (.cond (tp 13) (.seq (.seq qA (.block 0 (.loop qR))) .ret) .skip)
def eH:RC:=.reg [] [Ap 24 0 3,rq 25 (.binOp .gtr 3 (tp 24) (ki 0) 3) 4]
def eO:RC:=.reg [] [Ce 26 2 22,Ap 27 0 3,rq 28 (.binOp .sub 3 (tp 27) (ki 1) 3) 3,D5 29 22 26 28,Ce 30 29 3,AQ 9 30 3]
def eP:RC:=.reg [] [Ap 32 10 3,Ce 33 4 3,rq 34 (.binOp .lss 3 (tp 32) (tp 33) 3) 4]
def eQ:RC:=.reg [] [Ce 37 2 22,Ap 38 0 3,Ap 39 10 3,D5 40 22 37 38,rn (.store 3 (tp 40) (tp 39)) 0]
def eT:RC:=.reg [] [Ce 41 5 57,Ap 42 0 3,FB 43 42,rq 44 (.call ⟨.value (tp 41),#[tp 43],#[3]⟩) 0]
def eU:RC:=.reg [] [Ap 35 10 3,FB 36 35,AQ 10 36 3]
def fA:RC:=.seq (.seq eP (.cond (tp 34) .skip (.exit 2))) (.seq (.block 3 (.seq eQ eT)) eU)
def V8:RC:=.seq (.reg [] [Ap 31 9 3,AQ 10 31 3]) (.block 2 (.loop fA))
def V9:RC:=.seq (.reg [] [Cz 9 0 3]) (.seq (.seq eH (.cond (tp 25) eO .skip)) V8)
def Oy:RC:=.seq eG V9
def qU:RC:=.reg [] [rq 13 (.makeMap 47 none) 47,Ap 14 0 22,rq 15 (cf 23 #[tp 14] #[22]) 3,rn (.insert 47 (tp 13) (tp 15) (ki 0)) 0,Ap 16 13 47,AQ 5 16 47]
def qV:RC:=.reg [] [Ap 17 0 22,rq 18 (.buildSlice 34 1 #[(0,(tp 17))]) 34,AQ 6 18 34]
def qW:RC:=.reg [] [Ap 19 6 34,EN 20 19 34,rq 21 (.binOp .gtr 3 (tp 20) (ki 0) 3) 4]
def qX:RC:=.reg [] [Ap 24 6 34,rq 25 (.indexAddr 34 (tp 24) (ki 0)) 0,Ce 26 25 22,AQ 7 26 22]
def rA:RC:=.reg [] [Ap 27 7 22,EN 28 27 22,rq 29 (.move (ki 0)) 3]
def fB:RC:=.reg [] [Ap 32 8 3,FB 33 32,AQ 9 33 3]
def fC:RC:=.reg [] [Ap 34 9 3,Ap 35 7 22,EN 36 35 22,rq 37 (.binOp .lss 3 (tp 34) (tp 36) 3) 4,Ap 38 37 4,DD 39 1 4 38 true,rg 40 (.unOp .not 4 (tp 39)) 4 38 true,DD 41 40 4 38 true,DD 42 9 3 41 false,DD 43 8 3 41 false,rg 44 (.binOp .add 3 (tp 43) (ki 1) 3) 3 41 false,rg 45 (.binOp .eql 3 (tp 42) (tp 44) 3) 4 41 false,rg 46 (.pick (tp 41) (kb true) (tp 45)) 4 38 true,rq 47 (.pick (tp 38) (tp 46) (kb false)) 4]
def fD:RC:=.reg [] [Ap 50 7 22,Ap 51 8 3,Ap 52 9 3,rq 53 (cf 24 #[tp 50,tp 51,tp 52] #[22,3,3]) 22,AQ 10 53 22]
def fE:RC:=.reg [] [Ap 55 5 47,Ap 56 10 22,rq 57 (cf 23 #[tp 56] #[22]) 3,rq 58 (.lookup 47 (tp 55) (tp 57) true) 86,Ap 54 58 86,EM 59 54 0 3,EM 60 54 1 4,AQ 11 59 3,AQ 12 60 4]
def fF:RC:=.reg [] [Ap 63 5 47,Ap 64 10 22,rq 65 (cf 23 #[tp 64] #[22]) 3,Ap 66 5 47,Ap 67 7 22,rq 68 (cf 23 #[tp 67] #[22]) 3,rq 69 (.lookup 47 (tp 66) (tp 68) false) 3,FB 70 69,rn (.mapUpdate 47 (tp 63) (tp 65) (tp 70)) 0]
def fG:RC:=.reg [] [Ap 71 6 34,Ap 72 10 22,rq 73 (.buildSlice 34 1 #[(0,(tp 72))]) 34,rq 74 (cb .append #[tp 71,tp 73] #[34,34]) 34,AQ 6 74 34]
def fH:RC:=.seq (.reg [] [Ap 61 12 4,rq 62 (.unOp .not 4 (tp 61)) 4]) (.cond (tp 62) (.seq fF fG) .skip)
def fI:RC:=.reg [] [Ap 48 9 3,FB 49 48,AQ 9 49 3]
def fK:RC:=.seq (.seq fC (.cond (tp 47) .skip (.exit 4))) (.seq (.block 5 (.seq fD (.seq fE fH))) fI)
def fM:RC:=.seq (.reg [] [Ap 31 29 3,AQ 8 31 3]) (.seq fB (.block 4 (.loop fK)))
def fO:RC:=.reg [] [FB 75 29,Ap 29 75 3]
def fP:RC:=.seq (.reg [] [L8 30 29 28]) (.seq (.cond (tp 30) .skip (.exit 2)) (.seq (.block 3 fM) fO))
def fQ:RC:=.reg [] [Ap 22 6 34,rq 23 (.slice 34 (tp 22) (some (ki 1)) none none) 34,AQ 6 23 34]
def fT:RC:=.seq (.block 1 (.seq qX (.seq rA (.block 2 (.loop fP))))) fQ
def fU:RC:=.block 0 (.loop (.seq (.seq qW (.cond (tp 21) .skip (.exit 0))) fT))
def Wl:RC:=.seq (.reg [] [Ap 76 5 47,AQ 4 76 47]) .ret
def Oz:RC:=.seq (.reg [] [rq 4 (.assign (.const (.map none))) 47]) (.seq qU (.seq (.seq qV fU) Wl))
def rC:RC:=.reg [] [rq 1 (.box 24 (tp 0)) 0,Cz 2 0 3,Cz 3 0 28]
def rD:RC:=.reg [] [Ce 5 1 24,rq 6 (cf 47 #[tp 5] #[24]) 28,AQ 4 6 28]
def rE:RC:=.reg [] [Ap 7 4 28,rq 8 (.binOp .neq 28 (tp 7) (ki 0) 28) 4]
def rF:RC:=.reg [] [Ap 9 4 28,Cz 2 0 3,AQ 3 9 28]
def rG:RC:=.reg [] [Ce 10 1 24,rq 11 (cf 44 #[tp 10] #[24]) 3,AQ 2 11 3,Cz 3 0 28]
def fV:RC:=.seq (.seq rD (.seq rE (.cond (tp 8) (.seq rF .ret) .skip))) (.seq rG .ret)
def OA:RC:=.seq rC fV
def rH:RC:=.reg [] [rq 1 (.box 24 (tp 0)) 0,rq 2 (.assign (.const (.pointer none))) 94]
def rJ:RC:=.reg [] [Ce 3 1 24,rq 4 (.makeMap 103 none) 103,rn (.insert 103 (tp 4) (.const (.int .u16 0)) (ki 0)) 0,Ap 5 4 103,rq 6 (.build 105 #[(0,(tp 3)),(1,(tp 5))]) 105,rq 7 (.box 105 (tp 6)) 94,AQ 2 7 94]
def QE:RC:=.seq rH (.seq rJ .ret)
def rM:RC:=.reg [] [Ap 11 0 94,rq 12 (.nilCheck (tp 11)) 0,DR 13 105 12 1,Ce 14 13 103,Ap 15 1 80,rq 16 (.lookup 103 (tp 14) (tp 15) true) 86,Ap 10 16 86,EM 17 10 0 3,EM 18 10 1 4,AQ 5 17 3,AQ 6 18 4]
def rO:RC:=.cond (tp 19) (.seq (.reg [] [Ap 20 5 3,AQ 4 20 3]) .ret) .skip
def rP:RC:=.reg [] [Ap 21 1 80,rq 22 (cf 62 #[tp 21] #[80]) 22,EN 23 22 22,rq 24 (.move (ki 0)) 3]
def fZ:RC:=.reg [] [D5 26 22 22 24,Ce 27 26 3,AQ 9 27 3]
def gD:RC:=.reg [] [Ap 28 7 3,Ap 29 0 94,Ap 30 1 80,Ap 31 9 3,rq 32 (.binOp .shl 80 (.const (.int .u16 1)) (tp 31) 3) 80,rq 33 (.binOp .andNot 80 (tp 30) (tp 32) 80) 80,rq 34 (cf 66 #[tp 29,tp 33] #[94,80]) 3,rq 35 (cb .max #[tp 28,tp 34] #[3,3]) 3,AQ 7 35 3]
def gF:RC:=.reg [] [FB 36 24,Ap 24 36 3]
def gG:RC:=.seq (.cond (tp 25) .skip (.exit 0)) (.seq (.block 1 (.seq fZ gD)) gF)
def gH:RC:=.loop (.seq (.reg [] [L8 25 24 23]) gG)
def gI:RC:=.reg [] [Ap 37 0 94,rq 38 (.nilCheck (tp 37)) 0,DR 39 105 38 0,Ce 40 39 24,Ap 41 1 80,rq 42 (cf 71 #[tp 40,tp 41] #[24,80]) 4]
def gK:RC:=.reg [] [Ap 43 7 3,FB 44 43,AQ 7 44 3]
def gL:RC:=.reg [] [Ap 45 0 94,rq 46 (.nilCheck (tp 45)) 0,DR 47 105 46 1,Ce 48 47 103,Ap 49 1 80,Ap 50 7 3,rn (.mapUpdate 103 (tp 48) (tp 49) (tp 50)) 0]
def Wm:RC:=.seq gL (.seq (.reg [] [Ap 51 7 3,AQ 4 51 3]) .ret)
def Wn:RC:=.seq (.seq gI (.cond (tp 42) gK .skip)) Wm
def gM:RC:=.seq (.reg [] [Cz 7 0 3]) (.seq (.seq rP (.block 0 gH)) Wn)
def gP:RC:=.seq (.seq rM (.seq (.reg [] [Ap 19 6 4]) rO)) gM
def OB:RC:=.seq (.reg [] [Cz 4 0 3]) gP
end Go.MnW
set_option maxRecDepth 100000
namespace Go.MnW
open Go.Sp
def c6:RC:=Ua
def c12:RC:=
 .seq (.reg [] [
  rq 0 (.assign (kb false)) 4])
 (.seq (.reg [] [
   rq 20 (cf 39 #[] #[]) 24,rq 21 (cf 38 #[(tp 20)] #[24]) 60,Ap 19 21 60,EM 22 19 0 22,EM 23 19 1 28,AQ 1 22 22,AQ 2 23 28])
 (.seq (.reg [] [
   rq 25 (cf 39 #[] #[]) 24,rq 26 (cf 29 #[(tp 25)] #[24]) 38,Ap 24 26 38,EM 27 24 0 3,EM 28 24 1 28,AQ 3 27 3,AQ 4 28 28])
 (.seq (.reg [] [
   rq 30 (cf 40 #[] #[]) 24,rq 31 (cf 29 #[(tp 30)] #[24]) 38,Ap 29 31 38,EM 32 29 0 3,EM 33 29 1 28,AQ 5 32 3,AQ 6 33 28])
 (.seq (.reg [] [
   rq 35 (cf 39 #[] #[]) 24,rq 36 (cf 16 #[(tp 35)] #[24]) 35,Ap 34 36 35,EM 37 34 0 34,EM 38 34 1 28,AQ 7 37 34,AQ 8 38 28])
 (.seq (.reg [] [
   rq 40 (cf 39 #[] #[]) 24,rq 41 (.buildSlice 22 2 #[(0,(ki 0)),(1,(ki 4))]) 22,rq 42 (cf 42 #[(tp 41)] #[22]) 22,rq 43 (.buildSlice 22 3 #[(0,(ki 1)),(1,(ki 2)),(2,(ki 3))]) 22,rq 44 (cf 42 #[(tp 43)] #[22]) 22,rq 45 (.buildSlice 34 2 #[(0,(tp 42)),(1,(tp 44))]) 34,rq 46 (cf 41 #[(tp 45)] #[34]) 34,rq 47 (cf 18 #[(tp 40),(tp 46)] #[24,34]) 38,Ap 39 47 38,EM 48 39 0 3,EM 49 39 1 28,AQ 9 48 3,AQ 10 49 28])
 (.seq (.reg [] [
   rq 51 (cf 40 #[] #[]) 24,rq 52 (cf 25 #[(tp 51),(ki 0),(ki 2)] #[24,3,3]) 52,Ap 50 52 52,EM 53 50 0 24,EM 54 50 1 28,rq 11 (.alloc 24) 0,rn (.store 24 (tp 11) (tp 53)) 0,AQ 12 54 28])
 (.seq (.reg [] [
   rq 56 (cf 40 #[] #[]) 24,rq 57 (cf 13 #[(tp 56)] #[24]) 29,Ap 55 57 29,EM 58 55 0 27,EM 59 55 1 28,AQ 13 58 27,AQ 14 59 28])
 (.seq (.seq (.reg [] [
   Ap 60 2 28,rq 61 (.binOp .neq 28 (tp 60) (ki 0) 28) 4,Ap 62 61 4,DD 63 4 28 62 false,rg 64 (.binOp .neq 28 (tp 63) (ki 0) 28) 4 62 false,rq 65 (.pick (tp 62) (kb true) (tp 64)) 4,Ap 66 65 4,DD 67 6 28 66 false,rg 68 (.binOp .neq 28 (tp 67) (ki 0) 28) 4 66 false,rq 69 (.pick (tp 66) (kb true) (tp 68)) 4,Ap 70 69 4,DD 71 8 28 70 false,rg 72 (.binOp .neq 28 (tp 71) (ki 0) 28) 4 70 false,rq 73 (.pick (tp 70) (kb true) (tp 72)) 4,Ap 74 73 4,DD 75 10 28 74 false,rg 76 (.binOp .neq 28 (tp 75) (ki 0) 28) 4 74 false,rq 77 (.pick (tp 74) (kb true) (tp 76)) 4,Ap 78 77 4,DD 79 12 28 78 false,rg 80 (.binOp .neq 28 (tp 79) (ki 0) 28) 4 78 false,rq 81 (.pick (tp 78) (kb true) (tp 80)) 4,Ap 82 81 4,DD 83 14 28 82 false,rg 84 (.binOp .neq 28 (tp 83) (ki 0) 28) 4 82 false,rq 85 (.pick (tp 82) (kb true) (tp 84)) 4])
 (.cond (tp 85) (.seq (.reg [] [
   rq 0 (.assign (kb false)) 4])
  (.ret))
 (.skip)))
 (.seq (.reg [] [
   rq 87 (cf 27 #[(ki 5),(ki 3)] #[3,3]) 38,Ap 86 87 38,EM 88 86 0 3,EM 89 86 1 28,AQ 15 88 3,AQ 2 89 28])
 (.seq (.reg [] [
   rq 91 (cf 39 #[] #[]) 24,rq 92 (cf 31 #[(tp 91)] #[24]) 60,Ap 90 92 60,EM 93 90 0 22,EM 94 90 1 28,AQ 16 93 22,AQ 4 94 28])
 (.seq (.reg [] [
   rq 96 (cf 40 #[] #[]) 24,rq 97 (cf 30 #[(tp 96)] #[24]) 38,Ap 95 97 38,EM 98 95 0 3,EM 99 95 1 28,AQ 17 98 3,AQ 6 99 28])
 (.seq (.reg [] [
   rq 101 (cf 40 #[] #[]) 24,rq 102 (cf 16 #[(tp 101)] #[24]) 35,Ap 100 102 35,EM 103 100 0 34,EM 104 100 1 28,AQ 18 103 34,AQ 8 104 28])
 (.seq (.reg [] [
   rq 106 (cf 39 #[] #[]) 24,rq 107 (.buildSlice 22 2 #[(0,(ki 0)),(1,(ki 1))]) 22,rq 108 (cf 42 #[(tp 107)] #[22]) 22,rq 109 (.buildSlice 22 3 #[(0,(ki 2)),(1,(ki 3)),(2,(ki 4))]) 22,rq 110 (cf 42 #[(tp 109)] #[22]) 22,rq 111 (.buildSlice 34 2 #[(0,(tp 108)),(1,(tp 110))]) 34,rq 112 (cf 41 #[(tp 111)] #[34]) 34,rq 113 (cf 18 #[(tp 106),(tp 112)] #[24,34]) 38,Ap 105 113 38,EM 114 105 0 3,EM 115 105 1 28,AQ 10 115 28])
 (.seq (.reg [0, 1, 2, 3, 4, 5, 6, 7, 8, 9, 10, 11, 12, 13, 14, 15, 16, 17, 18, 19, 20, 21, 22, 23, 24, 25, 26, 27, 28, 29, 30, 31, 32, 33, 34, 35, 36, 37, 38, 39, 40, 41, 42, 43, 44, 45, 46, 48, 47, 49, 50, 51, 52, 53, 54, 55, 56, 58, 57, 59, 60, 61, 62, 63, 64, 65, 66, 67, 68, 69, 70, 71, 72, 73, 74, 75, 76, 77, 78, 79, 80, 81, 82, 83, 84, 85, 86, 88, 89, 90, 87, 91, 92, 93, 94, 96, 97, 98, 95, 99, 100, 101, 102] [
   Ap 116 2 28,rq 117 (.binOp .eql 28 (tp 116) (ki 0) 28) 4,Ap 118 117 4,DD 119 4 28 118 true,rg 120 (.binOp .eql 28 (tp 119) (ki 0) 28) 4 118 true,rq 121 (.pick (tp 118) (tp 120) (kb false)) 4,Ap 122 121 4,DD 123 6 28 122 true,rg 124 (.binOp .eql 28 (tp 123) (ki 0) 28) 4 122 true,rq 125 (.pick (tp 122) (tp 124) (kb false)) 4,Ap 126 125 4,DD 127 8 28 126 true,rg 128 (.binOp .eql 28 (tp 127) (ki 0) 28) 4 126 true,rq 129 (.pick (tp 126) (tp 128) (kb false)) 4,Ap 130 129 4,DD 131 10 28 130 true,rg 132 (.binOp .eql 28 (tp 131) (ki 14) 28) 4 130 true,rq 133 (.pick (tp 130) (tp 132) (kb false)) 4,Ap 134 133 4,DD 135 3 3 134 true,rg 136 (.binOp .eql 3 (tp 135) (ki 3) 3) 4 134 true,rq 137 (.pick (tp 134) (tp 136) (kb false)) 4,Ap 138 137 4,DD 139 5 3 138 true,rg 140 (.binOp .eql 3 (tp 139) (ki 2) 3) 4 138 true,rq 141 (.pick (tp 138) (tp 140) (kb false)) 4,Ap 142 141 4,DD 143 9 3 142 true,rg 144 (.binOp .eql 3 (tp 143) (ki 2) 3) 4 142 true,rq 145 (.pick (tp 142) (tp 144) (kb false)) 4,Ap 146 145 4,DD 147 15 3 146 true,rg 148 (.binOp .eql 3 (tp 147) (ki 3) 3) 4 146 true,rq 149 (.pick (tp 146) (tp 148) (kb false)) 4,Ap 150 149 4,DD 151 17 3 150 true,rg 152 (.binOp .eql 3 (tp 151) (ki 4) 3) 4 150 true,rq 153 (.pick (tp 150) (tp 152) (kb false)) 4,Ap 154 153 4,DD 155 1 22 154 true,rg 156 (.buildSlice 22 5 #[(0,(ki 0)),(1,(ki 1)),(2,(ki 2)),(3,(ki 3)),(4,(ki 4))]) 22 154 true,rg 157 (cf 42 #[(tp 156)] #[22]) 22 154 true,rg 158 (cf 26 #[(tp 155),(tp 157)] #[22,22]) 4 154 true,rq 159 (.pick (tp 154) (tp 158) (kb false)) 4,Ap 160 159 4,DD 161 7 34 160 true,rg 162 (.buildSlice 22 3 #[(0,(ki 0)),(1,(ki 1)),(2,(ki 2))]) 22 160 true,rg 164 (.buildSlice 22 2 #[(0,(ki 3)),(1,(ki 4))]) 22 160 true,rg 163 (cf 42 #[(tp 162)] #[22]) 22 160 true,rg 165 (cf 42 #[(tp 164)] #[22]) 22 160 true,rg 166 (.buildSlice 34 2 #[(0,(tp 163)),(1,(tp 165))]) 34 160 true,rg 167 (cf 41 #[(tp 166)] #[34]) 34 160 true,rg 168 (cf 20 #[(tp 161),(tp 167)] #[34,34]) 4 160 true,rq 169 (.pick (tp 160) (tp 168) (kb false)) 4,Ap 170 169 4,DD 171 18 34 170 true,rg 172 (.buildSlice 22 2 #[(0,(ki 0)),(1,(ki 2))]) 22 170 true,rg 174 (.buildSlice 22 2 #[(0,(ki 1)),(1,(ki 3))]) 22 170 true,rg 173 (cf 42 #[(tp 172)] #[22]) 22 170 true,rg 175 (cf 42 #[(tp 174)] #[22]) 22 170 true,rg 176 (.buildSlice 34 2 #[(0,(tp 173)),(1,(tp 175))]) 34 170 true,rg 177 (cf 41 #[(tp 176)] #[34]) 34 170 true,rg 178 (cf 20 #[(tp 171),(tp 177)] #[34,34]) 4 170 true,rq 179 (.pick (tp 170) (tp 178) (kb false)) 4,Ap 180 179 4,rg 181 (.fieldAddr 24 (tp 11) 1) 0 180 true,rg 182 (.load 22 (tp 181)) 22 180 true,rg 183 (.buildSlice 22 4 #[(0,(ki 1)),(1,(ki 0)),(2,(ki 0)),(3,(ki 1))]) 22 180 true,
   ⟨(some 184),cf 42 #[(tp 183)] #[22],22,(some ((some 180),true)),[(tp 181)]⟩,rg 185 (cf 26 #[(tp 182),(tp 184)] #[22,22]) 4 180 true,rq 186 (.pick (tp 180) (tp 185) (kb false)) 4,Ap 187 186 4,DD 188 13 27 187 true,rg 189 (.build 51 #[(0,(ki 0)),(1,(ki 2))]) 51 187 true,rg 190 (.build 51 #[(0,(ki 0)),(1,(ki 3))]) 51 187 true,rg 191 (.build 51 #[(0,(ki 1)),(1,(ki 2))]) 51 187 true,rg 192 (.build 51 #[(0,(ki 1)),(1,(ki 3))]) 51 187 true,rg 193 (.buildSlice 27 4 #[(0,(tp 189)),(1,(tp 190)),(2,(tp 191)),(3,(tp 192))]) 27 187 true,rg 194 (cf 15 #[(tp 188),(tp 193)] #[27,27]) 4 187 true,rq 195 (.pick (tp 187) (tp 194) (kb false)) 4,Ap 196 195 4,DD 197 16 22 196 true,rg 198 (.buildSlice 22 5 #[(0,(ki 1)),(1,(ki 2)),(2,(ki 0)),(3,(ki 4)),(4,(ki 3))]) 22 196 true,rg 199 (cf 42 #[(tp 198)] #[22]) 22 196 true,rg 200 (cf 26 #[(tp 197),(tp 199)] #[22,22]) 4 196 true,rq 201 (.pick (tp 196) (tp 200) (kb false)) 4,Ap 202 201 4,rg 204 (.build 51 #[(0,(ki 0)),(1,(ki 2))]) 51 202 true,rg 205 (.build 51 #[(0,(ki 1)),(1,(ki 3))]) 51 202 true,rg 206 (.buildSlice 27 2 #[(0,(tp 204)),(1,(tp 205))]) 27 202 true,rg 203 (cf 40 #[] #[]) 24 202 true,rg 207 (cf 34 #[(tp 203),(tp 206)] #[24,27]) 28 202 true,rg 208 (.binOp .eql 28 (tp 207) (ki 0) 28) 4 202 true,rq 209 (.pick (tp 202) (tp 208) (kb false)) 4,Ap 210 209 4,rg 212 (.build 51 #[(0,(ki 0)),(1,(ki 1))]) 51 210 true,rg 213 (.build 51 #[(0,(ki 2)),(1,(ki 3))]) 51 210 true,rg 214 (.buildSlice 27 2 #[(0,(tp 212)),(1,(tp 213))]) 27 210 true,rg 211 (cf 40 #[] #[]) 24 210 true,rg 215 (cf 34 #[(tp 211),(tp 214)] #[24,27]) 28 210 true,rg 216 (.binOp .eql 28 (tp 215) (ki 14) 28) 4 210 true,rq 217 (.pick (tp 210) (tp 216) (kb false)) 4,AQ 0 217 4])
 (.ret)))))))))))))))
def c13:RC:=
 .seq (.reg [] [
  rq 1 (.box 24 (tp 0)) 0,rq 2 (.assign (.const (.slice none 0 0))) 27,Cz 3 0 28])
 (.seq (.reg [] [
   Ce 10 1 24,rq 11 (cf 29 #[(tp 10)] #[24]) 38,Ap 9 11 38,EM 12 9 0 3,EM 13 9 1 28,AQ 4 12 3,AQ 5 13 28])
 (.seq (.seq (.reg [] [
   Ap 14 5 28,rq 15 (.binOp .neq 28 (tp 14) (ki 0) 28) 4])
 (.cond (tp 15) (.seq (.reg [] [
   Ap 16 5 28,
   rq 2 (.assign (.const (.slice none 0 0))) 27,
   AQ 3 16 28])
  (.ret))
 (.skip)))
 (.seq (.reg [] [
   rq 6 (.assign (.const (.slice none 0 0))) 27])
 (.seq (.seq (.reg [] [
   DR 17 24 1 1,Ce 18 17 22,EN 19 18 22,rq 20 (.move (ki 0)) 3])
 (.block 0 (.loop (.seq (.reg [] [
   L8 21 20 19])
   (.seq (.cond (tp 21) (.skip)
   (.exit 0))
   (.seq (.block 1 (.seq (.reg [] [
     Ap 22 20 3,
     AQ 7 22 3])
    (.seq (.reg [] [
      Ap 23 7 3,
      FB 24 23,
      AQ 8 24 3])
    (.block 2 (.loop (.seq (.seq (.reg [] [
      Ap 25 8 3,
      DR 26 24 1 1,
      Ce 27 26 22,
      EN 28 27 22,
      rq 29 (.binOp .lss 3 (tp 25) (tp 28) 3) 4])
      (.cond (tp 29) (.skip)
      (.exit 2)))
      (.seq (.block 3 (.seq (.reg [] [
        Ce 32 1 24,
        Ap 33 7 3,
        Ap 34 8 3,
        rq 35 (cf 43 #[(tp 32),(tp 33),(tp 34)] #[24,3,3]) 24,
        rq 36 (cf 44 #[(tp 35)] #[24]) 3,
        Ap 37 4 3,
        rq 38 (.binOp .lss 3 (tp 36) (tp 37) 3) 4])
       (.cond (tp 38) (.reg [] [
         Ap 39 6 27,
         Ap 40 7 3,
         Ap 41 8 3,
         rq 42 (.build 51 #[(0,(tp 40)),(1,(tp 41))]) 51,
         rq 43 (.buildSlice 27 1 #[(0,(tp 42))]) 27,
         rq 44 (cb .append #[(tp 39),(tp 43)] #[27,27]) 27,
         AQ 6 44 27])
       (.skip))))
      (.reg [] [
        Ap 30 8 3,
        FB 31 30,
        AQ 8 31 3]))))))))
   (.reg [] [
     FB 45 20,
     Ap 20 45 3])))))))
 (.seq (.reg [] [
   Ap 46 6 27,AQ 2 46 27,Cz 3 0 28])
 (.ret))))))
def c15:RC:=
 .seq (.reg [] [
  rq 4 (.assign (kb false)) 4])
 (.seq (.seq (.reg [] [
   Ap 6 0 27,EN 7 6 27,Ap 8 1 27,EN 9 8 27,rq 10 (.binOp .neq 3 (tp 7) (tp 9) 3) 4])
 (.cond (tp 10) (.seq (.reg [] [
   rq 4 (.assign (kb false)) 4])
  (.ret))
 (.skip)))
 (.seq (.seq (.reg [] [
   Cz 5 0 3])
 (.block 0 (.loop (.seq (.seq (.reg [] [
   Ap 11 5 3,
   Ap 12 0 27,
   EN 13 12 27,
   rq 14 (.binOp .lss 3 (tp 11) (tp 13) 3) 4])
   (.cond (tp 14) (.skip)
   (.exit 0)))
   (.seq (.block 1 (.seq (.reg [0, 1, 2, 3, 4, 5, 6, 7, 8] [
     Ap 17 0 27,
     Ap 18 5 3,
     D5 19 27 17 18,
     Ce 20 19 51,
     Ap 21 1 27,
     Ap 22 5 3,
     D5 23 27 21 22,
     Ce 24 23 51,
     rq 25 (.binOp .neq 51 (tp 20) (tp 24) 51) 4])
    (.cond (tp 25) (.seq (.reg [] [
      rq 4 (.assign (kb false)) 4])
     (.ret))
    (.skip))))
   (.reg [] [
     Ap 15 5 3,
     FB 16 15,
     AQ 5 16 3]))))))
 (.seq (.reg [] [
   rq 4 (.assign (kb true)) 4])
 (.ret))))
def c16:RC:=
 .seq (.reg [] [
  rq 1 (.box 24 (tp 0)) 0,rq 2 (.assign (.const (.slice none 0 0))) 34,Cz 3 0 28])
 (.seq (.seq (.reg [] [
   Ce 5 1 24,rq 6 (cf 47 #[(tp 5)] #[24]) 28,AQ 4 6 28])
 (.seq (.reg [] [
   Ap 7 4 28,rq 8 (.binOp .neq 28 (tp 7) (ki 0) 28) 4])
 (.cond (tp 8) (.seq (.reg [] [
   Ap 9 4 28,
   rq 2 (.assign (.const (.slice none 0 0))) 34,
   AQ 3 9 28])
  (.ret))
 (.skip))))
 (.seq (.reg [] [
   Ce 10 1 24,rq 11 (cf 48 #[(tp 10)] #[24]) 34,AQ 2 11 34,Cz 3 0 28])
 (.ret)))
def c18:RC:=
 .seq (.reg [] [
  rq 2 (.box 24 (tp 0)) 0,Cz 4 0 3,Cz 5 0 28])
 (.seq (.seq (.reg [] [
   Ce 16 2 24,rq 17 (cf 47 #[(tp 16)] #[24]) 28,AQ 6 17 28])
 (.seq (.reg [] [
   Ap 18 6 28,rq 19 (.binOp .neq 28 (tp 18) (ki 0) 28) 4])
 (.cond (tp 19) (.seq (.reg [] [
   Ap 20 6 28,
   Cz 4 0 3,
   AQ 5 20 28])
  (.ret))
 (.skip))))
 (.seq (.reg [] [
   Ce 21 2 24,rq 22 (cf 51 #[(tp 21)] #[24]) 80,AQ 7 22 80])
 (.seq (.reg [] [
   rq 8 (.assign (.const (.int .u16 0))) 80])
 (.seq (.seq (.reg [] [
   Ap 23 1 34,EN 24 23 34,rq 25 (.move (ki 0)) 3])
 (.block 0 (.loop (.seq (.reg [] [
   L8 26 25 24])
   (.seq (.cond (tp 26) (.skip)
   (.exit 0))
   (.seq (.block 1 (.seq (.reg [] [
     D5 27 34 23 25,
     Ce 28 27 22,
     AQ 10 28 22])
    (.seq (.seq (.reg [] [
      Ap 29 10 22,
      EN 30 29 22,
      rq 31 (.binOp .eql 3 (tp 30) (ki 0) 3) 4])
    (.cond (tp 31) (.seq (.reg [] [
      Cz 4 0 3,
      Cz 5 4 28])
     (.ret))
    (.skip)))
    (.seq (.seq (.reg [] [
      Ap 32 10 22,
      EN 33 32 22,
      rq 34 (.move (ki 0)) 3])
    (.block 2 (.loop (.seq (.reg [] [
      L8 35 34 33])
      (.seq (.cond (tp 35) (.skip)
      (.exit 2))
      (.seq (.block 3 (.seq (.reg [] [
        D5 36 22 32 34,
        Ce 37 36 3,
        AQ 12 37 3])
       (.seq (.block 4 (.seq (.reg [] [
         Ap 39 12 3,
         DR 40 24 2 1,
         Ce 41 40 22,
         EN 42 41 22,
         rq 43 (.binOp .sub 3 (tp 42) (ki 1) 3) 3,
         rq 44 (cf 52 #[(ki 0),(tp 39),(tp 43)] #[3,3,3]) 4,
         rq 45 (.unOp .not 4 (tp 44)) 4,
         AQ 38 45 4])
        (.cond (tp 38) (.seq (.reg [] [
          Cz 4 0 3,
          Cz 5 2 28])
         (.ret))
        (.seq (.reg [] [
          Ap 47 8 80,
          Ap 48 12 3,
          rq 49 (cf 53 #[(tp 47),(tp 48)] #[80,3]) 4,
          AQ 46 49 4])
         (.cond (tp 46) (.seq (.reg [] [
           Cz 4 0 3,
           Cz 5 6 28])
          (.ret))
         (.seq (.reg [] [
           Ap 51 7 80,
           Ap 52 12 3,
           rq 53 (cf 53 #[(tp 51),(tp 52)] #[80,3]) 4,
           rq 54 (.unOp .not 4 (tp 53)) 4,
           AQ 50 54 4])
          (.cond (tp 50) (.seq (.reg [] [
            Cz 4 0 3,
            Cz 5 13 28])
           (.ret))
          (.skip))))))))
       (.reg [] [
         Ap 55 8 80,
         Ap 56 12 3,
         rq 57 (.binOp .shl 80 (.const (.int .u16 1)) (tp 56) 3) 80,
         rq 58 (.binOp .or 80 (tp 55) (tp 57) 80) 80,
         AQ 8 58 80]))))
      (.reg [] [
        FB 59 34,
        Ap 34 59 3])))))))
    (.seq (.reg [] [
      Ap 60 10 22,
      Ap 61 10 22,
      EN 62 61 22,
      rq 63 (.binOp .sub 3 (tp 62) (ki 1) 3) 3,
      D5 64 22 60 63,
      Ce 65 64 3,
      AQ 13 65 3])
    (.seq (.reg [] [
      Ap 66 10 22,
      EN 67 66 22,
      rq 68 (.move (ki 0)) 3])
    (.block 5 (.loop (.seq (.reg [] [
      L8 69 68 67])
      (.seq (.cond (tp 69) (.skip)
      (.exit 5))
      (.seq (.block 6 (.seq (.reg [] [
        D5 70 22 66 68,
        Ce 71 70 3,
        AQ 15 71 3])
       (.seq (.seq (.reg [0, 1, 2, 3, 4, 5, 6, 7, 8, 9, 10] [
         DR 72 24 2 2,
         Ce 73 72 22,
         Ap 74 13 3,
         D5 75 22 73 74,
         Ce 76 75 3,
         DR 77 24 2 1,
         Ce 78 77 22,
         Ap 79 15 3,
         D5 80 22 78 79,
         Ce 81 80 3,
         rq 82 (.binOp .neq 3 (tp 76) (tp 81) 3) 4])
       (.cond (tp 82) (.seq (.reg [] [
         Cz 4 0 3,
         Cz 5 14 28])
        (.ret))
       (.skip)))
       (.reg [] [
         Ap 83 15 3,
         AQ 13 83 3]))))
      (.reg [] [
        FB 84 68,
        Ap 68 84 3]))))))))))))
   (.reg [] [
     FB 85 25,
     Ap 25 85 3])))))))
 (.seq (.seq (.reg [] [
   Ap 86 8 80,Ap 87 7 80,rq 88 (.binOp .neq 80 (tp 86) (tp 87) 80) 4])
 (.cond (tp 88) (.seq (.reg [] [
   Cz 4 0 3,
   Cz 5 21 28])
  (.ret))
 (.skip)))
 (.seq (.reg [] [
   Ap 89 1 34,EN 90 89 34,AQ 4 90 3,Cz 5 0 28])
 (.ret)))))))
def c20:RC:=
 .seq (.reg [] [
  rq 4 (.assign (kb false)) 4])
 (.seq (.seq (.reg [] [
   Ap 6 0 34,EN 7 6 34,Ap 8 1 34,EN 9 8 34,rq 10 (.binOp .neq 3 (tp 7) (tp 9) 3) 4])
 (.cond (tp 10) (.seq (.reg [] [
   rq 4 (.assign (kb false)) 4])
  (.ret))
 (.skip)))
 (.seq (.seq (.reg [] [
   Cz 5 0 3])
 (.block 0 (.loop (.seq (.seq (.reg [] [
   Ap 11 5 3,
   Ap 12 0 34,
   EN 13 12 34,
   rq 14 (.binOp .lss 3 (tp 11) (tp 13) 3) 4])
   (.cond (tp 14) (.skip)
   (.exit 0)))
   (.seq (.block 1 (.seq (.reg [0, 1, 2, 3, 4, 5, 6, 7, 8, 9] [
     Ap 17 0 34,
     Ap 18 5 3,
     D5 19 34 17 18,
     Ce 20 19 22,
     Ap 21 1 34,
     Ap 22 5 3,
     D5 23 34 21 22,
     Ce 24 23 22,
     rq 25 (cf 26 #[(tp 20),(tp 24)] #[22,22]) 4,
     rq 26 (.unOp .not 4 (tp 25)) 4])
    (.cond (tp 26) (.seq (.reg [] [
      rq 4 (.assign (kb false)) 4])
     (.ret))
    (.skip))))
   (.reg [] [
     Ap 15 5 3,
     FB 16 15,
     AQ 5 16 3]))))))
 (.seq (.reg [] [
   rq 4 (.assign (kb true)) 4])
 (.ret))))
def xW:RC:=Oz
def xX:RC:=Ps
def xY:RC:=Ub
def c25:RC:=
 .seq (.reg [] [
  rq 3 (.box 24 (tp 0)) 0,rq 6 (.alloc 24) 0,Cz 7 0 28])
 (.seq (.reg [] [
   Ce 9 3 24,rq 10 (cf 47 #[(tp 9)] #[24]) 28,AQ 8 10 28])
 (.seq (.seq (.reg [] [
   Ap 11 8 28,rq 12 (.binOp .eql 28 (tp 11) (ki 0) 28) 4])
 (.cond (tp 12) (.reg [] [
   Ce 13 3 24,
   Ap 14 1 3,
   Ap 15 2 3,
   rq 16 (cf 57 #[(tp 13),(tp 14),(tp 15)] #[24,3,3]) 28,
   AQ 8 16 28])
 (.skip)))
 (.seq (.seq (.reg [] [
   Ap 17 8 28,rq 18 (.binOp .neq 28 (tp 17) (ki 0) 28) 4])
 (.cond (tp 18) (.seq (.reg [] [
   rq 19 (.build 24 #[]) 24,
   Ap 20 8 28,
   rn (.store 24 (tp 6) (tp 19)) 0,
   AQ 7 20 28])
  (.ret))
 (.skip)))
 (.seq (.reg [] [
   Ce 21 3 24,Ap 22 1 3,Ap 23 2 3,rq 24 (cf 43 #[(tp 21),(tp 22),(tp 23)] #[24,3,3]) 24,rn (.store 24 (tp 6) (tp 24)) 0,Cz 7 0 28])
 (.ret)))))
def c26:RC:=
 .seq (.reg [] [
  rq 4 (.assign (kb false)) 4])
 (.seq (.seq (.reg [] [
   Ap 6 0 22,EN 7 6 22,Ap 8 1 22,EN 9 8 22,rq 10 (.binOp .neq 3 (tp 7) (tp 9) 3) 4])
 (.cond (tp 10) (.seq (.reg [] [
   rq 4 (.assign (kb false)) 4])
  (.ret))
 (.skip)))
 (.seq (.seq (.reg [] [
   Cz 5 0 3])
 (.block 0 (.loop (.seq (.seq (.reg [] [
   Ap 11 5 3,
   Ap 12 0 22,
   EN 13 12 22,
   rq 14 (.binOp .lss 3 (tp 11) (tp 13) 3) 4])
   (.cond (tp 14) (.skip)
   (.exit 0)))
   (.seq (.block 1 (.seq (.reg [0, 1, 2, 3, 4, 5, 6, 7, 8] [
     Ap 17 0 22,
     Ap 18 5 3,
     D5 19 22 17 18,
     Ce 20 19 3,
     Ap 21 1 22,
     Ap 22 5 3,
     D5 23 22 21 22,
     Ce 24 23 3,
     rq 25 (.binOp .neq 3 (tp 20) (tp 24) 3) 4])
    (.cond (tp 25) (.seq (.reg [] [
      rq 4 (.assign (kb false)) 4])
     (.ret))
    (.skip))))
   (.reg [] [
     Ap 15 5 3,
     FB 16 15,
     AQ 5 16 3]))))))
 (.seq (.reg [] [
   rq 4 (.assign (kb true)) 4])
 (.ret))))
def xZ:RC:=Ud
def yA:RC:=Oy
def yB:RC:=OA
def c30:RC:=
 .seq (.reg [] [
  rq 1 (.box 24 (tp 0)) 0,Cz 2 0 3,Cz 3 0 28])
 (.seq (.seq (.reg [] [
   Ce 12 1 24,rq 13 (cf 47 #[(tp 12)] #[24]) 28,AQ 4 13 28])
 (.seq (.reg [] [
   Ap 14 4 28,rq 15 (.binOp .neq 28 (tp 14) (ki 0) 28) 4])
 (.cond (tp 15) (.seq (.reg [] [
   Ap 16 4 28,
   Cz 2 0 3,
   AQ 3 16 28])
  (.ret))
 (.skip))))
 (.seq (.reg [] [
   rq 5 (.assign (.func 58)) 88])
 (.seq (.reg [] [
   Ap 17 5 88,Ce 18 1 24,rq 19 (.call ⟨.value (tp 17),#[(tp 18)],#[24]⟩) 22,AQ 6 19 22])
 (.seq (.reg [] [
   Cz 7 0 3])
 (.seq (.seq (.reg [] [
   Ap 20 6 22,EN 21 20 22,rq 22 (.move (ki 0)) 3])
 (.block 0 (.loop (.seq (.reg [] [
   L8 23 22 21])
   (.seq (.cond (tp 23) (.skip)
   (.exit 0))
   (.seq (.block 1 (.seq (.reg [] [
     Ap 24 22 3,
     D5 25 22 20 22,
     Ce 26 25 3,
     AQ 8 24 3,
     AQ 9 26 3])
    (.seq (.reg [] [
      Ap 27 6 22,
      Ap 28 8 3,
      FB 29 28,
      rq 30 (.slice 22 (tp 27) (some (tp 29)) none none) 22,
      EN 31 30 22,
      rq 32 (.move (ki 0)) 3])
    (.block 2 (.loop (.seq (.reg [] [
      L8 33 32 31])
      (.seq (.cond (tp 33) (.skip)
      (.exit 2))
      (.seq (.block 3 (.seq (.reg [] [
        D5 34 22 30 32,
        Ce 35 34 3,
        AQ 11 35 3])
       (.seq (.reg [] [
         Ap 36 9 3,
         Ap 37 11 3,
         rq 38 (.binOp .gtr 3 (tp 36) (tp 37) 3) 4])
       (.cond (tp 38) (.reg [] [
         Ap 39 7 3,
         FB 40 39,
         AQ 7 40 3])
       (.skip)))))
      (.reg [] [
        FB 41 32,
        Ap 32 41 3])))))))))
   (.reg [] [
     FB 42 22,
     Ap 22 42 3])))))))
 (.seq (.reg [] [
   Ap 43 7 3,AQ 2 43 3,Cz 3 0 28])
 (.ret)))))))
def c31:RC:=
 .seq (.reg [] [
  rq 1 (.box 24 (tp 0)) 0,rq 2 (.assign (.const (.slice none 0 0))) 22,Cz 3 0 28])
 (.seq (.seq (.reg [] [
   Ce 5 1 24,rq 6 (cf 47 #[(tp 5)] #[24]) 28,AQ 4 6 28])
 (.seq (.reg [] [
   Ap 7 4 28,rq 8 (.binOp .neq 28 (tp 7) (ki 0) 28) 4])
 (.cond (tp 8) (.seq (.reg [] [
   Ap 9 4 28,
   rq 2 (.assign (.const (.slice none 0 0))) 22,
   AQ 3 9 28])
  (.ret))
 (.skip))))
 (.seq (.reg [] [
   Ce 10 1 24,rq 11 (cf 58 #[(tp 10)] #[24]) 22,AQ 2 11 22,Cz 3 0 28])
 (.ret)))
def c34:RC:=
 .seq (.reg [] [
  rq 2 (.box 24 (tp 0)) 0,Cz 4 0 28])
 (.seq (.seq (.reg [] [
   Ce 9 2 24,rq 10 (cf 47 #[(tp 9)] #[24]) 28,AQ 5 10 28])
 (.seq (.reg [] [
   Ap 11 5 28,rq 12 (.binOp .neq 28 (tp 11) (ki 0) 28) 4])
 (.cond (tp 12) (.seq (.reg [] [
   Ap 13 5 28,
   AQ 4 13 28])
  (.ret))
 (.skip))))
 (.seq (.seq (.reg [] [
   Ap 14 1 27,EN 15 14 27,rq 16 (.move (ki 0)) 3])
 (.block 0 (.loop (.seq (.reg [] [
   L8 17 16 15])
   (.seq (.cond (tp 17) (.skip)
   (.exit 0))
   (.seq (.block 1 (.seq (.reg [] [
     D5 18 27 14 16,
     Ce 19 18 51,
     rq 7 (.alloc 51) 0,
     rn (.store 51 (tp 7) (tp 19)) 0])
    (.seq (.seq (.reg [] [
      Ce 20 2 24,
      rq 21 (.indexAddr 51 (tp 7) (ki 0)) 0,
      Ce 22 21 3,
      rq 23 (.indexAddr 51 (tp 7) (ki 1)) 0,
      Ce 24 23 3,
      rq 25 (cf 57 #[(tp 20),(tp 22),(tp 24)] #[24,3,3]) 28,
      AQ 8 25 28])
    (.seq (.reg [] [
      Ap 26 8 28,
      rq 27 (.binOp .neq 28 (tp 26) (ki 0) 28) 4])
    (.cond (tp 27) (.seq (.reg [] [
      Ap 28 8 28,
      AQ 4 28 28])
     (.ret))
    (.skip))))
    (.reg [] [
      Ce 29 2 24,
      rq 30 (.indexAddr 51 (tp 7) (ki 0)) 0,
      Ce 31 30 3,
      rq 32 (.indexAddr 51 (tp 7) (ki 1)) 0,
      Ce 33 32 3,
      rq 34 (cf 43 #[(tp 29),(tp 31),(tp 33)] #[24,3,3]) 24,
      rn (.store 24 (tp 2) (tp 34)) 0]))))
   (.reg [] [
     FB 35 16,
     Ap 16 35 3])))))))
 (.seq (.seq (.reg [] [
   Ce 36 2 24,rq 37 (cf 51 #[(tp 36)] #[24]) 80,rq 38 (.binOp .neq 80 (tp 37) (.const (.int .u16 0)) 80) 4])
 (.cond (tp 38) (.seq (.reg [] [
   Cz 4 14 28])
  (.ret))
 (.skip)))
 (.seq (.reg [] [
   Cz 4 0 28])
 (.ret)))))
def c38:RC:=
 .seq (.reg [] [
  rq 1 (.box 24 (tp 0)) 0,rq 2 (.assign (.const (.slice none 0 0))) 22,Cz 3 0 28])
 (.seq (.seq (.reg [] [
   Ce 5 1 24,rq 6 (cf 47 #[(tp 5)] #[24]) 28,AQ 4 6 28])
 (.seq (.reg [] [
   Ap 7 4 28,rq 8 (.binOp .neq 28 (tp 7) (ki 0) 28) 4])
 (.cond (tp 8) (.seq (.reg [] [
   Ap 9 4 28,
   rq 2 (.assign (.const (.slice none 0 0))) 22,
   AQ 3 9 28])
  (.ret))
 (.skip))))
 (.seq (.reg [] [
   Ce 10 1 24,rq 11 (cf 51 #[(tp 10)] #[24]) 80,rq 12 (cf 62 #[(tp 11)] #[80]) 22,AQ 2 12 22,Cz 3 0 28])
 (.ret)))
def c39:RC:=
 .seq (.reg [] [
  rq 0 (.alloc 24) 0])
 (.seq (.reg [] [
   rq 1 (.buildSlice 22 5 #[(0,(ki 0)),(1,(ki 1)),(2,(ki 2)),(3,(ki 0)),(4,(ki 1))]) 22,rq 2 (cf 42 #[(tp 1)] #[22]) 22,rq 3 (.buildSlice 22 5 #[(0,(ki 1)),(1,(ki 2)),(2,(ki 0)),(3,(ki 1)),(4,(ki 0))]) 22,rq 4 (cf 42 #[(tp 3)] #[22]) 22,rq 5 (.build 24 #[(0,(ki 3)),(1,(tp 2)),(2,(tp 4))]) 24,rn (.store 24 (tp 0) (tp 5)) 0])
 (.ret))
def c40:RC:=
 .seq (.reg [] [
  rq 0 (.alloc 24) 0])
 (.seq (.reg [] [
   rq 1 (.buildSlice 22 4 #[(0,(ki 0)),(1,(ki 0)),(2,(ki 1)),(3,(ki 1))]) 22,rq 2 (cf 42 #[(tp 1)] #[22]) 22,rq 3 (.buildSlice 22 4 #[(0,(ki 1)),(1,(ki 1)),(2,(ki 0)),(3,(ki 0))]) 22,rq 4 (cf 42 #[(tp 3)] #[22]) 22,rq 5 (.build 24 #[(0,(ki 2)),(1,(tp 2)),(2,(tp 4))]) 24,rn (.store 24 (tp 0) (tp 5)) 0])
 (.ret))
def c41:RC:=
 .seq (.reg [] [
  rq 2 (.assign (.const (.slice none 0 0))) 34])
 (.seq (.reg [] [
   Ap 3 0 34,AQ 2 3 34])
 (.ret))
def c42:RC:=
 .seq (.reg [] [
  rq 2 (.assign (.const (.slice none 0 0))) 22])
 (.seq (.reg [] [
   Ap 3 0 22,AQ 2 3 22])
 (.ret))
def c43:RC:=
 .seq (.reg [] [
  rq 3 (.box 24 (tp 0)) 0,rq 6 (.alloc 24) 0])
 (.seq (.reg [0, 1, 2, 3, 5, 6, 9, 4, 7, 8, 10] [
   DR 8 24 3 0,Ce 9 8 3,DR 10 24 3 1,Ce 11 10 22,DR 13 24 3 2,Ce 14 13 22,rq 7 (.alloc 24) 0,
   ⟨(some 12),cf 63 #[(tp 11)] #[22],22,none,[(tp 13),(tp 8)]⟩,
   ⟨(some 15),cf 63 #[(tp 14)] #[22],22,none,[(tp 8)]⟩,rq 16 (.build 24 #[(0,(tp 9)),(1,(tp 12)),(2,(tp 15))]) 24,rn (.store 24 (tp 7) (tp 16)) 0])
 (.seq (.reg [0, 1, 2, 3, 4, 5, 6, 7, 8, 9, 10, 11, 12, 13, 14, 15, 16, 17, 18, 19] [
   DR 17 24 7 1,Ce 18 17 22,Ap 19 1 3,DR 20 24 7 1,Ce 21 20 22,Ap 22 2 3,DR 23 24 7 1,Ce 24 23 22,Ap 25 2 3,D5 26 22 24 25,Ce 27 26 3,DR 28 24 7 1,Ce 29 28 22,Ap 30 1 3,D5 31 22 29 30,Ce 32 31 3,D5 33 22 18 19,⟨none,.store 3 (tp 33) (tp 27),0,none,[(tp 20)]⟩,D5 34 22 21 22,rn (.store 3 (tp 34) (tp 32)) 0])
 (.seq (.reg [] [
   Ce 35 7 24,rn (.store 24 (tp 6) (tp 35)) 0])
 (.ret))))
def yC:RC:=Ue
def yD:RC:=Pt
def Si:RC:=
 .seq (.reg [] [
  rq 1 (.box 24 (tp 0)) 0,rq 2 (.assign (.const (.slice none 0 0))) 34])
 (.seq (.reg [] [
   Ce 10 1 24,rq 11 (cf 65 #[(tp 10)] #[24]) 94,AQ 3 11 94])
 (.seq (.reg [] [
   rq 4 (.assign (.const (.slice none 0 0))) 34])
 (.seq (.seq (.reg [] [
   Ce 12 1 24,rq 13 (cf 51 #[(tp 12)] #[24]) 80,AQ 5 13 80])
 (.block 0 (.loop (.seq (.seq (.reg [] [
   Ap 14 5 80,
   rq 15 (.binOp .neq 80 (tp 14) (.const (.int .u16 0)) 80) 4])
   (.cond (tp 15) (.skip)
   (.exit 0)))
   (.block 1 (.seq (.reg [] [
     Ap 16 5 80,
     rq 17 (cf 67 #[(tp 16)] #[79]) 3,
     AQ 6 17 3])
    (.seq (.reg [0, 1, 2, 3, 4, 5, 6, 7, 8, 9, 10, 11, 12] [
      Ap 18 3 94,
      Ap 19 6 3,
      rq 20 (.buildSlice 22 1 #[(0,(tp 19))]) 22,
      Ap 21 5 80,
      Ap 22 6 3,
      rq 23 (.binOp .shl 80 (.const (.int .u16 1)) (tp 22) 3) 80,
      rq 24 (.binOp .andNot 80 (tp 21) (tp 23) 80) 80,
      Ap 25 3 94,
      Ap 26 5 80,
      rq 27 (cf 66 #[(tp 25),(tp 26)] #[94,80]) 3,
      rq 28 (.binOp .sub 3 (tp 27) (ki 1) 3) 3,
      rq 29 (cf 68 #[(tp 18),(tp 20),(tp 24),(tp 28)] #[94,22,80,3]) 22,
      AQ 7 29 22])
    (.seq (.reg [] [
      Ap 30 4 34,
      Ap 31 7 22,
      rq 32 (.buildSlice 34 1 #[(0,(tp 31))]) 34,
      rq 33 (cb .append #[(tp 30),(tp 32)] #[34,34]) 34,
      AQ 4 33 34])
    (.seq (.reg [] [
      Ap 34 7 22,
      EN 35 34 22,
      rq 36 (.move (ki 0)) 3])
    (.block 2 (.loop (.seq (.reg [] [
      L8 37 36 35])
      (.seq (.cond (tp 37) (.skip)
      (.exit 2))
      (.seq (.block 3 (.seq (.reg [] [
        D5 38 22 34 36,
        Ce 39 38 3,
        AQ 9 39 3])
       (.reg [] [
         Ap 40 5 80,
         Ap 41 9 3,
         rq 42 (.binOp .shl 80 (.const (.int .u16 1)) (tp 41) 3) 80,
         rq 43 (.binOp .andNot 80 (tp 40) (tp 42) 80) 80,
         AQ 5 43 80])))
      (.reg [] [
        FB 44 36,
        Ap 36 44 3])))))))))))))))
 (.seq (.reg [] [
   Ap 45 4 34,AQ 2 45 34])
 (.ret)))))
def yE:RC:=PI
def yF:RC:=Uf
def yG:RC:=Ug
def c57:RC:=
 .seq (.reg [] [
  rq 3 (.box 24 (tp 0)) 0,Cz 6 0 28])
 (.seq (.block 0 (.seq (.reg [] [
   Ap 8 1 3,
   Ap 9 2 3,
   rq 10 (cb .min #[(tp 8),(tp 9)] #[3,3]) 3,
   rq 11 (.binOp .lss 3 (tp 10) (ki 0) 3) 4,
   Ap 12 11 4,
   DD 13 1 3 12 false,
   DD 14 2 3 12 false,
   rg 15 (cb .max #[(tp 13),(tp 14)] #[3,3]) 3 12 false,
   rg 16 (.fieldAddr 24 (tp 3) 1) 0 12 false,
   rg 17 (.load 22 (tp 16)) 22 12 false,
   rg 18 (cb .len #[(tp 17)] #[22]) 3 12 false,
   rg 19 (.binOp .geq 3 (tp 15) (tp 18) 3) 4 12 false,
   rq 20 (.pick (tp 12) (kb true) (tp 19)) 4,
   AQ 7 20 4])
  (.cond (tp 7) (.seq (.reg [] [
    Cz 6 2 28])
   (.ret))
  (.seq (.reg [] [
    Ap 22 1 3,
    Ap 23 2 3,
    rq 24 (.binOp .geq 3 (tp 22) (tp 23) 3) 4,
    AQ 21 24 4])
   (.cond (tp 21) (.seq (.reg [] [
     Cz 6 7 28])
    (.ret))
   (.skip))))))
 (.seq (.reg [] [
   Cz 6 0 28])
 (.ret)))
def c58:RC:=
 .seq (.reg [] [
  rq 1 (.box 24 (tp 0)) 0,rq 2 (.assign (.const (.slice none 0 0))) 22])
 (.seq (.reg [] [
   rq 3 (.alloc 101) 0])
 (.seq (.seq (.reg [] [
   DR 9 24 1 1,Ce 10 9 22,EN 11 10 22,rq 12 (.move (ki 0)) 3])
 (.block 0 (.loop (.seq (.reg [] [
   L8 13 12 11])
   (.seq (.cond (tp 13) (.skip)
   (.exit 0))
   (.seq (.block 1 (.seq (.reg [] [
     Ap 14 12 3,
     D5 15 22 10 12,
     Ce 16 15 3,
     AQ 4 14 3,
     AQ 5 16 3])
    (.reg [] [
      Ap 17 5 3,
      Ap 18 5 3,
      D5 19 101 3 18,
      Ce 20 19 22,
      Ap 21 4 3,
      rq 22 (.buildSlice 22 1 #[(0,(tp 21))]) 22,
      rq 23 (cb .append #[(tp 20),(tp 22)] #[22,22]) 22,
      D5 24 101 3 17,
      rn (.store 22 (tp 24) (tp 23)) 0])))
   (.reg [] [
     FB 25 12,
     Ap 12 25 3])))))))
 (.seq (.reg [] [
   rq 6 (.assign (.const (.slice none 0 0))) 22])
 (.seq (.seq (.reg [] [
   DR 26 24 1 2,Ce 27 26 22,EN 28 27 22,rq 29 (.move (ki 0)) 3])
 (.block 2 (.loop (.seq (.reg [] [
   L8 30 29 28])
   (.seq (.cond (tp 30) (.skip)
   (.exit 2))
   (.seq (.block 3 (.seq (.reg [] [
     D5 31 22 27 29,
     Ce 32 31 3,
     AQ 8 32 3])
    (.reg [0, 1, 2, 3, 4, 5, 6, 7, 9, 10, 11, 12, 8, 13, 14, 15] [
      Ap 33 8 3,
      Ap 34 6 22,
      Ap 35 8 3,
      D5 36 101 3 35,
      Ce 37 36 22,
      rq 38 (.indexAddr 22 (tp 37) (ki 0)) 0,
      Ce 39 38 3,
      rq 40 (.buildSlice 22 1 #[(0,(tp 39))]) 22,
      Ap 42 8 3,
      D5 43 101 3 42,
      Ce 44 43 22,
      rq 45 (.slice 22 (tp 44) (some (ki 1)) none none) 22,
      ⟨(some 41),cb .append #[(tp 34),(tp 40)] #[22,22],22,none,[(tp 44),(tp 43)]⟩,
      AQ 6 41 22,
      D5 46 101 3 33,
      rn (.store 22 (tp 46) (tp 45)) 0])))
   (.reg [] [
     FB 47 29,
     Ap 29 47 3])))))))
 (.seq (.reg [] [
   Ap 48 6 22,AQ 2 48 22])
 (.ret))))))
def yH:RC:=PK
def xB:RC:=
 .seq (.reg [] [
  rq 2 (.assign (.const (.slice none 0 0))) 22])
 (.seq (.seq (.reg [] [
   Ap 3 0 22,rq 4 (.binOp .eql 22 (tp 3) (.const (.slice none 0 0)) 22) 4])
 (.cond (tp 4) (.seq (.reg [] [
   rq 2 (.assign (.const (.slice none 0 0))) 22])
  (.ret))
 (.skip)))
 (.seq (.reg [] [
   rq 5 (.buildSlice 22 0 #[]) 22,Ap 6 0 22,rq 7 (cb .append #[(tp 5),(tp 6)] #[22,22]) 22,AQ 2 7 22])
 (.ret)))
def yI:RC:=Uh
def yJ:RC:=QE
def yK:RC:=OB
def yL:RC:=Ui
def c68:RC:=
 .seq (.reg [] [
  rq 8 (.assign (.const (.slice none 0 0))) 22])
 (.seq (.reg [] [
   Ap 13 1 22,Ap 14 1 22,EN 15 14 22,rq 16 (.binOp .sub 3 (tp 15) (ki 1) 3) 3,D5 17 22 13 16,Ce 18 17 3,AQ 9 18 3])
 (.seq (.seq (.reg [0, 1, 2, 3, 4, 5, 6, 7, 8, 9, 10, 11, 12, 13, 14, 15, 16, 17, 18, 19, 20, 21, 22, 23, 24, 25, 26, 27, 28, 29, 31, 30, 32, 33] [
   Ap 19 0 94,rq 20 (.nilCheck (tp 19)) 0,DR 21 105 20 0,DR 22 24 21 2,Ce 23 22 22,Ap 24 9 3,D5 25 22 23 24,Ce 26 25 3,Ap 27 0 94,rq 28 (.nilCheck (tp 27)) 0,DR 29 105 28 0,DR 30 24 29 1,Ce 31 30 22,Ap 32 1 22,rq 33 (.indexAddr 22 (tp 32) (ki 0)) 0,Ce 34 33 3,D5 35 22 31 34,Ce 36 35 3,rq 37 (.binOp .eql 3 (tp 26) (tp 36) 3) 4,Ap 38 37 4,DD 39 0 94 38 true,rg 40 (.nilCheck (tp 39)) 0 38 true,rg 41 (.fieldAddr 105 (tp 40) 0) 0 38 true,rg 42 (.load 24 (tp 41)) 24 38 true,DD 43 2 80 38 true,rg 44 (cf 71 #[(tp 42),(tp 43)] #[24,80]) 4 38 true,rq 45 (.pick (tp 38) (tp 44) (kb false)) 4,Ap 46 45 4,DD 47 0 94 46 true,DD 48 2 80 46 true,DD 50 3 3 46 true,rg 49 (cf 66 #[(tp 47),(tp 48)] #[94,80]) 3 46 true,rg 51 (.binOp .eql 3 (tp 49) (tp 50) 3) 4 46 true,rq 52 (.pick (tp 46) (tp 51) (kb false)) 4])
 (.cond (tp 52) (.seq (.reg [] [
   Ap 53 1 22,
   AQ 8 53 22])
  (.ret))
 (.skip)))
 (.seq (.seq (.reg [] [
   Ap 54 2 80,rq 55 (cf 62 #[(tp 54)] #[80]) 22,EN 56 55 22,rq 57 (.move (ki 0)) 3])
 (.block 0 (.loop (.seq (.reg [] [
   L8 58 57 56])
   (.seq (.cond (tp 58) (.skip)
   (.exit 0))
   (.seq (.block 1 (.seq (.reg [] [
     D5 59 22 55 57,
     Ce 60 59 3,
     AQ 11 60 3])
    (.seq (.reg [0, 1, 2, 3, 4, 5, 6, 7, 8, 9, 10, 11, 12, 13, 14, 15, 16] [
      Ap 61 0 94,
      rq 62 (.nilCheck (tp 61)) 0,
      DR 63 105 62 0,
      DR 64 24 63 1,
      Ce 65 64 22,
      Ap 66 11 3,
      D5 67 22 65 66,
      Ce 68 67 3,
      Ap 69 0 94,
      rq 70 (.nilCheck (tp 69)) 0,
      DR 71 105 70 0,
      DR 72 24 71 2,
      Ce 73 72 22,
      Ap 74 9 3,
      D5 75 22 73 74,
      Ce 76 75 3,
      rq 77 (.binOp .eql 3 (tp 68) (tp 76) 3) 4])
    (.cond (tp 77) (.seq (.reg [0, 1, 3, 4, 6, 7, 8, 9, 10, 2, 5, 11, 12] [
      Ap 78 0 94,
      Ap 79 1 22,
      Ap 81 11 3,
      rq 82 (.buildSlice 22 1 #[(0,(tp 81))]) 22,
      Ap 84 2 80,
      Ap 85 11 3,
      rq 86 (.binOp .shl 80 (.const (.int .u16 1)) (tp 85) 3) 80,
      rq 87 (.binOp .andNot 80 (tp 84) (tp 86) 80) 80,
      Ap 88 3 3,
      rq 80 (cf 72 #[(tp 79)] #[22]) 22,
      rq 83 (cb .append #[(tp 80),(tp 82)] #[22,22]) 22,
      rq 89 (cf 68 #[(tp 78),(tp 83),(tp 87),(tp 88)] #[94,22,80,3]) 22,
      AQ 12 89 22])
     (.seq (.reg [] [
       Ap 90 12 22,
       rq 91 (.binOp .neq 22 (tp 90) (.const (.slice none 0 0)) 22) 4])
     (.cond (tp 91) (.seq (.reg [] [
       Ap 92 12 22,
       AQ 8 92 22])
      (.ret))
     (.skip))))
    (.skip)))))
   (.reg [] [
     FB 93 57,
     Ap 57 93 3])))))))
 (.seq (.reg [] [
   rq 8 (.assign (.const (.slice none 0 0))) 22])
 (.ret)))))
def yM:RC:=PM
def c72:RC:=
 .seq (.reg [] [
  rq 2 (.assign (.const (.slice none 0 0))) 22])
 (.seq (.reg [] [
   Ap 3 0 22,Ap 4 0 22,EN 5 4 22,Ap 6 0 22,EN 7 6 22,rq 8 (.slice 22 (tp 3) none (some (tp 5)) (some (tp 7))) 22,AQ 2 8 22])
 (.ret))
def ti3:TI:=⟨.int .i64,1,8,(some (.int .i64 0)),false⟩
def ti4:TI:=⟨.bool,1,1,(some (.bool false)),false⟩
def ti5:TI:=⟨.int .u8,1,1,(some (.int .u8 0)),false⟩
def ti9:TI:=⟨.string,1,16,(some (.string ⟨#[]⟩)),false⟩
def rQ:TI:=⟨.slice 3,1,24,(some (.slice none 0 0)),false⟩
def rR : TI := ⟨.struct #[⟨ "Kinds", 3, 0, false, "", "", 0⟩, ⟨ "Has", 22, 1, false, "", "", 8⟩, ⟨ "Wants", 22, 2, false, "", "", 32⟩], 3, 56, (some (.agg #[(.int .i64 0), (.slice none 0 0), (.slice none 0 0)])), false⟩
def rT:TI:=⟨.slice 51,1,24,(some (.slice none 0 0)),false⟩
def rU:TI:=⟨.int .i64,1,8,(some (.int .i64 0)),false⟩
def rV:TI:=⟨.slice 22,1,24,(some (.slice none 0 0)),false⟩
def rW:TI:=⟨.map 3 3,1,8,(some (.map none)),false⟩
def rX:TI:=⟨.array 2 3,2,16,(some (.agg #[(.int .i64 0),(.int .i64 0)])),true⟩
def rY:TI:=⟨.func #[3] #[] false,1,8,(some .nilFunc),false⟩
def rZ:TI:=⟨.int .u16,1,2,(some (.int .u16 0)),false⟩
def sG:TI:=⟨.int .u16,1,2,(some (.int .u16 0)),false⟩
def sH:TI:=⟨.pointer 105,1,8,(some (.pointer none)),false⟩
def sI:TI:=⟨.array 5 3,5,40,(some (.agg #[(.int .i64 0),(.int .i64 0),(.int .i64 0),(.int .i64 0),(.int .i64 0)])),true⟩
def Yt:TI:=⟨.array 5 22,5,120,(some (.agg #[(.slice none 0 0),(.slice none 0 0),(.slice none 0 0),(.slice none 0 0),(.slice none 0 0)])),false⟩
def Yu:TI:=⟨.int .u64,1,8,(some (.int .u64 0)),false⟩
def Yv:TI:=⟨.map 80 3,1,8,(some (.map none)),false⟩
def Yw : TI := ⟨.struct #[⟨ "Tray", 24, 0, true, "", "", 0⟩, ⟨ "known", 103, 3, false, "", "spadille/mend", 56⟩], 4, 64, (some (.agg #[(.int .i64 0), (.slice none 0 0), (.slice none 0 0), (.map none)])), false⟩
def Yx:TI:=⟨.array 32 5,32,32,(some (.agg #[(.int .u8 0),(.int .u8 0),(.int .u8 0),(.int .u8 0),(.int .u8 0),(.int .u8 0),(.int .u8 0),(.int .u8 0),(.int .u8 0),(.int .u8 0),(.int .u8 0),(.int .u8 0),(.int .u8 0),(.int .u8 0),(.int .u8 0),(.int .u8 0),(.int .u8 0),(.int .u8 0),(.int .u8 0),(.int .u8 0),(.int .u8 0),(.int .u8 0),(.int .u8 0),(.int .u8 0),(.int .u8 0),(.int .u8 0),(.int .u8 0),(.int .u8 0),(.int .u8 0),(.int .u8 0),(.int .u8 0),(.int .u8 0)])),true⟩
def Yy:TI:=⟨.int .u32,1,4,(some (.int .u32 0)),false⟩
def sJ:Tr TI:=(.node none (.node none (.node (some ti3) (.node none (.node none .nil (.node (some rW) (.node (some rZ) .nil .nil) .nil)) (.node none (.node none .nil (.node (some Yv) .nil .nil)) .nil)) (.node none (.node none .nil (.node (some rX) .nil .nil)) (.node (some rT) (.node none .nil (.node (some Yx) .nil .nil)) .nil))) (.node (some ti5) (.node (some ti9) (.node none (.node none .nil (.node (some sI) .nil .nil)) .nil) (.node none (.node none .nil (.node (some Yw) .nil .nil)) (.node (some rY) .nil .nil))) (.node none (.node none (.node none .nil (.node (some Yt) .nil .nil)) .nil) .nil))) (.node none (.node (some ti4) (.node none (.node none .nil (.node none (.node (some sG) .nil .nil) .nil)) (.node (some rR) .nil .nil)) (.node none .nil (.node (some rU) (.node none .nil (.node (some Yy) .nil .nil)) .nil))) (.node none (.node none (.node none (.node (some rV) .nil .nil) .nil) .nil) (.node none (.node (some rQ) (.node none .nil (.node (some Yu) .nil .nil)) .nil) (.node none .nil (.node none (.node (some sH) .nil .nil) .nil))))))
noncomputable def tt:TT:=sJ.get
def sK:Tr Xq:=(.node none (.node none (.node none (.node none (.node (some ⟨26,c15,[.tmp 4]⟩) (.node (some ⟨12,c31,[.tmp 2,.tmp 3]⟩) (.node (some ⟨8,xB,[.tmp 2]⟩) .nil .nil) .nil) (.node (some ⟨73,yD,[.tmp 2]⟩) .nil .nil)) (.node (some ⟨18,xX,[.tmp 2]⟩) (.node (some ⟨6,c39,[.cell 0 24]⟩) (.node (some ⟨38,yM,[.tmp 4]⟩) .nil .nil) .nil) .nil)) (.node none (.node none (.node none (.node (some ⟨15,yL,[.tmp 2]⟩) .nil .nil) .nil) (.node (some ⟨27,yE,[.tmp 2]⟩) .nil .nil)) (.node (some ⟨22,xZ,[.tmp 4,.tmp 5]⟩) (.node (some ⟨36,c43,[.cell 6 24]⟩) .nil .nil) .nil))) (.node none (.node none (.node none (.node none (.node (some ⟨8,yJ,[.tmp 2]⟩) .nil .nil) .nil) .nil) (.node (some ⟨25,c25,[.cell 6 24,.tmp 7]⟩) (.node (some ⟨4,c41,[.tmp 2]⟩) .nil .nil) (.node (some ⟨25,c57,[.tmp 6]⟩) .nil .nil))) (.node (some ⟨47,c13,[.tmp 2,.tmp 3]⟩) (.node none .nil (.node (some ⟨10,yG,[.tmp 4]⟩) .nil .nil)) (.node (some ⟨12,yB,[.tmp 2,.tmp 3]⟩) .nil .nil)))) (.node none (.node none (.node none (.node (some ⟨12,c16,[.tmp 2,.tmp 3]⟩) (.node none (.node (some ⟨11,yI,[.tmp 2]⟩) .nil .nil) .nil) (.node (some ⟨46,Si,[.tmp 2]⟩) .nil .nil)) (.node (some ⟨26,xY,[.tmp 6]⟩) (.node (some ⟨6,c40,[.cell 0 24]⟩) (.node (some ⟨9,c72,[.tmp 2]⟩) .nil .nil) .nil) .nil)) (.node (some ⟨218,c12,[.tmp 0]⟩) (.node (some ⟨27,c20,[.tmp 4]⟩) (.node none (.node (some ⟨94,c68,[.tmp 8]⟩) .nil .nil) .nil) (.node (some ⟨15,yF,[.tmp 6]⟩) .nil .nil)) (.node (some ⟨45,yA,[]⟩) (.node (some ⟨13,yC,[.tmp 2]⟩) .nil .nil) .nil))) (.node (some ⟨130,c6,[.tmp 4]⟩) (.node none (.node (some ⟨91,c18,[.tmp 4,.tmp 5]⟩) (.node (some ⟨39,c34,[.tmp 4]⟩) (.node (some ⟨52,yK,[.tmp 4]⟩) .nil .nil) .nil) .nil) (.node (some ⟨26,c26,[.tmp 4]⟩) (.node (some ⟨4,c42,[.tmp 2]⟩) .nil .nil) (.node (some ⟨49,c58,[.tmp 2]⟩) .nil .nil))) (.node none (.node (some ⟨77,xW,[.tmp 4]⟩) (.node (some ⟨13,c38,[.tmp 2,.tmp 3]⟩) .nil .nil) .nil) (.node (some ⟨44,c30,[.tmp 2,.tmp 3]⟩) .nil (.node (some ⟨16,yH,[.tmp 2]⟩) .nil .nil))))))
noncomputable def LZ:FuncId→Option Xq:=sK.get
end Go.MnW
set_option maxRecDepth 100000
namespace Go.Sp
theorem PG.cap (id off sz ln m:Nat):PG (.slice (some ⟨id,off,some sz⟩) ln (2*m+1)) (.slice (some ⟨id,off,some sz⟩) ln (2*m)):=fun R u h=>by
 have e1:(2*m+1) / 2=m:=by omega
 have e2:2*m / 2=m:=by omega
 cases h with
 | sl h h1 h2 h3 h4 =>
  rw[e1] at h1 h2
  exact .sl h (by rw[e2];exact h1) (by rw[e2];exact h2) (fun h=>by omega) h4
 | slE h=>exact .slE (by omega)
 | slN h=>exact .slN (by omega)
end Go.Sp
namespace Go.MnWM
open Go.Sp Go.MnW
noncomputable section
def Sk (sz by':Nat) (args:List Value) (H:Aa):Option (Value×Aa):=
 ll args none fun x r => ll r (oo (Bj sz x) none fun s => Aa.rec (motive := fun _ => Option (Value × Aa)) (fun k T z => bb z (bb (EQ (0 + s.n) by')
  (some (.slice (some ⟨Nat.succ k,0,some sz⟩) s.n (2*s.n+bb false 1 0),((⟨k,T,true⟩:Aa).push (.cells [] false false [])).push (.cells (Aq (s.n*sz) s.cs) false false []))) none) none) H) fun _ _=>none
def xC:List Fs:=[
 ⟨(some 5),.buildSlice 22 0 #[],22,none,[]⟩,
 ⟨(some 6),.move (.tmp 0),22,none,[]⟩,
 ⟨(some 7),.call ⟨.builtin .append,#[(.tmp 5),(.tmp 6)],#[22,22]⟩,22,none,[]⟩,
 ⟨(some 2),.assign (.tmp 7),22,none,[]⟩]
def H1 (k:Nat) (T:Tr AJ):Aa:=(⟨k,T,true⟩:Aa).push (.cells [] false false [])
def F1 (a:Value):Fr:=Fr.puts (Fr.made 8 [a]) [(2,.slice none 0 0),(3,a),(4,.bool false)]
def F2 (a:Value) (k:Nat):Fr:=Fr.puts (F1 a) [(5,.slice (some ⟨k,0,some 1⟩) 0 1)]
def Ay (a:Value) (k:Nat):Fr:=Fr.puts (F2 a k) [(6,a)]
def AO (a:Value) (k:Nat) (v:Value):Fr:=Fr.puts (Ay a k) [(7,v)]
def A7 (a:Value) (k:Nat) (v:Value):Fr:=Fr.puts (AO a k v) [(2,v)]
theorem gQ (k:Nat) (T:Tr AJ):Bv ((H1 k T).get k)=some ⟨[],false,false,[]⟩:=by
 unfold H1
 rw[Aa.get_push,if_pos rfl];rfl
theorem XL (k:Nat) (T:Tr AJ):(H1 k T).next=k+1:=by
 unfold H1;rw[Aa.next_push]
theorem Wo (k:Nat) (T:Tr AJ):Cr tt LZ 2 63 [FP 1 0 2 []] ⟨k,T,true⟩=some (.slice none 0 0,⟨k,T,true⟩):=by kernel_rfl
theorem ops (call:A8) (k:Nat) (T:Tr AJ) (a v:Value) (H2:Aa) (s:Sl) (ha:a=s.v 1) (hD:Ql (H1 k T) 1 8 (.slice (some ⟨k,0,some 1⟩) 0 1) s=some (v,H2)) :
 BD tt call xC (F1 a) ⟨k,T,true⟩=some (A7 a k v,H2):=by
 subst ha
 refine Ob (some (.slice (some ⟨k,0,some 1⟩) 0 1,H1 k T)) (by kernel_rfl) rfl (by kernel_rfl) ?_
 refine Ob (some (s.v 1,H1 k T)) (by kernel_rfl) rfl (by kernel_rfl) ?_
 refine Ob (Ql (H1 k T) 1 8 (.slice (some ⟨k,0,some 1⟩) 0 1) s) (by kernel_rfl) hD (by kernel_rfl) ?_
 refine Ob (some (v,H2)) (by kernel_rfl) rfl (by kernel_rfl) ?_
 rfl
theorem ev (k:Nat) (T:Tr AJ) (a v:Value) (H2:Aa) (h1:MZ tt (Cr tt LZ 1) 1 xB (Fr.made 8 [a]) ⟨k,T,true⟩=MZ tt (Cr tt LZ 1) 1 (.seq (.reg [] xC) .ret) (F1 a) ⟨k,T,true⟩)
 (h:BD tt (Cr tt LZ 1) xC (F1 a) ⟨k,T,true⟩=some (A7 a k v,H2)):Cr tt LZ 2 63 [a] ⟨k,T,true⟩=some (v,H2):=by
 show Xr tt [.tmp 2] (MZ tt (Cr tt LZ 1) 1 xB (Fr.made 8 [a]) ⟨k,T,true⟩)=_
 rw[h1]
 show Xr tt [.tmp 2] (IK (Ab2 (BD tt (Cr tt LZ 1) xC (F1 a) ⟨k,T,true⟩)) _)=_
 rw[h]
 kernel_rfl
theorem gT (k:Nat) (T:Tr AJ):Cr tt LZ 2 63 [FP 1 0 3 []] ⟨k,T,true⟩=some (.slice (some ⟨k,0,some 1⟩) 0 1,H1 k T):=
 ev k T _ _ _ (by kernel_rfl) (ops _ k T _ _ _ ⟨0,3,[]⟩ rfl (Ze rfl))
theorem gU (k:Nat) (T:Tr AJ) (n:Nat) (cs:List Value) (hr:EQ (0+(n+1)) 8=true) :
 Cr tt LZ 2 63 [FP 1 (n+1) 0 cs] ⟨k,T,true⟩=some (sliceAt (k+1) 0 1 (0+(n+1)) (0+(n+1)) false,(H1 k T).push (.cells (Aq ((n+1)*1) cs) false false [])):=
 ev k T _ _ _ (by kernel_rfl) (ops _ k T _ _ _ ⟨n+1,0,cs⟩ rfl (by rw[Zf rfl hr (gQ k T),XL]))

theorem Sm {P:Program} (hT:Jm P tt) (hf:∀ f r,LZ f=some r→Ar P [0] f r) (hm:P.follows .mixedOrders=true) {args:List Value} {H H':Aa} {v:Value} (h:Sk 1 8 args H=some (v,H')) :
 (∀ (as:Array Value) (w:World),(callFunc 63 as).run P w = .ok (.enter 63 as) w) ∧
 ∀ R w args',Ck H R w→JH [0] R→Cf R args args'→Calls P 63 ⟨args'⟩ w fun e w'=>∃ u R',e = .returned u∧VR R' v u∧Ba H R w H' R' w':=by
 refine⟨((Rx hT hf hm 2) 63 _ _ _ _ (Wo 0 .nil)).1,fun R w args' hs hgl ha=>?_⟩
 obtain⟨x,r,rfl,h⟩:=Ad h
 obtain⟨rfl,h⟩:=AC h
 obtain⟨s,hsl,h⟩:=Ab h
 obtain rfl:=Qh hsl
 obtain⟨k,T,z⟩:=H
 obtain⟨hz,h⟩:=Ae (show bb z _ none=some _ from h)
 subst hz
 obtain⟨hr,h⟩:=Ae h
 injection h with h;injection h with e1 e2;subst e1;subst e2
 obtain⟨u,us,rfl,hu,hnil⟩:=ha.uncons
 obtain rfl:=hnil.unnil
 obtain⟨n,fl,cs⟩:=s
 have run:∀ (a v1:Value) (H2:Aa),Cr tt LZ 2 63 [a] ⟨k,T,true⟩=some (v1,H2)→VR R a u→Calls P 63 ⟨[u]⟩ w fun e w'=>∃ u' R',e = .returned u'∧VR R' v1 u'∧Ba ⟨k,T,true⟩ R w H2 R' w':=fun a v1 H2 he hau=>
  ((Rx hT hf hm 2) 63 _ _ _ _ he).2 R w [u] hs hgl (.one hau)
 have empty : ∀ (a : Value), VR R a u → (a = FP 1 0 2 [] ∨ a = FP 1 0 3 []) → ∀ o, o = AJ.cells (Aq (0 * 1) cs) false false [] → Calls P 63 ⟨[u]⟩ w fun e w' => ∃ u' R', e = .returned u' ∧ VR R' (.slice (some ⟨Nat.succ k, 0, some 1⟩) 0 (2 * 0 + bb false 1 0)) u' ∧
  Ba ⟨k,T,true⟩ R w ((H1 k T).push o) R' w':=fun a hau hcase o ho=>by
  rcases hcase with rfl | rfl
  ·refine(run _ _ _ (Wo k T) hau).mono fun e w' ⟨u',R',h1,h2,h3⟩=>⟨u',R',h1,?_,(h3.absPush (obj:=.cells [] false false []) rfl).absPush (by rw[ho];rfl)⟩
   rw[h2.slNil_l];exact .slN rfl
  ·refine(run _ _ _ (gT k T) hau).mono fun e w' ⟨u',R',h1,h2,h3⟩=>⟨u',R',h1,?_,h3.absPush (by rw[ho];rfl)⟩
   cases h2 with
   | sl _ _ _ h3 _=>have:=h3 rfl;subst this;exact .slE rfl
   | slE=>exact .slE rfl
   | slN=>exact .slN rfl
 rcases hu.fs_l (f:=⟨1,n,fl,cs⟩) rfl with⟨h1,h2,rfl⟩ | ⟨_,h1,h2,c,o,sp,rfl⟩ | ⟨c,o,cap,C,hro,rfl,hn,k1,k2,k3,hfit,hcr,hcl⟩
 ·have h1:n=0:=h1
  subst h1
  exact empty _ (.fsN 1 2 (by decide)) (.inl rfl) _ rfl
 ·have h1:n=0:=h1
  subst h1
  exact empty _ (.fsE (by decide)) (.inr rfl) _ rfl
 ·cases n with
  | zero =>
   have hc0:cs=[]:=by simpa using hn
   subst hc0
   exact empty (FP 1 0 3 []) (.mkFs hro rfl (Nat.zero_le _) (fun h=>by cases h) (by decide) hfit hcr hcl) (.inr rfl) _ rfl
  | succ n =>
   refine(run _ _ _ (gU k T n cs hr) (.mkFs hro hn k1 (fun h=>by cases h) (by decide) hfit hcr hcl)).mono fun e w' ⟨u',R',g1,g2,g3⟩=>⟨u',R',g1,?_,g3⟩
   rwa [Nat.zero_add] at g2
end
end Go.MnWM
