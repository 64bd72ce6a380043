/- This text lists functions of this seat's program, compiled for the evaluator; no condition. -/
import Derived.Test.YtdndkdliiojpiaaGreatOTb1
set_option linter.defProp false
set_option linter.unusedVariables false
namespace Go.TrRun
open Go Go.Eng Go.Eng.Ins Go.Proofs
set_option maxRecDepth 100000
set_option maxHeartbeats 0
noncomputable section
def zIg:CC:=(K1 102 0) .skip
def zIf:CC:=(K1 102 1) zIg
abbrev zMB:Nat:=102
def zIK:CFn:=(H2 102) zIg zIf
abbrev zMW:Nat:=103
def zIN:CFn:=(H1 103) .skip
abbrev zMA:Nat:=104
def zII:CFn:=(H1 104) .skip
def zdU:CC:=(K1 105 0) .skip
abbrev zrg:Nat:=105
def zis:CFn:=(H1 105) zdU
abbrev zli:Nat:=106
def zeW:CFn:=(H1 106) .skip
def zIj:CC:=(sQ (rH 0 36 [b .lss 35 34] [36,6,35,34,25,19,18,17,2,26,27,33,8,9,5,7])
 (sQ (cD 36 .skip
 (.exit 4))
 (sQ (.block 5 (sQ (rH 1 37 [m 35,a 4 33 35,t 4 38,od 12 (.box 0 4 kZ0),q 11 37,w 4 12 39] [6,11,12,35,34,25,19,18,17,2,26,27,33,8,9,5,7])
 (sQ (rH 0 40 [fl 0 12,m 8,b .eql 41 42] [43,6,11,12,35,34,25,19,18,17,2,26,27,33,8,9,5,7])
 (cD 43 (rH 1 44 [m 6,m 9,m 11,f 6 5,j 5 49,m 7,j 8 52,f 1 12,j 11 55,f 6 5,j 13 57,m 7,j 16 60,f 2 12,j 4 48,l 47,j 6 50,a 1 48 49,l 50,j 9 53,l 52,b .add 51 53,j 12 56,l 55,j 14 58,a 1 56 57,l 58,j 17 61,l 60,b .add 59 61,o (.build [(I 0),(I 0),(I 0),(I 0)] [(0,1,(.s 45)),(1,1,(.s 46)),(2,1,(.s 54)),(3,1,(.s 62))]),o (.lit 0 4 [[(I 0),(I 0),(I 0),(I 0)]] [(0,(.s 63))]),o (.append 4 32 (.s 44) (.s 64)),q 6 65] [35,6,34,25,19,18,17,2,26,27,33,8,9,5,7])
 .skip))))
 (rH 0 66 [i .add 35 1,q 35 66] [6,35,34,25,19,18,17,2,26,27,33,8,9,5,7]))))
def zIi:CC:=(sQ (rH 0 28 [b .lss 27 26] [28,6,25,19,18,17,2,26,27,8,5,7])
 (sQ (cD 28 .skip
 (.exit 2))
 (sQ (.block 3 (sQ (rH 1 29 [m 27,a 2 25 27,t 2 30,od 10 (.box 0 2 kZ8),q 9 29,w 2 10 31] [10,6,25,19,18,17,2,26,27,8,9,5,7])
 (sQ (rH 0 32 [fl 0 10,n 33,v 0] [6,35,34,25,19,18,17,2,26,27,33,8,9,5,7])
 (.block 4 (.loop (some [6,35,34,25,19,18,17,2,26,27,33,8,9,5,7]) zIj)))))
 (rH 0 67 [i .add 27 1,q 27 67] [6,26,2,17,18,19,25,27,8,5,7]))))
def zIh:CC:=(sQ (rH 0 20 [b .lss 19 18] [20,6,2,17,18,19,5])
 (sQ (cD 20 .skip
 (.exit 0))
 (sQ (.block 1 (sQ (rH 0 21 [m 19,a 1 17 19,l 22,q 7 21,q 8 23] [6,2,17,18,19,8,5,7])
 (sQ (rH 0 24 [fl 2 2,n 25,v 0] [6,26,2,17,18,19,25,27,8,5,7])
 (.block 2 (.loop (some [6,26,2,17,18,19,25,27,8,5,7]) zIi)))))
 (rH 0 68 [i .add 19 1,q 19 68] [6,18,17,2,19,5]))))
abbrev zMC:Nat:=107
def zIL:CFn:=fN 2 72 [(.slot 4)]
 (sQ (rH 2 4 [x 2 0 5 0,o (.kx 1 4)] [1,2])
  (sQ (rH 1 13 [t 5 2,m 1,c 119 [13,14],od 5 (.box 0 8 Zfa),w 8 5 15] [2,5])
  (sQ (rH 1 6 [o (.kx 0 4)] [6,2,5])
  (sQ (sQ (rH 0 16 [fl 5 5,n 17,v 0] [6,18,17,2,19,5])
  (.block 0 (.loop (some [6,18,17,2,19,5]) zIh)))
  (sQ (rH 0 69 [m 6,o (.call ⟨false⟩ (.k (.c (.fn 166 [] []))) [(.s 69),(.k (.c (.fn 167 [] [])))])] [6])
  (sQ (rH 0 71 [p 4 6] [4])
  .ret))))))
abbrev ZlT:Nat:=108
def Zjl:CFn:=(H1 108) .skip
abbrev zKY:Nat:=109
def zHz:CFn:=(H1 109) .skip
def zHw:CC:=(K1 110 0) .skip
abbrev zLd:Nat:=110
def zHI:CFn:=(H1 110) zHw
def ZiB:CC:=(K1 111 0) .skip
abbrev Zmk:Nat:=111
def Zi8:CFn:=(H1 111) ZiB
abbrev ZlO:Nat:=112
def Zjy:CFn:=(H1 112) .skip
def Ziz:CC:=(K1 113 0) .skip
abbrev Zmi:Nat:=113
def Zi6:CFn:=(H1 113) Ziz
abbrev ZlM:Nat:=114
def Zjw:CFn:=(H1 114) .skip
def Zik:CC:=(K1 115 0) .skip
abbrev Zl5:Nat:=115
def ZiK:CFn:=(H1 115) Zik
def Ziy:CC:=(K1 116 0) .skip
abbrev ZlK:Nat:=116
def Zi5:CFn:=(H1 116) Ziy
def ZiA:CC:=(K1 117 0) .skip
abbrev Zmj:Nat:=117
def Zi7:CFn:=(H1 117) ZiA
abbrev ZlN:Nat:=118
def Zjx:CFn:=(H1 118) .skip
def zc3:CC:=(K1 119 0) .skip
abbrev zrf:Nat:=119
def zir:CFn:=(H1 119) zc3
abbrev zwZ:Nat:=120
def znA:CFn:=(H1 120) .skip
abbrev zkE:Nat:=121
def zh5:CFn:=(H1 121) .skip
abbrev zhP:Nat:=122
def zfG:CFn:=(H1 122) .skip
def zdV:CC:=(K1 123 0) .skip
abbrev zoa:Nat:=123
def zgM:CFn:=(H1 123) zdV
abbrev z9X:Nat:=124
def z8l:CFn:=(H1 124) .skip
abbrev Zz:Nat:=125
def z8p:CFn:=(H1 125) .skip
def zWY:CC:=(K1 126 0) .skip
def zWI:CC:=(K1 126 1) zWY
abbrev zYW:Nat:=126
def zXB:CFn:=(H2 126) zWY zWI
def z76:CC:=(K1 127 0) .skip
abbrev z9x:Nat:=127
def z8o:CFn:=(H1 127) z76
def zc5:CC:=(K1 128 0) .skip
def zc4:CC:=(K1 128 1) zc5
def zan:CC:=(K2 128 2) zc5 zc4
def zbd:CC:=(K3 128 3) zc5 zc4 zan
abbrev zl7:Nat:=128
def zcT:CFn:=(H4 128) zc5 zc4 zan zbd
abbrev zmO:Nat:=130
def zfD:CFn:=(H1 130) .skip
def Zht:CC:=(K1 131 0) .skip
abbrev Zhd:Nat:=131
def Zhy:CFn:=(H1 131) Zht
def Zhj:CC:=(K1 132 0) .skip
abbrev ZhB:Nat:=132
def Zho:CFn:=(H1 132) Zhj
abbrev Zhq:Nat:=133
def ZhA:CFn:=(H1 133) .skip
def zbx:CC:=(K1 134 0) .skip
abbrev zjm:Nat:=134
def zd0:CFn:=(H1 134) zbx
def zTe:CC:=(K1 135 0) .skip
abbrev zsg:Nat:=135
def zbJ:CFn:=(H1 135) zTe
abbrev zKQ:Nat:=136
def zF0:CFn:=(H1 136) .skip
abbrev zLp:Nat:=137
def zGB:CFn:=(H1 137) .skip
abbrev zKM:Nat:=138
def zH2:CFn:=fN 4 70 [(.cell 8 true 3)]
 (sQ (rH 4 8 [x 4 0 1 0,x 5 1 6 1,x 6 2 1 2,o (.box 3 3 Zfb)] [5,6,3,4,8])
  (sQ (rH 1 9 [o (.box 0 1 kZ9),z (.store 1 (.s 9) (kI 0))] [5,6,3,4,9,8])
  (sQ (rH 0 15 [l 4,t 6 5,o (.jH (.s 15)),f 13 17,w 6 18 16] [5,6,3,4,9,8])
  (sQ (sQ (rH 0 19 [l 4,t 6 5,t 1 6,m 3,c 204 [19,20,21,22]] [23,4,9,8])
  (.block 0 (.rng (.s 23) 2562 [4,9,8])))
  (sQ (sQ (rH 0 64 [l 4,c 210 [64],u 65] [66,9,8])
  (cD 66 (sQ (rH 0 67 [l 9,o (.build [(.bool false),(I 0),(I 0)] [(1,1,(.s 67)),(2,1,(kI 7))]),w 3 8 68] [8])
  .ret)
  .skip))
  (sQ (rH 0 69 [o (.build [(.bool false),(I 0),(I 0)] [(0,1,(kB true))]),w 3 8 69] [8])
  .ret))))))
def zHE:CC:=(K1 2562 0) .skip
abbrev zJ0:Nat:=2562
def zHO:CFn:=(H1 2562) zHE
def zIC:CC:=(K1 139 0) .skip
abbrev zLY:Nat:=139
def zIU:CFn:=(H1 139) zIC
end
end Go.TrRun
