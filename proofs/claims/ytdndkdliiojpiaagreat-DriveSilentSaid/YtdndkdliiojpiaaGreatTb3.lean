/- This text lists functions of this seat's program, compiled for the evaluator; no condition. -/
import Derived.Test.YtdndkdliiojpiaaGreatTb1
set_option linter.unusedVariables false
namespace Go.TrRun
open Go Go.Eng Go.Eng.Ins Go.Proofs
set_option maxRecDepth 100000
set_option maxHeartbeats 0
noncomputable section
abbrev zmP:Nat:=69
abbrev zgz:Nat:=70
def zrD:CFn:=by apply (fun F(_:H1 70 F)=>F .skip);intro _;conv=>rhs;reduce;simp
def Zhh:CC:=by apply (fun F(_:K1 71 0 F)=>F .skip);intro _;conv=>rhs;reduce;simp
def Zhg:CC:=by apply (fun F(_:K1 71 1 F)=>F Zhh);intro _;conv=>rhs;reduce;simp
def Zhf:CC:=by apply (fun F(_:K2 71 2 F)=>F Zhh Zhg);intro _ _;conv=>rhs;reduce;simp
abbrev Zi4:Nat:=71
def Zhx:CFn:=by apply (fun F(_:H3 71 F)=>F Zhh Zhg Zhf);intro _ _ _;conv=>rhs;reduce;simp
abbrev Zi3:Nat:=72
def ZhD:CFn:=by apply (fun F(_:H1 72 F)=>F .skip);intro _;conv=>rhs;reduce;simp
abbrev Zi2:Nat:=73
def Zhi:CFn:=by apply (fun F(_:H1 73 F)=>F .skip);intro _;conv=>rhs;reduce;simp
abbrev Zit:Nat:=74
def Zhw:CFn:=by apply (fun F(_:H1 74 F)=>F .skip);intro _;conv=>rhs;reduce;simp
abbrev Zi1:Nat:=75
def ZhC:CFn:=by apply (fun F(_:H1 75 F)=>F .skip);intro _;conv=>rhs;reduce;simp
abbrev ZiJ:Nat:=76
def Zhm:CFn:=by apply (fun F(_:H1 76 F)=>F .skip);intro _;conv=>rhs;reduce;simp
abbrev ZhV:Nat:=77
abbrev ZhT:Nat:=78
abbrev ZhQ:Nat:=79
abbrev ZhU:Nat:=80
def Zio:CC:=by apply (fun F(_:K1 81 0 F)=>F .skip);intro _;conv=>rhs;reduce;simp
abbrev ZiI:Nat:=81
def ZiL:CFn:=by apply (fun F(_:H1 81 F)=>F Zio);intro _;conv=>rhs;reduce;simp
abbrev ZhK:Nat:=82
def Zhk:CFn:=by apply (fun F(_:H1 82 F)=>F .skip);intro _;conv=>rhs;reduce;simp
def zco:CC:=by apply (fun F(_:K1 83 0 F)=>F .skip);intro _;conv=>rhs;reduce;simp
abbrev zmT:Nat:=83
def zee:CFn:=by apply (fun F(_:H1 83 F)=>F zco);intro _;conv=>rhs;reduce;simp
abbrev zlr:Nat:=84
def ze2:CFn:=by apply (fun F(_:H1 84 F)=>F .skip);intro _;conv=>rhs;reduce;simp
def zDH:CC:=by apply (fun F(_:K1 85 0 F)=>F .skip);intro _;conv=>rhs;reduce;simp
abbrev zEb:Nat:=85
def zDO:CFn:=by apply (fun F(_:H1 85 F)=>F zDH);intro _;conv=>rhs;reduce;simp
abbrev zNB:Nat:=86
def zIW:CFn:=by apply (fun F(_:H1 86 F)=>F .skip);intro _;conv=>rhs;reduce;simp
def zGw:CC:=by apply (fun F(_:K1 87 0 F)=>F .skip);intro _;conv=>rhs;reduce;simp
abbrev zLZ:Nat:=87
def zGK:CFn:=by apply (fun F(_:H1 87 F)=>F zGw);intro _;conv=>rhs;reduce;simp
def zH8:CC:=by apply (fun F(_:K1 88 0 F)=>F .skip);intro _;conv=>rhs;reduce;simp
def zH7:CC:=by apply (fun F(_:K1 88 1 F)=>F zH8);intro _;conv=>rhs;reduce;simp
abbrev zMn:Nat:=88
def zID:CFn:=by apply (fun F(_:H2 88 F)=>F zH8 zH7);intro _ _;conv=>rhs;reduce;simp
def zHK:CC:=by apply (fun F(_:K1 89 0 F)=>F .skip);intro _;conv=>rhs;reduce;simp
abbrev zKv:Nat:=89
def zHW:CFn:=by apply (fun F(_:H1 89 F)=>F zHK);intro _;conv=>rhs;reduce;simp
abbrev zGF:Nat:=90
def zF3:CFn:=by apply (fun F(_:H1 90 F)=>F .skip);intro _;conv=>rhs;reduce;simp
abbrev zK1:Nat:=91
def zGp:CFn:=by apply (fun F(_:H1 91 F)=>F .skip);intro _;conv=>rhs;reduce;simp
def zbZ:CC:=by apply (fun F(_:K1 92 0 F)=>F .skip);intro _;conv=>rhs;reduce;simp
def zbY:CC:=by apply (fun F(_:K1 92 1 F)=>F zbZ);intro _;conv=>rhs;reduce;simp
def zbX:CC:=by apply (fun F(_:K2 92 2 F)=>F zbZ zbY);intro _ _;conv=>rhs;reduce;simp
def zbW:CC:=by apply (fun F(_:K3 92 3 F)=>F zbZ zbY zbX);intro _ _ _;conv=>rhs;reduce;simp
abbrev zeE:Nat:=92
def zeJ:CFn:=by apply (fun F(_:H4 92 F)=>F zbZ zbY zbX zbW);intro _ _ _ _;conv=>rhs;reduce;simp
def ziA:CC:=by apply (fun F(_:K1 93 0 F)=>F .skip);intro _;conv=>rhs;reduce;simp
abbrev zN:Nat:=93
def zj0:CFn:=by apply (fun F(_:H1 93 F)=>F ziA);intro _;conv=>rhs;reduce;simp
abbrev zdG:Nat:=95
def zeY:CFn:=by apply (fun F(_:H1 95 F)=>F .skip);intro _;conv=>rhs;reduce;simp
def zkR:CC:=by apply (fun F(_:K1 96 0 F)=>F .skip);intro _;conv=>rhs;reduce;simp
abbrev zaU:Nat:=96
def zmV:CFn:=by apply (fun F(_:H1 96 F)=>F zkR);intro _;conv=>rhs;reduce;simp
def zjX:CC:=(sQ (rH 0 30 [b .lss 29 28] [30,29,28,10,11,12,27,4,5,1])
 (sQ (cD 30 .skip
 (.exit 2))
 (sQ (.block 3 (sQ (rH 0 31 [a 1 27 29,l 31,q 7 32] [29,28,10,11,12,27,4,5,1,7])
 (sQ (sQ (rH 0 33 [f 0 1,f 1 33,j 3 36,m 7,j 7 40,f 0 4,j 2 35,l 34,j 4 37,a 5 35 36,fl 0 37,j 8 41,l 40,b .neq 39 41] [42,29,28,10,11,12,27,4,5,1,7])
 (cD 42 (sQ (rH 0 2 [v 4] [2])
 .ret)
 .skip))
 (sQ (rH 0 43 [f 0 1,f 1 43,j 3 46,m 7,j 2 45,l 44,j 4 47,a 5 45 46,f 1 47,fl 0 48,ai 2 50 0,t 2 51,t 2 5,o (.eqa true [false,false] (.s 52) (.s 53))] [54,1,5,4,27,12,11,10,28,29])
 (cD 54 (sQ (rH 0 2 [v 3] [2])
 .ret)
 .skip)))))
 (rH 0 55 [i .add 29 1,q 29 55] [29,28,10,11,12,27,4,5,1]))))
def zjW:CC:=(sQ (rH 0 13 [b .lss 12 11] [13,10,11,12,1])
 (sQ (cD 13 .skip
 (.exit 0))
 (sQ (.block 1 (sQ (rH 1 14 [a 5 10 12,t 5 14,od 4 (.box 0 5 kZ4),w 5 4 15] [10,11,12,4,1])
 (sQ (rH 1 16 [f 1 4,fl 0 16,f 1 4,fl 0 19,n 21,i .sub 22 1,a 2 18 23,t 2 24,od 5 (.box 0 2 kZ5),w 2 5 25] [10,11,12,4,5,1])
 (sQ (rH 0 26 [fl 4 4,n 27,v 0] [29,28,10,11,12,27,4,5,1])
 (.block 2 (.loop (some [29,28,10,11,12,27,4,5,1]) zjX))))))
 (rH 0 56 [i .add 12 1,q 12 56] [11,10,12,1]))))
abbrev zaM:Nat:=97
def zmf:CFn:=fN 1 57 [(.slot 2)]
 (sQ (rH 1 2 [x 1 0 5 0,v 0] [1])
  (sQ (sQ (rH 0 8 [f 0 1,fl 1 8,n 10,v 0] [11,10,12,1])
  (.block 0 (.loop (some [11,10,12,1]) zjW)))
  (sQ (rH 0 2 [v 0] [2])
  .ret)))
def zcM:CC:=by apply (fun F(_:K1 98 0 F)=>F .skip);intro _;conv=>rhs;reduce;simp
abbrev zao:Nat:=98
def zeX:CFn:=by apply (fun F(_:H1 98 F)=>F zcM);intro _;conv=>rhs;reduce;simp
def zkQ:CC:=by apply (fun F(_:K1 99 0 F)=>F .skip);intro _;conv=>rhs;reduce;simp
def zkP:CC:=by apply (fun F(_:K1 99 1 F)=>F zkQ);intro _;conv=>rhs;reduce;simp
def zkO:CC:=by apply (fun F(_:K2 99 2 F)=>F zkQ zkP);intro _ _;conv=>rhs;reduce;simp
abbrev zR:Nat:=99
def zmU:CFn:=by apply (fun F(_:H3 99 F)=>F zkQ zkP zkO);intro _ _ _;conv=>rhs;reduce;simp
def zdm:CC:=by apply (fun F(_:K1 100 0 F)=>F .skip);intro _;conv=>rhs;reduce;simp
abbrev zec:Nat:=100
def zfE:CFn:=by apply (fun F(_:H1 100 F)=>F zdm);intro _;conv=>rhs;reduce;simp
def zId:CC:=by apply (fun F(_:K1 101 0 F)=>F .skip);intro _;conv=>rhs;reduce;simp
abbrev zMz:Nat:=101
def zIH:CFn:=by apply (fun F(_:H1 101 F)=>F zId);intro _;conv=>rhs;reduce;simp
def zIg:CC:=by apply (fun F(_:K1 102 0 F)=>F .skip);intro _;conv=>rhs;reduce;simp
def zIf:CC:=by apply (fun F(_:K1 102 1 F)=>F zIg);intro _;conv=>rhs;reduce;simp
abbrev zMB:Nat:=102
def zIK:CFn:=by apply (fun F(_:H2 102 F)=>F zIg zIf);intro _ _;conv=>rhs;reduce;simp
abbrev zMW:Nat:=103
def zIN:CFn:=by apply (fun F(_:H1 103 F)=>F .skip);intro _;conv=>rhs;reduce;simp
abbrev zMA:Nat:=104
def zII:CFn:=by apply (fun F(_:H1 104 F)=>F .skip);intro _;conv=>rhs;reduce;simp
def zdU:CC:=by apply (fun F(_:K1 105 0 F)=>F .skip);intro _;conv=>rhs;reduce;simp
abbrev zrg:Nat:=105
def zis:CFn:=by apply (fun F(_:H1 105 F)=>F zdU);intro _;conv=>rhs;reduce;simp
abbrev zli:Nat:=106
def zeW:CFn:=by apply (fun F(_:H1 106 F)=>F .skip);intro _;conv=>rhs;reduce;simp
def zIj:CC:=(sQ (rH 0 36 [b .lss 35 34] [36,6,35,34,25,19,18,17,2,26,27,33,8,9,5,7])
 (sQ (cD 36 .skip
 (.exit 4))
 (sQ (.block 5 (sQ (rH 1 37 [m 35,a 4 33 35,t 4 38,od 12 (.box 0 4 kZ0),q 11 37,w 4 12 39] [6,11,12,35,34,25,19,18,17,2,26,27,33,8,9,5,7])
 (sQ (rH 0 40 [fl 0 12,m 8,b .eql 41 42] [43,6,11,12,35,34,25,19,18,17,2,26,27,33,8,9,5,7])
 (cD 43 (rH 1 44 [m 6,m 9,m 11,f 6 5,j 5 49,m 7,j 8 52,f 1 12,j 11 55,f 6 5,j 13 57,m 7,j 16 60,f 2 12,j 4 48,l 47,j 6 50,a 1 48 49,l 50,j 9 53,l 52,b .add 51 53,j 12 56,l 55,j 14 58,a 1 56 57,l 58,j 17 61,l 60,b .add 59 61,o (.build [(I 0),(I 0),(I 0),(I 0)] [(0,1,(.s 45)),(1,1,(.s 46)),(2,1,(.s 54)),(3,1,(.s 62))]),o (.lit 0 4 [[(I 0),(I 0),(I 0),(I 0)]] [(0,(.s 63))]),o (.append 4 32 (.s 44) (.s 64)),q 6 65] [35,6,34,25,19,18,17,2,26,27,33,8,9,5,7])
 .skip))))
 (rH 0 66 [i .add 35 1,q 35 66] [6,35,34,25,19,18,17,2,26,27,33,8,9,5,7]))))
def zIi:CC:=(sQ (rH 0 28 [b .lss 27 26] [28,6,25,19,18,17,2,26,27,8,5,7])
 (sQ (cD 28 .skip
 (.exit 2))
 (sQ (.block 3 (sQ (rH 1 29 [m 27,a 2 25 27,t 2 30,od 10 (.box 0 2 kZ8),q 9 29,w 2 10 31] [10,6,25,19,18,17,2,26,27,8,9,5,7])
 (sQ (rH 0 32 [fl 0 10,n 33,v 0] [6,35,34,25,19,18,17,2,26,27,33,8,9,5,7])
 (.block 4 (.loop (some [6,35,34,25,19,18,17,2,26,27,33,8,9,5,7]) zIj)))))
 (rH 0 67 [i .add 27 1,q 27 67] [6,26,2,17,18,19,25,27,8,5,7]))))
def zIh:CC:=(sQ (rH 0 20 [b .lss 19 18] [20,6,2,17,18,19,5])
 (sQ (cD 20 .skip
 (.exit 0))
 (sQ (.block 1 (sQ (rH 0 21 [m 19,a 1 17 19,l 22,q 7 21,q 8 23] [6,2,17,18,19,8,5,7])
 (sQ (rH 0 24 [fl 2 2,n 25,v 0] [6,26,2,17,18,19,25,27,8,5,7])
 (.block 2 (.loop (some [6,26,2,17,18,19,25,27,8,5,7]) zIi)))))
 (rH 0 68 [i .add 19 1,q 19 68] [6,18,17,2,19,5]))))
abbrev zMC:Nat:=107
def zIL:CFn:=fN 2 72 [(.slot 4)]
 (sQ (rH 2 4 [x 2 0 5 0,o (.kq 1 4)] [1,2])
  (sQ (rH 1 13 [t 5 2,m 1,c 119 [13,14],od 5 (.box 0 8 Zfb),w 8 5 15] [2,5])
  (sQ (rH 1 6 [o (.kq 0 4)] [6,2,5])
  (sQ (sQ (rH 0 16 [fl 5 5,n 17,v 0] [6,18,17,2,19,5])
  (.block 0 (.loop (some [6,18,17,2,19,5]) zIh)))
  (sQ (rH 0 69 [m 6,o (.call ⟨false⟩ (.k (.c (.fn 166 [] []))) [(.s 69),(.k (.c (.fn 167 [] [])))])] [6])
  (sQ (rH 0 71 [p 4 6] [4])
  .ret))))))
abbrev ZlT:Nat:=108
def Zjl:CFn:=by apply (fun F(_:H1 108 F)=>F .skip);intro _;conv=>rhs;reduce;simp
abbrev zKY:Nat:=109
def zHz:CFn:=by apply (fun F(_:H1 109 F)=>F .skip);intro _;conv=>rhs;reduce;simp
def zHw:CC:=by apply (fun F(_:K1 110 0 F)=>F .skip);intro _;conv=>rhs;reduce;simp
abbrev zLd:Nat:=110
def zHI:CFn:=by apply (fun F(_:H1 110 F)=>F zHw);intro _;conv=>rhs;reduce;simp
end
end Go.TrRun
