/- This text lists functions of this seat's program, compiled for the evaluator; no condition. -/
import Derived.Test.YtdndkdliiojpiaaGreatATb1
set_option linter.unusedVariables false
namespace Go.TrRun
open Go Go.Eng Go.Eng.Ins Go.Proofs
set_option maxRecDepth 100000
set_option maxHeartbeats 0
noncomputable section
abbrev ZmR:Nat:=62
def ZjT:CFn:=by apply (fun F(_:H1 62 F)=>F .skip);intro _;conv=>rhs;reduce;simp
abbrev Zmb:Nat:=63
abbrev zrh:Nat:=64
def zit:CFn:=by apply (fun F(_:H1 64 F)=>F .skip);intro _;conv=>rhs;reduce;simp
abbrev zmQ:Nat:=65
def zfF:CFn:=by apply (fun F(_:H1 65 F)=>F .skip);intro _;conv=>rhs;reduce;simp
abbrev zri:Nat:=66
def ziu:CFn:=by apply (fun F(_:H1 66 F)=>F .skip);intro _;conv=>rhs;reduce;simp
def zdE:CC:=by apply (fun F(_:K1 67 0 F)=>F .skip);intro _;conv=>rhs;reduce;simp
abbrev zpR:Nat:=67
def zhE:CFn:=by apply (fun F(_:H1 67 F)=>F zdE);intro _;conv=>rhs;reduce;simp
def zdn:CC:=by apply (fun F(_:K1 68 0 F)=>F .skip);intro _;conv=>rhs;reduce;simp
abbrev zmR:Nat:=68
def zed:CFn:=by apply (fun F(_:H1 68 F)=>F zdn);intro _;conv=>rhs;reduce;simp
abbrev zmP:Nat:=69
abbrev zgz:Nat:=70
def zrD:CFn:=by apply (fun F(_:H1 70 F)=>F .skip);intro _;conv=>rhs;reduce;simp
def Zhh:CC:=by apply (fun F(_:K1 71 0 F)=>F .skip);intro _;conv=>rhs;reduce;simp
def Zhg:CC:=by apply (fun F(_:K1 71 1 F)=>F Zhh);intro _;conv=>rhs;reduce;simp
def Zhf:CC:=by apply (fun F(_:K2 71 2 F)=>F Zhh Zhg);intro _ _;conv=>rhs;reduce;simp
abbrev Zi4:Nat:=71
def Zhx:CFn:=by apply (fun F(_:H3 71 F)=>F Zhh Zhg Zhf);intro _ _ _;conv=>rhs;reduce;simp
abbrev Zi3:Nat:=72
def ZhD:CFn:=by apply (fun F(_:H1 72 F)=>F .skip);intro _;conv=>rhs;reduce;simp
abbrev Zi2:Nat:=73
def Zhi:CFn:=by apply (fun F(_:H1 73 F)=>F .skip);intro _;conv=>rhs;reduce;simp
abbrev Zit:Nat:=74
abbrev Zi1:Nat:=75
def ZhC:CFn:=by apply (fun F(_:H1 75 F)=>F .skip);intro _;conv=>rhs;reduce;simp
abbrev ZiJ:Nat:=76
def Zhm:CFn:=by apply (fun F(_:H1 76 F)=>F .skip);intro _;conv=>rhs;reduce;simp
abbrev ZhV:Nat:=77
abbrev ZhT:Nat:=78
abbrev ZhQ:Nat:=79
abbrev ZhU:Nat:=80
def Zio:CC:=by apply (fun F(_:K1 81 0 F)=>F .skip);intro _;conv=>rhs;reduce;simp
abbrev ZiI:Nat:=81
def ZiL:CFn:=by apply (fun F(_:H1 81 F)=>F Zio);intro _;conv=>rhs;reduce;simp
abbrev ZhK:Nat:=82
def Zhk:CFn:=by apply (fun F(_:H1 82 F)=>F .skip);intro _;conv=>rhs;reduce;simp
def zco:CC:=by apply (fun F(_:K1 83 0 F)=>F .skip);intro _;conv=>rhs;reduce;simp
abbrev zmT:Nat:=83
def zee:CFn:=by apply (fun F(_:H1 83 F)=>F zco);intro _;conv=>rhs;reduce;simp
abbrev zlr:Nat:=84
def ze2:CFn:=by apply (fun F(_:H1 84 F)=>F .skip);intro _;conv=>rhs;reduce;simp
def zDH:CC:=by apply (fun F(_:K1 85 0 F)=>F .skip);intro _;conv=>rhs;reduce;simp
abbrev zEb:Nat:=85
def zDO:CFn:=by apply (fun F(_:H1 85 F)=>F zDH);intro _;conv=>rhs;reduce;simp
abbrev zNB:Nat:=86
def zIW:CFn:=by apply (fun F(_:H1 86 F)=>F .skip);intro _;conv=>rhs;reduce;simp
def zGw:CC:=by apply (fun F(_:K1 87 0 F)=>F .skip);intro _;conv=>rhs;reduce;simp
abbrev zLZ:Nat:=87
def zGK:CFn:=by apply (fun F(_:H1 87 F)=>F zGw);intro _;conv=>rhs;reduce;simp
def zH8:CC:=by apply (fun F(_:K1 88 0 F)=>F .skip);intro _;conv=>rhs;reduce;simp
def zH7:CC:=by apply (fun F(_:K1 88 1 F)=>F zH8);intro _;conv=>rhs;reduce;simp
abbrev zMn:Nat:=88
def zID:CFn:=by apply (fun F(_:H2 88 F)=>F zH8 zH7);intro _ _;conv=>rhs;reduce;simp
def zHK:CC:=by apply (fun F(_:K1 89 0 F)=>F .skip);intro _;conv=>rhs;reduce;simp
abbrev zKv:Nat:=89
def zHW:CFn:=by apply (fun F(_:H1 89 F)=>F zHK);intro _;conv=>rhs;reduce;simp
abbrev zGF:Nat:=90
def zF3:CFn:=by apply (fun F(_:H1 90 F)=>F .skip);intro _;conv=>rhs;reduce;simp
abbrev zK1:Nat:=91
def zGp:CFn:=by apply (fun F(_:H1 91 F)=>F .skip);intro _;conv=>rhs;reduce;simp
def zbZ:CC:=by apply (fun F(_:K1 92 0 F)=>F .skip);intro _;conv=>rhs;reduce;simp
def zbY:CC:=by apply (fun F(_:K1 92 1 F)=>F zbZ);intro _;conv=>rhs;reduce;simp
def zbX:CC:=by apply (fun F(_:K2 92 2 F)=>F zbZ zbY);intro _ _;conv=>rhs;reduce;simp
def zbW:CC:=by apply (fun F(_:K3 92 3 F)=>F zbZ zbY zbX);intro _ _ _;conv=>rhs;reduce;simp
abbrev zeE:Nat:=92
def zeJ:CFn:=by apply (fun F(_:H4 92 F)=>F zbZ zbY zbX zbW);intro _ _ _ _;conv=>rhs;reduce;simp
def ziA:CC:=by apply (fun F(_:K1 93 0 F)=>F .skip);intro _;conv=>rhs;reduce;simp
abbrev zN:Nat:=93
def zj0:CFn:=by apply (fun F(_:H1 93 F)=>F ziA);intro _;conv=>rhs;reduce;simp
abbrev zdG:Nat:=95
def zeY:CFn:=by apply (fun F(_:H1 95 F)=>F .skip);intro _;conv=>rhs;reduce;simp
def zkR:CC:=by apply (fun F(_:K1 96 0 F)=>F .skip);intro _;conv=>rhs;reduce;simp
abbrev zaU:Nat:=96
def zmV:CFn:=by apply (fun F(_:H1 96 F)=>F zkR);intro _;conv=>rhs;reduce;simp
def zjX:CC:=(sQ (rH 0 30 [b .lss 29 28] [30,29,28,10,11,12,27,4,5,1])
 (sQ (cD 30 .skip
 (.exit 2))
 (sQ (.block 3 (sQ (rH 0 31 [a 1 27 29,l 31,q 7 32] [29,28,10,11,12,27,4,5,1,7])
 (sQ (sQ (rH 0 33 [f 0 1,f 1 33,j 3 36,m 7,j 7 40,f 0 4,j 2 35,l 34,j 4 37,a 5 35 36,fl 0 37,j 8 41,l 40,b .neq 39 41] [42,29,28,10,11,12,27,4,5,1,7])
 (cD 42 (sQ (rH 0 2 [v 4] [2])
 .ret)
 .skip))
 (sQ (rH 0 43 [f 0 1,f 1 43,j 3 46,m 7,j 2 45,l 44,j 4 47,a 5 45 46,f 1 47,fl 0 48,ai 2 50 0,t 2 51,t 2 5,o (.eqa true [false,false] (.s 52) (.s 53))] [54,1,5,4,27,12,11,10,28,29])
 (cD 54 (sQ (rH 0 2 [v 3] [2])
 .ret)
 .skip)))))
 (rH 0 55 [i .add 29 1,q 29 55] [29,28,10,11,12,27,4,5,1]))))
def zjW:CC:=(sQ (rH 0 13 [b .lss 12 11] [13,10,11,12,1])
 (sQ (cD 13 .skip
 (.exit 0))
 (sQ (.block 1 (sQ (rH 1 14 [a 5 10 12,t 5 14,od 4 (.box 0 5 kZ5),w 5 4 15] [10,11,12,4,1])
 (sQ (rH 1 16 [f 1 4,fl 0 16,f 1 4,fl 0 19,n 21,i .sub 22 1,a 2 18 23,t 2 24,od 5 (.box 0 2 kZ6),w 2 5 25] [10,11,12,4,5,1])
 (sQ (rH 0 26 [fl 4 4,n 27,v 0] [29,28,10,11,12,27,4,5,1])
 (.block 2 (.loop (some [29,28,10,11,12,27,4,5,1]) zjX))))))
 (rH 0 56 [i .add 12 1,q 12 56] [11,10,12,1]))))
abbrev zaM:Nat:=97
def zmf:CFn:=fN 1 57 [(.slot 2)]
 (sQ (rH 1 2 [x 1 0 5 0,v 0] [1])
  (sQ (sQ (rH 0 8 [f 0 1,fl 1 8,n 10,v 0] [11,10,12,1])
  (.block 0 (.loop (some [11,10,12,1]) zjW)))
  (sQ (rH 0 2 [v 0] [2])
  .ret)))
def zcM:CC:=by apply (fun F(_:K1 98 0 F)=>F .skip);intro _;conv=>rhs;reduce;simp
abbrev zao:Nat:=98
def zeX:CFn:=by apply (fun F(_:H1 98 F)=>F zcM);intro _;conv=>rhs;reduce;simp
def zkQ:CC:=by apply (fun F(_:K1 99 0 F)=>F .skip);intro _;conv=>rhs;reduce;simp
def zkP:CC:=by apply (fun F(_:K1 99 1 F)=>F zkQ);intro _;conv=>rhs;reduce;simp
def zkO:CC:=by apply (fun F(_:K2 99 2 F)=>F zkQ zkP);intro _ _;conv=>rhs;reduce;simp
abbrev zR:Nat:=99
def zmU:CFn:=by apply (fun F(_:H3 99 F)=>F zkQ zkP zkO);intro _ _ _;conv=>rhs;reduce;simp
def zdm:CC:=by apply (fun F(_:K1 100 0 F)=>F .skip);intro _;conv=>rhs;reduce;simp
abbrev zec:Nat:=100
def zfE:CFn:=by apply (fun F(_:H1 100 F)=>F zdm);intro _;conv=>rhs;reduce;simp
def zId:CC:=by apply (fun F(_:K1 101 0 F)=>F .skip);intro _;conv=>rhs;reduce;simp
abbrev zMz:Nat:=101
def zIH:CFn:=by apply (fun F(_:H1 101 F)=>F zId);intro _;conv=>rhs;reduce;simp
def zIg:CC:=by apply (fun F(_:K1 102 0 F)=>F .skip);intro _;conv=>rhs;reduce;simp
def zIf:CC:=by apply (fun F(_:K1 102 1 F)=>F zIg);intro _;conv=>rhs;reduce;simp
abbrev zMB:Nat:=102
def zIK:CFn:=by apply (fun F(_:H2 102 F)=>F zIg zIf);intro _ _;conv=>rhs;reduce;simp
abbrev zMW:Nat:=103
def zIN:CFn:=by apply (fun F(_:H1 103 F)=>F .skip);intro _;conv=>rhs;reduce;simp
abbrev zMA:Nat:=104
def zII:CFn:=by apply (fun F(_:H1 104 F)=>F .skip);intro _;conv=>rhs;reduce;simp
end
end Go.TrRun
