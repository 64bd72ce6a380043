/- This text lists functions of this seat's program, compiled for the evaluator; no condition. -/
import Derived.Test.YtdndkdliiojpiaaGreatOTb1
set_option linter.defProp false
set_option linter.unusedVariables false
namespace Go.TrRun
open Go Go.Eng Go.Eng.Ins Go.Proofs
set_option maxRecDepth 100000
set_option maxHeartbeats 0
noncomputable section
abbrev zNA:Nat:=59
def zIV:CFn:=(H1 59) .skip
def za8:CC:=(K1 60 0) .skip
abbrev znv:Nat:=60
def zbl:CFn:=(H1 60) za8
def Zja:CC:=(K1 61 0) .skip
def Zi9:CC:=(K1 61 1) Zja
abbrev ZmL:Nat:=61
def ZjK:CFn:=(H2 61) Zja Zi9
abbrev ZmR:Nat:=62
def ZjT:CFn:=(H1 62) .skip
abbrev Zmb:Nat:=63
abbrev zrh:Nat:=64
def zit:CFn:=(H1 64) .skip
abbrev zmQ:Nat:=65
def zfF:CFn:=(H1 65) .skip
abbrev zri:Nat:=66
def ziu:CFn:=(H1 66) .skip
def zdE:CC:=(K1 67 0) .skip
abbrev zpR:Nat:=67
def zhE:CFn:=(H1 67) zdE
def zdn:CC:=(K1 68 0) .skip
abbrev zmR:Nat:=68
def zed:CFn:=(H1 68) zdn
abbrev zmP:Nat:=69
abbrev zgz:Nat:=70
def zrD:CFn:=(H1 70) .skip
def Zhh:CC:=(K1 71 0) .skip
def Zhg:CC:=(K1 71 1) Zhh
def Zhf:CC:=(K2 71 2) Zhh Zhg
abbrev Zi4:Nat:=71
def Zhx:CFn:=(H3 71) Zhh Zhg Zhf
abbrev Zi3:Nat:=72
def ZhD:CFn:=(H1 72) .skip
abbrev Zi2:Nat:=73
def Zhi:CFn:=(H1 73) .skip
abbrev Zit:Nat:=74
abbrev Zi1:Nat:=75
def ZhC:CFn:=(H1 75) .skip
abbrev ZiJ:Nat:=76
def Zhm:CFn:=(H1 76) .skip
abbrev ZhV:Nat:=77
abbrev ZhT:Nat:=78
abbrev ZhQ:Nat:=79
abbrev ZhU:Nat:=80
def Zio:CC:=(K1 81 0) .skip
abbrev ZiI:Nat:=81
def ZiL:CFn:=(H1 81) Zio
abbrev ZhK:Nat:=82
def Zhk:CFn:=(H1 82) .skip
def zco:CC:=(K1 83 0) .skip
abbrev zmT:Nat:=83
def zee:CFn:=(H1 83) zco
abbrev zlr:Nat:=84
def ze2:CFn:=(H1 84) .skip
def zDH:CC:=(K1 85 0) .skip
abbrev zEb:Nat:=85
def zDO:CFn:=(H1 85) zDH
abbrev zNB:Nat:=86
def zIW:CFn:=(H1 86) .skip
def zGw:CC:=(K1 87 0) .skip
abbrev zLZ:Nat:=87
def zGK:CFn:=(H1 87) zGw
def zH8:CC:=(K1 88 0) .skip
def zH7:CC:=(K1 88 1) zH8
abbrev zMn:Nat:=88
def zID:CFn:=(H2 88) zH8 zH7
def zHK:CC:=(K1 89 0) .skip
abbrev zKv:Nat:=89
def zHW:CFn:=(H1 89) zHK
abbrev zGF:Nat:=90
def zF3:CFn:=(H1 90) .skip
abbrev zK1:Nat:=91
def zGp:CFn:=(H1 91) .skip
def zbZ:CC:=(K1 92 0) .skip
def zbY:CC:=(K1 92 1) zbZ
def zbX:CC:=(K2 92 2) zbZ zbY
def zbW:CC:=(K3 92 3) zbZ zbY zbX
abbrev zeE:Nat:=92
def zeJ:CFn:=(H4 92) zbZ zbY zbX zbW
def ziA:CC:=(K1 93 0) .skip
abbrev zN:Nat:=93
def zj0:CFn:=(H1 93) ziA
abbrev zdG:Nat:=95
def zeY:CFn:=(H1 95) .skip
def zkR:CC:=(K1 96 0) .skip
abbrev zaU:Nat:=96
def zmV:CFn:=(H1 96) zkR
def zjX:CC:=(sQ (rH 0 30 [b .lss 29 28] [30,29,28,10,11,12,27,4,5,1])
 (sQ (cD 30 .skip
 (.exit 2))
 (sQ (.block 3 (sQ (rH 0 31 [a 1 27 29,l 31,q 7 32] [29,28,10,11,12,27,4,5,1,7])
 (sQ (sQ (rH 0 33 [f 0 1,f 1 33,j 3 36,m 7,j 7 40,f 0 4,j 2 35,l 34,j 4 37,a 5 35 36,fl 0 37,j 8 41,l 40,b .neq 39 41] [42,29,28,10,11,12,27,4,5,1,7])
 (cD 42 (sQ (rH 0 2 [v 4] [2])
 .ret)
 .skip))
 (sQ (rH 0 43 [f 0 1,f 1 43,j 3 46,m 7,j 2 45,l 44,j 4 47,a 5 45 46,f 1 47,fl 0 48,ai 2 50 0,t 2 51,t 2 5,o (.eqa true [false,false] (.s 52) (.s 53))] [54,1,5,4,27,12,11,10,28,29])
 (cD 54 (sQ (rH 0 2 [v 3] [2])
 .ret)
 .skip)))))
 (rH 0 55 [i .add 29 1,q 29 55] [29,28,10,11,12,27,4,5,1]))))
def zjW:CC:=(sQ (rH 0 13 [b .lss 12 11] [13,10,11,12,1])
 (sQ (cD 13 .skip
 (.exit 0))
 (sQ (.block 1 (sQ (rH 1 14 [a 5 10 12,t 5 14,od 4 (.box 0 5 kZ4),w 5 4 15] [10,11,12,4,1])
 (sQ (rH 1 16 [f 1 4,fl 0 16,f 1 4,fl 0 19,n 21,i .sub 22 1,a 2 18 23,t 2 24,od 5 (.box 0 2 kZ5),w 2 5 25] [10,11,12,4,5,1])
 (sQ (rH 0 26 [fl 4 4,n 27,v 0] [29,28,10,11,12,27,4,5,1])
 (.block 2 (.loop (some [29,28,10,11,12,27,4,5,1]) zjX))))))
 (rH 0 56 [i .add 12 1,q 12 56] [11,10,12,1]))))
abbrev zaM:Nat:=97
def zmf:CFn:=fN 1 57 [(.slot 2)]
 (sQ (rH 1 2 [x 1 0 5 0,v 0] [1])
  (sQ (sQ (rH 0 8 [f 0 1,fl 1 8,n 10,v 0] [11,10,12,1])
  (.block 0 (.loop (some [11,10,12,1]) zjW)))
  (sQ (rH 0 2 [v 0] [2])
  .ret)))
def zcM:CC:=(K1 98 0) .skip
abbrev zao:Nat:=98
def zeX:CFn:=(H1 98) zcM
def zkQ:CC:=(K1 99 0) .skip
def zkP:CC:=(K1 99 1) zkQ
def zkO:CC:=(K2 99 2) zkQ zkP
abbrev zR:Nat:=99
def zmU:CFn:=(H3 99) zkQ zkP zkO
def zdm:CC:=(K1 100 0) .skip
abbrev zec:Nat:=100
def zfE:CFn:=(H1 100) zdm
def zId:CC:=(K1 101 0) .skip
abbrev zMz:Nat:=101
def zIH:CFn:=(H1 101) zId
end
end Go.TrRun
