/- This text lists functions of this seat's program, compiled for the evaluator; no condition. -/
import Derived.Test.YtiakbjhnpchbhaaGreatTb1
set_option linter.unusedVariables false
namespace Go.TrRun
open Go Go.Eng Go.Eng.Ins Go.Proofs
set_option maxRecDepth 100000
set_option maxHeartbeats 0
noncomputable section
def zFZ:CC:=by apply (fun F(_:K1 84 0 F)=>F .skip);intro _;conv=>rhs;reduce;simp
abbrev zK9:Nat:=84
def zF2:CFn:=by apply (fun F(_:H1 84 F)=>F zFZ);intro _;conv=>rhs;reduce;simp
def zGq:CFn:=by apply (fun F(_:H1 85 F)=>F .skip);intro _;conv=>rhs;reduce;simp
def zGu:CFn:=by apply (fun F(_:H1 86 F)=>F .skip);intro _;conv=>rhs;reduce;simp
def zGg:CC:=by apply (fun F(_:K1 87 0 F)=>F .skip);intro _;conv=>rhs;reduce;simp
def zGo:CFn:=by apply (fun F(_:H1 87 F)=>F zGg);intro _;conv=>rhs;reduce;simp
def zbx:CC:=by apply (fun F(_:K1 88 0 F)=>F .skip);intro _;conv=>rhs;reduce;simp
abbrev zjm:Nat:=88
def zd0:CFn:=by apply (fun F(_:H1 88 F)=>F zbx);intro _;conv=>rhs;reduce;simp
def zcn:CC:=by apply (fun F(_:K1 89 0 F)=>F .skip);intro _;conv=>rhs;reduce;simp
abbrev zjQ:Nat:=89
def zep:CFn:=by apply (fun F(_:H1 89 F)=>F zcn);intro _;conv=>rhs;reduce;simp
def ziA:CC:=by apply (fun F(_:K1 90 0 F)=>F .skip);intro _;conv=>rhs;reduce;simp
abbrev zN:Nat:=90
def zj0:CFn:=by apply (fun F(_:H1 90 F)=>F ziA);intro _;conv=>rhs;reduce;simp
def zbI:CC:=by apply (fun F(_:K1 91 0 F)=>F .skip);intro _;conv=>rhs;reduce;simp
abbrev zjP:Nat:=91
def zeo:CFn:=by apply (fun F(_:H1 91 F)=>F zbI);intro _;conv=>rhs;reduce;simp
def zaT:CC:=by apply (fun F(_:K1 92 0 F)=>F .skip);intro _;conv=>rhs;reduce;simp
abbrev zmb:Nat:=92
def zdY:CFn:=by apply (fun F(_:H1 92 F)=>F zaT);intro _;conv=>rhs;reduce;simp
def zc8:CC:=by apply (fun F(_:K1 93 0 F)=>F .skip);intro _;conv=>rhs;reduce;simp
abbrev zma:Nat:=93
def zfm:CFn:=by apply (fun F(_:H1 93 F)=>F zc8);intro _;conv=>rhs;reduce;simp
abbrev zjO:Nat:=94
def zc9:CFn:=by apply (fun F(_:H1 94 F)=>F .skip);intro _;conv=>rhs;reduce;simp
abbrev zav:Nat:=95
def ziy:CFn:=by apply (fun F(_:H1 95 F)=>F .skip);intro _;conv=>rhs;reduce;simp
def zhu:CC:=(sQ (sQ (rH 0 19 [m 5,fl 4 4,n 21,b .lss 19 22] [23,5,3,1,4])
 (cD 23 .skip
 (.exit 2)))
 (sQ (.block 3 (sQ (rP 1 26 [f 1 1,j 2 28,f 4 4,j 4 30,m 5,j 1 27,l 26,j 3 29,l 28,j 5 31,a 1 29 30,l 31,a 5 27 32,t 5 33,od 6 (.box 0 5 kZ4),w 5 6 34] [(3,9),(4,9),(6,9),(8,9)] [5,3,1,4,6])
 (sQ (sQ (rH 0 35 [fl 0 6,fl 0 4,b .neq 36 38] [39,5,3,1,4,6])
 (cD 39 (sQ (rH 0 2 [v 4] [2])
 .ret)
 .skip))
 (sQ (rH 0 40 [f 1 6,f 0 40,j 5 45,f 1 4,f 0 45,j 8 48,f 1 4,f 0 48,j 2 42,l 41,ai 2 42 0,t 2 43,j 7 47,l 46,j 10 50,l 49,n 50,i .sub 51 1,a 2 47 52,t 2 53,o (.eqa true [false,false] (.s 44) (.s 54))] [55,4,1,3,5])
 (cD 55 (sQ (rH 0 2 [v 3] [2])
 .ret)
 .skip)))))
 (rH 0 24 [inc 5] [5,3,1,4])))
def zht:CC:=(sQ (sQ (rH 0 7 [m 3,fl 1 1,n 9,b .lss 7 10] [11,3,1])
 (cD 11 .skip
 (.exit 0)))
 (sQ (.block 1 (sQ (rH 1 14 [fl 1 1,m 3,a 5 15 16,t 5 17,od 4 (.box 0 5 kZ4),w 5 4 18] [3,1,4])
 (sQ (rH 0 5 [v 0] [5,3,1,4])
 (.block 2 (.loop (some [5,3,1,4]) zhu)))))
 (rH 0 12 [inc 3] [3,1])))
abbrev zau:Nat:=96
def zix:CFn:=fN 1 56 [(.slot 2)]
 (sQ (rH 1 2 [x 1 0 5 0,v 0] [1])
  (sQ (sQ (rH 0 3 [v 0] [3,1])
  (.block 0 (.loop (some [3,1]) zht)))
  (sQ (rH 0 2 [v 0] [2])
  .ret)))
def zgT:CC:=by apply (fun F(_:K1 97 0 F)=>F .skip);intro _;conv=>rhs;reduce;simp
def zgS:CC:=by apply (fun F(_:K1 97 1 F)=>F zgT);intro _;conv=>rhs;reduce;simp
abbrev zV:Nat:=97
def zhI:CFn:=by apply (fun F(_:H2 97 F)=>F zgT zgS);intro _ _;conv=>rhs;reduce;simp
def zhs:CC:=by apply (fun F(_:K1 98 0 F)=>F .skip);intro _;conv=>rhs;reduce;simp
def zhr:CC:=by apply (fun F(_:K1 98 1 F)=>F zhs);intro _;conv=>rhs;reduce;simp
abbrev zJ:Nat:=98
def ziw:CFn:=by apply (fun F(_:H2 98 F)=>F zhs zhr);intro _ _;conv=>rhs;reduce;simp
abbrev zfh:Nat:=99
def zdF:CFn:=by apply (fun F(_:H1 99 F)=>F .skip);intro _;conv=>rhs;reduce;simp
def z23:CC:=by apply (fun F(_:K1 100 0 F)=>F .skip);intro _;conv=>rhs;reduce;simp
abbrev z4n:Nat:=100
def z3r:CFn:=by apply (fun F(_:H1 100 F)=>F z23);intro _;conv=>rhs;reduce;simp
abbrev z4o:Nat:=101
def z3s:CFn:=by apply (fun F(_:H1 101 F)=>F .skip);intro _;conv=>rhs;reduce;simp
abbrev zgX:Nat:=102
def ze1:CFn:=by apply (fun F(_:H1 102 F)=>F .skip);intro _;conv=>rhs;reduce;simp
def zbP:CC:=by apply (fun F(_:K1 103 0 F)=>F .skip);intro _;conv=>rhs;reduce;simp
abbrev zjl:Nat:=103
def zjp:CFn:=by apply (fun F(_:H1 103 F)=>F zbP);intro _;conv=>rhs;reduce;simp
def zId:CC:=by apply (fun F(_:K1 104 0 F)=>F .skip);intro _;conv=>rhs;reduce;simp
abbrev zMz:Nat:=104
def zIH:CFn:=by apply (fun F(_:H1 104 F)=>F zId);intro _;conv=>rhs;reduce;simp
def zIg:CC:=by apply (fun F(_:K1 105 0 F)=>F .skip);intro _;conv=>rhs;reduce;simp
def zIf:CC:=by apply (fun F(_:K1 105 1 F)=>F zIg);intro _;conv=>rhs;reduce;simp
abbrev zMB:Nat:=105
def zIK:CFn:=by apply (fun F(_:H2 105 F)=>F zIg zIf);intro _ _;conv=>rhs;reduce;simp
abbrev zMW:Nat:=106
def zIN:CFn:=by apply (fun F(_:H1 106 F)=>F .skip);intro _;conv=>rhs;reduce;simp
abbrev zMA:Nat:=107
def zII:CFn:=by apply (fun F(_:H1 107 F)=>F .skip);intro _;conv=>rhs;reduce;simp
def zdU:CC:=by apply (fun F(_:K1 108 0 F)=>F .skip);intro _;conv=>rhs;reduce;simp
abbrev zrg:Nat:=108
def zis:CFn:=by apply (fun F(_:H1 108 F)=>F zdU);intro _;conv=>rhs;reduce;simp
abbrev zli:Nat:=109
def zeW:CFn:=by apply (fun F(_:H1 109 F)=>F .skip);intro _;conv=>rhs;reduce;simp
abbrev zrd:Nat:=110
def zgJ:CFn:=by apply (fun F(_:H1 110 F)=>F .skip);intro _;conv=>rhs;reduce;simp
abbrev zri:Nat:=111
def ziu:CFn:=by apply (fun F(_:H1 111 F)=>F .skip);intro _;conv=>rhs;reduce;simp
abbrev zgz:Nat:=112
def zrD:CFn:=by apply (fun F(_:H1 112 F)=>F .skip);intro _;conv=>rhs;reduce;simp
abbrev zrh:Nat:=113
def zit:CFn:=by apply (fun F(_:H1 113 F)=>F .skip);intro _;conv=>rhs;reduce;simp
abbrev zmQ:Nat:=114
def zfF:CFn:=by apply (fun F(_:H1 114 F)=>F .skip);intro _;conv=>rhs;reduce;simp
def zdE:CC:=by apply (fun F(_:K1 115 0 F)=>F .skip);intro _;conv=>rhs;reduce;simp
abbrev zpR:Nat:=115
def zhE:CFn:=by apply (fun F(_:H1 115 F)=>F zdE);intro _;conv=>rhs;reduce;simp
def zc3:CC:=by apply (fun F(_:K1 116 0 F)=>F .skip);intro _;conv=>rhs;reduce;simp
abbrev zrf:Nat:=116
def zir:CFn:=by apply (fun F(_:H1 116 F)=>F zc3);intro _;conv=>rhs;reduce;simp
abbrev zKK:Nat:=117
def zHn:CFn:=by apply (fun F(_:H1 117 F)=>F .skip);intro _;conv=>rhs;reduce;simp
abbrev zLe:Nat:=118
def zIu:CFn:=by apply (fun F(_:H1 118 F)=>F .skip);intro _;conv=>rhs;reduce;simp
def zab:CC:=by apply (fun F(_:K1 119 0 F)=>F .skip);intro _;conv=>rhs;reduce;simp
abbrev zob:Nat:=119
def zfw:CFn:=by apply (fun F(_:H1 119 F)=>F zab);intro _;conv=>rhs;reduce;simp
abbrev zhQ:Nat:=120
def zbq:CFn:=by apply (fun F(_:H1 120 F)=>F .skip);intro _;conv=>rhs;reduce;simp
abbrev zi6:Nat:=121
def zb3:CFn:=by apply (fun F(_:H1 121 F)=>F .skip);intro _;conv=>rhs;reduce;simp
abbrev zKZ:Nat:=122
def zIc:CFn:=by apply (fun F(_:H1 122 F)=>F .skip);intro _;conv=>rhs;reduce;simp
abbrev zJ6:Nat:=123
def zHV:CFn:=by apply (fun F(_:H1 123 F)=>F .skip);intro _;conv=>rhs;reduce;simp
abbrev zKc:Nat:=124
def zIk:CFn:=by apply (fun F(_:H1 124 F)=>F .skip);intro _;conv=>rhs;reduce;simp
def zHR:CC:=by apply (fun F(_:K1 125 0 F)=>F .skip);intro _;conv=>rhs;reduce;simp
abbrev zJ9:Nat:=125
def zIa:CFn:=by apply (fun F(_:H1 125 F)=>F zHR);intro _;conv=>rhs;reduce;simp
def zHS:CC:=by apply (fun F(_:K1 126 0 F)=>F .skip);intro _;conv=>rhs;reduce;simp
abbrev zKa:Nat:=126
def zIb:CFn:=by apply (fun F(_:H1 126 F)=>F zHS);intro _;conv=>rhs;reduce;simp
def zHL:CC:=by apply (fun F(_:K1 127 0 F)=>F .skip);intro _;conv=>rhs;reduce;simp
abbrev zJ7:Nat:=127
def zHY:CFn:=by apply (fun F(_:H1 127 F)=>F zHL);intro _;conv=>rhs;reduce;simp
end
end Go.TrRun
