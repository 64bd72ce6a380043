/- This text lists functions of this seat's program, compiled for the evaluator; no condition. -/
import Derived.Test.YtiakbjhnpchbhaaGreatTb1
set_option linter.unusedVariables false
namespace Go.TrRun
open Go Go.Eng Go.Eng.Ins Go.Proofs
set_option maxRecDepth 100000
set_option maxHeartbeats 0
noncomputable section
abbrev zLC:Nat:=128
def zH3:CFn:=by apply (fun F(_:H1 128 F)=>F .skip);intro _;conv=>rhs;reduce;simp
abbrev zgW:Nat:=129
def zeZ:CFn:=by apply (fun F(_:H1 129 F)=>F .skip);intro _;conv=>rhs;reduce;simp
abbrev Zcu:Nat:=130
def ZbV:CFn:=by apply (fun F(_:H1 130 F)=>F .skip);intro _;conv=>rhs;reduce;simp
def ZbC:CC:=by apply (fun F(_:K1 131 0 F)=>F .skip);intro _;conv=>rhs;reduce;simp
abbrev Zci:Nat:=131
def ZbN:CFn:=by apply (fun F(_:H1 131 F)=>F ZbC);intro _;conv=>rhs;reduce;simp
def zcc:CC:=by apply (fun F(_:K1 132 0 F)=>F .skip);intro _;conv=>rhs;reduce;simp
abbrev zlp:Nat:=132
def zdJ:CFn:=by apply (fun F(_:H1 132 F)=>F zcc);intro _;conv=>rhs;reduce;simp
def zcw:CC:=by apply (fun F(_:K1 133 0 F)=>F .skip);intro _;conv=>rhs;reduce;simp
def zbV:CC:=by apply (fun F(_:K1 133 1 F)=>F zcw);intro _;conv=>rhs;reduce;simp
abbrev zkG:Nat:=133
def zdq:CFn:=by apply (fun F(_:H2 133 F)=>F zcw zbV);intro _ _;conv=>rhs;reduce;simp
def ziz:CC:=by apply (fun F(_:K1 134 0 F)=>F .skip);intro _;conv=>rhs;reduce;simp
def zjZ:CFn:=by apply (fun F(_:H1 134 F)=>F ziz);intro _;conv=>rhs;reduce;simp
def ziN:CC:=by apply (fun F(_:K1 135 0 F)=>F .skip);intro _;conv=>rhs;reduce;simp
def ziM:CC:=by apply (fun F(_:K1 135 1 F)=>F ziN);intro _;conv=>rhs;reduce;simp
abbrev zkH:Nat:=135
def zkU:CFn:=by apply (fun F(_:H2 135 F)=>F ziN ziM);intro _ _;conv=>rhs;reduce;simp
def zh6:CC:=by apply (fun F(_:K1 136 0 F)=>F .skip);intro _;conv=>rhs;reduce;simp
def zjr:CFn:=by apply (fun F(_:H1 136 F)=>F zh6);intro _;conv=>rhs;reduce;simp
abbrev zdG:Nat:=137
def zeY:CFn:=by apply (fun F(_:H1 137 F)=>F .skip);intro _;conv=>rhs;reduce;simp
def zkR:CC:=by apply (fun F(_:K1 138 0 F)=>F .skip);intro _;conv=>rhs;reduce;simp
abbrev zaU:Nat:=138
def zmV:CFn:=by apply (fun F(_:H1 138 F)=>F zkR);intro _;conv=>rhs;reduce;simp
def zjX:CC:=(sQ (rH 0 30 [b .lss 29 28] [30,29,28,10,11,12,27,4,5,1])
 (sQ (cD 30 .skip
 (.exit 2))
 (sQ (.block 3 (sQ (rH 0 31 [a 1 27 29,l 31,q 7 32] [29,28,10,11,12,27,4,5,1,7])
 (sQ (sQ (rH 0 33 [f 0 1,f 1 33,j 3 36,m 7,j 7 40,f 0 4,j 2 35,l 34,j 4 37,a 5 35 36,fl 0 37,j 8 41,l 40,b .neq 39 41] [42,29,28,10,11,12,27,4,5,1,7])
 (cD 42 (sQ (rH 0 2 [v 4] [2])
 .ret)
 .skip))
 (sQ (rH 0 43 [f 0 1,f 1 43,j 3 46,m 7,j 2 45,l 44,j 4 47,a 5 45 46,f 1 47,fl 0 48,ai 2 50 0,t 2 51,t 2 5,o (.eqa true [false,false] (.s 52) (.s 53))] [54,1,5,4,27,12,11,10,28,29])
 (cD 54 (sQ (rH 0 2 [v 3] [2])
 .ret)
 .skip)))))
 (rH 0 55 [i .add 29 1,q 29 55] [29,28,10,11,12,27,4,5,1]))))
def zjW:CC:=(sQ (rH 0 13 [b .lss 12 11] [13,10,11,12,1])
 (sQ (cD 13 .skip
 (.exit 0))
 (sQ (.block 1 (sQ (rH 1 14 [a 5 10 12,t 5 14,od 4 (.box 0 5 kZ4),w 5 4 15] [10,11,12,4,1])
 (sQ (rH 1 16 [f 1 4,fl 0 16,f 1 4,fl 0 19,n 21,i .sub 22 1,a 2 18 23,t 2 24,od 5 (.box 0 2 kZ5),w 2 5 25] [10,11,12,4,5,1])
 (sQ (rH 0 26 [fl 4 4,n 27,v 0] [29,28,10,11,12,27,4,5,1])
 (.block 2 (.loop (some [29,28,10,11,12,27,4,5,1]) zjX))))))
 (rH 0 56 [i .add 12 1,q 12 56] [11,10,12,1]))))
abbrev zaM:Nat:=139
def zmf:CFn:=fN 1 57 [(.slot 2)]
 (sQ (rH 1 2 [x 1 0 5 0,v 0] [1])
  (sQ (sQ (rH 0 8 [f 0 1,fl 1 8,n 10,v 0] [11,10,12,1])
  (.block 0 (.loop (some [11,10,12,1]) zjW)))
  (sQ (rH 0 2 [v 0] [2])
  .ret)))
def zcM:CC:=by apply (fun F(_:K1 140 0 F)=>F .skip);intro _;conv=>rhs;reduce;simp
abbrev zao:Nat:=140
def zeX:CFn:=by apply (fun F(_:H1 140 F)=>F zcM);intro _;conv=>rhs;reduce;simp
def zkQ:CC:=by apply (fun F(_:K1 141 0 F)=>F .skip);intro _;conv=>rhs;reduce;simp
def zkP:CC:=by apply (fun F(_:K1 141 1 F)=>F zkQ);intro _;conv=>rhs;reduce;simp
def zkO:CC:=by apply (fun F(_:K2 141 2 F)=>F zkQ zkP);intro _ _;conv=>rhs;reduce;simp
abbrev zR:Nat:=141
def zmU:CFn:=by apply (fun F(_:H3 141 F)=>F zkQ zkP zkO);intro _ _ _;conv=>rhs;reduce;simp
def zdm:CC:=by apply (fun F(_:K1 142 0 F)=>F .skip);intro _;conv=>rhs;reduce;simp
abbrev zec:Nat:=142
def zfE:CFn:=by apply (fun F(_:H1 142 F)=>F zdm);intro _;conv=>rhs;reduce;simp
def zHy:CFn:=by apply (fun F(_:H1 143 F)=>F .skip);intro _;conv=>rhs;reduce;simp
def zIs:CFn:=by apply (fun F(_:H1 144 F)=>F .skip);intro _;conv=>rhs;reduce;simp
def zIe:CC:=by apply (fun F(_:K1 145 0 F)=>F .skip);intro _;conv=>rhs;reduce;simp
def zIJ:CFn:=by apply (fun F(_:H1 145 F)=>F zIe);intro _;conv=>rhs;reduce;simp
def zHD:CFn:=by apply (fun F(_:H1 146 F)=>F .skip);intro _;conv=>rhs;reduce;simp
def zH4:CFn:=by apply (fun F(_:H1 147 F)=>F .skip);intro _;conv=>rhs;reduce;simp
def zIP:CFn:=by apply (fun F(_:H1 148 F)=>F .skip);intro _;conv=>rhs;reduce;simp
def zIr:CC:=by apply (fun F(_:K1 149 0 F)=>F .skip);intro _;conv=>rhs;reduce;simp
def zIq:CC:=by apply (fun F(_:K1 149 1 F)=>F zIr);intro _;conv=>rhs;reduce;simp
def zIp:CC:=by apply (fun F(_:K2 149 2 F)=>F zIr zIq);intro _ _;conv=>rhs;reduce;simp
def zIO:CFn:=by apply (fun F(_:H3 149 F)=>F zIr zIq zIp);intro _ _ _;conv=>rhs;reduce;simp
def zIz:CFn:=by apply (fun F(_:H1 150 F)=>F .skip);intro _;conv=>rhs;reduce;simp
def zIT:CFn:=by apply (fun F(_:H1 151 F)=>F .skip);intro _;conv=>rhs;reduce;simp
def zIt:CFn:=by apply (fun F(_:H1 152 F)=>F .skip);intro _;conv=>rhs;reduce;simp
abbrev zap:Nat:=153
def zh4:CFn:=by apply (fun F(_:H1 153 F)=>F .skip);intro _;conv=>rhs;reduce;simp
def zH5:CFn:=by apply (fun F(_:H1 154 F)=>F .skip);intro _;conv=>rhs;reduce;simp
def za7:CC:=by apply (fun F(_:K1 155 0 F)=>F .skip);intro _;conv=>rhs;reduce;simp
abbrev zf1:Nat:=155
def zcI:CFn:=by apply (fun F(_:H1 155 F)=>F za7);intro _;conv=>rhs;reduce;simp
abbrev zwZ:Nat:=156
def znA:CFn:=by apply (fun F(_:H1 156 F)=>F .skip);intro _;conv=>rhs;reduce;simp
abbrev zkE:Nat:=157
def zh5:CFn:=by apply (fun F(_:H1 157 F)=>F .skip);intro _;conv=>rhs;reduce;simp
def zHj:CC:=by apply (fun F(_:K1 158 0 F)=>F .skip);intro _;conv=>rhs;reduce;simp
def zHi:CC:=by apply (fun F(_:K1 158 1 F)=>F zHj);intro _;conv=>rhs;reduce;simp
def zHh:CC:=by apply (fun F(_:K2 158 2 F)=>F zHj zHi);intro _ _;conv=>rhs;reduce;simp
abbrev zKP:Nat:=158
def zHo:CFn:=by apply (fun F(_:H3 158 F)=>F zHj zHi zHh);intro _ _ _;conv=>rhs;reduce;simp
abbrev zi5:Nat:=159
def ze6:CFn:=by apply (fun F(_:H1 159 F)=>F .skip);intro _;conv=>rhs;reduce;simp
abbrev zlc:Nat:=160
def zfU:CFn:=by apply (fun F(_:H1 160 F)=>F .skip);intro _;conv=>rhs;reduce;simp
def zHM:CC:=by apply (fun F(_:K1 161 0 F)=>F .skip);intro _;conv=>rhs;reduce;simp
abbrev zJ8:Nat:=161
def zHZ:CFn:=by apply (fun F(_:H1 161 F)=>F zHM);intro _;conv=>rhs;reduce;simp
def zc5:CC:=by apply (fun F(_:K1 162 0 F)=>F .skip);intro _;conv=>rhs;reduce;simp
def zc4:CC:=by apply (fun F(_:K1 162 1 F)=>F zc5);intro _;conv=>rhs;reduce;simp
def zan:CC:=by apply (fun F(_:K2 162 2 F)=>F zc5 zc4);intro _ _;conv=>rhs;reduce;simp
def zbd:CC:=by apply (fun F(_:K3 162 3 F)=>F zc5 zc4 zan);intro _ _ _;conv=>rhs;reduce;simp
abbrev zl7:Nat:=162
def zcT:CFn:=by apply (fun F(_:H4 162 F)=>F zc5 zc4 zan zbd);intro _ _ _ _;conv=>rhs;reduce;simp
def zIw:CC:=by apply (fun F(_:K1 163 0 F)=>F .skip);intro _;conv=>rhs;reduce;simp
def zIv:CC:=by apply (fun F(_:K1 163 1 F)=>F zIw);intro _;conv=>rhs;reduce;simp
abbrev zMX:Nat:=163
def zIQ:CFn:=by apply (fun F(_:H2 163 F)=>F zIw zIv);intro _ _;conv=>rhs;reduce;simp
abbrev zKH:Nat:=164
def zHX:CFn:=by apply (fun F(_:H1 164 F)=>F .skip);intro _;conv=>rhs;reduce;simp
abbrev zKY:Nat:=165
def zHz:CFn:=by apply (fun F(_:H1 165 F)=>F .skip);intro _;conv=>rhs;reduce;simp
end
end Go.TrRun
