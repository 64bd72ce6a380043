/- This text lists functions of this seat's program, compiled for the evaluator; no condition. -/
import Derived.Test.YtdndkdliiojpiaaGreatOTb1
set_option linter.defProp false
set_option linter.unusedVariables false
namespace Go.TrRun
open Go Go.Eng Go.Eng.Ins Go.Proofs
set_option maxRecDepth 100000
set_option maxHeartbeats 0
noncomputable section
abbrev zLJ:Nat:=140
def zGq:CFn:=(H1 140) .skip
abbrev zjO:Nat:=141
def zc9:CFn:=(H1 141) .skip
abbrev zav:Nat:=142
def ziy:CFn:=(H1 142) .skip
def zhu:CC:=(sQ (sQ (rH 0 19 [m 5,fl 4 4,n 21,b .lss 19 22] [23,5,3,1,4])
 (cD 23 .skip
 (.exit 2)))
 (sQ (.block 3 (sQ (rP 1 26 [f 1 1,j 2 28,f 4 4,j 4 30,m 5,j 1 27,l 26,j 3 29,l 28,j 5 31,a 1 29 30,l 31,a 5 27 32,t 5 33,od 6 (.box 0 5 kZ4),w 5 6 34] [(3,9),(4,9),(6,9),(8,9)] [5,3,1,4,6])
 (sQ (sQ (rH 0 35 [fl 0 6,fl 0 4,b .neq 36 38] [39,5,3,1,4,6])
 (cD 39 (sQ (rH 0 2 [v 4] [2])
 .ret)
 .skip))
 (sQ (rH 0 40 [f 1 6,f 0 40,j 5 45,f 1 4,f 0 45,j 8 48,f 1 4,f 0 48,j 2 42,l 41,ai 2 42 0,t 2 43,j 7 47,l 46,j 10 50,l 49,n 50,i .sub 51 1,a 2 47 52,t 2 53,o (.eqa true [false,false] (.s 44) (.s 54))] [55,4,1,3,5])
 (cD 55 (sQ (rH 0 2 [v 3] [2])
 .ret)
 .skip)))))
 (rH 0 24 [inc 5] [5,3,1,4])))
def zht:CC:=(sQ (sQ (rH 0 7 [m 3,fl 1 1,n 9,b .lss 7 10] [11,3,1])
 (cD 11 .skip
 (.exit 0)))
 (sQ (.block 1 (sQ (rH 1 14 [fl 1 1,m 3,a 5 15 16,t 5 17,od 4 (.box 0 5 kZ4),w 5 4 18] [3,1,4])
 (sQ (rH 0 5 [v 0] [5,3,1,4])
 (.block 2 (.loop (some [5,3,1,4]) zhu)))))
 (rH 0 12 [inc 3] [3,1])))
abbrev zau:Nat:=143
def zix:CFn:=fN 1 56 [(.slot 2)]
 (sQ (rH 1 2 [x 1 0 5 0,v 0] [1])
  (sQ (sQ (rH 0 3 [v 0] [3,1])
  (.block 0 (.loop (some [3,1]) zht)))
  (sQ (rH 0 2 [v 0] [2])
  .ret)))
def zgT:CC:=(K1 144 0) .skip
def zgS:CC:=(K1 144 1) zgT
abbrev zV:Nat:=144
def zhI:CFn:=(H2 144) zgT zgS
def zhs:CC:=(K1 145 0) .skip
def zhr:CC:=(K1 145 1) zhs
abbrev zJ:Nat:=145
def ziw:CFn:=(H2 145) zhs zhr
abbrev zfh:Nat:=146
def zdF:CFn:=(H1 146) .skip
def ziz:CC:=(K1 147 0) .skip
def zjZ:CFn:=(H1 147) ziz
abbrev zre:Nat:=148
def zgL:CFn:=(H1 148) .skip
def zo3:CC:=(K1 149 0) .skip
abbrev zsk:Nat:=149
def zsm:CFn:=(H1 149) zo3
def zoe:CC:=(K1 150 0) .skip
def zrC:CFn:=(H1 150) zoe
abbrev zap:Nat:=151
def zh4:CFn:=(H1 151) .skip
abbrev zc0:Nat:=152
def zjV:CFn:=(H1 152) .skip
abbrev zcZ:Nat:=153
def zjU:CFn:=(H1 153) .skip
def zHy:CFn:=(H1 154) .skip
def zIs:CFn:=(H1 155) .skip
def zIe:CC:=(K1 156 0) .skip
def zIJ:CFn:=(H1 156) zIe
def zHD:CFn:=(H1 157) .skip
def zH4:CFn:=(H1 158) .skip
def zIP:CFn:=(H1 159) .skip
def zIr:CC:=(K1 160 0) .skip
def zIq:CC:=(K1 160 1) zIr
def zIp:CC:=(K2 160 2) zIr zIq
def zIO:CFn:=(H3 160) zIr zIq zIp
def zIz:CFn:=(H1 161) .skip
def zIT:CFn:=(H1 162) .skip
def zIt:CFn:=(H1 163) .skip
def zH5:CFn:=(H1 164) .skip
def za7:CC:=(K1 165 0) .skip
abbrev zf1:Nat:=165
def zcI:CFn:=(H1 165) za7
abbrev zKK:Nat:=166
def zHn:CFn:=(H1 166) .skip
abbrev zLe:Nat:=167
def zIu:CFn:=(H1 167) .skip
def zab:CC:=(K1 168 0) .skip
abbrev zob:Nat:=168
def zfw:CFn:=(H1 168) zab
abbrev zhQ:Nat:=169
def zbq:CFn:=(H1 169) .skip
abbrev zi6:Nat:=170
def zb3:CFn:=(H1 170) .skip
abbrev ZmS:Nat:=171
def ZjU:CFn:=(H1 171) .skip
abbrev Zl4:Nat:=172
abbrev ZlY:Nat:=173
def zoi:CC:=(K1 174 0) .skip
abbrev zaw:Nat:=174
def zrG:CFn:=(H1 174) zoi
abbrev znx:Nat:=175
def zf9:CFn:=(H1 175) .skip
def zW6:CC:=(K1 176 0) .skip
def zWH:CC:=(K1 176 1) zW6
def zWT:CC:=(K2 176 2) zW6 zWH
abbrev zY5:Nat:=176
def zXH:CFn:=(H3 176) zW6 zWH zWT
def zWS:CC:=(K1 177 0) .skip
def zW4:CC:=(K1 177 1) zWS
abbrev zY4:Nat:=177
def zXG:CFn:=(H2 177) zWS zW4
def zW9:CC:=(K1 178 0) .skip
abbrev zZp:Nat:=178
def zXY:CFn:=(H1 178) zW9
abbrev zXA:Nat:=179
def zWP:CFn:=(H1 179) .skip
abbrev zWL:Nat:=180
def zW5:CFn:=(H1 180) .skip
def zWQ:CC:=(K1 181 0) .skip
abbrev zYV:Nat:=181
def zXf:CFn:=(H1 181) zWQ
end
end Go.TrRun
