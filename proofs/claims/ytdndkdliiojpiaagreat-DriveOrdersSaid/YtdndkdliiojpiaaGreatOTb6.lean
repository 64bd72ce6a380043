/- This text lists functions of this seat's program, compiled for the evaluator; no condition. -/
import Derived.Test.YtdndkdliiojpiaaGreatOTb1
set_option linter.defProp false
set_option linter.unusedVariables false
namespace Go.TrRun
open Go Go.Eng Go.Eng.Ins Go.Proofs
set_option maxRecDepth 100000
set_option maxHeartbeats 0
noncomputable section
def zWO:CC:=(K1 182 0) .skip
abbrev zYK:Nat:=182
def zXr:CFn:=(H1 182) zWO
abbrev z8j:Nat:=183
def z70:CFn:=(H1 183) .skip
abbrev z8t:Nat:=184
def z71:CFn:=(H1 184) .skip
def zW8:CC:=(K1 185 0) .skip
abbrev zZo:Nat:=185
def zXX:CFn:=(H1 185) zW8
abbrev z8c:Nat:=186
def z8d:CFn:=(H1 186) .skip
abbrev z3f:Nat:=187
def z2O:CFn:=(H1 187) .skip
abbrev zgW:Nat:=188
def zeZ:CFn:=(H1 188) .skip
def zb7:CC:=(K1 189 0) .skip
abbrev zgV:Nat:=189
def za9:CFn:=(H1 189) zb7
abbrev znw:Nat:=190
def zeH:CFn:=(H1 190) .skip
abbrev zbb:Nat:=191
abbrev zar:Nat:=192
def zjq:CFn:=(H1 192) .skip
def zfv:CC:=(K1 193 0) .skip
abbrev zsj:Nat:=193
def zeQ:CFn:=(H1 193) zfv
def zbU:CC:=(sQ (sQ (rH 0 29 [bn .lss 5 4] [32,3,5,0,4])
 (cD 32 .skip
 (.exit 2)))
 (sQ (.block 3 (sQ (rH 0 35 [aa 4 4 5,j 4 39,m 4,ii .sub 5 1,a 4 39 41,j 3 38,t 4 37,j 8 43,t 4 42,o (.eqa true [false,false,false,true] (.s 38) (.s 43))] [44,3,5,0,4])
 (cD 44 (sQ (rH 0 45 [m 0,m 3,aa 4 4 5,t 4 49,a 4 45 46,w 4 51 50] [3,5,0,4])
 (rH 0 52 [inc 3] [5,3,0,4]))
 .skip)))
 (rH 0 33 [inc 5] [3,5,0,4])))
def zaF:CC:=(sQ (sQ (rH 0 10 [bn .lss 3 0] [13,3,0])
 (cD 13 .skip
 (.exit 0)))
 (sQ (.block 1 (sQ (rH 0 16 [aa 4 0 3,j 4 20,m 0,ii .sub 3 1,a 4 20 22,j 3 19,t 4 18,j 8 24,t 4 23,o (.eqa false [false,false,false,true] (.s 19) (.s 24))] [25,3,0])
 (cD 25 (sQ (rH 0 26 [m 0,m 3,o (.slice 4 (.s 26) (some (.s 27)) none none),q 4 28] [3,0,4])
 (sQ (sQ (rH 0 5 [v 1] [3,5,0,4])
 (.block 2 (.loop (some [3,5,0,4]) zbU)))
 (sQ (rH 0 54 [m 0,m 3,o (.slice 4 (.s 54) (some (.s 55)) none none),z (.clear [(I 0),(I 0),(I 0),(.bool false)] (.s 56))] [0,3])
 (sQ (rH 0 57 [m 0,m 3,o (.slice 4 (.s 57) none (some (.s 58)) none),q 2 59] [2])
 .ret))))
 .skip)))
 (rH 0 14 [inc 3] [3,0])))
abbrev zeD:Nat:=194
def zbk:CFn:=fF false none 1 61 [(.slot 2)]
 (sQ (rH 1 2 [o (.kx 0 4)] [0])
  (sQ (sQ (rH 0 6 [k .lss 0 2] [8,0])
  (cD 8 (sQ (rH 0 9 [p 2 0] [2])
  .ret)
  .skip))
  (sQ (sQ (rH 0 3 [v 1] [3,0])
  (.block 0 (.loop (some [3,0]) zaF)))
  (sQ (rH 0 60 [p 2 0] [2])
  .ret))))
def zcm:CC:=(K1 196 0) .skip
abbrev zhm:Nat:=196
def z2r:CFn:=(H1 196) zcm
abbrev zpS:Nat:=197
def zpW:CFn:=(H1 197) .skip
def zIx:CC:=(K1 198 0) .skip
abbrev zMZ:Nat:=198
def zIS:CFn:=(H1 198) zIx
abbrev Zjj:Nat:=199
def Zhe:CFn:=(H1 199) .skip
abbrev zUW:Nat:=200
def zUk:CFn:=(H1 200) .skip
def zbI:CC:=(K1 201 0) .skip
abbrev zjP:Nat:=201
def zeo:CFn:=(H1 201) zbI
abbrev zrd:Nat:=202
def zgJ:CFn:=(H1 202) .skip
def zFZ:CC:=(K1 203 0) .skip
abbrev zK9:Nat:=203
def zF2:CFn:=(H1 203) zFZ
abbrev zKZ:Nat:=204
def zIc:CFn:=(H1 204) .skip
abbrev zJ6:Nat:=205
def zHV:CFn:=(H1 205) .skip
abbrev zKc:Nat:=206
def zIk:CFn:=(H1 206) .skip
def zHR:CC:=(K1 207 0) .skip
abbrev zJ9:Nat:=207
def zIa:CFn:=(H1 207) zHR
def zHS:CC:=(K1 208 0) .skip
abbrev zKa:Nat:=208
def zIb:CFn:=(H1 208) zHS
def zHL:CC:=(K1 209 0) .skip
abbrev zJ7:Nat:=209
def zHY:CFn:=(H1 209) zHL
abbrev zLC:Nat:=210
def zH3:CFn:=(H1 210) .skip
def ziN:CC:=(K1 211 0) .skip
def ziM:CC:=(K1 211 1) ziN
abbrev zkH:Nat:=211
def zkU:CFn:=(H2 211) ziN ziM
abbrev zc1:Nat:=212
def zjY:CFn:=(H1 212) .skip
def zh6:CC:=(K1 213 0) .skip
def zjr:CFn:=(H1 213) zh6
def zkT:CFn:=(H1 214) .skip
def zjs:CC:=(K1 215 0) .skip
abbrev zlq:Nat:=215
def zlt:CFn:=(H1 215) zjs
def zmg:CFn:=(H1 216) .skip
def zpY:CC:=(K1 217 0) .skip
abbrev zZr:Nat:=217
def zuo:CFn:=(H1 217) zpY
abbrev zXu:Nat:=218
def zun:CFn:=(H1 218) .skip
def zpX:CC:=(K1 219 0) .skip
abbrev zud:Nat:=219
def zum:CFn:=(H1 219) zpX
abbrev zWU:Nat:=220
def ZfZ:CFn:=(H1 220) .skip
def zh3:CC:=(K1 221 0) .skip
def zjo:CFn:=(H1 221) zh3
def zHv:CC:=(K1 222 0) .skip
def zHH:CFn:=(H1 222) zHv
def zHC:CC:=(K1 223 0) .skip
def zHN:CFn:=(H1 223) zHC
def zIo:CC:=(K1 224 0) .skip
def zIn:CC:=(K1 224 1) zIo
def zIM:CFn:=(H2 224) zIo zIn
end
end Go.TrRun
