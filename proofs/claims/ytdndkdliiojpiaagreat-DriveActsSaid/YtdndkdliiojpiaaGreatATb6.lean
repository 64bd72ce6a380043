/- This text lists functions of this seat's program, compiled for the evaluator; no condition. -/
import Derived.Test.YtdndkdliiojpiaaGreatATb1
set_option linter.unusedVariables false
namespace Go.TrRun
open Go Go.Eng Go.Eng.Ins Go.Proofs
set_option maxRecDepth 100000
set_option maxHeartbeats 0
noncomputable section
abbrev z8c:Nat:=186
def z8d:CFn:=by apply (fun F(_:H1 186 F)=>F .skip);intro _;conv=>rhs;reduce;simp
abbrev z3f:Nat:=187
def z2O:CFn:=by apply (fun F(_:H1 187 F)=>F .skip);intro _;conv=>rhs;reduce;simp
abbrev zgW:Nat:=188
def zeZ:CFn:=by apply (fun F(_:H1 188 F)=>F .skip);intro _;conv=>rhs;reduce;simp
def zb7:CC:=by apply (fun F(_:K1 189 0 F)=>F .skip);intro _;conv=>rhs;reduce;simp
abbrev zgV:Nat:=189
def za9:CFn:=by apply (fun F(_:H1 189 F)=>F zb7);intro _;conv=>rhs;reduce;simp
abbrev znw:Nat:=190
def zeH:CFn:=by apply (fun F(_:H1 190 F)=>F .skip);intro _;conv=>rhs;reduce;simp
abbrev zbb:Nat:=191
abbrev zar:Nat:=192
def zjq:CFn:=by apply (fun F(_:H1 192 F)=>F .skip);intro _;conv=>rhs;reduce;simp
def zfv:CC:=by apply (fun F(_:K1 193 0 F)=>F .skip);intro _;conv=>rhs;reduce;simp
abbrev zsj:Nat:=193
def zeQ:CFn:=by apply (fun F(_:H1 193 F)=>F zfv);intro _;conv=>rhs;reduce;simp
def zbU:CC:=(sQ (sQ (rH 0 29 [bn .lss 5 4] [32,3,5,0,4])
 (cD 32 .skip
 (.exit 2)))
 (sQ (.block 3 (sQ (rH 0 35 [aa 4 4 5,j 4 39,m 4,ii .sub 5 1,a 4 39 41,j 3 38,t 4 37,j 8 43,t 4 42,o (.eqa true [false,false,false,true] (.s 38) (.s 43))] [44,3,5,0,4])
 (cD 44 (sQ (rH 0 45 [m 0,m 3,aa 4 4 5,t 4 49,a 4 45 46,w 4 51 50] [3,5,0,4])
 (rH 0 52 [inc 3] [5,3,0,4]))
 .skip)))
 (rH 0 33 [inc 5] [3,5,0,4])))
def zaF:CC:=(sQ (sQ (rH 0 10 [bn .lss 3 0] [13,3,0])
 (cD 13 .skip
 (.exit 0)))
 (sQ (.block 1 (sQ (rH 0 16 [aa 4 0 3,j 4 20,m 0,ii .sub 3 1,a 4 20 22,j 3 19,t 4 18,j 8 24,t 4 23,o (.eqa false [false,false,false,true] (.s 19) (.s 24))] [25,3,0])
 (cD 25 (sQ (rH 0 26 [m 0,m 3,o (.slice 4 (.s 26) (some (.s 27)) none none),q 4 28] [3,0,4])
 (sQ (sQ (rH 0 5 [v 1] [3,5,0,4])
 (.block 2 (.loop (some [3,5,0,4]) zbU)))
 (sQ (rH 0 54 [m 0,m 3,o (.slice 4 (.s 54) (some (.s 55)) none none),z (.clear [(I 0),(I 0),(I 0),(.bool false)] (.s 56))] [0,3])
 (sQ (rH 0 57 [m 0,m 3,o (.slice 4 (.s 57) none (some (.s 58)) none),q 2 59] [2])
 .ret))))
 .skip)))
 (rH 0 14 [inc 3] [3,0])))
abbrev zeD:Nat:=194
def zbk:CFn:=fF false none 1 61 [(.slot 2)]
 (sQ (rH 1 2 [o (.kx 0 4)] [0])
  (sQ (sQ (rH 0 6 [k .lss 0 2] [8,0])
  (cD 8 (sQ (rH 0 9 [p 2 0] [2])
  .ret)
  .skip))
  (sQ (sQ (rH 0 3 [v 1] [3,0])
  (.block 0 (.loop (some [3,0]) zaF)))
  (sQ (rH 0 60 [p 2 0] [2])
  .ret))))
def zcm:CC:=by apply (fun F(_:K1 196 0 F)=>F .skip);intro _;conv=>rhs;reduce;simp
abbrev zhm:Nat:=196
def z2r:CFn:=by apply (fun F(_:H1 196 F)=>F zcm);intro _;conv=>rhs;reduce;simp
abbrev zpS:Nat:=197
def zpW:CFn:=by apply (fun F(_:H1 197 F)=>F .skip);intro _;conv=>rhs;reduce;simp
def zIx:CC:=by apply (fun F(_:K1 198 0 F)=>F .skip);intro _;conv=>rhs;reduce;simp
abbrev zMZ:Nat:=198
def zIS:CFn:=by apply (fun F(_:H1 198 F)=>F zIx);intro _;conv=>rhs;reduce;simp
abbrev Zjj:Nat:=199
def Zhe:CFn:=by apply (fun F(_:H1 199 F)=>F .skip);intro _;conv=>rhs;reduce;simp
abbrev zUW:Nat:=200
def zUk:CFn:=by apply (fun F(_:H1 200 F)=>F .skip);intro _;conv=>rhs;reduce;simp
def zbI:CC:=by apply (fun F(_:K1 201 0 F)=>F .skip);intro _;conv=>rhs;reduce;simp
abbrev zjP:Nat:=201
def zeo:CFn:=by apply (fun F(_:H1 201 F)=>F zbI);intro _;conv=>rhs;reduce;simp
abbrev zrd:Nat:=202
def zgJ:CFn:=by apply (fun F(_:H1 202 F)=>F .skip);intro _;conv=>rhs;reduce;simp
def zFZ:CC:=by apply (fun F(_:K1 203 0 F)=>F .skip);intro _;conv=>rhs;reduce;simp
abbrev zK9:Nat:=203
def zF2:CFn:=by apply (fun F(_:H1 203 F)=>F zFZ);intro _;conv=>rhs;reduce;simp
abbrev zKZ:Nat:=204
def zIc:CFn:=by apply (fun F(_:H1 204 F)=>F .skip);intro _;conv=>rhs;reduce;simp
abbrev zJ6:Nat:=205
def zHV:CFn:=by apply (fun F(_:H1 205 F)=>F .skip);intro _;conv=>rhs;reduce;simp
abbrev zKc:Nat:=206
def zIk:CFn:=by apply (fun F(_:H1 206 F)=>F .skip);intro _;conv=>rhs;reduce;simp
def zHR:CC:=by apply (fun F(_:K1 207 0 F)=>F .skip);intro _;conv=>rhs;reduce;simp
abbrev zJ9:Nat:=207
def zIa:CFn:=by apply (fun F(_:H1 207 F)=>F zHR);intro _;conv=>rhs;reduce;simp
def zHS:CC:=by apply (fun F(_:K1 208 0 F)=>F .skip);intro _;conv=>rhs;reduce;simp
abbrev zKa:Nat:=208
def zIb:CFn:=by apply (fun F(_:H1 208 F)=>F zHS);intro _;conv=>rhs;reduce;simp
def zHL:CC:=by apply (fun F(_:K1 209 0 F)=>F .skip);intro _;conv=>rhs;reduce;simp
abbrev zJ7:Nat:=209
def zHY:CFn:=by apply (fun F(_:H1 209 F)=>F zHL);intro _;conv=>rhs;reduce;simp
abbrev zLC:Nat:=210
def zH3:CFn:=by apply (fun F(_:H1 210 F)=>F .skip);intro _;conv=>rhs;reduce;simp
def ziN:CC:=by apply (fun F(_:K1 211 0 F)=>F .skip);intro _;conv=>rhs;reduce;simp
def ziM:CC:=by apply (fun F(_:K1 211 1 F)=>F ziN);intro _;conv=>rhs;reduce;simp
abbrev zkH:Nat:=211
def zkU:CFn:=by apply (fun F(_:H2 211 F)=>F ziN ziM);intro _ _;conv=>rhs;reduce;simp
abbrev zc1:Nat:=212
def zjY:CFn:=by apply (fun F(_:H1 212 F)=>F .skip);intro _;conv=>rhs;reduce;simp
def zh6:CC:=by apply (fun F(_:K1 213 0 F)=>F .skip);intro _;conv=>rhs;reduce;simp
def zjr:CFn:=by apply (fun F(_:H1 213 F)=>F zh6);intro _;conv=>rhs;reduce;simp
def zkT:CFn:=by apply (fun F(_:H1 214 F)=>F .skip);intro _;conv=>rhs;reduce;simp
def zjs:CC:=by apply (fun F(_:K1 215 0 F)=>F .skip);intro _;conv=>rhs;reduce;simp
abbrev zlq:Nat:=215
def zlt:CFn:=by apply (fun F(_:H1 215 F)=>F zjs);intro _;conv=>rhs;reduce;simp
def zmg:CFn:=by apply (fun F(_:H1 216 F)=>F .skip);intro _;conv=>rhs;reduce;simp
def zpY:CC:=by apply (fun F(_:K1 217 0 F)=>F .skip);intro _;conv=>rhs;reduce;simp
abbrev zZr:Nat:=217
def zuo:CFn:=by apply (fun F(_:H1 217 F)=>F zpY);intro _;conv=>rhs;reduce;simp
abbrev zXu:Nat:=218
def zun:CFn:=by apply (fun F(_:H1 218 F)=>F .skip);intro _;conv=>rhs;reduce;simp
def zpX:CC:=by apply (fun F(_:K1 219 0 F)=>F .skip);intro _;conv=>rhs;reduce;simp
abbrev zud:Nat:=219
def zum:CFn:=by apply (fun F(_:H1 219 F)=>F zpX);intro _;conv=>rhs;reduce;simp
abbrev zWU:Nat:=220
def ZfZ:CFn:=by apply (fun F(_:H1 220 F)=>F .skip);intro _;conv=>rhs;reduce;simp
def zh3:CC:=by apply (fun F(_:K1 221 0 F)=>F .skip);intro _;conv=>rhs;reduce;simp
def zjo:CFn:=by apply (fun F(_:H1 221 F)=>F zh3);intro _;conv=>rhs;reduce;simp
def zHv:CC:=by apply (fun F(_:K1 222 0 F)=>F .skip);intro _;conv=>rhs;reduce;simp
def zHH:CFn:=by apply (fun F(_:H1 222 F)=>F zHv);intro _;conv=>rhs;reduce;simp
def zHC:CC:=by apply (fun F(_:K1 223 0 F)=>F .skip);intro _;conv=>rhs;reduce;simp
def zHN:CFn:=by apply (fun F(_:H1 223 F)=>F zHC);intro _;conv=>rhs;reduce;simp
def zIo:CC:=by apply (fun F(_:K1 224 0 F)=>F .skip);intro _;conv=>rhs;reduce;simp
def zIn:CC:=by apply (fun F(_:K1 224 1 F)=>F zIo);intro _;conv=>rhs;reduce;simp
def zIM:CFn:=by apply (fun F(_:H2 224 F)=>F zIo zIn);intro _ _;conv=>rhs;reduce;simp
def zHA:CFn:=by apply (fun F(_:H1 225 F)=>F .skip);intro _;conv=>rhs;reduce;simp
def zIA:CFn:=by apply (fun F(_:H1 226 F)=>F .skip);intro _;conv=>rhs;reduce;simp
def zIy:CFn:=by apply (fun F(_:H1 227 F)=>F .skip);intro _;conv=>rhs;reduce;simp
def zH6:CC:=by apply (fun F(_:K1 228 0 F)=>F .skip);intro _;conv=>rhs;reduce;simp
def zIB:CFn:=by apply (fun F(_:H1 228 F)=>F zH6);intro _;conv=>rhs;reduce;simp
end
end Go.TrRun
