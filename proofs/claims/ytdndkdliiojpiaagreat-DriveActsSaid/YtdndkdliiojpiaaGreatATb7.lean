/- This text lists functions of this seat's program, compiled for the evaluator; no condition. -/
import Derived.Test.YtdndkdliiojpiaaGreatATb1
set_option linter.unusedVariables false
namespace Go.TrRun
open Go Go.Eng Go.Eng.Ins Go.Proofs
set_option maxRecDepth 100000
set_option maxHeartbeats 0
noncomputable section
def zHx:CC:=by apply (fun F(_:K1 229 0 F)=>F .skip);intro _;conv=>rhs;reduce;simp
def zHJ:CFn:=by apply (fun F(_:H1 229 F)=>F zHx);intro _;conv=>rhs;reduce;simp
def zIG:CFn:=by apply (fun F(_:H1 230 F)=>F .skip);intro _;conv=>rhs;reduce;simp
def zHj:CC:=by apply (fun F(_:K1 231 0 F)=>F .skip);intro _;conv=>rhs;reduce;simp
def zHi:CC:=by apply (fun F(_:K1 231 1 F)=>F zHj);intro _;conv=>rhs;reduce;simp
def zHh:CC:=by apply (fun F(_:K2 231 2 F)=>F zHj zHi);intro _ _;conv=>rhs;reduce;simp
abbrev zKP:Nat:=231
def zHo:CFn:=by apply (fun F(_:H3 231 F)=>F zHj zHi zHh);intro _ _ _;conv=>rhs;reduce;simp
abbrev zi5:Nat:=232
def ze6:CFn:=by apply (fun F(_:H1 232 F)=>F .skip);intro _;conv=>rhs;reduce;simp
abbrev zlc:Nat:=233
def zfU:CFn:=by apply (fun F(_:H1 233 F)=>F .skip);intro _;conv=>rhs;reduce;simp
abbrev ZmC:Nat:=234
def ZjA:CFn:=by apply (fun F(_:H1 234 F)=>F .skip);intro _;conv=>rhs;reduce;simp
def zrF:CFn:=fN 1 19 [(.slot 2)]
 (sQ (rH 2 2 [x 1 0 1 0,o (.kx 1 1)] [2,1])
  (sQ (sQ (rH 0 6 [t 1 1,c 149 [6],i .neq 7 0] [8,2,1])
  (cD 8 (sQ (rH 1 2 [o (.kx 0 1)] [2])
  .ret)
  .skip))
  (sQ (rH 1 3 [o (.box 0 1 kZ4)] [1,2,3])
  (sQ (sQ (rH 0 9 [t 1 1,c 284 [9]] [2,10,3])
  (.block 0 (.rng (.s 10) 4114 [3])))
  (sQ (rH 0 18 [l 3,q 2 18] [2])
  .ret)))))
def zoh:CFn:=by apply (fun F(_:H1 4114 F)=>F .skip);intro _;conv=>rhs;reduce;simp
abbrev zWy:Nat:=236
abbrev zWr:Nat:=237
def zYL:CFn:=by apply (fun F(_:H1 237 F)=>F .skip);intro _;conv=>rhs;reduce;simp
abbrev zZ6:Nat:=238
def zXb:CFn:=by apply (fun F(_:H1 238 F)=>F .skip);intro _;conv=>rhs;reduce;simp
abbrev zEB:Nat:=239
def zuk:CFn:=by apply (fun F(_:H1 239 F)=>F .skip);intro _;conv=>rhs;reduce;simp
def zWR:CC:=by apply (fun F(_:K1 240 0 F)=>F .skip);intro _;conv=>rhs;reduce;simp
abbrev zYy:Nat:=240
def zXg:CFn:=by apply (fun F(_:H1 240 F)=>F zWR);intro _;conv=>rhs;reduce;simp
def zWz:CC:=by apply (fun F(_:K1 241 0 F)=>F .skip);intro _;conv=>rhs;reduce;simp
abbrev zXK:Nat:=241
def zWJ:CFn:=by apply (fun F(_:H1 241 F)=>F zWz);intro _;conv=>rhs;reduce;simp
def zWC:CC:=by apply (fun F(_:K1 242 0 F)=>F .skip);intro _;conv=>rhs;reduce;simp
abbrev zXS:Nat:=242
def zWV:CFn:=by apply (fun F(_:H1 242 F)=>F zWC);intro _;conv=>rhs;reduce;simp
abbrev zW3:Nat:=243
def zXk:CFn:=by apply (fun F(_:H1 243 F)=>F .skip);intro _;conv=>rhs;reduce;simp
def zWD:CC:=by apply (fun F(_:K1 244 0 F)=>F .skip);intro _;conv=>rhs;reduce;simp
abbrev zXT:Nat:=244
def zWW:CFn:=by apply (fun F(_:H1 244 F)=>F zWD);intro _;conv=>rhs;reduce;simp
abbrev zW2:Nat:=245
def zXj:CFn:=by apply (fun F(_:H1 245 F)=>F .skip);intro _;conv=>rhs;reduce;simp
def z7Q:CC:=by apply (fun F(_:K1 246 0 F)=>F .skip);intro _;conv=>rhs;reduce;simp
abbrev z8y:Nat:=246
def z7X:CFn:=by apply (fun F(_:H1 246 F)=>F z7Q);intro _;conv=>rhs;reduce;simp
abbrev zXv:Nat:=247
def zXh:CFn:=fN 3 86 [(.slot 6)]
 (sQ (rH 4 6 [x 3 0 1 0,x 4 1 2 1,x 5 2 1 2,o (.kx 3 1)] [4,5,6,3])
  (sQ (sQ (rH 1 12 [t 1 3,c 149 [12],i .neq 13 0,m 14,g 15 false,t 2 4,o (.lit 0 2 [[(I 0),(I 0)]] [(0,(.s 16))]),c 217 [17],u 18,h,r 15 19,m 20,g 21 false,l 5,i .lss 22 0,h,r 21 23,m 24,g 25 false,l 5,i .gtr 26 16777216,h,r 25 27] [28,4,5,6,3])
  (cD 28 (sQ (rH 1 6 [o (.kx 0 1)] [6])
  .ret)
  .skip))
  (sQ (rH 1 7 [o (.box 0 1 kZ4)] [3,6,5,4,7])
  (sQ (sQ (rH 0 29 [t 1 3,c 284 [29]] [6,30,5,4,7])
  (.block 0 (.rng (.s 30) 4306 [4,5,7])))
  (sQ (rH 0 85 [l 7,q 6 85] [6])
  .ret)))))
abbrev zWv:Nat:=4306
def zWF:CFn:=by apply (fun F(_:H1 4306 F)=>F .skip);intro _;conv=>rhs;reduce;simp
def zbF:CC:=by apply (fun F(_:K1 248 0 F)=>F .skip);intro _;conv=>rhs;reduce;simp
abbrev zjK:Nat:=248
def zc2:CFn:=by apply (fun F(_:H1 248 F)=>F zbF);intro _;conv=>rhs;reduce;simp
abbrev zjL:Nat:=249
def zel:CFn:=by apply (fun F(_:H1 249 F)=>F .skip);intro _;conv=>rhs;reduce;simp
abbrev zua:Nat:=250
def zh2:CFn:=by apply (fun F(_:H1 250 F)=>F .skip);intro _;conv=>rhs;reduce;simp
def zej:CC:=by apply (fun F(_:K1 251 0 F)=>F .skip);intro _;conv=>rhs;reduce;simp
def zgK:CC:=by apply (fun F(_:K1 251 1 F)=>F zej);intro _;conv=>rhs;reduce;simp
abbrev zpy:Nat:=251
def zme:CFn:=by apply (fun F(_:H2 251 F)=>F zej zgK);intro _ _;conv=>rhs;reduce;simp
def zU:CC:=by apply (fun F(_:K1 252 0 F)=>F .skip);intro _;conv=>rhs;reduce;simp
abbrev zcg:Nat:=252
def za:CFn:=by apply (fun F(_:H1 252 F)=>F zU);intro _;conv=>rhs;reduce;simp
abbrev zhB:Nat:=254
def zhF:CFn:=by apply (fun F(_:H1 254 F)=>F .skip);intro _;conv=>rhs;reduce;simp
def zbw:CC:=by apply (fun F(_:K1 255 0 F)=>F .skip);intro _;conv=>rhs;reduce;simp
abbrev zjk:Nat:=255
def zb6:CFn:=by apply (fun F(_:H1 255 F)=>F zbw);intro _;conv=>rhs;reduce;simp
abbrev zct:Nat:=256
def zhH:CFn:=by apply (fun F(_:H1 256 F)=>F .skip);intro _;conv=>rhs;reduce;simp
abbrev zhA:Nat:=257
def zcd:CFn:=by apply (fun F(_:H1 257 F)=>F .skip);intro _;conv=>rhs;reduce;simp
abbrev zdc:Nat:=258
def zhG:CFn:=by apply (fun F(_:H1 258 F)=>F .skip);intro _;conv=>rhs;reduce;simp
abbrev zsi:Nat:=259
def zfO:CFn:=by apply (fun F(_:H1 259 F)=>F .skip);intro _;conv=>rhs;reduce;simp
def zbE:CC:=by apply (fun F(_:K1 260 0 F)=>F .skip);intro _;conv=>rhs;reduce;simp
def zaf:CC:=by apply (fun F(_:K1 260 1 F)=>F zbE);intro _;conv=>rhs;reduce;simp
abbrev zfL:Nat:=260
def zbh:CFn:=by apply (fun F(_:H2 260 F)=>F zbE zaf);intro _ _;conv=>rhs;reduce;simp
def zgr:CC:=by apply (fun F(_:K1 261 0 F)=>F .skip);intro _;conv=>rhs;reduce;simp
def zgq:CC:=by apply (fun F(_:K1 261 1 F)=>F zgr);intro _;conv=>rhs;reduce;simp
def zg7:CFn:=by apply (fun F(_:H2 261 F)=>F zgr zgq);intro _ _;conv=>rhs;reduce;simp
def zfl:CC:=by apply (fun F(_:K1 262 0 F)=>F .skip);intro _;conv=>rhs;reduce;simp
def zfN:CFn:=by apply (fun F(_:H1 262 F)=>F zfl);intro _;conv=>rhs;reduce;simp
def zgs:CFn:=by apply (fun F(_:H1 263 F)=>F .skip);intro _;conv=>rhs;reduce;simp
def zft:CC:=by apply (fun F(_:K1 264 0 F)=>F .skip);intro _;conv=>rhs;reduce;simp
def zf3:CFn:=by apply (fun F(_:H1 264 F)=>F zft);intro _;conv=>rhs;reduce;simp
def zd8:CC:=by apply (fun F(_:K1 265 0 F)=>F .skip);intro _;conv=>rhs;reduce;simp
def zd7:CC:=by apply (fun F(_:K1 265 1 F)=>F zd8);intro _;conv=>rhs;reduce;simp
def zd6:CC:=by apply (fun F(_:K2 265 2 F)=>F zd8 zd7);intro _ _;conv=>rhs;reduce;simp
def zd5:CC:=by apply (fun F(_:K3 265 3 F)=>F zd8 zd7 zd6);intro _ _ _;conv=>rhs;reduce;simp
def zeG:CFn:=by apply (fun F(_:H4 265 F)=>F zd8 zd7 zd6 zd5);intro _ _ _ _;conv=>rhs;reduce;simp
abbrev zoW:Nat:=266
def zg8:CFn:=by apply (fun F(_:H1 266 F)=>F .skip);intro _;conv=>rhs;reduce;simp
end
end Go.TrRun
