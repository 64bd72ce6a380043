/- This text lists functions of this seat's program, compiled for the evaluator; no condition. -/
import Derived.Test.YtdndkdliiojpiaaGreatOTb1
set_option linter.defProp false
set_option linter.unusedVariables false
namespace Go.TrRun
open Go Go.Eng Go.Eng.Ins Go.Proofs
set_option maxRecDepth 100000
set_option maxHeartbeats 0
noncomputable section
def zHA:CFn:=(H1 225) .skip
def zIA:CFn:=(H1 226) .skip
def zIy:CFn:=(H1 227) .skip
def zH6:CC:=(K1 228 0) .skip
def zIB:CFn:=(H1 228) zH6
def zHx:CC:=(K1 229 0) .skip
def zHJ:CFn:=(H1 229) zHx
def zIG:CFn:=(H1 230) .skip
def zHj:CC:=(K1 231 0) .skip
def zHi:CC:=(K1 231 1) zHj
def zHh:CC:=(K2 231 2) zHj zHi
abbrev zKP:Nat:=231
def zHo:CFn:=(H3 231) zHj zHi zHh
abbrev zi5:Nat:=232
def ze6:CFn:=(H1 232) .skip
abbrev zlc:Nat:=233
def zfU:CFn:=(H1 233) .skip
abbrev ZmC:Nat:=234
def ZjA:CFn:=(H1 234) .skip
def zrF:CFn:=fN 1 19 [(.slot 2)]
 (sQ (rH 2 2 [x 1 0 1 0,o (.kx 1 1)] [2,1])
  (sQ (sQ (rH 0 6 [t 1 1,c 149 [6],i .neq 7 0] [8,2,1])
  (cD 8 (sQ (rH 1 2 [o (.kx 0 1)] [2])
  .ret)
  .skip))
  (sQ (rH 1 3 [o (.box 0 1 kZ6)] [1,2,3])
  (sQ (sQ (rH 0 9 [t 1 1,c 284 [9]] [2,10,3])
  (.block 0 (.rng (.s 10) 4114 [3])))
  (sQ (rH 0 18 [l 3,q 2 18] [2])
  .ret)))))
def zoh:CFn:=(H1 4114) .skip
abbrev zWy:Nat:=236
abbrev zWr:Nat:=237
def zYL:CFn:=(H1 237) .skip
abbrev zZ6:Nat:=238
def zXb:CFn:=(H1 238) .skip
abbrev zEB:Nat:=239
def zuk:CFn:=(H1 239) .skip
def zWR:CC:=(K1 240 0) .skip
abbrev zYy:Nat:=240
def zXg:CFn:=(H1 240) zWR
def zWz:CC:=(K1 241 0) .skip
abbrev zXK:Nat:=241
def zWJ:CFn:=(H1 241) zWz
def zWC:CC:=(K1 242 0) .skip
abbrev zXS:Nat:=242
def zWV:CFn:=(H1 242) zWC
abbrev zW3:Nat:=243
def zXk:CFn:=(H1 243) .skip
def zWD:CC:=(K1 244 0) .skip
abbrev zXT:Nat:=244
def zWW:CFn:=(H1 244) zWD
abbrev zW2:Nat:=245
def zXj:CFn:=(H1 245) .skip
def z7Q:CC:=(K1 246 0) .skip
abbrev z8y:Nat:=246
def z7X:CFn:=(H1 246) z7Q
abbrev zXv:Nat:=247
def zXh:CFn:=fN 3 86 [(.slot 6)]
 (sQ (rH 4 6 [x 3 0 1 0,x 4 1 2 1,x 5 2 1 2,o (.kx 3 1)] [4,5,6,3])
  (sQ (sQ (rH 1 12 [t 1 3,c 149 [12],i .neq 13 0,m 14,g 15 false,t 2 4,o (.lit 0 2 [[(I 0),(I 0)]] [(0,(.s 16))]),c 217 [17],u 18,h,r 15 19,m 20,g 21 false,l 5,i .lss 22 0,h,r 21 23,m 24,g 25 false,l 5,i .gtr 26 16777216,h,r 25 27] [28,4,5,6,3])
  (cD 28 (sQ (rH 1 6 [o (.kx 0 1)] [6])
  .ret)
  .skip))
  (sQ (rH 1 7 [o (.box 0 1 kZ6)] [3,6,5,4,7])
  (sQ (sQ (rH 0 29 [t 1 3,c 284 [29]] [6,30,5,4,7])
  (.block 0 (.rng (.s 30) 4306 [4,5,7])))
  (sQ (rH 0 85 [l 7,q 6 85] [6])
  .ret)))))
abbrev zWv:Nat:=4306
def zWF:CFn:=(H1 4306) .skip
def zbF:CC:=(K1 248 0) .skip
abbrev zjK:Nat:=248
def zc2:CFn:=(H1 248) zbF
abbrev zjL:Nat:=249
def zel:CFn:=(H1 249) .skip
abbrev zua:Nat:=250
def zh2:CFn:=(H1 250) .skip
def zej:CC:=(K1 251 0) .skip
def zgK:CC:=(K1 251 1) zej
abbrev zpy:Nat:=251
def zme:CFn:=(H2 251) zej zgK
def zU:CC:=(K1 252 0) .skip
abbrev zcg:Nat:=252
def za:CFn:=(H1 252) zU
abbrev zhB:Nat:=254
def zhF:CFn:=(H1 254) .skip
def zbw:CC:=(K1 255 0) .skip
abbrev zjk:Nat:=255
def zb6:CFn:=(H1 255) zbw
abbrev zct:Nat:=256
def zhH:CFn:=(H1 256) .skip
abbrev zhA:Nat:=257
def zcd:CFn:=(H1 257) .skip
abbrev zdc:Nat:=258
def zhG:CFn:=(H1 258) .skip
abbrev zsi:Nat:=259
def zfO:CFn:=(H1 259) .skip
def zbE:CC:=(K1 260 0) .skip
def zaf:CC:=(K1 260 1) zbE
abbrev zfL:Nat:=260
def zbh:CFn:=(H2 260) zbE zaf
def zgr:CC:=(K1 261 0) .skip
def zgq:CC:=(K1 261 1) zgr
def zg7:CFn:=(H2 261) zgr zgq
def zfl:CC:=(K1 262 0) .skip
def zfN:CFn:=(H1 262) zfl
def zgs:CFn:=(H1 263) .skip
def zft:CC:=(K1 264 0) .skip
def zf3:CFn:=(H1 264) zft
def zd8:CC:=(K1 265 0) .skip
def zd7:CC:=(K1 265 1) zd8
def zd6:CC:=(K2 265 2) zd8 zd7
def zd5:CC:=(K3 265 3) zd8 zd7 zd6
def zeG:CFn:=(H4 265) zd8 zd7 zd6 zd5
end
end Go.TrRun
