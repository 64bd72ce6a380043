/- This text lists functions of this seat's program, compiled for the evaluator; no condition. -/
import Derived.Test.YtdndkdliiojpiaaGreatOTb1
set_option linter.defProp false
set_option linter.unusedVariables false
namespace Go.TrRun
open Go Go.Eng Go.Eng.Ins Go.Proofs
set_option maxRecDepth 100000
set_option maxHeartbeats 0
noncomputable section
abbrev zoW:Nat:=266
def zg8:CFn:=(H1 266) .skip
def ze9:CC:=(K1 267 0) .skip
def ze8:CC:=(K1 267 1) ze9
def ze7:CC:=(K2 267 2) ze9 ze8
def zfB:CFn:=(H3 267) ze9 ze8 ze7
def zf8:CC:=(K1 268 0) .skip
def zf7:CC:=(K1 268 1) zf8
def zf6:CC:=(K2 268 2) zf8 zf7
def zf5:CC:=(K3 268 3) zf8 zf7 zf6
def zf4:CC:=(K4 268 4) zf8 zf7 zf6 zf5
def zgR:CFn:=(H5 268) zf8 zf7 zf6 zf5 zf4
def zog:CFn:=(H1 269) .skip
def zof:CFn:=(H1 270) .skip
def zH0:CC:=(K1 271 0) .skip
abbrev zL0:Nat:=271
def zIl:CFn:=(H1 271) zH0
def zaT:CC:=(K1 272 0) .skip
abbrev zmb:Nat:=272
def zdY:CFn:=(H1 272) zaT
def zHM:CC:=(K1 273 0) .skip
abbrev zJ8:Nat:=273
def zHZ:CFn:=(H1 273) zHM
def zIw:CC:=(K1 274 0) .skip
def zIv:CC:=(K1 274 1) zIw
abbrev zMX:Nat:=274
def zIQ:CFn:=(H2 274) zIw zIv
abbrev zKH:Nat:=275
def zHX:CFn:=(H1 275) .skip
def zHP:CC:=(K1 276 0) .skip
abbrev zLI:Nat:=276
def zH9:CFn:=(H1 276) zHP
def zfu:CC:=(K1 277 0) .skip
def zek:CC:=(K1 277 1) zfu
abbrev zsh:Nat:=277
def zhf:CFn:=(H2 277) zfu zek
abbrev zKe:Nat:=278
def zHs:CFn:=(H1 278) .skip
abbrev zKC:Nat:=279
def zHQ:CFn:=(H1 279) .skip
def zkS:CFn:=(H1 280) .skip
def zTg:CC:=(K1 281 0) .skip
def zTf:CC:=(K1 281 1) zTg
abbrev zKz:Nat:=281
def zTh:CFn:=(H2 281) zTg zTf
def zHf:CC:=(K1 282 0) .skip
def zTm:CC:=(K1 282 1) zHf
def zTl:CC:=(K2 282 2) zHf zTm
def zTk:CC:=(K3 282 3) zHf zTm zTl
def zTj:CC:=(K4 282 4) zHf zTm zTl zTk
def zHl:CFn:=(H5 282) zHf zTm zTl zTk zTj
abbrev Zl3:Nat:=283
abbrev zYX:Nat:=284
def zrE:CFn:=(H1 284) .skip
abbrev zYp:Nat:=286
def zXc:CFn:=(H1 286) .skip
abbrev zYH:Nat:=287
def zYa:CFn:=(H1 287) .skip
abbrev zXp:Nat:=288
def zW1:CFn:=(H1 288) .skip
abbrev zYl:Nat:=289
def zXI:CFn:=(H1 289) .skip
def ziL:CC:=(K1 290 0) .skip
def zcu:CC:=(K1 290 1) ziL
abbrev zkD:Nat:=290
def zdl:CFn:=(H2 290) ziL zcu
def zbO:CC:=(K1 299 0) .skip
def zbN:CC:=(K1 299 1) zbO
def zaO:CC:=(K2 299 2) zbO zbN
abbrev zhZ:Nat:=299
def zdj:CFn:=(H3 299) zbO zbN zaO
def zgp:CC:=(K1 300 0) .skip
def zg6:CFn:=(H1 300) zgp
def zjT:CFn:=(H1 301) .skip
def zkN:CFn:=(H1 302) .skip
def zfC:CFn:=(H1 303) .skip
def zhD:CFn:=(H1 304) .skip
def zGt:CC:=(K1 305 0) .skip
def zGs:CC:=(K1 305 1) zGt
def zGr:CC:=(K2 305 2) zGt zGs
abbrev zMD:Nat:=305
def zGz:CFn:=(H3 305) zGt zGs zGr
end
end Go.TrRun
