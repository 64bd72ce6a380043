/- This text lists functions of this seat's program, compiled for the evaluator; no condition. -/
import Derived.Test.YtdndkdliiojpiaaGreatOTb1
set_option linter.defProp false
set_option linter.unusedVariables false
namespace Go.TrRun
open Go Go.Eng Go.Eng.Ins Go.Proofs
set_option maxRecDepth 100000
set_option maxHeartbeats 0
noncomputable section
abbrev zKG:Nat:=306
def zHU:CFn:=(H1 306) .skip
abbrev zKR:Nat:=307
def zHt:CFn:=(H1 307) .skip
def zHq:CC:=(K1 308 0) .skip
abbrev zKm:Nat:=308
def zHF:CFn:=(H1 308) zHq
def zHk:CC:=(K1 309 0) .skip
def zHp:CFn:=(H1 309) zHk
def zmW:CC:=(K1 310 0) .skip
abbrev zWM:Nat:=310
def zo2:CFn:=(H1 310) zmW
def zaD:CC:=(K1 322 0) .skip
def za3:CC:=(K1 322 1) zaD
abbrev zf0:Nat:=322
def zce:CFn:=(H2 322) zaD za3
def zaC:CC:=(K1 323 0) .skip
def zbv:CC:=(K1 323 1) zaC
def zaB:CC:=(K2 323 2) zaC zbv
def zbu:CC:=(K3 323 3) zaC zbv zaB
def zaA:CC:=(K4 323 4) zaC zbv zaB zbu
abbrev zcQ:Nat:=323
def zc:CFn:=(H5 323) zaC zbv zaB zbu zaA
def zhC:CFn:=(H1 324) .skip
abbrev zLf:Nat:=325
def zGu:CFn:=(H1 325) .skip
def zGg:CC:=(K1 326 0) .skip
abbrev zK0:Nat:=326
def zGo:CFn:=(H1 326) zGg
def zHr:CC:=(K1 327 0) .skip
abbrev zLa:Nat:=327
def zHG:CFn:=(H1 327) zHr
def zTi:CC:=(K1 328 0) .skip
def zHg:CFn:=(H1 328) zTi
def zbc:CC:=(K1 333 0) .skip
abbrev ze4:Nat:=333
def zdk:CFn:=(H1 333) zbc
def zbo:CC:=(K1 335 0) .skip
abbrev zg5:Nat:=335
def zcH:CFn:=(H1 335) zbo
end
end Go.TrRun
