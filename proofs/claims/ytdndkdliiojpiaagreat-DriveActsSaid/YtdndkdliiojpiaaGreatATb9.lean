/- This text lists functions of this seat's program, compiled for the evaluator; no condition. -/
import Derived.Test.YtdndkdliiojpiaaGreatATb1
set_option linter.unusedVariables false
namespace Go.TrRun
open Go Go.Eng Go.Eng.Ins Go.Proofs
set_option maxRecDepth 100000
set_option maxHeartbeats 0
noncomputable section
abbrev zKG:Nat:=306
def zHU:CFn:=by apply (fun F(_:H1 306 F)=>F .skip);intro _;conv=>rhs;reduce;simp
abbrev zKR:Nat:=307
def zHt:CFn:=by apply (fun F(_:H1 307 F)=>F .skip);intro _;conv=>rhs;reduce;simp
def zHq:CC:=by apply (fun F(_:K1 308 0 F)=>F .skip);intro _;conv=>rhs;reduce;simp
abbrev zKm:Nat:=308
def zHF:CFn:=by apply (fun F(_:H1 308 F)=>F zHq);intro _;conv=>rhs;reduce;simp
def zHk:CC:=by apply (fun F(_:K1 309 0 F)=>F .skip);intro _;conv=>rhs;reduce;simp
def zHp:CFn:=by apply (fun F(_:H1 309 F)=>F zHk);intro _;conv=>rhs;reduce;simp
def zmW:CC:=by apply (fun F(_:K1 310 0 F)=>F .skip);intro _;conv=>rhs;reduce;simp
abbrev zWM:Nat:=310
def zo2:CFn:=by apply (fun F(_:H1 310 F)=>F zmW);intro _;conv=>rhs;reduce;simp
def zaD:CC:=by apply (fun F(_:K1 322 0 F)=>F .skip);intro _;conv=>rhs;reduce;simp
def za3:CC:=by apply (fun F(_:K1 322 1 F)=>F zaD);intro _;conv=>rhs;reduce;simp
abbrev zf0:Nat:=322
def zce:CFn:=by apply (fun F(_:H2 322 F)=>F zaD za3);intro _ _;conv=>rhs;reduce;simp
def zaC:CC:=by apply (fun F(_:K1 323 0 F)=>F .skip);intro _;conv=>rhs;reduce;simp
def zbv:CC:=by apply (fun F(_:K1 323 1 F)=>F zaC);intro _;conv=>rhs;reduce;simp
def zaB:CC:=by apply (fun F(_:K2 323 2 F)=>F zaC zbv);intro _ _;conv=>rhs;reduce;simp
def zbu:CC:=by apply (fun F(_:K3 323 3 F)=>F zaC zbv zaB);intro _ _ _;conv=>rhs;reduce;simp
def zaA:CC:=by apply (fun F(_:K4 323 4 F)=>F zaC zbv zaB zbu);intro _ _ _ _;conv=>rhs;reduce;simp
abbrev zcQ:Nat:=323
def zc:CFn:=by apply (fun F(_:H5 323 F)=>F zaC zbv zaB zbu zaA);intro _ _ _ _ _;conv=>rhs;reduce;simp
def zhC:CFn:=by apply (fun F(_:H1 324 F)=>F .skip);intro _;conv=>rhs;reduce;simp
abbrev zLf:Nat:=325
def zGu:CFn:=by apply (fun F(_:H1 325 F)=>F .skip);intro _;conv=>rhs;reduce;simp
def zGg:CC:=by apply (fun F(_:K1 326 0 F)=>F .skip);intro _;conv=>rhs;reduce;simp
abbrev zK0:Nat:=326
def zGo:CFn:=by apply (fun F(_:H1 326 F)=>F zGg);intro _;conv=>rhs;reduce;simp
def zHr:CC:=by apply (fun F(_:K1 327 0 F)=>F .skip);intro _;conv=>rhs;reduce;simp
abbrev zLa:Nat:=327
def zHG:CFn:=by apply (fun F(_:H1 327 F)=>F zHr);intro _;conv=>rhs;reduce;simp
def zTi:CC:=by apply (fun F(_:K1 328 0 F)=>F .skip);intro _;conv=>rhs;reduce;simp
def zHg:CFn:=by apply (fun F(_:H1 328 F)=>F zTi);intro _;conv=>rhs;reduce;simp
def zbc:CC:=by apply (fun F(_:K1 333 0 F)=>F .skip);intro _;conv=>rhs;reduce;simp
abbrev ze4:Nat:=333
def zdk:CFn:=by apply (fun F(_:H1 333 F)=>F zbc);intro _;conv=>rhs;reduce;simp
def zbo:CC:=by apply (fun F(_:K1 335 0 F)=>F .skip);intro _;conv=>rhs;reduce;simp
abbrev zg5:Nat:=335
def zcH:CFn:=by apply (fun F(_:H1 335 F)=>F zbo);intro _;conv=>rhs;reduce;simp
end
end Go.TrRun
