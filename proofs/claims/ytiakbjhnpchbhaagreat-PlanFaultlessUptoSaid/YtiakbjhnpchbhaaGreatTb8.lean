/- This text lists functions of this seat's program, compiled for the evaluator; no condition. -/
import Derived.Test.YtiakbjhnpchbhaaGreatTb1
set_option linter.unusedVariables false
namespace Go.TrRun
open Go Go.Eng Go.Eng.Ins Go.Proofs
set_option maxRecDepth 100000
set_option maxHeartbeats 0
noncomputable section
def zfl:CC:=by apply (fun F(_:K1 255 0 F)=>F .skip);intro _;conv=>rhs;reduce;simp
def zfN:CFn:=by apply (fun F(_:H1 255 F)=>F zfl);intro _;conv=>rhs;reduce;simp
def zgs:CFn:=by apply (fun F(_:H1 256 F)=>F .skip);intro _;conv=>rhs;reduce;simp
def zft:CC:=by apply (fun F(_:K1 257 0 F)=>F .skip);intro _;conv=>rhs;reduce;simp
def zf3:CFn:=by apply (fun F(_:H1 257 F)=>F zft);intro _;conv=>rhs;reduce;simp
def zd8:CC:=by apply (fun F(_:K1 258 0 F)=>F .skip);intro _;conv=>rhs;reduce;simp
def zd7:CC:=by apply (fun F(_:K1 258 1 F)=>F zd8);intro _;conv=>rhs;reduce;simp
def zd6:CC:=by apply (fun F(_:K2 258 2 F)=>F zd8 zd7);intro _ _;conv=>rhs;reduce;simp
def zd5:CC:=by apply (fun F(_:K3 258 3 F)=>F zd8 zd7 zd6);intro _ _ _;conv=>rhs;reduce;simp
def zeG:CFn:=by apply (fun F(_:H4 258 F)=>F zd8 zd7 zd6 zd5);intro _ _ _ _;conv=>rhs;reduce;simp
abbrev zoW:Nat:=259
def zg8:CFn:=by apply (fun F(_:H1 259 F)=>F .skip);intro _;conv=>rhs;reduce;simp
def ze9:CC:=by apply (fun F(_:K1 260 0 F)=>F .skip);intro _;conv=>rhs;reduce;simp
def ze8:CC:=by apply (fun F(_:K1 260 1 F)=>F ze9);intro _;conv=>rhs;reduce;simp
def ze7:CC:=by apply (fun F(_:K2 260 2 F)=>F ze9 ze8);intro _ _;conv=>rhs;reduce;simp
def zfB:CFn:=by apply (fun F(_:H3 260 F)=>F ze9 ze8 ze7);intro _ _ _;conv=>rhs;reduce;simp
def zf8:CC:=by apply (fun F(_:K1 261 0 F)=>F .skip);intro _;conv=>rhs;reduce;simp
def zf7:CC:=by apply (fun F(_:K1 261 1 F)=>F zf8);intro _;conv=>rhs;reduce;simp
def zf6:CC:=by apply (fun F(_:K2 261 2 F)=>F zf8 zf7);intro _ _;conv=>rhs;reduce;simp
def zf5:CC:=by apply (fun F(_:K3 261 3 F)=>F zf8 zf7 zf6);intro _ _ _;conv=>rhs;reduce;simp
def zf4:CC:=by apply (fun F(_:K4 261 4 F)=>F zf8 zf7 zf6 zf5);intro _ _ _ _;conv=>rhs;reduce;simp
def zgR:CFn:=by apply (fun F(_:H5 261 F)=>F zf8 zf7 zf6 zf5 zf4);intro _ _ _ _ _;conv=>rhs;reduce;simp
def zbc:CC:=by apply (fun F(_:K1 263 0 F)=>F .skip);intro _;conv=>rhs;reduce;simp
abbrev ze4:Nat:=263
def zdk:CFn:=by apply (fun F(_:H1 263 F)=>F zbc);intro _;conv=>rhs;reduce;simp
def zgp:CC:=by apply (fun F(_:K1 264 0 F)=>F .skip);intro _;conv=>rhs;reduce;simp
def zg6:CFn:=by apply (fun F(_:H1 264 F)=>F zgp);intro _;conv=>rhs;reduce;simp
def zfC:CFn:=by apply (fun F(_:H1 265 F)=>F .skip);intro _;conv=>rhs;reduce;simp
def zhD:CFn:=by apply (fun F(_:H1 266 F)=>F .skip);intro _;conv=>rhs;reduce;simp
def zbo:CC:=by apply (fun F(_:K1 267 0 F)=>F .skip);intro _;conv=>rhs;reduce;simp
abbrev zg5:Nat:=267
def zcH:CFn:=by apply (fun F(_:H1 267 F)=>F zbo);intro _;conv=>rhs;reduce;simp
def zhC:CFn:=by apply (fun F(_:H1 268 F)=>F .skip);intro _;conv=>rhs;reduce;simp
end
end Go.TrRun
