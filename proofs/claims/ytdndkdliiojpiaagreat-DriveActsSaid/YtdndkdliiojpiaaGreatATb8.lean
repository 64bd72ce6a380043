/- This text lists functions of this seat's program, compiled for the evaluator; no condition. -/
import Derived.Test.YtdndkdliiojpiaaGreatATb1
set_option linter.unusedVariables false
namespace Go.TrRun
open Go Go.Eng Go.Eng.Ins Go.Proofs
set_option maxRecDepth 100000
set_option maxHeartbeats 0
noncomputable section
def ze9:CC:=by apply (fun F(_:K1 267 0 F)=>F .skip);intro _;conv=>rhs;reduce;simp
def ze8:CC:=by apply (fun F(_:K1 267 1 F)=>F ze9);intro _;conv=>rhs;reduce;simp
def ze7:CC:=by apply (fun F(_:K2 267 2 F)=>F ze9 ze8);intro _ _;conv=>rhs;reduce;simp
def zfB:CFn:=by apply (fun F(_:H3 267 F)=>F ze9 ze8 ze7);intro _ _ _;conv=>rhs;reduce;simp
def zf8:CC:=by apply (fun F(_:K1 268 0 F)=>F .skip);intro _;conv=>rhs;reduce;simp
def zf7:CC:=by apply (fun F(_:K1 268 1 F)=>F zf8);intro _;conv=>rhs;reduce;simp
def zf6:CC:=by apply (fun F(_:K2 268 2 F)=>F zf8 zf7);intro _ _;conv=>rhs;reduce;simp
def zf5:CC:=by apply (fun F(_:K3 268 3 F)=>F zf8 zf7 zf6);intro _ _ _;conv=>rhs;reduce;simp
def zf4:CC:=by apply (fun F(_:K4 268 4 F)=>F zf8 zf7 zf6 zf5);intro _ _ _ _;conv=>rhs;reduce;simp
def zgR:CFn:=by apply (fun F(_:H5 268 F)=>F zf8 zf7 zf6 zf5 zf4);intro _ _ _ _ _;conv=>rhs;reduce;simp
def zog:CFn:=by apply (fun F(_:H1 269 F)=>F .skip);intro _;conv=>rhs;reduce;simp
def zof:CFn:=by apply (fun F(_:H1 270 F)=>F .skip);intro _;conv=>rhs;reduce;simp
def zH0:CC:=by apply (fun F(_:K1 271 0 F)=>F .skip);intro _;conv=>rhs;reduce;simp
abbrev zL0:Nat:=271
def zIl:CFn:=by apply (fun F(_:H1 271 F)=>F zH0);intro _;conv=>rhs;reduce;simp
def zaT:CC:=by apply (fun F(_:K1 272 0 F)=>F .skip);intro _;conv=>rhs;reduce;simp
abbrev zmb:Nat:=272
def zdY:CFn:=by apply (fun F(_:H1 272 F)=>F zaT);intro _;conv=>rhs;reduce;simp
def zHM:CC:=by apply (fun F(_:K1 273 0 F)=>F .skip);intro _;conv=>rhs;reduce;simp
abbrev zJ8:Nat:=273
def zHZ:CFn:=by apply (fun F(_:H1 273 F)=>F zHM);intro _;conv=>rhs;reduce;simp
def zIw:CC:=by apply (fun F(_:K1 274 0 F)=>F .skip);intro _;conv=>rhs;reduce;simp
def zIv:CC:=by apply (fun F(_:K1 274 1 F)=>F zIw);intro _;conv=>rhs;reduce;simp
abbrev zMX:Nat:=274
def zIQ:CFn:=by apply (fun F(_:H2 274 F)=>F zIw zIv);intro _ _;conv=>rhs;reduce;simp
abbrev zKH:Nat:=275
def zHX:CFn:=by apply (fun F(_:H1 275 F)=>F .skip);intro _;conv=>rhs;reduce;simp
def zHP:CC:=by apply (fun F(_:K1 276 0 F)=>F .skip);intro _;conv=>rhs;reduce;simp
abbrev zLI:Nat:=276
def zH9:CFn:=by apply (fun F(_:H1 276 F)=>F zHP);intro _;conv=>rhs;reduce;simp
def zfu:CC:=by apply (fun F(_:K1 277 0 F)=>F .skip);intro _;conv=>rhs;reduce;simp
def zek:CC:=by apply (fun F(_:K1 277 1 F)=>F zfu);intro _;conv=>rhs;reduce;simp
abbrev zsh:Nat:=277
def zhf:CFn:=by apply (fun F(_:H2 277 F)=>F zfu zek);intro _ _;conv=>rhs;reduce;simp
abbrev zKe:Nat:=278
def zHs:CFn:=by apply (fun F(_:H1 278 F)=>F .skip);intro _;conv=>rhs;reduce;simp
abbrev zKC:Nat:=279
def zHQ:CFn:=by apply (fun F(_:H1 279 F)=>F .skip);intro _;conv=>rhs;reduce;simp
def zkS:CFn:=by apply (fun F(_:H1 280 F)=>F .skip);intro _;conv=>rhs;reduce;simp
def zTg:CC:=by apply (fun F(_:K1 281 0 F)=>F .skip);intro _;conv=>rhs;reduce;simp
def zTf:CC:=by apply (fun F(_:K1 281 1 F)=>F zTg);intro _;conv=>rhs;reduce;simp
abbrev zKz:Nat:=281
def zTh:CFn:=by apply (fun F(_:H2 281 F)=>F zTg zTf);intro _ _;conv=>rhs;reduce;simp
def zHf:CC:=by apply (fun F(_:K1 282 0 F)=>F .skip);intro _;conv=>rhs;reduce;simp
def zTm:CC:=by apply (fun F(_:K1 282 1 F)=>F zHf);intro _;conv=>rhs;reduce;simp
def zTl:CC:=by apply (fun F(_:K2 282 2 F)=>F zHf zTm);intro _ _;conv=>rhs;reduce;simp
def zTk:CC:=by apply (fun F(_:K3 282 3 F)=>F zHf zTm zTl);intro _ _ _;conv=>rhs;reduce;simp
def zTj:CC:=by apply (fun F(_:K4 282 4 F)=>F zHf zTm zTl zTk);intro _ _ _ _;conv=>rhs;reduce;simp
def zHl:CFn:=by apply (fun F(_:H5 282 F)=>F zHf zTm zTl zTk zTj);intro _ _ _ _ _;conv=>rhs;reduce;simp
abbrev Zl3:Nat:=283
abbrev zYX:Nat:=284
def zrE:CFn:=by apply (fun F(_:H1 284 F)=>F .skip);intro _;conv=>rhs;reduce;simp
abbrev zYp:Nat:=286
def zXc:CFn:=by apply (fun F(_:H1 286 F)=>F .skip);intro _;conv=>rhs;reduce;simp
abbrev zYH:Nat:=287
def zYa:CFn:=by apply (fun F(_:H1 287 F)=>F .skip);intro _;conv=>rhs;reduce;simp
abbrev zXp:Nat:=288
def zW1:CFn:=by apply (fun F(_:H1 288 F)=>F .skip);intro _;conv=>rhs;reduce;simp
abbrev zYl:Nat:=289
def zXI:CFn:=by apply (fun F(_:H1 289 F)=>F .skip);intro _;conv=>rhs;reduce;simp
def ziL:CC:=by apply (fun F(_:K1 290 0 F)=>F .skip);intro _;conv=>rhs;reduce;simp
def zcu:CC:=by apply (fun F(_:K1 290 1 F)=>F ziL);intro _;conv=>rhs;reduce;simp
abbrev zkD:Nat:=290
def zdl:CFn:=by apply (fun F(_:H2 290 F)=>F ziL zcu);intro _ _;conv=>rhs;reduce;simp
def zbO:CC:=by apply (fun F(_:K1 299 0 F)=>F .skip);intro _;conv=>rhs;reduce;simp
def zbN:CC:=by apply (fun F(_:K1 299 1 F)=>F zbO);intro _;conv=>rhs;reduce;simp
def zaO:CC:=by apply (fun F(_:K2 299 2 F)=>F zbO zbN);intro _ _;conv=>rhs;reduce;simp
abbrev zhZ:Nat:=299
def zdj:CFn:=by apply (fun F(_:H3 299 F)=>F zbO zbN zaO);intro _ _ _;conv=>rhs;reduce;simp
def zgp:CC:=by apply (fun F(_:K1 300 0 F)=>F .skip);intro _;conv=>rhs;reduce;simp
def zg6:CFn:=by apply (fun F(_:H1 300 F)=>F zgp);intro _;conv=>rhs;reduce;simp
def zjT:CFn:=by apply (fun F(_:H1 301 F)=>F .skip);intro _;conv=>rhs;reduce;simp
def zkN:CFn:=by apply (fun F(_:H1 302 F)=>F .skip);intro _;conv=>rhs;reduce;simp
def zfC:CFn:=by apply (fun F(_:H1 303 F)=>F .skip);intro _;conv=>rhs;reduce;simp
def zhD:CFn:=by apply (fun F(_:H1 304 F)=>F .skip);intro _;conv=>rhs;reduce;simp
def zGt:CC:=by apply (fun F(_:K1 305 0 F)=>F .skip);intro _;conv=>rhs;reduce;simp
def zGs:CC:=by apply (fun F(_:K1 305 1 F)=>F zGt);intro _;conv=>rhs;reduce;simp
def zGr:CC:=by apply (fun F(_:K2 305 2 F)=>F zGt zGs);intro _ _;conv=>rhs;reduce;simp
abbrev zMD:Nat:=305
def zGz:CFn:=by apply (fun F(_:H3 305 F)=>F zGt zGs zGr);intro _ _ _;conv=>rhs;reduce;simp
end
end Go.TrRun
