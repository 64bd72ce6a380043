/- This text lists functions of this seat's program, compiled for the evaluator; no condition. -/
import Derived.Test.YtiakbjhnpchbhaaGreatTb1
set_option linter.unusedVariables false
namespace Go.TrRun
open Go Go.Eng Go.Eng.Ins Go.Proofs
set_option maxRecDepth 100000
set_option maxHeartbeats 0
noncomputable section
def zHq:CC:=by apply (fun F(_:K1 206 0 F)=>F .skip);intro _;conv=>rhs;reduce;simp
abbrev zKm:Nat:=206
def zHF:CFn:=by apply (fun F(_:H1 206 F)=>F zHq);intro _;conv=>rhs;reduce;simp
def zpY:CC:=by apply (fun F(_:K1 207 0 F)=>F .skip);intro _;conv=>rhs;reduce;simp
def zuo:CFn:=by apply (fun F(_:H1 207 F)=>F zpY);intro _;conv=>rhs;reduce;simp
def zun:CFn:=by apply (fun F(_:H1 208 F)=>F .skip);intro _;conv=>rhs;reduce;simp
def zpX:CC:=by apply (fun F(_:K1 209 0 F)=>F .skip);intro _;conv=>rhs;reduce;simp
abbrev zud:Nat:=209
def zum:CFn:=by apply (fun F(_:H1 209 F)=>F zpX);intro _;conv=>rhs;reduce;simp
def ZfZ:CFn:=by apply (fun F(_:H1 210 F)=>F .skip);intro _;conv=>rhs;reduce;simp
def zrF:CFn:=fN 1 19 [(.slot 2)]
 (sQ (rH 2 2 [x 1 0 1 0,o (.ko 1 1)] [2,1])
  (sQ (sQ (rH 0 6 [t 1 1,c 178 [6],i .neq 7 0] [8,2,1])
  (cD 8 (sQ (rH 1 2 [o (.ko 0 1)] [2])
  .ret)
  .skip))
  (sQ (rH 1 3 [o (.box 0 1 kZ7)] [1,2,3])
  (sQ (sQ (rH 0 9 [t 1 1,c 227 [9]] [2,10,3])
  (.block 0 (.rng (.s 10) 3663 [3])))
  (sQ (rH 0 18 [l 3,q 2 18] [2])
  .ret)))))
def zoh:CFn:=by apply (fun F(_:H1 3663 F)=>F .skip);intro _;conv=>rhs;reduce;simp
def zHk:CC:=by apply (fun F(_:K1 212 0 F)=>F .skip);intro _;conv=>rhs;reduce;simp
def zHp:CFn:=by apply (fun F(_:H1 212 F)=>F zHk);intro _;conv=>rhs;reduce;simp
def zdV:CC:=by apply (fun F(_:K1 213 0 F)=>F .skip);intro _;conv=>rhs;reduce;simp
abbrev zoa:Nat:=213
def zgM:CFn:=by apply (fun F(_:H1 213 F)=>F zdV);intro _;conv=>rhs;reduce;simp
abbrev zua:Nat:=214
def zh2:CFn:=by apply (fun F(_:H1 214 F)=>F .skip);intro _;conv=>rhs;reduce;simp
def zej:CC:=by apply (fun F(_:K1 215 0 F)=>F .skip);intro _;conv=>rhs;reduce;simp
def zgK:CC:=by apply (fun F(_:K1 215 1 F)=>F zej);intro _;conv=>rhs;reduce;simp
abbrev zpy:Nat:=215
def zme:CFn:=by apply (fun F(_:H2 215 F)=>F zej zgK);intro _ _;conv=>rhs;reduce;simp
def zU:CC:=by apply (fun F(_:K1 216 0 F)=>F .skip);intro _;conv=>rhs;reduce;simp
abbrev zcg:Nat:=216
def za:CFn:=by apply (fun F(_:H1 216 F)=>F zU);intro _;conv=>rhs;reduce;simp
abbrev zpS:Nat:=218
def zpW:CFn:=by apply (fun F(_:H1 218 F)=>F .skip);intro _;conv=>rhs;reduce;simp
abbrev zhB:Nat:=219
def zhF:CFn:=by apply (fun F(_:H1 219 F)=>F .skip);intro _;conv=>rhs;reduce;simp
def zbw:CC:=by apply (fun F(_:K1 220 0 F)=>F .skip);intro _;conv=>rhs;reduce;simp
abbrev zjk:Nat:=220
def zb6:CFn:=by apply (fun F(_:H1 220 F)=>F zbw);intro _;conv=>rhs;reduce;simp
abbrev zmP:Nat:=221
abbrev zct:Nat:=222
def zhH:CFn:=by apply (fun F(_:H1 222 F)=>F .skip);intro _;conv=>rhs;reduce;simp
abbrev zhA:Nat:=223
def zcd:CFn:=by apply (fun F(_:H1 223 F)=>F .skip);intro _;conv=>rhs;reduce;simp
abbrev zdc:Nat:=224
def zhG:CFn:=by apply (fun F(_:H1 224 F)=>F .skip);intro _;conv=>rhs;reduce;simp
abbrev zsi:Nat:=225
def zfO:CFn:=by apply (fun F(_:H1 225 F)=>F .skip);intro _;conv=>rhs;reduce;simp
def zHr:CC:=by apply (fun F(_:K1 226 0 F)=>F .skip);intro _;conv=>rhs;reduce;simp
abbrev zLa:Nat:=226
def zHG:CFn:=by apply (fun F(_:H1 226 F)=>F zHr);intro _;conv=>rhs;reduce;simp
def zrE:CFn:=by apply (fun F(_:H1 227 F)=>F .skip);intro _;conv=>rhs;reduce;simp
def zTi:CC:=by apply (fun F(_:K1 228 0 F)=>F .skip);intro _;conv=>rhs;reduce;simp
def zHg:CFn:=by apply (fun F(_:H1 228 F)=>F zTi);intro _;conv=>rhs;reduce;simp
abbrev znx:Nat:=229
def zf9:CFn:=by apply (fun F(_:H1 229 F)=>F .skip);intro _;conv=>rhs;reduce;simp
abbrev zmO:Nat:=230
def zfD:CFn:=by apply (fun F(_:H1 230 F)=>F .skip);intro _;conv=>rhs;reduce;simp
def ziL:CC:=by apply (fun F(_:K1 231 0 F)=>F .skip);intro _;conv=>rhs;reduce;simp
def zcu:CC:=by apply (fun F(_:K1 231 1 F)=>F ziL);intro _;conv=>rhs;reduce;simp
abbrev zkD:Nat:=231
def zdl:CFn:=by apply (fun F(_:H2 231 F)=>F ziL zcu);intro _ _;conv=>rhs;reduce;simp
def zog:CFn:=by apply (fun F(_:H1 240 F)=>F .skip);intro _;conv=>rhs;reduce;simp
def zof:CFn:=by apply (fun F(_:H1 241 F)=>F .skip);intro _;conv=>rhs;reduce;simp
def zbF:CC:=by apply (fun F(_:K1 242 0 F)=>F .skip);intro _;conv=>rhs;reduce;simp
abbrev zjK:Nat:=242
def zc2:CFn:=by apply (fun F(_:H1 242 F)=>F zbF);intro _;conv=>rhs;reduce;simp
def zbO:CC:=by apply (fun F(_:K1 243 0 F)=>F .skip);intro _;conv=>rhs;reduce;simp
def zbN:CC:=by apply (fun F(_:K1 243 1 F)=>F zbO);intro _;conv=>rhs;reduce;simp
def zaO:CC:=by apply (fun F(_:K2 243 2 F)=>F zbO zbN);intro _ _;conv=>rhs;reduce;simp
abbrev zhZ:Nat:=243
def zdj:CFn:=by apply (fun F(_:H3 243 F)=>F zbO zbN zaO);intro _ _ _;conv=>rhs;reduce;simp
def zmW:CC:=by apply (fun F(_:K1 244 0 F)=>F .skip);intro _;conv=>rhs;reduce;simp
def zo2:CFn:=by apply (fun F(_:H1 244 F)=>F zmW);intro _;conv=>rhs;reduce;simp
def zcm:CC:=by apply (fun F(_:K1 245 0 F)=>F .skip);intro _;conv=>rhs;reduce;simp
abbrev zhm:Nat:=245
def z2r:CFn:=by apply (fun F(_:H1 245 F)=>F zcm);intro _;conv=>rhs;reduce;simp
def zjT:CFn:=by apply (fun F(_:H1 247 F)=>F .skip);intro _;conv=>rhs;reduce;simp
def zkN:CFn:=by apply (fun F(_:H1 248 F)=>F .skip);intro _;conv=>rhs;reduce;simp
def zaD:CC:=by apply (fun F(_:K1 251 0 F)=>F .skip);intro _;conv=>rhs;reduce;simp
def za3:CC:=by apply (fun F(_:K1 251 1 F)=>F zaD);intro _;conv=>rhs;reduce;simp
abbrev zf0:Nat:=251
def zce:CFn:=by apply (fun F(_:H2 251 F)=>F zaD za3);intro _ _;conv=>rhs;reduce;simp
def zaC:CC:=by apply (fun F(_:K1 252 0 F)=>F .skip);intro _;conv=>rhs;reduce;simp
def zbv:CC:=by apply (fun F(_:K1 252 1 F)=>F zaC);intro _;conv=>rhs;reduce;simp
def zaB:CC:=by apply (fun F(_:K2 252 2 F)=>F zaC zbv);intro _ _;conv=>rhs;reduce;simp
def zbu:CC:=by apply (fun F(_:K3 252 3 F)=>F zaC zbv zaB);intro _ _ _;conv=>rhs;reduce;simp
def zaA:CC:=by apply (fun F(_:K4 252 4 F)=>F zaC zbv zaB zbu);intro _ _ _ _;conv=>rhs;reduce;simp
abbrev zcQ:Nat:=252
def zc:CFn:=by apply (fun F(_:H5 252 F)=>F zaC zbv zaB zbu zaA);intro _ _ _ _ _;conv=>rhs;reduce;simp
def zbE:CC:=by apply (fun F(_:K1 253 0 F)=>F .skip);intro _;conv=>rhs;reduce;simp
def zaf:CC:=by apply (fun F(_:K1 253 1 F)=>F zbE);intro _;conv=>rhs;reduce;simp
abbrev zfL:Nat:=253
def zbh:CFn:=by apply (fun F(_:H2 253 F)=>F zbE zaf);intro _ _;conv=>rhs;reduce;simp
def zgr:CC:=by apply (fun F(_:K1 254 0 F)=>F .skip);intro _;conv=>rhs;reduce;simp
def zgq:CC:=by apply (fun F(_:K1 254 1 F)=>F zgr);intro _;conv=>rhs;reduce;simp
def zg7:CFn:=by apply (fun F(_:H2 254 F)=>F zgr zgq);intro _ _;conv=>rhs;reduce;simp
end
end Go.TrRun
