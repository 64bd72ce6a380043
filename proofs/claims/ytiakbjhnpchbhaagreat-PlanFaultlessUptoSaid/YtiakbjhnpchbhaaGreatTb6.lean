/- This text lists functions of this seat's program, compiled for the evaluator; no condition. -/
import Derived.Test.YtiakbjhnpchbhaaGreatTb1
set_option linter.unusedVariables false
namespace Go.TrRun
open Go Go.Eng Go.Eng.Ins Go.Proofs
set_option maxRecDepth 100000
set_option maxHeartbeats 0
noncomputable section
def zHP:CC:=by apply (fun F(_:K1 166 0 F)=>F .skip);intro _;conv=>rhs;reduce;simp
abbrev zLI:Nat:=166
def zH9:CFn:=by apply (fun F(_:H1 166 F)=>F zHP);intro _;conv=>rhs;reduce;simp
def zfu:CC:=by apply (fun F(_:K1 167 0 F)=>F .skip);intro _;conv=>rhs;reduce;simp
def zek:CC:=by apply (fun F(_:K1 167 1 F)=>F zfu);intro _;conv=>rhs;reduce;simp
abbrev zsh:Nat:=167
def zhf:CFn:=by apply (fun F(_:H2 167 F)=>F zfu zek);intro _ _;conv=>rhs;reduce;simp
abbrev zKe:Nat:=168
def zHs:CFn:=by apply (fun F(_:H1 168 F)=>F .skip);intro _;conv=>rhs;reduce;simp
abbrev zKC:Nat:=169
def zHQ:CFn:=by apply (fun F(_:H1 169 F)=>F .skip);intro _;conv=>rhs;reduce;simp
abbrev zjL:Nat:=170
def zel:CFn:=by apply (fun F(_:H1 170 F)=>F .skip);intro _;conv=>rhs;reduce;simp
def zcx:CC:=by apply (fun F(_:K1 171 0 F)=>F .skip);intro _;conv=>rhs;reduce;simp
def zUc:CC:=by apply (fun F(_:K1 171 1 F)=>F zcx);intro _;conv=>rhs;reduce;simp
abbrev zgC:Nat:=171
def zdr:CFn:=by apply (fun F(_:H2 171 F)=>F zcx zUc);intro _ _;conv=>rhs;reduce;simp
def zcb:CC:=by apply (fun F(_:K1 172 0 F)=>F .skip);intro _;conv=>rhs;reduce;simp
abbrev zlo:Nat:=172
def zdI:CFn:=by apply (fun F(_:H1 172 F)=>F zcb);intro _;conv=>rhs;reduce;simp
def zkT:CFn:=by apply (fun F(_:H1 173 F)=>F .skip);intro _;conv=>rhs;reduce;simp
def zjs:CC:=by apply (fun F(_:K1 174 0 F)=>F .skip);intro _;conv=>rhs;reduce;simp
abbrev zlq:Nat:=174
def zlt:CFn:=by apply (fun F(_:H1 174 F)=>F zjs);intro _;conv=>rhs;reduce;simp
def zmg:CFn:=by apply (fun F(_:H1 175 F)=>F .skip);intro _;conv=>rhs;reduce;simp
def zkS:CFn:=by apply (fun F(_:H1 176 F)=>F .skip);intro _;conv=>rhs;reduce;simp
abbrev zre:Nat:=177
def zgL:CFn:=by apply (fun F(_:H1 177 F)=>F .skip);intro _;conv=>rhs;reduce;simp
def zo3:CC:=by apply (fun F(_:K1 178 0 F)=>F .skip);intro _;conv=>rhs;reduce;simp
abbrev zsk:Nat:=178
def zsm:CFn:=by apply (fun F(_:H1 178 F)=>F zo3);intro _;conv=>rhs;reduce;simp
def zoe:CC:=by apply (fun F(_:K1 179 0 F)=>F .skip);intro _;conv=>rhs;reduce;simp
def zrC:CFn:=by apply (fun F(_:H1 179 F)=>F zoe);intro _;conv=>rhs;reduce;simp
abbrev zc0:Nat:=180
def zjV:CFn:=by apply (fun F(_:H1 180 F)=>F .skip);intro _;conv=>rhs;reduce;simp
abbrev zcZ:Nat:=181
def zjU:CFn:=by apply (fun F(_:H1 181 F)=>F .skip);intro _;conv=>rhs;reduce;simp
def zHv:CC:=by apply (fun F(_:K1 182 0 F)=>F .skip);intro _;conv=>rhs;reduce;simp
def zHH:CFn:=by apply (fun F(_:H1 182 F)=>F zHv);intro _;conv=>rhs;reduce;simp
def zHC:CC:=by apply (fun F(_:K1 183 0 F)=>F .skip);intro _;conv=>rhs;reduce;simp
def zHN:CFn:=by apply (fun F(_:H1 183 F)=>F zHC);intro _;conv=>rhs;reduce;simp
def zIo:CC:=by apply (fun F(_:K1 184 0 F)=>F .skip);intro _;conv=>rhs;reduce;simp
def zIn:CC:=by apply (fun F(_:K1 184 1 F)=>F zIo);intro _;conv=>rhs;reduce;simp
def zIM:CFn:=by apply (fun F(_:H2 184 F)=>F zIo zIn);intro _ _;conv=>rhs;reduce;simp
def zHA:CFn:=by apply (fun F(_:H1 185 F)=>F .skip);intro _;conv=>rhs;reduce;simp
def zIA:CFn:=by apply (fun F(_:H1 186 F)=>F .skip);intro _;conv=>rhs;reduce;simp
def zIy:CFn:=by apply (fun F(_:H1 187 F)=>F .skip);intro _;conv=>rhs;reduce;simp
def zH6:CC:=by apply (fun F(_:K1 188 0 F)=>F .skip);intro _;conv=>rhs;reduce;simp
def zIB:CFn:=by apply (fun F(_:H1 188 F)=>F zH6);intro _;conv=>rhs;reduce;simp
def zHx:CC:=by apply (fun F(_:K1 189 0 F)=>F .skip);intro _;conv=>rhs;reduce;simp
def zHJ:CFn:=by apply (fun F(_:H1 189 F)=>F zHx);intro _;conv=>rhs;reduce;simp
def zIG:CFn:=by apply (fun F(_:H1 190 F)=>F .skip);intro _;conv=>rhs;reduce;simp
def zh3:CC:=by apply (fun F(_:K1 191 0 F)=>F .skip);intro _;conv=>rhs;reduce;simp
def zjo:CFn:=by apply (fun F(_:H1 191 F)=>F zh3);intro _;conv=>rhs;reduce;simp
def zoi:CC:=by apply (fun F(_:K1 192 0 F)=>F .skip);intro _;conv=>rhs;reduce;simp
abbrev zaw:Nat:=192
def zrG:CFn:=by apply (fun F(_:H1 192 F)=>F zoi);intro _;conv=>rhs;reduce;simp
def zTg:CC:=by apply (fun F(_:K1 193 0 F)=>F .skip);intro _;conv=>rhs;reduce;simp
def zTf:CC:=by apply (fun F(_:K1 193 1 F)=>F zTg);intro _;conv=>rhs;reduce;simp
abbrev zKz:Nat:=193
def zTh:CFn:=by apply (fun F(_:H2 193 F)=>F zTg zTf);intro _ _;conv=>rhs;reduce;simp
def zHf:CC:=by apply (fun F(_:K1 194 0 F)=>F .skip);intro _;conv=>rhs;reduce;simp
def zTm:CC:=by apply (fun F(_:K1 194 1 F)=>F zHf);intro _;conv=>rhs;reduce;simp
def zTl:CC:=by apply (fun F(_:K2 194 2 F)=>F zHf zTm);intro _ _;conv=>rhs;reduce;simp
def zTk:CC:=by apply (fun F(_:K3 194 3 F)=>F zHf zTm zTl);intro _ _ _;conv=>rhs;reduce;simp
def zTj:CC:=by apply (fun F(_:K4 194 4 F)=>F zHf zTm zTl zTk);intro _ _ _ _;conv=>rhs;reduce;simp
def zHl:CFn:=by apply (fun F(_:H5 194 F)=>F zHf zTm zTl zTk zTj);intro _ _ _ _ _;conv=>rhs;reduce;simp
def zdn:CC:=by apply (fun F(_:K1 195 0 F)=>F .skip);intro _;conv=>rhs;reduce;simp
abbrev zmR:Nat:=195
def zed:CFn:=by apply (fun F(_:H1 195 F)=>F zdn);intro _;conv=>rhs;reduce;simp
def zb7:CC:=by apply (fun F(_:K1 196 0 F)=>F .skip);intro _;conv=>rhs;reduce;simp
abbrev zgV:Nat:=196
def za9:CFn:=by apply (fun F(_:H1 196 F)=>F zb7);intro _;conv=>rhs;reduce;simp
abbrev zhP:Nat:=197
def zfG:CFn:=by apply (fun F(_:H1 197 F)=>F .skip);intro _;conv=>rhs;reduce;simp
abbrev znw:Nat:=198
def zeH:CFn:=by apply (fun F(_:H1 198 F)=>F .skip);intro _;conv=>rhs;reduce;simp
abbrev zbb:Nat:=199
abbrev zar:Nat:=200
def zjq:CFn:=by apply (fun F(_:H1 200 F)=>F .skip);intro _;conv=>rhs;reduce;simp
def zfv:CC:=by apply (fun F(_:K1 201 0 F)=>F .skip);intro _;conv=>rhs;reduce;simp
abbrev zsj:Nat:=201
def zeQ:CFn:=by apply (fun F(_:H1 201 F)=>F zfv);intro _;conv=>rhs;reduce;simp
def zbU:CC:=(sQ (sQ (rH 0 29 [bn .lss 5 4] [32,3,5,0,4])
 (cD 32 .skip
 (.exit 2)))
 (sQ (.block 3 (sQ (rH 0 35 [aa 4 4 5,j 4 39,m 4,ii .sub 5 1,a 4 39 41,j 3 38,t 4 37,j 8 43,t 4 42,o (.eqa true [false,false,false,true] (.s 38) (.s 43))] [44,3,5,0,4])
 (cD 44 (sQ (rH 0 45 [m 0,m 3,aa 4 4 5,t 4 49,a 4 45 46,w 4 51 50] [3,5,0,4])
 (rH 0 52 [inc 3] [5,3,0,4]))
 .skip)))
 (rH 0 33 [inc 5] [3,5,0,4])))
def zaF:CC:=(sQ (sQ (rH 0 10 [bn .lss 3 0] [13,3,0])
 (cD 13 .skip
 (.exit 0)))
 (sQ (.block 1 (sQ (rH 0 16 [aa 4 0 3,j 4 20,m 0,ii .sub 3 1,a 4 20 22,j 3 19,t 4 18,j 8 24,t 4 23,o (.eqa false [false,false,false,true] (.s 19) (.s 24))] [25,3,0])
 (cD 25 (sQ (rH 0 26 [m 0,m 3,o (.slice 4 (.s 26) (some (.s 27)) none none),q 4 28] [3,0,4])
 (sQ (sQ (rH 0 5 [v 1] [3,5,0,4])
 (.block 2 (.loop (some [3,5,0,4]) zbU)))
 (sQ (rH 0 54 [m 0,m 3,o (.slice 4 (.s 54) (some (.s 55)) none none),z (.clear [(I 0),(I 0),(I 0),(.bool false)] (.s 56))] [0,3])
 (sQ (rH 0 57 [m 0,m 3,o (.slice 4 (.s 57) none (some (.s 58)) none),q 2 59] [2])
 .ret))))
 .skip)))
 (rH 0 14 [inc 3] [3,0])))
abbrev zeD:Nat:=202
def zbk:CFn:=fF false none 1 61 [(.slot 2)]
 (sQ (rH 1 2 [o (.ko 0 4)] [0])
  (sQ (sQ (rH 0 6 [k .lss 0 2] [8,0])
  (cD 8 (sQ (rH 0 9 [p 2 0] [2])
  .ret)
  .skip))
  (sQ (sQ (rH 0 3 [v 1] [3,0])
  (.block 0 (.loop (some [3,0]) zaF)))
  (sQ (rH 0 60 [p 2 0] [2])
  .ret))))
def zHw:CC:=by apply (fun F(_:K1 203 0 F)=>F .skip);intro _;conv=>rhs;reduce;simp
abbrev zLd:Nat:=203
def zHI:CFn:=by apply (fun F(_:H1 203 F)=>F zHw);intro _;conv=>rhs;reduce;simp
abbrev zKG:Nat:=204
def zHU:CFn:=by apply (fun F(_:H1 204 F)=>F .skip);intro _;conv=>rhs;reduce;simp
abbrev zKR:Nat:=205
def zHt:CFn:=by apply (fun F(_:H1 205 F)=>F .skip);intro _;conv=>rhs;reduce;simp
end
end Go.TrRun
