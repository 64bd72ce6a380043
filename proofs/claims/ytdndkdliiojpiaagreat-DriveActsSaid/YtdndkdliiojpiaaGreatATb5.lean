/- This text lists functions of this seat's program, compiled for the evaluator; no condition. -/
import Derived.Test.YtdndkdliiojpiaaGreatATb1
set_option linter.unusedVariables false
namespace Go.TrRun
open Go Go.Eng Go.Eng.Ins Go.Proofs
set_option maxRecDepth 100000
set_option maxHeartbeats 0
noncomputable section
def zhs:CC:=by apply (fun F(_:K1 145 0 F)=>F .skip);intro _;conv=>rhs;reduce;simp
def zhr:CC:=by apply (fun F(_:K1 145 1 F)=>F zhs);intro _;conv=>rhs;reduce;simp
abbrev zJ:Nat:=145
def ziw:CFn:=by apply (fun F(_:H2 145 F)=>F zhs zhr);intro _ _;conv=>rhs;reduce;simp
abbrev zfh:Nat:=146
def zdF:CFn:=by apply (fun F(_:H1 146 F)=>F .skip);intro _;conv=>rhs;reduce;simp
def ziz:CC:=by apply (fun F(_:K1 147 0 F)=>F .skip);intro _;conv=>rhs;reduce;simp
def zjZ:CFn:=by apply (fun F(_:H1 147 F)=>F ziz);intro _;conv=>rhs;reduce;simp
abbrev zre:Nat:=148
def zgL:CFn:=by apply (fun F(_:H1 148 F)=>F .skip);intro _;conv=>rhs;reduce;simp
def zo3:CC:=by apply (fun F(_:K1 149 0 F)=>F .skip);intro _;conv=>rhs;reduce;simp
abbrev zsk:Nat:=149
def zsm:CFn:=by apply (fun F(_:H1 149 F)=>F zo3);intro _;conv=>rhs;reduce;simp
def zoe:CC:=by apply (fun F(_:K1 150 0 F)=>F .skip);intro _;conv=>rhs;reduce;simp
def zrC:CFn:=by apply (fun F(_:H1 150 F)=>F zoe);intro _;conv=>rhs;reduce;simp
abbrev zap:Nat:=151
def zh4:CFn:=by apply (fun F(_:H1 151 F)=>F .skip);intro _;conv=>rhs;reduce;simp
abbrev zc0:Nat:=152
def zjV:CFn:=by apply (fun F(_:H1 152 F)=>F .skip);intro _;conv=>rhs;reduce;simp
abbrev zcZ:Nat:=153
def zjU:CFn:=by apply (fun F(_:H1 153 F)=>F .skip);intro _;conv=>rhs;reduce;simp
def zHy:CFn:=by apply (fun F(_:H1 154 F)=>F .skip);intro _;conv=>rhs;reduce;simp
def zIs:CFn:=by apply (fun F(_:H1 155 F)=>F .skip);intro _;conv=>rhs;reduce;simp
def zIe:CC:=by apply (fun F(_:K1 156 0 F)=>F .skip);intro _;conv=>rhs;reduce;simp
def zIJ:CFn:=by apply (fun F(_:H1 156 F)=>F zIe);intro _;conv=>rhs;reduce;simp
def zHD:CFn:=by apply (fun F(_:H1 157 F)=>F .skip);intro _;conv=>rhs;reduce;simp
def zH4:CFn:=by apply (fun F(_:H1 158 F)=>F .skip);intro _;conv=>rhs;reduce;simp
def zIP:CFn:=by apply (fun F(_:H1 159 F)=>F .skip);intro _;conv=>rhs;reduce;simp
def zIr:CC:=by apply (fun F(_:K1 160 0 F)=>F .skip);intro _;conv=>rhs;reduce;simp
def zIq:CC:=by apply (fun F(_:K1 160 1 F)=>F zIr);intro _;conv=>rhs;reduce;simp
def zIp:CC:=by apply (fun F(_:K2 160 2 F)=>F zIr zIq);intro _ _;conv=>rhs;reduce;simp
def zIO:CFn:=by apply (fun F(_:H3 160 F)=>F zIr zIq zIp);intro _ _ _;conv=>rhs;reduce;simp
def zIz:CFn:=by apply (fun F(_:H1 161 F)=>F .skip);intro _;conv=>rhs;reduce;simp
def zIT:CFn:=by apply (fun F(_:H1 162 F)=>F .skip);intro _;conv=>rhs;reduce;simp
def zIt:CFn:=by apply (fun F(_:H1 163 F)=>F .skip);intro _;conv=>rhs;reduce;simp
def zH5:CFn:=by apply (fun F(_:H1 164 F)=>F .skip);intro _;conv=>rhs;reduce;simp
def za7:CC:=by apply (fun F(_:K1 165 0 F)=>F .skip);intro _;conv=>rhs;reduce;simp
abbrev zf1:Nat:=165
def zcI:CFn:=by apply (fun F(_:H1 165 F)=>F za7);intro _;conv=>rhs;reduce;simp
abbrev zKK:Nat:=166
def zHn:CFn:=by apply (fun F(_:H1 166 F)=>F .skip);intro _;conv=>rhs;reduce;simp
abbrev zLe:Nat:=167
def zIu:CFn:=by apply (fun F(_:H1 167 F)=>F .skip);intro _;conv=>rhs;reduce;simp
def zab:CC:=by apply (fun F(_:K1 168 0 F)=>F .skip);intro _;conv=>rhs;reduce;simp
abbrev zob:Nat:=168
def zfw:CFn:=by apply (fun F(_:H1 168 F)=>F zab);intro _;conv=>rhs;reduce;simp
abbrev zhQ:Nat:=169
def zbq:CFn:=by apply (fun F(_:H1 169 F)=>F .skip);intro _;conv=>rhs;reduce;simp
abbrev zi6:Nat:=170
def zb3:CFn:=by apply (fun F(_:H1 170 F)=>F .skip);intro _;conv=>rhs;reduce;simp
abbrev ZmS:Nat:=171
def ZjU:CFn:=by apply (fun F(_:H1 171 F)=>F .skip);intro _;conv=>rhs;reduce;simp
abbrev Zl4:Nat:=172
abbrev ZlY:Nat:=173
def zoi:CC:=by apply (fun F(_:K1 174 0 F)=>F .skip);intro _;conv=>rhs;reduce;simp
abbrev zaw:Nat:=174
def zrG:CFn:=by apply (fun F(_:H1 174 F)=>F zoi);intro _;conv=>rhs;reduce;simp
abbrev znx:Nat:=175
def zf9:CFn:=by apply (fun F(_:H1 175 F)=>F .skip);intro _;conv=>rhs;reduce;simp
def zW6:CC:=by apply (fun F(_:K1 176 0 F)=>F .skip);intro _;conv=>rhs;reduce;simp
def zWH:CC:=by apply (fun F(_:K1 176 1 F)=>F zW6);intro _;conv=>rhs;reduce;simp
def zWT:CC:=by apply (fun F(_:K2 176 2 F)=>F zW6 zWH);intro _ _;conv=>rhs;reduce;simp
abbrev zY5:Nat:=176
def zXH:CFn:=by apply (fun F(_:H3 176 F)=>F zW6 zWH zWT);intro _ _ _;conv=>rhs;reduce;simp
def zWS:CC:=by apply (fun F(_:K1 177 0 F)=>F .skip);intro _;conv=>rhs;reduce;simp
def zW4:CC:=by apply (fun F(_:K1 177 1 F)=>F zWS);intro _;conv=>rhs;reduce;simp
abbrev zY4:Nat:=177
def zXG:CFn:=by apply (fun F(_:H2 177 F)=>F zWS zW4);intro _ _;conv=>rhs;reduce;simp
def zW9:CC:=by apply (fun F(_:K1 178 0 F)=>F .skip);intro _;conv=>rhs;reduce;simp
abbrev zZp:Nat:=178
def zXY:CFn:=by apply (fun F(_:H1 178 F)=>F zW9);intro _;conv=>rhs;reduce;simp
abbrev zXA:Nat:=179
def zWP:CFn:=by apply (fun F(_:H1 179 F)=>F .skip);intro _;conv=>rhs;reduce;simp
abbrev zWL:Nat:=180
def zW5:CFn:=by apply (fun F(_:H1 180 F)=>F .skip);intro _;conv=>rhs;reduce;simp
def zWQ:CC:=by apply (fun F(_:K1 181 0 F)=>F .skip);intro _;conv=>rhs;reduce;simp
abbrev zYV:Nat:=181
def zXf:CFn:=by apply (fun F(_:H1 181 F)=>F zWQ);intro _;conv=>rhs;reduce;simp
def zWO:CC:=by apply (fun F(_:K1 182 0 F)=>F .skip);intro _;conv=>rhs;reduce;simp
abbrev zYK:Nat:=182
def zXr:CFn:=by apply (fun F(_:H1 182 F)=>F zWO);intro _;conv=>rhs;reduce;simp
abbrev z8j:Nat:=183
def z70:CFn:=by apply (fun F(_:H1 183 F)=>F .skip);intro _;conv=>rhs;reduce;simp
abbrev z8t:Nat:=184
def z71:CFn:=by apply (fun F(_:H1 184 F)=>F .skip);intro _;conv=>rhs;reduce;simp
def zW8:CC:=by apply (fun F(_:K1 185 0 F)=>F .skip);intro _;conv=>rhs;reduce;simp
abbrev zZo:Nat:=185
def zXX:CFn:=by apply (fun F(_:H1 185 F)=>F zW8);intro _;conv=>rhs;reduce;simp
end
end Go.TrRun
