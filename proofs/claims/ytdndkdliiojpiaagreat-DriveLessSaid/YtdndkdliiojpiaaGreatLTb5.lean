/- This text lists functions of this seat's program, compiled for the evaluator; no condition. -/
import Derived.Test.YtdndkdliiojpiaaGreatLTb1
set_option linter.unusedVariables false
namespace Go.TrRun
open Go Go.Eng Go.Eng.Ins Go.Proofs
set_option maxRecDepth 100000
set_option maxHeartbeats 0
noncomputable section
def zhs:CC:=(K1 145 0) .skip
def zhr:CC:=(K1 145 1) zhs
abbrev zJ:Nat:=145
def ziw:CFn:=(H2 145) zhs zhr
abbrev zfh:Nat:=146
def zdF:CFn:=(H1 146) .skip
def ziz:CC:=(K1 147 0) .skip
def zjZ:CFn:=(H1 147) ziz
abbrev zre:Nat:=148
def zgL:CFn:=(H1 148) .skip
def zo3:CC:=(K1 149 0) .skip
abbrev zsk:Nat:=149
def zsm:CFn:=(H1 149) zo3
def zoe:CC:=(K1 150 0) .skip
def zrC:CFn:=(H1 150) zoe
abbrev zap:Nat:=151
def zh4:CFn:=(H1 151) .skip
abbrev zc0:Nat:=152
def zjV:CFn:=(H1 152) .skip
abbrev zcZ:Nat:=153
def zjU:CFn:=(H1 153) .skip
def zHy:CFn:=(H1 154) .skip
def zIs:CFn:=(H1 155) .skip
def zIe:CC:=(K1 156 0) .skip
def zIJ:CFn:=(H1 156) zIe
def zHD:CFn:=(H1 157) .skip
def zH4:CFn:=(H1 158) .skip
def zIP:CFn:=(H1 159) .skip
def zIr:CC:=(K1 160 0) .skip
def zIq:CC:=(K1 160 1) zIr
def zIp:CC:=(K2 160 2) zIr zIq
def zIO:CFn:=(H3 160) zIr zIq zIp
def zIz:CFn:=(H1 161) .skip
def zIT:CFn:=(H1 162) .skip
def zIt:CFn:=(H1 163) .skip
def zH5:CFn:=(H1 164) .skip
def za7:CC:=(K1 165 0) .skip
abbrev zf1:Nat:=165
def zcI:CFn:=(H1 165) za7
abbrev zKK:Nat:=166
def zHn:CFn:=(H1 166) .skip
abbrev zLe:Nat:=167
def zIu:CFn:=(H1 167) .skip
def zab:CC:=(K1 168 0) .skip
abbrev zob:Nat:=168
def zfw:CFn:=(H1 168) zab
abbrev zhQ:Nat:=169
def zbq:CFn:=(H1 169) .skip
abbrev zi6:Nat:=170
def zb3:CFn:=(H1 170) .skip
abbrev ZmS:Nat:=171
def ZjU:CFn:=(H1 171) .skip
abbrev Zl4:Nat:=172
abbrev ZlY:Nat:=173
def zoi:CC:=(K1 174 0) .skip
abbrev zaw:Nat:=174
def zrG:CFn:=(H1 174) zoi
abbrev znx:Nat:=175
def zf9:CFn:=(H1 175) .skip
def zW6:CC:=(K1 176 0) .skip
def zWH:CC:=(K1 176 1) zW6
def zWT:CC:=(K2 176 2) zW6 zWH
abbrev zY5:Nat:=176
def zXH:CFn:=(H3 176) zW6 zWH zWT
def zWS:CC:=(K1 177 0) .skip
def zW4:CC:=(K1 177 1) zWS
abbrev zY4:Nat:=177
def zXG:CFn:=(H2 177) zWS zW4
def zW9:CC:=(K1 178 0) .skip
abbrev zZp:Nat:=178
def zXY:CFn:=(H1 178) zW9
abbrev zXA:Nat:=179
def zWP:CFn:=(H1 179) .skip
abbrev zWL:Nat:=180
def zW5:CFn:=(H1 180) .skip
def zWQ:CC:=(K1 181 0) .skip
abbrev zYV:Nat:=181
def zXf:CFn:=(H1 181) zWQ
def zWO:CC:=(K1 182 0) .skip
abbrev zYK:Nat:=182
def zXr:CFn:=(H1 182) zWO
abbrev z8j:Nat:=183
def z70:CFn:=(H1 183) .skip
abbrev z8t:Nat:=184
def z71:CFn:=(H1 184) .skip
def zW8:CC:=(K1 185 0) .skip
abbrev zZo:Nat:=185
def zXX:CFn:=(H1 185) zW8
end
end Go.TrRun
