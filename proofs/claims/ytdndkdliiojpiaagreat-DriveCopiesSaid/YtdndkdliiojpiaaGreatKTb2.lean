/- This text lists functions of this seat's program, compiled for the evaluator; no condition. -/
import Derived.Test.YtdndkdliiojpiaaGreatKTb1
set_option linter.unusedVariables false
namespace Go.TrRun
open Go Go.Eng Go.Eng.Ins Go.Proofs
set_option maxRecDepth 100000
set_option maxHeartbeats 0
noncomputable section
def ZrJ:CC:=(K1 8 0) .skip
def z7:CC:=(K1 8 1) ZrJ
def z6:CC:=(K2 8 2) ZrJ z7
abbrev ZrM:Nat:=8
def z5:CFn:=(H3 8) ZrJ z7 z6
def ZoD:CC:=(K1 9 0) .skip
def ZoC:CC:=(K1 9 1) ZoD
abbrev ZoI:Nat:=9
def ZoB:CFn:=(H2 9) ZoD ZoC
abbrev ZlH:Nat:=10
def Zin:CFn:=(H1 10) .skip
abbrev ZlW:Nat:=11
def Zjz:CFn:=(H1 11) .skip
def Zoy:CC:=(K1 13 0) .skip
def Zox:CC:=(K1 13 1) Zoy
def Zow:CC:=(K2 13 2) Zoy Zox
abbrev ZoG:Nat:=13
def ZoF:CFn:=(H3 13) Zoy Zox Zow
abbrev Zmw:Nat:=14
def Zjn:CFn:=(H1 14) .skip
abbrev zny:Nat:=16
def zeK:CFn:=(H1 16) .skip
def zj:CC:=(K1 17 0) .skip
abbrev Zh5:Nat:=17
def ZhG:CFn:=(H1 17) zj
abbrev ZlS:Nat:=18
def Zjb:CFn:=(H1 18) .skip
abbrev ZlI:Nat:=23
def Zil:CFn:=(H1 23) .skip
abbrev zEd:Nat:=27
def zDP:CFn:=(H1 27) .skip
def zDR:CFn:=(H1 30) .skip
abbrev Zr1:Nat:=31
def ZrU:CFn:=(H1 31) .skip
def ZrL:CC:=(K1 32 0) .skip
def ZrK:CC:=(K1 32 1) ZrL
def ZrO:CC:=(K2 32 2) ZrL ZrK
abbrev ZrQ:Nat:=32
def ZrR:CFn:=(H3 32) ZrL ZrK ZrO
abbrev Zr0:Nat:=33
def ZrT:CFn:=(H1 33) .skip
abbrev Zn7:Nat:=34
def Zim:CFn:=(H1 34) .skip
abbrev Zoa:Nat:=35
def ZiM:CFn:=(H1 35) .skip
abbrev Zmd:Nat:=36
def ZiX:CFn:=(H1 36) .skip
abbrev Zmv:Nat:=37
def Zjm:CFn:=(H1 37) .skip
def zc6:CC:=(K1 38 0) .skip
def ze5:CC:=(K1 38 1) zc6
abbrev zrj:Nat:=38
def ziv:CFn:=(H2 38) zc6 ze5
abbrev Zjk:Nat:=39
def ZhN:CFn:=(H1 39) .skip
def zrB:CC:=(K1 40 0) .skip
abbrev Zm1:Nat:=40
def zvB:CFn:=(H1 40) zrB
abbrev Zh3:Nat:=41
def ZhE:CFn:=(H1 41) .skip
def ZlA:CC:=(K1 42 0) .skip
def Zlz:CC:=(K1 42 1) ZlA
abbrev Zhz:Nat:=42
def Zhs:CFn:=(H2 42) ZlA Zlz
def zn2:CC:=(K1 43 0) .skip
def znM:CC:=(K1 43 1) zn2
def znK:CC:=(K2 43 2) zn2 znM
abbrev Zh4:Nat:=43
def ZhF:CFn:=(H3 43) zn2 znM znK
def Zhc:CC:=(K1 44 0) .skip
abbrev ZhW:Nat:=44
def Zhr:CFn:=(H1 44) Zhc
abbrev zGR:Nat:=45
def zGa:CFn:=(H1 45) .skip
abbrev zZq:Nat:=46
def zul:CFn:=(H1 46) .skip
abbrev zY:Nat:=47
def zZ:CFn:=(H1 47) .skip
def zDD:CC:=(K1 48 0) .skip
abbrev zD3:Nat:=48
def zDK:CFn:=(H1 48) zDD
abbrev zGe:Nat:=50
def zFN:CFn:=(H1 50) .skip
abbrev zUj:Nat:=51
def zDW:CFn:=(H1 53) .skip
def zen:CFn:=(H1 54) .skip
abbrev Zsb:Nat:=55
def ZrS:CFn:=(H1 55) .skip
abbrev ZrN:Nat:=56
def zmh:CFn:=(H1 57) .skip
def zbP:CC:=(K1 58 0) .skip
abbrev zjl:Nat:=58
def zjp:CFn:=(H1 58) zbP
abbrev zNA:Nat:=59
def zIV:CFn:=(H1 59) .skip
end
end Go.TrRun
