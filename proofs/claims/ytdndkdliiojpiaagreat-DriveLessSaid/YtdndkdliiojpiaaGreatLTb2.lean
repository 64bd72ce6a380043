/- This text lists functions of this seat's program, compiled for the evaluator; no condition. -/
import Derived.Test.YtdndkdliiojpiaaGreatLTb1
set_option linter.unusedVariables false
namespace Go.TrRun
open Go Go.Eng Go.Eng.Ins Go.Proofs
set_option maxRecDepth 100000
set_option maxHeartbeats 0
noncomputable section
def Zrg:CC:=(K1 3 0) .skip
abbrev Zrl:Nat:=3
def Zrj:CFn:=(H1 3) Zrg
def ZoD:CC:=(K1 9 0) .skip
def ZoC:CC:=(K1 9 1) ZoD
abbrev ZoI:Nat:=9
def ZoB:CFn:=(H2 9) ZoD ZoC
abbrev ZlH:Nat:=10
def Zin:CFn:=(H1 10) .skip
abbrev ZlW:Nat:=11
def Zjz:CFn:=(H1 11) .skip
abbrev Zrn:Nat:=12
def Zrm:CFn:=(H1 12) .skip
def Zoy:CC:=(K1 13 0) .skip
def Zox:CC:=(K1 13 1) Zoy
def Zow:CC:=(K2 13 2) Zoy Zox
abbrev ZoG:Nat:=13
def ZoF:CFn:=(H3 13) Zoy Zox Zow
abbrev Zmw:Nat:=14
def Zjn:CFn:=(H1 14) .skip
abbrev Zrk:Nat:=15
def Zrh:CFn:=(H1 15) .skip
abbrev zny:Nat:=16
def zeK:CFn:=(H1 16) .skip
def zj:CC:=(K1 17 0) .skip
abbrev Zh5:Nat:=17
def ZhG:CFn:=(H1 17) zj
abbrev ZlS:Nat:=18
def Zjb:CFn:=(H1 18) .skip
def zWA:CC:=(K1 19 0) .skip
def z2P:CC:=(K1 19 1) zWA
abbrev zXL:Nat:=19
def zWt:CFn:=(H2 19) zWA z2P
abbrev Zml:Nat:=20
def Zjc:CFn:=(H1 20) .skip
abbrev ZlI:Nat:=23
def Zil:CFn:=(H1 23) .skip
abbrev zEd:Nat:=27
def zDP:CFn:=(H1 27) .skip
def zDR:CFn:=(H1 30) .skip
abbrev Zn7:Nat:=34
def Zim:CFn:=(H1 34) .skip
abbrev Zoa:Nat:=35
def ZiM:CFn:=(H1 35) .skip
abbrev Zmd:Nat:=36
def ZiX:CFn:=(H1 36) .skip
abbrev Zmv:Nat:=37
def Zjm:CFn:=(H1 37) .skip
def zc6:CC:=(K1 38 0) .skip
def ze5:CC:=(K1 38 1) zc6
abbrev zrj:Nat:=38
def ziv:CFn:=(H2 38) zc6 ze5
abbrev Zjk:Nat:=39
def ZhN:CFn:=(H1 39) .skip
def zrB:CC:=(K1 40 0) .skip
abbrev Zm1:Nat:=40
def zvB:CFn:=(H1 40) zrB
abbrev Zh3:Nat:=41
def ZhE:CFn:=(H1 41) .skip
def ZlA:CC:=(K1 42 0) .skip
def Zlz:CC:=(K1 42 1) ZlA
abbrev Zhz:Nat:=42
def Zhs:CFn:=(H2 42) ZlA Zlz
def zn2:CC:=(K1 43 0) .skip
def znM:CC:=(K1 43 1) zn2
def znK:CC:=(K2 43 2) zn2 znM
abbrev Zh4:Nat:=43
def ZhF:CFn:=(H3 43) zn2 znM znK
def Zhc:CC:=(K1 44 0) .skip
abbrev ZhW:Nat:=44
def Zhr:CFn:=(H1 44) Zhc
abbrev zGR:Nat:=45
def zGa:CFn:=(H1 45) .skip
abbrev zZq:Nat:=46
def zul:CFn:=(H1 46) .skip
abbrev zY:Nat:=47
def zZ:CFn:=(H1 47) .skip
def zDD:CC:=(K1 48 0) .skip
abbrev zD3:Nat:=48
def zDK:CFn:=(H1 48) zDD
abbrev zGe:Nat:=50
def zFN:CFn:=(H1 50) .skip
abbrev zUj:Nat:=51
def zDW:CFn:=(H1 53) .skip
def zen:CFn:=(H1 54) .skip
def zmh:CFn:=(H1 57) .skip
def zbP:CC:=(K1 58 0) .skip
abbrev zjl:Nat:=58
def zjp:CFn:=(H1 58) zbP
abbrev zNA:Nat:=59
def zIV:CFn:=(H1 59) .skip
def za8:CC:=(K1 60 0) .skip
abbrev znv:Nat:=60
def zbl:CFn:=(H1 60) za8
def Zja:CC:=(K1 61 0) .skip
def Zi9:CC:=(K1 61 1) Zja
abbrev ZmL:Nat:=61
def ZjK:CFn:=(H2 61) Zja Zi9
end
end Go.TrRun
