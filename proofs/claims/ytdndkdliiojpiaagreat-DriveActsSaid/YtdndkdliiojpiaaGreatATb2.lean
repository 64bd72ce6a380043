/- This text lists functions of this seat's program, compiled for the evaluator; no condition. -/
import Derived.Test.YtdndkdliiojpiaaGreatATb1
set_option linter.unusedVariables false
namespace Go.TrRun
open Go Go.Eng Go.Eng.Ins Go.Proofs
set_option maxRecDepth 100000
set_option maxHeartbeats 0
noncomputable section
def ZqD:CC:=by apply (fun F(_:K1 6 0 F)=>F .skip);intro _;conv=>rhs;reduce;simp
abbrev ZqF:Nat:=6
def ZqE:CFn:=by apply (fun F(_:H1 6 F)=>F ZqD);intro _;conv=>rhs;reduce;simp
def ZoD:CC:=by apply (fun F(_:K1 9 0 F)=>F .skip);intro _;conv=>rhs;reduce;simp
def ZoC:CC:=by apply (fun F(_:K1 9 1 F)=>F ZoD);intro _;conv=>rhs;reduce;simp
abbrev ZoI:Nat:=9
def ZoB:CFn:=by apply (fun F(_:H2 9 F)=>F ZoD ZoC);intro _ _;conv=>rhs;reduce;simp
abbrev ZlH:Nat:=10
def Zin:CFn:=by apply (fun F(_:H1 10 F)=>F .skip);intro _;conv=>rhs;reduce;simp
abbrev ZlW:Nat:=11
def Zjz:CFn:=by apply (fun F(_:H1 11 F)=>F .skip);intro _;conv=>rhs;reduce;simp
def Zoy:CC:=by apply (fun F(_:K1 13 0 F)=>F .skip);intro _;conv=>rhs;reduce;simp
def Zox:CC:=by apply (fun F(_:K1 13 1 F)=>F Zoy);intro _;conv=>rhs;reduce;simp
def Zow:CC:=by apply (fun F(_:K2 13 2 F)=>F Zoy Zox);intro _ _;conv=>rhs;reduce;simp
abbrev ZoG:Nat:=13
def ZoF:CFn:=by apply (fun F(_:H3 13 F)=>F Zoy Zox Zow);intro _ _ _;conv=>rhs;reduce;simp
abbrev Zmw:Nat:=14
def Zjn:CFn:=by apply (fun F(_:H1 14 F)=>F .skip);intro _;conv=>rhs;reduce;simp
abbrev zny:Nat:=16
def zeK:CFn:=by apply (fun F(_:H1 16 F)=>F .skip);intro _;conv=>rhs;reduce;simp
def zj:CC:=by apply (fun F(_:K1 17 0 F)=>F .skip);intro _;conv=>rhs;reduce;simp
abbrev Zh5:Nat:=17
def ZhG:CFn:=by apply (fun F(_:H1 17 F)=>F zj);intro _;conv=>rhs;reduce;simp
abbrev ZlS:Nat:=18
def Zjb:CFn:=by apply (fun F(_:H1 18 F)=>F .skip);intro _;conv=>rhs;reduce;simp
abbrev ZlI:Nat:=23
def Zil:CFn:=by apply (fun F(_:H1 23 F)=>F .skip);intro _;conv=>rhs;reduce;simp
abbrev ZqK:Nat:=26
def ZqG:CFn:=by apply (fun F(_:H1 26 F)=>F .skip);intro _;conv=>rhs;reduce;simp
abbrev zEd:Nat:=27
def zDP:CFn:=by apply (fun F(_:H1 27 F)=>F .skip);intro _;conv=>rhs;reduce;simp
abbrev zGj:Nat:=28
def zFQ:CFn:=by apply (fun F(_:H1 28 F)=>F .skip);intro _;conv=>rhs;reduce;simp
abbrev ZqM:Nat:=29
def ZqH:CFn:=by apply (fun F(_:H1 29 F)=>F .skip);intro _;conv=>rhs;reduce;simp
def zDR:CFn:=by apply (fun F(_:H1 30 F)=>F .skip);intro _;conv=>rhs;reduce;simp
abbrev Zn7:Nat:=34
def Zim:CFn:=by apply (fun F(_:H1 34 F)=>F .skip);intro _;conv=>rhs;reduce;simp
abbrev Zoa:Nat:=35
def ZiM:CFn:=by apply (fun F(_:H1 35 F)=>F .skip);intro _;conv=>rhs;reduce;simp
abbrev Zmd:Nat:=36
def ZiX:CFn:=by apply (fun F(_:H1 36 F)=>F .skip);intro _;conv=>rhs;reduce;simp
abbrev Zmv:Nat:=37
def Zjm:CFn:=by apply (fun F(_:H1 37 F)=>F .skip);intro _;conv=>rhs;reduce;simp
def zc6:CC:=by apply (fun F(_:K1 38 0 F)=>F .skip);intro _;conv=>rhs;reduce;simp
def ze5:CC:=by apply (fun F(_:K1 38 1 F)=>F zc6);intro _;conv=>rhs;reduce;simp
abbrev zrj:Nat:=38
def ziv:CFn:=by apply (fun F(_:H2 38 F)=>F zc6 ze5);intro _ _;conv=>rhs;reduce;simp
abbrev Zjk:Nat:=39
def ZhN:CFn:=by apply (fun F(_:H1 39 F)=>F .skip);intro _;conv=>rhs;reduce;simp
def zrB:CC:=by apply (fun F(_:K1 40 0 F)=>F .skip);intro _;conv=>rhs;reduce;simp
abbrev Zm1:Nat:=40
def zvB:CFn:=by apply (fun F(_:H1 40 F)=>F zrB);intro _;conv=>rhs;reduce;simp
abbrev Zh3:Nat:=41
def ZhE:CFn:=by apply (fun F(_:H1 41 F)=>F .skip);intro _;conv=>rhs;reduce;simp
def ZlA:CC:=by apply (fun F(_:K1 42 0 F)=>F .skip);intro _;conv=>rhs;reduce;simp
def Zlz:CC:=by apply (fun F(_:K1 42 1 F)=>F ZlA);intro _;conv=>rhs;reduce;simp
abbrev Zhz:Nat:=42
def Zhs:CFn:=by apply (fun F(_:H2 42 F)=>F ZlA Zlz);intro _ _;conv=>rhs;reduce;simp
def zn2:CC:=by apply (fun F(_:K1 43 0 F)=>F .skip);intro _;conv=>rhs;reduce;simp
def znM:CC:=by apply (fun F(_:K1 43 1 F)=>F zn2);intro _;conv=>rhs;reduce;simp
def znK:CC:=by apply (fun F(_:K2 43 2 F)=>F zn2 znM);intro _ _;conv=>rhs;reduce;simp
abbrev Zh4:Nat:=43
def ZhF:CFn:=by apply (fun F(_:H3 43 F)=>F zn2 znM znK);intro _ _ _;conv=>rhs;reduce;simp
def Zhc:CC:=by apply (fun F(_:K1 44 0 F)=>F .skip);intro _;conv=>rhs;reduce;simp
abbrev ZhW:Nat:=44
def Zhr:CFn:=by apply (fun F(_:H1 44 F)=>F Zhc);intro _;conv=>rhs;reduce;simp
abbrev zGR:Nat:=45
def zGa:CFn:=by apply (fun F(_:H1 45 F)=>F .skip);intro _;conv=>rhs;reduce;simp
abbrev zZq:Nat:=46
def zul:CFn:=by apply (fun F(_:H1 46 F)=>F .skip);intro _;conv=>rhs;reduce;simp
abbrev zY:Nat:=47
def zZ:CFn:=by apply (fun F(_:H1 47 F)=>F .skip);intro _;conv=>rhs;reduce;simp
def zDD:CC:=by apply (fun F(_:K1 48 0 F)=>F .skip);intro _;conv=>rhs;reduce;simp
abbrev zD3:Nat:=48
def zDK:CFn:=by apply (fun F(_:H1 48 F)=>F zDD);intro _;conv=>rhs;reduce;simp
abbrev zGe:Nat:=50
def zFN:CFn:=by apply (fun F(_:H1 50 F)=>F .skip);intro _;conv=>rhs;reduce;simp
abbrev zUj:Nat:=51
abbrev ZqT:Nat:=52
def zGO:CFn:=by apply (fun F(_:H1 52 F)=>F .skip);intro _;conv=>rhs;reduce;simp
def zDW:CFn:=by apply (fun F(_:H1 53 F)=>F .skip);intro _;conv=>rhs;reduce;simp
def zen:CFn:=by apply (fun F(_:H1 54 F)=>F .skip);intro _;conv=>rhs;reduce;simp
def zmh:CFn:=by apply (fun F(_:H1 57 F)=>F .skip);intro _;conv=>rhs;reduce;simp
def zbP:CC:=by apply (fun F(_:K1 58 0 F)=>F .skip);intro _;conv=>rhs;reduce;simp
abbrev zjl:Nat:=58
def zjp:CFn:=by apply (fun F(_:H1 58 F)=>F zbP);intro _;conv=>rhs;reduce;simp
abbrev zNA:Nat:=59
def zIV:CFn:=by apply (fun F(_:H1 59 F)=>F .skip);intro _;conv=>rhs;reduce;simp
def za8:CC:=by apply (fun F(_:K1 60 0 F)=>F .skip);intro _;conv=>rhs;reduce;simp
abbrev znv:Nat:=60
def zbl:CFn:=by apply (fun F(_:H1 60 F)=>F za8);intro _;conv=>rhs;reduce;simp
def Zja:CC:=by apply (fun F(_:K1 61 0 F)=>F .skip);intro _;conv=>rhs;reduce;simp
def Zi9:CC:=by apply (fun F(_:K1 61 1 F)=>F Zja);intro _;conv=>rhs;reduce;simp
abbrev ZmL:Nat:=61
def ZjK:CFn:=by apply (fun F(_:H2 61 F)=>F Zja Zi9);intro _ _;conv=>rhs;reduce;simp
end
end Go.TrRun
