/- This text lists functions of this seat's program, compiled for the evaluator; no condition. -/
import Derived.Test.YtiakbjhnpchbhaaGreatTb1
set_option linter.unusedVariables false
namespace Go.TrRun
open Go Go.Eng Go.Eng.Ins Go.Proofs
set_option maxRecDepth 100000
set_option maxHeartbeats 0
noncomputable section
def z7C:CC:=by apply (fun F(_:K1 44 0 F)=>F .skip);intro _;conv=>rhs;reduce;simp
abbrev z2u:Nat:=44
def z2v:CFn:=by apply (fun F(_:H1 44 F)=>F z7C);intro _;conv=>rhs;reduce;simp
abbrev Zcp:Nat:=45
def ZbR:CFn:=by apply (fun F(_:H1 45 F)=>F .skip);intro _;conv=>rhs;reduce;simp
def z2L:CC:=by apply (fun F(_:K1 46 0 F)=>F .skip);intro _;conv=>rhs;reduce;simp
abbrev z3B:Nat:=46
def z24:CFn:=by apply (fun F(_:H1 46 F)=>F z2L);intro _;conv=>rhs;reduce;simp
def ZbF:CC:=by apply (fun F(_:K1 47 0 F)=>F .skip);intro _;conv=>rhs;reduce;simp
abbrev Zb2:Nat:=47
def ZbQ:CFn:=by apply (fun F(_:H1 47 F)=>F ZbF);intro _;conv=>rhs;reduce;simp
def z2U:CC:=by apply (fun F(_:K1 48 0 F)=>F .skip);intro _;conv=>rhs;reduce;simp
abbrev z3M:Nat:=48
def z2K:CFn:=by apply (fun F(_:H1 48 F)=>F z2U);intro _;conv=>rhs;reduce;simp
def Zbm:CC:=by apply (fun F(_:K1 49 0 F)=>F .skip);intro _;conv=>rhs;reduce;simp
abbrev Zcj:Nat:=49
def ZbO:CFn:=by apply (fun F(_:H1 49 F)=>F Zbm);intro _;conv=>rhs;reduce;simp
def z20:CC:=by apply (fun F(_:K1 50 0 F)=>F .skip);intro _;conv=>rhs;reduce;simp
abbrev z3H:Nat:=50
def z3n:CFn:=by apply (fun F(_:H1 50 F)=>F z20);intro _;conv=>rhs;reduce;simp
abbrev Zct:Nat:=51
def Zbz:CFn:=by apply (fun F(_:H1 51 F)=>F .skip);intro _;conv=>rhs;reduce;simp
abbrev zGF:Nat:=52
def zF3:CFn:=by apply (fun F(_:H1 52 F)=>F .skip);intro _;conv=>rhs;reduce;simp
abbrev zKQ:Nat:=53
def zF0:CFn:=by apply (fun F(_:H1 53 F)=>F .skip);intro _;conv=>rhs;reduce;simp
abbrev zLp:Nat:=54
def zGB:CFn:=by apply (fun F(_:H1 54 F)=>F .skip);intro _;conv=>rhs;reduce;simp
def zGp:CFn:=by apply (fun F(_:H1 55 F)=>F .skip);intro _;conv=>rhs;reduce;simp
def zGt:CC:=by apply (fun F(_:K1 56 0 F)=>F .skip);intro _;conv=>rhs;reduce;simp
def zGs:CC:=by apply (fun F(_:K1 56 1 F)=>F zGt);intro _;conv=>rhs;reduce;simp
def zGr:CC:=by apply (fun F(_:K2 56 2 F)=>F zGt zGs);intro _ _;conv=>rhs;reduce;simp
def zGz:CFn:=by apply (fun F(_:H3 56 F)=>F zGt zGs zGr);intro _ _ _;conv=>rhs;reduce;simp
def z2A:CC:=by apply (fun F(_:K1 57 0 F)=>F .skip);intro _;conv=>rhs;reduce;simp
def z2J:CC:=by apply (fun F(_:K1 57 1 F)=>F z2A);intro _;conv=>rhs;reduce;simp
abbrev z3y:Nat:=57
def z21:CFn:=by apply (fun F(_:H2 57 F)=>F z2A z2J);intro _ _;conv=>rhs;reduce;simp
def zDH:CC:=by apply (fun F(_:K1 58 0 F)=>F .skip);intro _;conv=>rhs;reduce;simp
abbrev zEb:Nat:=58
def zDO:CFn:=by apply (fun F(_:H1 58 F)=>F zDH);intro _;conv=>rhs;reduce;simp
def zDD:CC:=by apply (fun F(_:K1 59 0 F)=>F .skip);intro _;conv=>rhs;reduce;simp
abbrev zD3:Nat:=59
def zDK:CFn:=by apply (fun F(_:H1 59 F)=>F zDD);intro _;conv=>rhs;reduce;simp
abbrev zDU:Nat:=60
def zDG:CFn:=by apply (fun F(_:H1 60 F)=>F .skip);intro _;conv=>rhs;reduce;simp
abbrev z4m:Nat:=61
def z3q:CFn:=by apply (fun F(_:H1 61 F)=>F .skip);intro _;conv=>rhs;reduce;simp
abbrev zQ4:Nat:=62
def zJM:CFn:=by apply (fun F(_:H1 62 F)=>F .skip);intro _;conv=>rhs;reduce;simp
abbrev zD9:Nat:=63
def zDW:CFn:=by apply (fun F(_:H1 63 F)=>F .skip);intro _;conv=>rhs;reduce;simp
abbrev zgl:Nat:=64
def zen:CFn:=by apply (fun F(_:H1 64 F)=>F .skip);intro _;conv=>rhs;reduce;simp
abbrev zlj:Nat:=65
def zcA:CFn:=by apply (fun F(_:H1 65 F)=>F .skip);intro _;conv=>rhs;reduce;simp
abbrev zln:Nat:=66
def zdH:CFn:=by apply (fun F(_:H1 66 F)=>F .skip);intro _;conv=>rhs;reduce;simp
def zag:CC:=by apply (fun F(_:K1 67 0 F)=>F .skip);intro _;conv=>rhs;reduce;simp
abbrev zh0:Nat:=67
def zai:CFn:=by apply (fun F(_:H1 67 F)=>F zag);intro _;conv=>rhs;reduce;simp
def zc7:CC:=by apply (fun F(_:K1 68 0 F)=>F .skip);intro _;conv=>rhs;reduce;simp
abbrev zl8:Nat:=68
def zdW:CFn:=by apply (fun F(_:H1 68 F)=>F zc7);intro _;conv=>rhs;reduce;simp
def zbZ:CC:=by apply (fun F(_:K1 69 0 F)=>F .skip);intro _;conv=>rhs;reduce;simp
def zbY:CC:=by apply (fun F(_:K1 69 1 F)=>F zbZ);intro _;conv=>rhs;reduce;simp
def zbX:CC:=by apply (fun F(_:K2 69 2 F)=>F zbZ zbY);intro _ _;conv=>rhs;reduce;simp
def zbW:CC:=by apply (fun F(_:K3 69 3 F)=>F zbZ zbY zbX);intro _ _ _;conv=>rhs;reduce;simp
abbrev zeE:Nat:=69
def zeJ:CFn:=by apply (fun F(_:H4 69 F)=>F zbZ zbY zbX zbW);intro _ _ _ _;conv=>rhs;reduce;simp
abbrev z3u:Nat:=70
def z2w:CFn:=by apply (fun F(_:H1 70 F)=>F .skip);intro _;conv=>rhs;reduce;simp
abbrev zio:Nat:=71
def zF:CFn:=by apply (fun F(_:H1 71 F)=>F .skip);intro _;conv=>rhs;reduce;simp
abbrev zNA:Nat:=72
def zIV:CFn:=by apply (fun F(_:H1 72 F)=>F .skip);intro _;conv=>rhs;reduce;simp
def za8:CC:=by apply (fun F(_:K1 73 0 F)=>F .skip);intro _;conv=>rhs;reduce;simp
abbrev znv:Nat:=73
def zbl:CFn:=by apply (fun F(_:H1 73 F)=>F za8);intro _;conv=>rhs;reduce;simp
def zTe:CC:=by apply (fun F(_:K1 74 0 F)=>F .skip);intro _;conv=>rhs;reduce;simp
abbrev zsg:Nat:=74
def zbJ:CFn:=by apply (fun F(_:H1 74 F)=>F zTe);intro _;conv=>rhs;reduce;simp
def zc6:CC:=by apply (fun F(_:K1 75 0 F)=>F .skip);intro _;conv=>rhs;reduce;simp
def ze5:CC:=by apply (fun F(_:K1 75 1 F)=>F zc6);intro _;conv=>rhs;reduce;simp
abbrev zrj:Nat:=75
def ziv:CFn:=by apply (fun F(_:H2 75 F)=>F zc6 ze5);intro _ _;conv=>rhs;reduce;simp
def zIj:CC:=(sQ (rH 0 36 [b .lss 35 34] [36,6,35,34,25,19,18,17,2,26,27,33,8,9,5,7])
 (sQ (cD 36 .skip
 (.exit 4))
 (sQ (.block 5 (sQ (rH 1 37 [m 35,a 4 33 35,t 4 38,od 12 (.box 0 4 kZ0),q 11 37,w 4 12 39] [6,11,12,35,34,25,19,18,17,2,26,27,33,8,9,5,7])
 (sQ (rH 0 40 [fl 0 12,m 8,b .eql 41 42] [43,6,11,12,35,34,25,19,18,17,2,26,27,33,8,9,5,7])
 (cD 43 (rH 1 44 [m 6,m 9,m 11,f 6 5,j 5 49,m 7,j 8 52,f 1 12,j 11 55,f 6 5,j 13 57,m 7,j 16 60,f 2 12,j 4 48,l 47,j 6 50,a 1 48 49,l 50,j 9 53,l 52,b .add 51 53,j 12 56,l 55,j 14 58,a 1 56 57,l 58,j 17 61,l 60,b .add 59 61,o (.build [(I 0),(I 0),(I 0),(I 0)] [(0,1,(.s 45)),(1,1,(.s 46)),(2,1,(.s 54)),(3,1,(.s 62))]),o (.lit 0 4 [[(I 0),(I 0),(I 0),(I 0)]] [(0,(.s 63))]),o (.append 4 32 (.s 44) (.s 64)),q 6 65] [35,6,34,25,19,18,17,2,26,27,33,8,9,5,7])
 .skip))))
 (rH 0 66 [i .add 35 1,q 35 66] [6,35,34,25,19,18,17,2,26,27,33,8,9,5,7]))))
def zIi:CC:=(sQ (rH 0 28 [b .lss 27 26] [28,6,25,19,18,17,2,26,27,8,5,7])
 (sQ (cD 28 .skip
 (.exit 2))
 (sQ (.block 3 (sQ (rH 1 29 [m 27,a 2 25 27,t 2 30,od 10 (.box 0 2 kZ8),q 9 29,w 2 10 31] [10,6,25,19,18,17,2,26,27,8,9,5,7])
 (sQ (rH 0 32 [fl 0 10,n 33,v 0] [6,35,34,25,19,18,17,2,26,27,33,8,9,5,7])
 (.block 4 (.loop (some [6,35,34,25,19,18,17,2,26,27,33,8,9,5,7]) zIj)))))
 (rH 0 67 [i .add 27 1,q 27 67] [6,26,2,17,18,19,25,27,8,5,7]))))
def zIh:CC:=(sQ (rH 0 20 [b .lss 19 18] [20,6,2,17,18,19,5])
 (sQ (cD 20 .skip
 (.exit 0))
 (sQ (.block 1 (sQ (rH 0 21 [m 19,a 1 17 19,l 22,q 7 21,q 8 23] [6,2,17,18,19,8,5,7])
 (sQ (rH 0 24 [fl 2 2,n 25,v 0] [6,26,2,17,18,19,25,27,8,5,7])
 (.block 2 (.loop (some [6,26,2,17,18,19,25,27,8,5,7]) zIi)))))
 (rH 0 68 [i .add 19 1,q 19 68] [6,18,17,2,19,5]))))
abbrev zMC:Nat:=76
def zIL:CFn:=fN 2 72 [(.slot 4)]
 (sQ (rH 2 4 [x 2 0 5 0,o (.ko 1 4)] [1,2])
  (sQ (rH 1 13 [t 5 2,m 1,c 116 [13,14],od 5 (.box 0 8 zS9),w 8 5 15] [2,5])
  (sQ (rH 1 6 [o (.ko 0 4)] [6,2,5])
  (sQ (sQ (rH 0 16 [fl 5 5,n 17,v 0] [6,18,17,2,19,5])
  (.block 0 (.loop (some [6,18,17,2,19,5]) zIh)))
  (sQ (rH 0 69 [m 6,o (.call ⟨false⟩ (.k (.c (.fn 117 [] []))) [(.s 69),(.k (.c (.fn 118 [] [])))])] [6])
  (sQ (rH 0 71 [p 4 6] [4])
  .ret))))))
abbrev zKM:Nat:=77
def zH2:CFn:=fN 4 70 [(.cell 8 true 3)]
 (sQ (rH 4 8 [x 4 0 1 0,x 5 1 6 1,x 6 2 1 2,o (.box 3 3 zS8)] [5,6,3,4,8])
  (sQ (rH 1 9 [o (.box 0 1 kZ9),z (.store 1 (.s 9) (kI 0))] [5,6,3,4,9,8])
  (sQ (rH 0 15 [l 4,t 6 5,o (.kC (.s 15)),f 13 17,w 6 18 16] [5,6,3,4,9,8])
  (sQ (sQ (rH 0 19 [l 4,t 6 5,t 1 6,m 3,c 122 [19,20,21,22]] [23,4,9,8])
  (.block 0 (.rng (.s 23) 1519 [4,9,8])))
  (sQ (sQ (rH 0 64 [l 4,c 128 [64],u 65] [66,9,8])
  (cD 66 (sQ (rH 0 67 [l 9,o (.build [(.bool false),(I 0),(I 0)] [(1,1,(.s 67)),(2,1,(kI 7))]),w 3 8 68] [8])
  .ret)
  .skip))
  (sQ (rH 0 69 [o (.build [(.bool false),(I 0),(I 0)] [(0,1,(kB true))]),w 3 8 69] [8])
  .ret))))))
def zHE:CC:=by apply (fun F(_:K1 1519 0 F)=>F .skip);intro _;conv=>rhs;reduce;simp
abbrev zJ0:Nat:=1519
def zHO:CFn:=by apply (fun F(_:H1 1519 F)=>F zHE);intro _;conv=>rhs;reduce;simp
def zIC:CC:=by apply (fun F(_:K1 78 0 F)=>F .skip);intro _;conv=>rhs;reduce;simp
abbrev zLY:Nat:=78
def zIU:CFn:=by apply (fun F(_:H1 78 F)=>F zIC);intro _;conv=>rhs;reduce;simp
def ZbG:CC:=by apply (fun F(_:K1 79 0 F)=>F .skip);intro _;conv=>rhs;reduce;simp
abbrev Zcn:Nat:=79
def ZbJ:CFn:=by apply (fun F(_:H1 79 F)=>F ZbG);intro _;conv=>rhs;reduce;simp
def zJv:CC:=(sQ (sQ (rH 0 29 [m 9,fl 2 2,m 8,a 2 31 32,fl 0 33,n 35,b .lss 29 36] [37,5,9,2,1,8,6,7])
 (cD 37 .skip
 (.exit 4)))
 (sQ (.block 5 (sQ (rH 1 40 [fl 2 2,m 8,a 2 41 42,fl 0 43,m 9,a 4 45 46,t 4 47,od 10 (.box 0 4 kZ0),w 4 10 48] [5,10,9,2,1,8,6,7])
 (sQ (rH 0 49 [f 0 10,j 2 51,aa 1 1 7,j 1 50,l 49,j 5 54,l 53,b .eql 50 54] [55,5,10,9,2,1,8,6,7])
 (cD 55 (rH 1 56 [m 5,m 8,m 9,aa 1 6 7,j 7 63,f 1 10,j 10 66,aa 1 6 7,j 14 70,f 2 10,j 6 62,l 61,j 8 64,l 63,b .add 62 64,j 13 69,l 68,j 15 71,l 70,b .add 69 71,o (.build [(I 0),(I 0),(I 0),(I 0)] [(0,1,(.s 57)),(1,1,(.s 58)),(2,1,(.s 65)),(3,1,(.s 72))]),o (.lit 0 4 [[(I 0),(I 0),(I 0),(I 0)]] [(0,(.s 73))]),o (.append 4 32 (.s 56) (.s 74)),q 5 75] [9,5,2,1,8,6,7])
 .skip))))
 (rH 0 38 [inc 9] [5,9,2,1,8,6,7])))
def zJu:CC:=(sQ (sQ (rH 0 22 [m 8,fl 2 2,n 24,b .lss 22 25] [26,5,2,1,8,6,7])
 (cD 26 .skip
 (.exit 2)))
 (sQ (.block 3 (sQ (rH 0 9 [v 0] [5,9,2,1,8,6,7])
 (.block 4 (.loop (some [5,9,2,1,8,6,7]) zJv))))
 (rH 0 27 [inc 8] [5,2,1,8,6,7])))
def zJt:CC:=(sQ (sQ (rH 0 16 [bn .lss 7 6] [19,5,2,1,6,7])
 (cD 19 .skip
 (.exit 0)))
 (sQ (.block 1 (sQ (rH 0 8 [v 0] [5,2,1,8,6,7])
 (.block 2 (.loop (some [5,2,1,8,6,7]) zJu))))
 (rH 0 20 [inc 7] [5,2,1,6,7])))
def zJs:CC:=(sQ (sQ (rH 0 83 [ii .gtr 12 0,m 84,g 85 true,aa 4 5 12,f 2 88,j 8 91,m 5,ii .sub 12 1,a 4 91 93,f 2 94,j 7 90,l 89,j 13 96,l 95,b .lss 90 96,m 97,g 98 false,aa 4 5 12,f 2 101,j 21 104,m 5,ii .sub 12 1,a 4 104 106,f 2 107,j 20 103,l 102,j 26 109,l 108,b .eql 103 109,m 110,g 111 true,aa 4 5 12,f 0 114,j 34 117,m 5,ii .sub 12 1,a 4 117 119,f 0 120,j 33 116,l 115,j 39 122,l 121,b .lss 116 122,g 98 false,y 111 123,g 85 true,r 98 124,h,y 85 125] [126,12,11,5])
 (cD 126 .skip
 (.exit 8)))
 (sQ (.block 9 (rH 0 129 [m 5,m 12,m 5,ii .sub 12 1,m 5,ii .sub 12 1,a 4 134 136,j 10 139,aa 4 5 12,j 9 138,t 4 137,j 13 142,t 4 141,a 4 129 130,w 4 143 138,a 4 131 133,w 4 144 142] [12,11,5]))
 (rH 0 127 [ii .sub 12 1,q 12 128] [12,11,5])))
def zJr:CC:=(sQ (sQ (rH 0 76 [bn .lss 11 5] [79,11,5])
 (cD 79 .skip
 (.exit 6)))
 (sQ (.block 7 (sQ (rH 0 82 [p 12 11] [12,11,5])
 (.block 8 (.loop (some [12,11,5]) zJs))))
 (rH 0 80 [inc 11] [11,5])))
abbrev zQ5:Nat:=80
def zJN:CFn:=fN 2 146 [(.slot 4)]
 (sQ (rH 2 4 [x 2 0 5 0,o (.ko 1 4)] [2,1])
  (sQ (rH 1 5 [o (.ko 0 4)] [5,2,1])
  (sQ (rH 0 13 [t 5 2,m 1,c 62 [13,14],q 6 15] [5,2,1,6])
  (sQ (sQ (rH 0 7 [v 0] [5,2,1,6,7])
  (.block 0 (.loop (some [5,2,1,6,7]) zJt)))
  (sQ (sQ (rH 0 11 [v 1] [11,5])
  (.block 6 (.loop (some [11,5]) zJr)))
  (sQ (rH 0 145 [p 4 5] [4])
  .ret))))))
def z2S:CC:=by apply (fun F(_:K1 81 0 F)=>F .skip);intro _;conv=>rhs;reduce;simp
abbrev z4b:Nat:=81
def z3c:CFn:=by apply (fun F(_:H1 81 F)=>F z2S);intro _;conv=>rhs;reduce;simp
abbrev zRa:Nat:=82
def zJV:CFn:=by apply (fun F(_:H1 82 F)=>F .skip);intro _;conv=>rhs;reduce;simp
def ZbB:CC:=by apply (fun F(_:K1 83 0 F)=>F .skip);intro _;conv=>rhs;reduce;simp
abbrev Zch:Nat:=83
def ZbM:CFn:=by apply (fun F(_:H1 83 F)=>F ZbB);intro _;conv=>rhs;reduce;simp
end
end Go.TrRun
