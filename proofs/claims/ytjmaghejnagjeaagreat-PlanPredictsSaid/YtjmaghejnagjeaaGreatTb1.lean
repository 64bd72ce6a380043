/- This text lists functions of this seat's program, compiled for the evaluator; no condition. -/
import Derived.Test.YtjmaghejnagjeaaGreatEg3
import Derived.KernelRfl
set_option linter.unusedVariables false
namespace Go.TrRun
open Go Go.Eng
instance:GlobP:=⟨fun g=>none⟩
def an:Ann:=zDv [165,168,174,220,223,226,241,260,261,262,263,264,265,266,267,268,269,273,284,285,295,296,299,300,301,302,303,306,307,308,309,310,311,313,314,315,316,317,319,320,321,322,323] [89,168,223,224,261]
def zFL:CC:=(sQ (sQ (rG 0 [mS 0 78 21,mS 1 79 17,lN 2 80 79,bS 3 81 .lss 78 80] [81,19,17,21])
 (.cond (.s 81) .skip
 (.exit 0)))
 (sQ (.block 1 (sQ (rG 0 [mS 0 84 17,mS 1 85 21,iA 2 86 6 84 85,mS 4 88 19,mS 5 89 21,iA 6 90 6 88 89,lT 3 87 6 86,lT 7 91 6 90,cA 8 92 17 [(.s 87),(.s 91)],o1 9 93 (.un .not (.s 92))] [93,19,17,21])
 (.cond (.s 93) (sQ (rG 0 [mB 0 14 false] [14])
 .ret)
 .skip)))
 (rG 0 [mS 0 82 21,bI 1 83 .add 82 1,mS 2 21 83] [17,19,21])))
abbrev zFO:Nat:=3
def zFJ:CFn:={ frz:=true,rnd:=none,nargs:=7,ntmps:=95,res:=[(.slot 14)],code :=
 (sQ (rG 3 [o1 0 9 (.box 0 5 (.s 2)),o1 1 10 (.box 1 6 (.s 3)),o1 2 11 (.box 2 1 (.s 4)),mB 3 14 false] [10,6,5,11,9,1,0])
 (sQ (sQ (rG 0 [mS 0 22 1,lT 1 23 6 10,lT 2 24 1 11,cA 3 25 11 [(.s 22),(.s 23),(.s 24)],o1 4 26 (.un .not (.s 25)),mS 5 27 26,oG 6 28 27 false (.mv (.s 5)),oG 7 29 27 false (.bin .gtr (.s 28) (kI 12)),oG 8 30 27 false (.mv (.s 29)),oG 9 31 30 true (.mv (.s 5)),oG 10 32 30 true (.bin .leq (.s 31) (kI 200)),oG 11 33 27 false (.pick (.s 30) (.s 32) (kB false)),o1 12 34 (.pick (.s 27) (kB true) (.s 33))] [34,10,6,5,11,9,1,0])
 (.cond (.s 34) (sQ (rG 0 [cA 0 35 12 [],mS 1 14 35] [14])
 .ret)
 .skip))
 (sQ (rG 1 [mS 0 36 0,cA 1 37 13 [(.s 36)],o1 2 15 (.box 0 5 (.k (.a [(I 0),.nilslice,.nilslice,.nilslice,.nilslice]))),o0 3 (.store 5 (.s 15) (.s 37))] [15,1,9,11,5,6,10])
 (sQ (rG 1 [lT 0 38 6 10,cA 1 39 14 [(.s 38)],o1 2 16 (.box 0 6 (.k (.a [(I 0),.nilslice,(I 0),(I 0),(I 0),(I 0)]))),o0 3 (.store 6 (.s 16) (.s 39))] [15,1,9,11,5,6,16,10])
 (sQ (rG 0 [lT 0 41 5 15,mS 1 42 1,lT 2 43 5 9,lT 3 44 6 16,lT 4 45 1 11,mS 5 46 5,mS 6 47 6,cA 7 48 15 [(.s 41),(.s 42),(.s 43),(.s 44),(.s 45),(.s 46),(.s 47)],mS 8 40 48,eX 9 49 40 0,eX 10 50 40 1,mS 11 17 49,mS 12 18 50] [15,1,9,11,5,6,18,16,10,17])
 (sQ (rG 0 [lT 0 52 5 15,mS 1 53 1,lT 2 54 5 9,lT 3 55 6 10,lT 4 56 1 11,mS 5 57 5,mS 6 58 6,cA 7 59 16 [(.s 52),(.s 53),(.s 54),(.s 55),(.s 56),(.s 57),(.s 58)],mS 8 51 59,eX 9 60 51 0,eX 10 61 51 1,mS 11 19 60,mS 12 20 61] [18,20,16,10,19,17])
 (sQ (sQ (rG 0 [mS 0 62 18,mS 1 63 20,bS 2 64 .neq 62 63,mS 3 65 64,oG 4 66 65 false (.mv (.s 17)),oG 5 67 65 false (.len (.s 66)),oG 6 68 65 false (.mv (.s 19)),oG 7 69 65 false (.len (.s 68)),oG 8 70 65 false (.bin .neq (.s 67) (.s 69)),o1 9 71 (.pick (.s 65) (kB true) (.s 70)),mS 10 72 71,oG 11 73 72 false (.load true 6 (.s 16)),oG 12 74 72 false (.load true 6 (.s 10)),⟨13,(some 75),(some (72,false)),.call ⟨true⟩ (.k (.c (.fn 17 [] []))) [(.s 73),(.s 74)]⟩,oG 14 76 72 false (.un .not (.s 75)),o1 15 77 (.pick (.s 72) (kB true) (.s 76))] [77,19,17])
 (.cond (.s 77) (sQ (rG 0 [mB 0 14 false] [14])
 .ret)
 .skip))
 (sQ (sQ (rG 0 [mI 0 21 0] [17,19,21])
 (.block 0 (.loop (some [17,19,21]) zFL)))
 (sQ (rG 0 [cA 0 94 12 [],mS 1 14 94] [14])
 .ret))))))))) }
abbrev zF8:Nat:=11
def zFS:CFn:={ frz:=true,rnd:=none,nargs:=3,ntmps:=22,res:=[(.slot 6)],code :=
 (sQ (rG 2 [o1 0 4 (.box 0 6 (.s 1)),o1 1 5 (.box 1 1 (.s 2)),mB 2 6 false] [0,4,5])
 (sQ (rG 0 [mS 0 7 0,lN 1 8 7,bI 2 9 .leq 8 10,mS 3 10 9,oG 4 11 10 true (.faddr 1 (.s 4)),oG 5 12 10 true (.load false 1 (.s 11)),oG 6 13 10 true (.len (.s 12)),oG 7 14 10 true (.bin .leq (.s 13) (kI 12)),o1 8 15 (.pick (.s 10) (.s 14) (kB false)),mS 9 16 15,oG 10 17 16 true (.faddr 0 (.s 5)),oG 11 18 16 true (.load false 1 (.s 17)),oG 12 19 16 true (.len (.s 18)),oG 13 20 16 true (.bin .leq (.s 19) (kI 40)),o1 14 21 (.pick (.s 16) (.s 20) (kB false)),mS 15 6 21] [6])
 .ret)) }
abbrev zF9:Nat:=12
def zGb:CFn:={ frz:=true,rnd:=none,nargs:=0,ntmps:=24,res:=[(.slot 0)],code :=
 (sQ (rG 0 [mB 0 0 false] [])
 (sQ (rG 3 [cA 0 1 48 [],cA 1 2 47 [(.s 1)],bI 2 3 .eql 2 0,mS 3 4 3,⟨4,(some 5),(some (4,true)),.call ⟨true⟩ (.k (.c (.fn 48 [] []))) []⟩,oG 5 6 4 true (.lit 0 1 [[(I 0)],[(I 0)]] [(0,(kI 0)),(1,(kI (-40)))]),⟨6,(some 7),(some (4,true)),.call ⟨true⟩ (.k (.c (.fn 33 [] []))) [(.s 6)]⟩,⟨7,(some 8),(some (4,true)),.call ⟨true⟩ (.k (.c (.fn 49 [] []))) [(.s 5),(.s 7)]⟩,oG 8 9 4 true (.bin .eql (.s 8) (kI 11)),o1 9 10 (.pick (.s 4) (.s 9) (kB false)),mS 10 11 10,⟨11,(some 12),(some (11,true)),.call ⟨true⟩ (.k (.c (.fn 48 [] []))) []⟩,⟨12,(some 13),(some (11,true)),.call ⟨true⟩ (.k (.c (.fn 50 [] []))) [(.s 12),(kI 20),(kI (-60))]⟩,oG 13 14 11 true (.bin .eql (.s 13) (kI (-10))),o1 14 15 (.pick (.s 11) (.s 14) (kB false)),mS 15 16 15,⟨16,(some 17),(some (16,true)),.call ⟨true⟩ (.k (.c (.fn 48 [] []))) []⟩,oG 17 18 16 true (.lit 1 1 [[(I 0)]] [(0,(kI 0))]),⟨18,(some 19),(some (16,true)),.call ⟨true⟩ (.k (.c (.fn 51 [] []))) [(.s 17),(.s 18),(kI 0),(kI 0),(kI 1),(kI 0)]⟩,oG 19 20 16 true (.lit 2 1 [[(I 0)],[(I 0)],[(I 0)],[(I 0)]] [(0,(kI 0)),(1,(kI 20)),(2,(kI (-10))),(3,(kI (-40)))]),⟨20,(some 21),(some (16,true)),.call ⟨true⟩ (.k (.c (.fn 33 [] []))) [(.s 20)]⟩,⟨21,(some 22),(some (16,true)),.call ⟨true⟩ (.k (.c (.fn 26 [] []))) [(.s 19),(.s 21)]⟩,o1 22 23 (.pick (.s 16) (.s 22) (kB false)),mS 23 0 23] [0])
 .ret)) }
abbrev zY:Nat:=13
def zZ:CFn:={ frz:=true,rnd:=none,nargs:=1,ntmps:=179,res:=[(.cell 2 true 5)],code :=
 (sQ (rG 1 [o1 0 2 (.box 0 5 (.k (.a [(I 0),.nilslice,.nilslice,.nilslice,.nilslice])))] [0,2])
 (sQ (rG 0 [mS 0 5 0,cA 1 6 29 [(.s 5),(kI 16777216)],mS 2 0 6] [0,2])
 (sQ (rG 1 [o1 0 7 (.lit 0 1 [[(I 0)],[(I 0)],[(I 0)],[(I 0)]] [(0,(kI 1500)),(1,(kI 600)),(2,(kI 1000)),(3,(kI 300))]),mS 1 8 0,bI 2 9 .quo 8 7,bI 3 10 .rem 9 4,iA 4 11 1 7 10,lF 5 12 11,mS 6 3 12] [3,0,2])
 (sQ (rG 1 [o1 0 4 (.box 0 5 (.k (.a [(I 0),.nilslice,.nilslice,.nilslice,.nilslice])))] [3,0,4,2])
 (sQ (sQ (rG 0 [mS 0 13 0,bI 1 14 .rem 13 7] [14,3,0,4,2])
 (.block 0 (sQ (rG 0 [bI 0 16 .eql 14 0,mS 1 15 16] [15,14,3,0,4,2])
 (.cond (.s 15) (rG 2 [mS 0 17 3,o1 1 18 (.lit 0 1 [[(I 0)],[(I 0)],[(I 0)],[(I 0)]] [(0,(kI 0)),(1,(kI 0)),(2,(kI 60000)),(3,(kI 0))]),cA 2 19 52 [(kI 1),(.s 17),(.k (.c .nilslice)),(.s 18)],o1 3 20 (.lit 1 5 [[(I 0),.nilslice,(I 0),(I 0),.nilslice]] [(0,(.s 19))]),fA 4 21 1 4,o0 5 (.store 1 (.s 21) (.s 20))] [0,4,2])
 (sQ (sQ (rG 0 [bI 0 23 .eql 14 1,mS 1 22 23] [22,14,3,0,4,2])
 (.cond (.s 22) .skip
 (rG 0 [bI 0 24 .eql 14 2,mS 1 22 24] [22,14,3,0,4,2])))
 (.cond (.s 22) (sQ (rG 3 [mS 0 25 3,o1 1 26 (.lit 0 1 [[(I 0)],[(I 0)],[(I 0)],[(I 0)]] [(0,(kI 0)),(1,(kI 0)),(2,(kI 50000)),(3,(kI 0))]),cA 2 27 52 [(kI 1),(.s 25),(.k (.c .nilslice)),(.s 26)],o1 3 28 (.lit 1 1 [[(I 0)],[(I 0)],[(I 0)],[(I 0)]] [(0,(kI 30000)),(1,(kI (-20000))),(2,(kI 30000)),(3,(kI 20000))]),cA 4 29 52 [(kI 1),(kI 1500),(.k (.c .nilslice)),(.s 28)],o1 5 30 (.lit 2 5 [[(I 0),.nilslice,(I 0),(I 0),.nilslice],[(I 0),.nilslice,(I 0),(I 0),.nilslice]] [(0,(.s 27)),(1,(.s 29))]),fA 6 31 1 4,o0 7 (.store 1 (.s 31) (.s 30))] [0,4,2])
 (sQ (rG 2 [mS 0 32 0,bI 1 33 .quo 32 28,bI 2 34 .rem 33 2,o1 3 35 (.build [(I 0),(I 0),(I 0),(I 0)] [(0,1,(kI 0)),(1,1,(kI 28000)),(2,1,(kI 32000)),(3,1,(.s 34))]),mS 4 36 0,bI 5 37 .quo 36 28,bI 6 38 .rem 37 2,o1 7 39 (.bin .mul (kI 2) (.s 38)),o1 8 40 (.bin .sub (kI 2) (.s 39)),o1 9 41 (.build [(I 0),(I 0),(I 0),(I 0)] [(0,1,(kI 1)),(1,1,(kI 18000)),(2,1,(kI 22000)),(3,1,(.s 40))]),o1 10 42 (.lit 0 4 [[(I 0),(I 0),(I 0),(I 0)],[(I 0),(I 0),(I 0),(I 0)]] [(0,(.s 35)),(1,(.s 41))]),o1 11 43 (.build [.nilslice,(I 0)] [(0,1,(.s 42))]),o1 12 44 (.lit 1 2 [[.nilslice,(I 0)]] [(0,(.s 43))]),fA 13 45 2 4,o0 14 (.store 1 (.s 45) (.s 44))] [0,4,2])
 (sQ (rG 0 [mS 0 46 0,bI 1 47 .rem 46 7,bI 2 48 .eql 47 2] [48,0,4,2])
 (.cond (.s 48) (sQ (rG 0 [fA 0 49 2 4,lF 1 50 49,o1 2 51 (.iaddr 2 (.s 50) (kI 0)),fA 3 52 1 51,o0 4 (.store 1 (.s 52) (kI 1))] [0,4,2])
 (rG 1 [mS 0 53 0,bI 1 54 .quo 53 28,bI 2 55 .rem 54 31,cA 3 56 53 [(.s 55),(kI 0),(kI 1)],o1 4 57 (.lit 0 2 [[(I 0),.nilslice]] [(0,(.s 56))]),fA 5 58 3 4,o0 6 (.store 1 (.s 58) (.s 57))] [0,4,2]))
 .skip))))
 (sQ (rG 0 [bI 0 60 .eql 14 3,mS 1 59 60] [59,14,3,0,4,2])
 (.cond (.s 59) (rG 5 [mS 0 61 3,o1 1 62 (.lit 0 1 [[(I 0)],[(I 0)]] [(0,(kI 1)),(1,(kI 2))]),o1 2 63 (.lit 1 1 [[(I 0)],[(I 0)],[(I 0)],[(I 0)]] [(0,(kI 0)),(1,(kI 0)),(2,(kI 30000)),(3,(kI 0))]),cA 3 64 52 [(kI 1),(.s 61),(.s 62),(.s 63)],o1 4 65 (.lit 2 1 [[(I 0)],[(I 0)],[(I 0)],[(I 0)]] [(0,(kI 30000)),(1,(kI 0)),(2,(kI 60000)),(3,(kI 0))]),cA 5 66 52 [(kI 1),(kI 1500),(.k (.c .nilslice)),(.s 65)],o1 6 67 (.lit 3 1 [[(I 0)],[(I 0)],[(I 0)],[(I 0)]] [(0,(kI 30000)),(1,(kI 0)),(2,(kI 54000)),(3,(kI 10000))]),cA 7 68 52 [(kI 1),(kI 800),(.k (.c .nilslice)),(.s 67)],o1 8 69 (.lit 4 5 [[(I 0),.nilslice,(I 0),(I 0),.nilslice],[(I 0),.nilslice,(I 0),(I 0),.nilslice],[(I 0),.nilslice,(I 0),(I 0),.nilslice]] [(0,(.s 64)),(1,(.s 66)),(2,(.s 68))]),fA 9 70 1 4,o0 10 (.store 1 (.s 70) (.s 69))] [0,4,2])
 (sQ (rG 0 [bI 0 72 .eql 14 4,mS 1 71 72] [71,14,3,0,4,2])
 (.cond (.s 71) (sQ (rG 6 [mS 0 73 3,o1 1 74 (.lit 0 1 [[(I 0)]] [(0,(kI 2))]),o1 2 75 (.lit 1 1 [[(I 0)],[(I 0)],[(I 0)],[(I 0)]] [(0,(kI 0)),(1,(kI 0)),(2,(kI 30000)),(3,(kI 0))]),cA 3 76 52 [(kI 1),(.s 73),(.s 74),(.s 75)],o1 4 77 (.lit 2 1 [[(I 0)]] [(0,(kI 2))]),o1 5 78 (.lit 3 1 [[(I 0)],[(I 0)],[(I 0)],[(I 0)]] [(0,(kI 6000)),(1,(kI (-10000))),(2,(kI 30000)),(3,(kI 0))]),cA 6 79 52 [(kI 1),(kI 1500),(.s 77),(.s 78)],o1 7 80 (.lit 4 1 [[(I 0)],[(I 0)],[(I 0)],[(I 0)]] [(0,(kI 30000)),(1,(kI 0)),(2,(kI 60000)),(3,(kI 0))]),cA 8 81 52 [(kI 1),(kI 1500),(.k (.c .nilslice)),(.s 80)],o1 9 82 (.lit 5 5 [[(I 0),.nilslice,(I 0),(I 0),.nilslice],[(I 0),.nilslice,(I 0),(I 0),.nilslice],[(I 0),.nilslice,(I 0),(I 0),.nilslice]] [(0,(.s 76)),(1,(.s 79)),(2,(.s 81))]),fA 10 83 1 4,o0 11 (.store 1 (.s 83) (.s 82))] [0,4,2])
 (rG 2 [o1 0 84 (.build [(I 0),(I 0),(I 0),(I 0)] [(0,1,(kI 0)),(1,1,(kI 25000)),(2,1,(kI 30000)),(3,1,(kI 1))]),o1 1 85 (.build [(I 0),(I 0),(I 0),(I 0)] [(0,1,(kI 1)),(1,1,(kI 20000)),(2,1,(kI 26000))]),o1 2 86 (.build [(I 0),(I 0),(I 0),(I 0)] [(0,1,(kI 2)),(2,1,(kI 5000))]),o1 3 87 (.lit 0 4 [[(I 0),(I 0),(I 0),(I 0)],[(I 0),(I 0),(I 0),(I 0)],[(I 0),(I 0),(I 0),(I 0)]] [(0,(.s 84)),(1,(.s 85)),(2,(.s 86))]),o1 4 88 (.build [.nilslice,(I 0)] [(0,1,(.s 87))]),o1 5 89 (.lit 1 2 [[.nilslice,(I 0)]] [(0,(.s 88))]),fA 6 90 2 4,o0 7 (.store 1 (.s 90) (.s 89))] [0,4,2]))
 (sQ (rG 0 [bI 0 92 .eql 14 5,mS 1 91 92] [91,14,3,0,4,2])
 (.cond (.s 91) (sQ (rG 5 [mS 0 93 3,o1 1 94 (.lit 0 1 [[(I 0)]] [(0,(kI 1))]),o1 2 95 (.lit 1 1 [[(I 0)],[(I 0)],[(I 0)],[(I 0)]] [(0,(kI 0)),(1,(kI 0)),(2,(kI 20000)),(3,(kI 0))]),cA 3 96 52 [(kI 1),(.s 93),(.s 94),(.s 95)],mS 4 97 3,o1 5 98 (.lit 2 1 [[(I 0)],[(I 0)],[(I 0)],[(I 0)]] [(0,(kI 20000)),(1,(kI 0)),(2,(kI 50000)),(3,(kI 0))]),cA 6 99 52 [(kI 1),(.s 97),(.k (.c .nilslice)),(.s 98)],o1 7 100 (.lit 3 1 [[(I 0)],[(I 0)],[(I 0)],[(I 0)]] [(0,(kI 35000)),(1,(kI (-8000))),(2,(kI 35000)),(3,(kI 8000))]),cA 8 101 52 [(kI 3),(kI 200),(.k (.c .nilslice)),(.s 100)],o1 9 102 (.lit 4 5 [[(I 0),.nilslice,(I 0),(I 0),.nilslice],[(I 0),.nilslice,(I 0),(I 0),.nilslice],[(I 0),.nilslice,(I 0),(I 0),.nilslice]] [(0,(.s 96)),(1,(.s 99)),(2,(.s 101))]),fA 10 103 1 4,o0 11 (.store 1 (.s 103) (.s 102))] [0,4,2])
 (rG 2 [o1 0 104 (.build [(I 0),(I 0),(I 0),(I 0)] [(0,1,(kI 1)),(1,1,(kI 14000)),(2,1,(kI 16000))]),o1 1 105 (.build [(I 0),(I 0),(I 0),(I 0)] [(0,1,(kI 2)),(1,1,(kI 6000)),(2,1,(kI 10000)),(3,1,(kI 3))]),o1 2 106 (.lit 0 4 [[(I 0),(I 0),(I 0),(I 0)],[(I 0),(I 0),(I 0),(I 0)]] [(0,(.s 104)),(1,(.s 105))]),o1 3 107 (.build [.nilslice,(I 0)] [(0,1,(.s 106))]),o1 4 108 (.lit 1 2 [[.nilslice,(I 0)]] [(0,(.s 107))]),fA 5 109 2 4,o0 6 (.store 1 (.s 109) (.s 108))] [0,4,2]))
 (sQ (rG 0 [bI 0 111 .eql 14 6,mS 1 110 111] [110,3,0,4,2])
 (.cond (.s 110) (sQ (rG 6 [mS 0 112 3,o1 1 113 (.lit 0 1 [[(I 0)],[(I 0)]] [(0,(kI 1)),(1,(kI 2))]),o1 2 114 (.lit 1 1 [[(I 0)],[(I 0)],[(I 0)],[(I 0)]] [(0,(kI 0)),(1,(kI 0)),(2,(kI 20000)),(3,(kI 0))]),cA 3 115 52 [(kI 1),(.s 112),(.s 113),(.s 114)],o1 4 116 (.lit 2 1 [[(I 0)],[(I 0)],[(I 0)],[(I 0)]] [(0,(kI 20000)),(1,(kI 0)),(2,(kI 50000)),(3,(kI 0))]),cA 5 117 52 [(kI 1),(kI 1500),(.k (.c .nilslice)),(.s 116)],o1 6 118 (.lit 3 1 [[(I 0)],[(I 0)],[(I 0)],[(I 0)]] [(0,(kI 20000)),(1,(kI 0)),(2,(kI 44000)),(3,(kI 10000))]),cA 7 119 52 [(kI 1),(kI 1000),(.k (.c .nilslice)),(.s 118)],o1 8 120 (.lit 4 1 [[(I 0)],[(I 0)],[(I 0)],[(I 0)]] [(0,(kI 36000)),(1,(kI (-12000))),(2,(kI 36000)),(3,(kI 18000))]),cA 9 121 52 [(kI 2),(kI 700),(.k (.c .nilslice)),(.s 120)],o1 10 122 (.lit 5 5 [[(I 0),.nilslice,(I 0),(I 0),.nilslice],[(I 0),.nilslice,(I 0),(I 0),.nilslice],[(I 0),.nilslice,(I 0),(I 0),.nilslice],[(I 0),.nilslice,(I 0),(I 0),.nilslice]] [(0,(.s 115)),(1,(.s 117)),(2,(.s 119)),(3,(.s 121))]),fA 11 123 1 4,o0 12 (.store 1 (.s 123) (.s 122))] [0,4,2])
 (sQ (rG 3 [o1 0 124 (.build [(I 0),(I 0),(I 0),(I 0)] [(0,1,(kI 1)),(1,1,(kI 14000)),(2,1,(kI 18000)),(3,1,(kI 1))]),o1 1 125 (.build [(I 0),(I 0),(I 0),(I 0)] [(0,1,(kI 3)),(1,1,(kI 10000)),(2,1,(kI 14000))]),o1 2 126 (.lit 0 4 [[(I 0),(I 0),(I 0),(I 0)],[(I 0),(I 0),(I 0),(I 0)]] [(0,(.s 124)),(1,(.s 125))]),o1 3 127 (.build [.nilslice,(I 0)] [(0,1,(.s 126))]),o1 4 128 (.build [(I 0),(I 0),(I 0),(I 0)] [(0,1,(kI 2)),(1,1,(kI 14000)),(2,1,(kI 21000)),(3,1,(kI 1))]),o1 5 129 (.build [(I 0),(I 0),(I 0),(I 0)] [(0,1,(kI 3)),(1,1,(kI 14500)),(2,1,(kI 23000))]),o1 6 130 (.lit 1 4 [[(I 0),(I 0),(I 0),(I 0)],[(I 0),(I 0),(I 0),(I 0)]] [(0,(.s 128)),(1,(.s 129))]),o1 7 131 (.build [.nilslice,(I 0)] [(0,1,(.s 130))]),o1 8 132 (.lit 2 2 [[.nilslice,(I 0)],[.nilslice,(I 0)]] [(0,(.s 127)),(1,(.s 131))]),fA 9 133 2 4,o0 10 (.store 1 (.s 133) (.s 132))] [0,4,2])
 (sQ (rG 0 [mS 0 134 0,bI 1 135 .quo 134 28,bI 2 136 .rem 135 2,bI 3 137 .eql 136 1] [137,0,4,2])
 (.cond (.s 137) (sQ (.region 0 [fA 0 138 2 4,fA 2 140 2 4,lF 1 139 138,o1 4 142 (.iaddr 2 (.s 139) (kI 0)),fA 5 143 1 142,lF 3 141 140,o0 6 (.store 1 (.s 143) (kI 1)),o1 7 144 (.iaddr 2 (.s 141) (kI 1)),fA 8 145 1 144,o0 9 (.store 1 (.s 145) (kI 2))] [(5,6)] (some [0,4,2]))
 (rG 1 [mS 0 146 0,bI 1 147 .quo 146 56,bI 2 148 .rem 147 31,cA 3 149 53 [(.s 148),(kI 1),(kI 3)],mS 4 150 0,bI 5 151 .quo 150 56,bI 6 152 .rem 151 17,cA 7 153 53 [(.s 152),(kI 2),(kI 3)],o1 8 154 (.lit 0 2 [[(I 0),.nilslice],[(I 0),.nilslice]] [(0,(.s 149)),(1,(.s 153))]),fA 9 155 3 4,o0 10 (.store 1 (.s 155) (.s 154))] [0,4,2]))
 .skip))))
 .skip))))))))))))))
 (sQ (rG 0 [mS 0 156 0,bI 1 157 .quo 156 28,bI 2 158 .rem 157 5,fA 3 159 0 4,o0 4 (.store 1 (.s 159) (.s 158))] [0,4,2])
 (sQ (sQ (rG 0 [mS 0 160 0,bI 1 161 .quo 160 1736,bI 2 162 .rem 161 3,bI 3 163 .eql 162 1] [163,0,4,2])
 (.cond (.s 163) (rG 1 [mS 0 164 0,bI 1 165 .quo 164 5208,bI 2 166 .rem 165 40,mS 3 167 0,bI 4 168 .quo 167 5208,bI 5 169 .rem 168 40,bI 6 170 .add 169 20,mS 7 171 0,bI 8 172 .quo 171 208320,bI 9 173 .rem 172 3,bI 10 174 .mul 173 200,o1 11 175 (.build [(I 0),(I 0),(I 0),(I 0),(I 0),(I 0)] [(0,1,(kI 0)),(1,1,(kI 10000)),(2,1,(kI 15000)),(3,1,(.s 166)),(4,1,(.s 170)),(5,1,(.s 174))]),o1 12 176 (.lit 0 6 [[(I 0),(I 0),(I 0),(I 0),(I 0),(I 0)]] [(0,(.s 175))]),fA 13 177 4 4,o0 14 (.store 1 (.s 177) (.s 176))] [4,2])
 .skip))
 (sQ (rG 0 [lT 0 178 5 4,o0 1 (.store 5 (.s 2) (.s 178))] [2])
 .ret)))))))) }
abbrev zln:Nat:=14
def zdH:CFn:={ frz:=true,rnd:=none,nargs:=1,ntmps:=8,res:=[(.cell 2 true 6)],code :=
 (sQ (rG 2 [o1 0 1 (.box 0 6 (.s 0)),o1 1 2 (.box 1 6 (.k (.a [(I 0),.nilslice,(I 0),(I 0),(I 0),(I 0)])))] [1,2])
 (sQ (rG 0 [fA 0 3 1 1,lF 1 4 3,o1 2 5 (.append 6 48 (.k (.c .nilslice)) (.s 4)),fA 3 6 1 1,o0 4 (.store 1 (.s 6) (.s 5))] [1,2])
 (sQ (rG 0 [lT 0 7 6 1,o0 1 (.store 6 (.s 2) (.s 7))] [2])
 .ret))) }
def zFM:CC:=(sQ (rG 0 [bS 0 35 .lss 34 33] [35,10,11,7,6,9,1,33,34,17])
 (sQ (.cond (.s 35) .skip
 (.exit 0))
 (sQ (.block 1 (sQ (rG 0 [mS 0 36 34,mS 1 18 36] [18,10,11,7,6,9,1,33,34,17])
 (sQ (.region 1 [mS 1 39 1,fA 2 40 0 9,mS 6 44 18,mS 8 46 6,lT 0 38 5 7,lF 3 41 40,lT 4 42 6 10,lT 5 43 1 11,cA 7 45 39 [(.s 43),(.s 44)],cA 9 47 54 [(.s 38),(.s 39),(.s 41),(.s 42),(.s 45),(.s 46)],mS 10 37 47,eX 11 48 37 0,eX 12 49 37 1,eX 13 50 37 2,o1 14 19 (.box 0 6 (.k (.a [(I 0),.nilslice,(I 0),(I 0),(I 0),(I 0)]))),o0 15 (.store 6 (.s 19) (.s 48)),mS 16 20 49,mS 17 21 50] [(4,8),(4,14),(5,8),(5,14),(6,8),(6,14),(7,14),(8,14),(9,14)] (some [10,11,7,6,9,1,33,34,19,17,21]))
 (sQ (sQ (rG 0 [mS 0 51 21,bI 1 52 .neq 51 0] [52,10,11,7,6,9,1,33,34,19,17,21])
 (.cond (.s 52) (sQ (rG 1 [mS 0 53 21,o1 1 14 (.newsl 0 6),mS 2 15 53] [14,15])
 .ret)
 .skip))
 (sQ (rG 1 [mS 0 54 17,lT 1 55 6 19,o1 2 56 (.lit 0 6 [[(I 0),.nilslice,(I 0),(I 0),(I 0),(I 0)]] [(0,(.s 55))]),o1 3 57 (.append 6 64 (.s 54) (.s 56)),mS 4 17 57] [19,34,33,1,9,6,7,11,10,17])
 (rG 0 [lT 0 58 6 19,o0 1 (.store 6 (.s 10) (.s 58))] [34,33,1,9,6,7,11,10,17]))))))
 (rG 0 [bI 0 59 .add 34 1,mS 1 34 59] [33,1,9,6,7,11,10,34,17]))))
abbrev zGy:Nat:=15
def zFP:CFn:={ frz:=true,rnd:=none,nargs:=7,ntmps:=61,res:=[(.slot 14),(.slot 15)],code :=
 (sQ (rG 5 [o1 0 7 (.box 0 5 (.s 0)),o1 1 9 (.box 1 5 (.s 2)),o1 2 10 (.box 2 6 (.s 3)),o1 3 11 (.box 3 1 (.s 4)),o1 4 14 (.newsl 4 6),mI 5 15 0] [5,1,9,6,7,11,10])
 (sQ (sQ (rG 0 [lT 0 22 5 9,cA 1 23 47 [(.s 22)],mS 2 16 23] [5,1,9,6,7,11,10,16])
 (sQ (rG 0 [mS 0 24 16,bI 1 25 .neq 24 0] [25,5,1,9,6,7,11,10,16])
 (.cond (.s 25) (sQ (rG 1 [mS 0 26 16,o1 1 14 (.newsl 0 6),mS 2 15 26] [14,15])
 .ret)
 .skip)))
 (sQ (sQ (rG 0 [mS 0 27 5,bI 1 28 .lss 27 0,mS 2 29 28,oG 3 30 29 false (.mv (.s 5)),oG 4 31 29 false (.bin .gtr (.s 30) (kI 200)),o1 5 32 (.pick (.s 29) (kB true) (.s 31))] [32,10,11,7,6,9,1,5])
 (.cond (.s 32) (sQ (rG 1 [o1 0 14 (.newsl 0 6),mI 1 15 2] [14,15])
 .ret)
 .skip))
 (sQ (rG 1 [o1 0 17 (.newsl 0 6)] [5,1,9,6,7,11,10,17])
 (sQ (sQ (rG 0 [mS 0 33 5,mI 1 34 0] [33,1,9,6,7,11,10,34,17])
 (.block 0 (.loop (some [33,1,9,6,7,11,10,34,17]) zFM)))
 (sQ (rG 0 [mS 0 60 17,mS 1 14 60,mI 2 15 0] [14,15])
 .ret)))))) }
def zFI:CC:=(sQ (sQ (rG 0 [mS 0 30 18,mS 1 31 5,bS 2 32 .lss 30 31] [32,10,11,7,6,9,1,5,18,17])
 (.cond (.s 32) .skip
 (.exit 0)))
 (sQ (.block 1 (sQ (.region 0 [mS 1 37 1,fA 2 38 0 9,mS 6 42 18,mS 8 44 6,lT 0 36 5 7,lF 3 39 38,lT 4 40 6 10,lT 5 41 1 11,cA 7 43 55 [(.s 41),(.s 42)],cA 9 45 38 [(.s 36),(.s 37),(.s 39),(.s 40),(.s 43),(.s 44)],mS 10 35 45,eX 11 46 35 0,eX 12 47 35 1,eX 13 48 35 2,o0 14 (.store 6 (.s 10) (.s 46)),mS 15 16 48] [(4,8),(5,8),(6,8)] (some [10,11,7,6,9,1,5,18,17,16]))
 (sQ (sQ (rG 0 [mS 0 49 16,bI 1 50 .neq 49 0] [50,10,11,7,6,9,1,5,18,17,16])
 (.cond (.s 50) (sQ (rG 1 [mS 0 51 16,o1 1 14 (.newsl 0 6),mS 2 15 51] [14,15])
 .ret)
 .skip))
 (rG 1 [mS 0 52 17,lT 1 53 6 10,o1 2 54 (.lit 0 6 [[(I 0),.nilslice,(I 0),(I 0),(I 0),(I 0)]] [(0,(.s 53))]),o1 3 55 (.append 6 64 (.s 52) (.s 54)),mS 4 17 55] [18,5,1,9,6,7,11,10,17]))))
 (rG 0 [mS 0 33 18,bI 1 34 .add 33 1,mS 2 18 34] [5,1,9,6,7,11,10,18,17])))
abbrev zF1:Nat:=16
def zFK:CFn:={ frz:=true,rnd:=none,nargs:=7,ntmps:=57,res:=[(.slot 14),(.slot 15)],code :=
 (sQ (rG 5 [o1 0 7 (.box 0 5 (.s 0)),o1 1 9 (.box 1 5 (.s 2)),o1 2 10 (.box 2 6 (.s 3)),o1 3 11 (.box 3 1 (.s 4)),o1 4 14 (.newsl 4 6),mI 5 15 0] [5,1,9,6,7,11,10])
 (sQ (rG 0 [lT 0 19 5 9,cA 1 20 20 [(.s 19)],mS 2 16 20] [5,1,9,6,7,11,10,16])
 (sQ (sQ (rG 0 [mS 0 21 16,bI 1 22 .neq 21 0] [22,5,1,9,6,7,11,10,16])
 (.cond (.s 22) (sQ (rG 1 [mS 0 23 16,o1 1 14 (.newsl 0 6),mS 2 15 23] [14,15])
 .ret)
 .skip))
 (sQ (sQ (rG 0 [mS 0 24 5,bI 1 25 .lss 24 0,mS 2 26 25,oG 3 27 26 false (.mv (.s 5)),oG 4 28 26 false (.bin .gtr (.s 27) (kI 200)),o1 5 29 (.pick (.s 26) (kB true) (.s 28))] [29,10,11,7,6,9,1,5])
 (.cond (.s 29) (sQ (rG 1 [o1 0 14 (.newsl 0 6),mI 1 15 2] [14,15])
 .ret)
 .skip))
 (sQ (rG 1 [o1 0 17 (.newsl 0 6)] [5,1,9,6,7,11,10,17])
 (sQ (sQ (rG 0 [mI 0 18 0] [5,1,9,6,7,11,10,18,17])
 (.block 0 (.loop (some [5,1,9,6,7,11,10,18,17]) zFI)))
 (sQ (rG 0 [mS 0 56 17,mS 1 14 56,mI 2 15 0] [14,15])
 .ret))))))) }
def zb8:CC:=(sQ (sQ (rG 0 [mS 0 27 5,fA 1 28 1 2,lF 2 29 28,lN 3 30 29,bS 4 31 .lss 27 30] [31,3,2,5])
 (.cond (.s 31) .skip
 (.exit 0)))
 (sQ (.block 1 (sQ (rG 0 [fA 0 34 1 2,mS 2 36 5,fA 5 39 1 3,mS 7 41 5,lF 1 35 34,iA 3 37 6 35 36,lT 4 38 6 37,lF 6 40 39,iA 8 42 6 40 41,lT 9 43 6 42,o1 10 44 (.eqa true [false,false,false,false,false,false] (.s 38) (.s 43))] [44,3,2,5])
 (.cond (.s 44) (sQ (rG 0 [mB 0 4 false] [4])
 .ret)
 .skip)))
 (rG 0 [mS 0 32 5,bI 1 33 .add 32 1,mS 2 5 33] [2,3,5])))
abbrev zll:Nat:=17
def zaE:CFn:={ frz:=true,rnd:=none,nargs:=2,ntmps:=45,res:=[(.slot 4)],code :=
 (sQ (rG 2 [o1 0 2 (.box 0 6 (.s 0)),o1 1 3 (.box 1 6 (.s 1)),mB 2 4 false] [3,2])
 (sQ (sQ (rG 0 [fA 0 6 0 2,lF 1 7 6,fA 2 8 0 3,lF 3 9 8,bS 4 10 .neq 7 9,mS 5 11 10,oG 6 12 11 false (.faddr 2 (.s 2)),oG 7 13 11 false (.load true 4 (.s 12)),oG 8 14 11 false (.faddr 2 (.s 3)),oG 9 15 11 false (.load true 4 (.s 14)),oG 10 16 11 false (.eqa true [false,false,false,false] (.s 13) (.s 15)),o1 11 17 (.pick (.s 11) (kB true) (.s 16)),mS 12 18 17,oG 13 19 18 false (.faddr 1 (.s 2)),oG 14 20 18 false (.load false 1 (.s 19)),oG 15 21 18 false (.len (.s 20)),oG 16 22 18 false (.faddr 1 (.s 3)),oG 17 23 18 false (.load false 1 (.s 22)),oG 18 24 18 false (.len (.s 23)),oG 19 25 18 false (.bin .neq (.s 21) (.s 24)),o1 20 26 (.pick (.s 18) (kB true) (.s 25))] [26,3,2])
 (.cond (.s 26) (sQ (rG 0 [mB 0 4 false] [4])
 .ret)
 .skip))
 (sQ (sQ (rG 0 [mI 0 5 0] [2,3,5])
 (.block 0 (.loop (some [2,3,5]) zb8)))
 (sQ (rG 0 [mB 0 4 true] [4])
 .ret)))) }
abbrev zFU:Nat:=20
def zFH:CFn:={ frz:=true,rnd:=none,nargs:=1,ntmps:=51,res:=[(.slot 2)],code :=
 (sQ (rG 1 [o1 0 1 (.box 0 5 (.s 0)),mI 1 2 0] [1])
 (sQ (sQ (rG 0 [fA 0 3 0 1,lF 1 4 3,bI 2 5 .lss 4 300,mS 3 6 5,oG 4 7 6 false (.faddr 0 (.s 1)),oG 5 8 6 false (.load false 1 (.s 7)),oG 6 9 6 false (.bin .gtr (.s 8) (kI 20000)),o1 7 10 (.pick (.s 6) (kB true) (.s 9)),mS 8 11 10,oG 9 12 11 false (.faddr 1 (.s 1)),oG 10 13 11 false (.load false 1 (.s 12)),oG 11 14 11 false (.bin .lss (.s 13) (kI 1)),o1 12 15 (.pick (.s 11) (kB true) (.s 14)),mS 13 16 15,oG 14 17 16 false (.faddr 1 (.s 1)),oG 15 18 16 false (.load false 1 (.s 17)),oG 16 19 16 false (.bin .gtr (.s 18) (kI 30)),o1 17 20 (.pick (.s 16) (kB true) (.s 19)),mS 18 21 20,oG 19 22 21 false (.faddr 2 (.s 1)),oG 20 23 21 false (.load false 1 (.s 22)),oG 21 24 21 false (.bin .lss (.s 23) (kI 20)),o1 22 25 (.pick (.s 21) (kB true) (.s 24)),mS 23 26 25,oG 24 27 26 false (.faddr 2 (.s 1)),oG 25 28 26 false (.load false 1 (.s 27)),oG 26 29 26 false (.bin .gtr (.s 28) (kI 90)),o1 27 30 (.pick (.s 26) (kB true) (.s 29)),mS 28 31 30,oG 29 32 31 false (.faddr 3 (.s 1)),oG 30 33 31 false (.load false 1 (.s 32)),oG 31 34 31 false (.bin .lss (.s 33) (kI 5)),o1 32 35 (.pick (.s 31) (kB true) (.s 34)),mS 33 36 35,oG 34 37 36 false (.faddr 3 (.s 1)),oG 35 38 36 false (.load false 1 (.s 37)),oG 36 39 36 false (.bin .gtr (.s 38) (kI 120)),o1 37 40 (.pick (.s 36) (kB true) (.s 39)),mS 38 41 40,oG 39 42 41 false (.faddr 4 (.s 1)),oG 40 43 41 false (.load false 1 (.s 42)),oG 41 44 41 false (.bin .lss (.s 43) (kI 0)),o1 42 45 (.pick (.s 41) (kB true) (.s 44)),mS 43 46 45,oG 44 47 46 false (.faddr 4 (.s 1)),oG 45 48 46 false (.load false 1 (.s 47)),oG 46 49 46 false (.bin .gtr (.s 48) (kI 5)),o1 47 50 (.pick (.s 46) (kB true) (.s 49))] [50])
 (.cond (.s 50) (sQ (rG 0 [mI 0 2 2] [2])
 .ret)
 .skip))
 (sQ (rG 0 [mI 0 2 0] [2])
 .ret))) }
def zF4:CC:=(sQ (sQ (rG 0 [mS 0 6 5,fA 1 7 0 2,lF 2 8 7,lN 3 9 8,bS 4 10 .lss 6 9,mS 5 11 10,oG 6 12 11 true (.mv (.s 5)),oG 7 13 11 true (.faddr 0 (.s 3)),oG 8 14 11 true (.load false 1 (.s 13)),oG 9 15 11 true (.len (.s 14)),oG 10 16 11 true (.bin .lss (.s 12) (.s 15)),o1 11 17 (.pick (.s 11) (.s 16) (kB false))] [17,3,2,5])
 (.cond (.s 17) .skip
 (.exit 0)))
 (sQ (.block 1 (sQ (rG 0 [fA 0 20 0 2,mS 2 22 5,fA 5 25 0 3,mS 7 27 5,lF 1 21 20,iA 3 23 1 21 22,lF 4 24 23,lF 6 26 25,iA 8 28 1 26 27,lF 9 29 28,bS 10 30 .neq 24 29] [30,3,2,5])
 (.cond (.s 30) (sQ (rG 0 [mB 0 4 false] [4])
 .ret)
 .skip)))
 (rG 0 [mS 0 18 5,bI 1 19 .add 18 1,mS 2 5 19] [2,3,5])))
def zGh:CFn:={ frz:=true,rnd:=none,nargs:=2,ntmps:=38,res:=[(.slot 4)],code :=
 (sQ (rG 2 [o1 0 2 (.box 0 1 (.s 0)),o1 1 3 (.box 1 1 (.s 1)),mB 2 4 false] [2,3])
 (sQ (sQ (rG 0 [mI 0 5 0] [2,3,5])
 (.block 0 (.loop (some [2,3,5]) zF4)))
 (sQ (rG 0 [fA 0 31 0 2,lF 1 32 31,lN 2 33 32,fA 3 34 0 3,lF 4 35 34,lN 5 36 35,bS 6 37 .eql 33 36,mS 7 4 37] [4])
 .ret))) }
abbrev zny:Nat:=29
def zeK:CFn:={ frz:=true,rnd:=none,nargs:=2,ntmps:=14,res:=[(.slot 4)],code :=
 (sQ (rG 0 [mI 0 4 0] [0,1])
 (sQ (rG 0 [mS 0 5 0,mS 1 6 1,bS 2 7 .rem 5 6,mS 3 0 7] [0,1])
 (sQ (sQ (rG 0 [mS 0 8 0,bI 1 9 .lss 8 0] [9,0,1])
 (.cond (.s 9) (rG 0 [mS 0 10 0,mS 1 11 1,bS 2 12 .add 10 11,mS 3 0 12] [0])
 .skip))
 (sQ (rG 0 [mS 0 13 0,mS 1 4 13] [4])
 .ret)))) }
def zGi:CFn:={ frz:=true,rnd:=none,nargs:=1,ntmps:=5,res:=[(.cell 2 true 1)],code :=
 (sQ (rG 1 [o1 0 2 (.box 0 1 (.k (.a [.nilslice])))] [0,2])
 (sQ (rG 0 [mS 0 3 0,o1 1 4 (.build [.nilslice] [(0,1,(.s 3))]),o0 2 (.store 1 (.s 2) (.s 4))] [2])
 .ret)) }
def zbZ:CC:=(sQ (sQ (rG 0 [mS 0 39 3,fA 1 40 1 1,lF 2 41 40,lN 3 42 41,bS 4 43 .lss 39 42] [43,1,3])
 (.cond (.s 43) .skip
 (.exit 0)))
 (sQ (.block 1 (sQ (rG 0 [lT 0 46 5 1,mS 1 47 3,cA 2 48 83 [(.s 46),(.s 47)],mS 3 4 48] [1,3,4])
 (sQ (rG 0 [mS 0 49 4,bI 1 50 .neq 49 0] [50,1,3,4])
 (.cond (.s 50) (sQ (rG 0 [mS 0 51 4,mS 1 2 51] [2])
 .ret)
 .skip))))
 (rG 0 [mS 0 44 3,bI 1 45 .add 44 1,mS 2 3 45] [1,3])))
def zbY:CC:=(sQ (sQ (rG 0 [mS 0 54 6,fA 1 55 3 1,lF 2 56 55,lN 3 57 56,bS 4 58 .lss 54 57,mS 5 59 58,oG 6 60 59 true (.mv (.s 5)),oG 7 61 59 true (.bin .eql (.s 60) (kI 0)),o1 8 62 (.pick (.s 59) (.s 61) (kB false))] [62,5,6,1])
 (.cond (.s 62) .skip
 (.exit 2)))
 (sQ (.block 3 (rG 0 [fA 1 66 3 1,mS 3 68 6,lT 0 65 5 1,lF 2 67 66,iA 4 69 2 67 68,lT 5 70 2 69,cA 6 71 85 [(.s 65),(.s 70)],mS 7 5 71] [6,5,1]))
 (rG 0 [mS 0 63 6,bI 1 64 .add 63 1,mS 2 6 64] [5,6,1])))
def zbX:CC:=(sQ (sQ (rG 0 [mS 0 72 7,fA 1 73 2 1,lF 2 74 73,lN 3 75 74,bS 4 76 .lss 72 75,mS 5 77 76,oG 6 78 77 true (.mv (.s 5)),oG 7 79 77 true (.bin .eql (.s 78) (kI 0)),o1 8 80 (.pick (.s 77) (.s 79) (kB false))] [80,5,7,1])
 (.cond (.s 80) .skip
 (.exit 4)))
 (sQ (.block 5 (rG 0 [fA 1 84 2 1,mS 3 86 7,lT 0 83 5 1,lF 2 85 84,iA 4 87 2 85 86,lT 5 88 2 87,cA 6 89 86 [(.s 83),(.s 88)],mS 7 5 89] [7,5,1]))
 (rG 0 [mS 0 81 7,bI 1 82 .add 81 1,mS 2 7 82] [5,7,1])))
def zbW:CC:=(sQ (sQ (rG 0 [mS 0 90 8,fA 1 91 4 1,lF 2 92 91,lN 3 93 92,bS 4 94 .lss 90 93,mS 5 95 94,oG 6 96 95 true (.mv (.s 5)),oG 7 97 95 true (.bin .eql (.s 96) (kI 0)),o1 8 98 (.pick (.s 95) (.s 97) (kB false))] [98,5,8,1])
 (.cond (.s 98) .skip
 (.exit 6)))
 (sQ (.block 7 (rG 0 [fA 1 102 4 1,mS 3 104 8,lT 0 101 5 1,lF 2 103 102,iA 4 105 6 103 104,lT 5 106 6 105,cA 6 107 87 [(.s 101),(.s 106)],mS 7 5 107] [8,5,1]))
 (rG 0 [mS 0 99 8,bI 1 100 .add 99 1,mS 2 8 100] [5,8,1])))
abbrev zeE:Nat:=36
def zeJ:CFn:={ frz:=true,rnd:=none,nargs:=1,ntmps:=109,res:=[(.slot 2)],code :=
 (sQ (rG 1 [o1 0 1 (.box 0 5 (.s 0)),mI 1 2 0] [1])
 (sQ (sQ (rG 0 [fA 0 9 0 1,lF 1 10 9,cA 2 11 82 [(.s 10),(kI 0),(kI 1099511627776)],o1 3 12 (.un .not (.s 11))] [12,1])
 (.cond (.s 12) (sQ (rG 0 [mI 0 2 2] [2])
 .ret)
 .skip))
 (sQ (sQ (rG 0 [fA 0 13 1 1,lF 1 14 13,lN 2 15 14,bI 3 16 .eql 15 0] [16,1])
 (.cond (.s 16) (sQ (rG 0 [mI 0 2 6] [2])
 .ret)
 .skip))
 (sQ (sQ (rG 0 [fA 0 17 1 1,lF 1 18 17,lN 2 19 18,bI 3 20 .gtr 19 12,mS 4 21 20,oG 5 22 21 false (.faddr 2 (.s 1)),oG 6 23 21 false (.load false 1 (.s 22)),oG 7 24 21 false (.len (.s 23)),oG 8 25 21 false (.bin .gtr (.s 24) (kI 12)),o1 9 26 (.pick (.s 21) (kB true) (.s 25)),mS 10 27 26,oG 11 28 27 false (.faddr 3 (.s 1)),oG 12 29 27 false (.load false 1 (.s 28)),oG 13 30 27 false (.len (.s 29)),oG 14 31 27 false (.bin .gtr (.s 30) (kI 4)),o1 15 32 (.pick (.s 27) (kB true) (.s 31)),mS 16 33 32,oG 17 34 33 false (.faddr 4 (.s 1)),oG 18 35 33 false (.load false 1 (.s 34)),oG 19 36 33 false (.len (.s 35)),oG 20 37 33 false (.bin .gtr (.s 36) (kI 8)),o1 21 38 (.pick (.s 33) (kB true) (.s 37))] [38,1])
 (.cond (.s 38) (sQ (rG 0 [mI 0 2 8] [2])
 .ret)
 .skip))
 (sQ (sQ (rG 0 [mI 0 3 0] [1,3])
 (.block 0 (.loop (some [1,3]) zbZ)))
 (sQ (rG 0 [lT 0 52 5 1,cA 1 53 84 [(.s 52)],mS 2 5 53] [5,1])
 (sQ (sQ (rG 0 [mI 0 6 0] [5,6,1])
 (.block 2 (.loop (some [5,6,1]) zbY)))
 (sQ (sQ (rG 0 [mI 0 7 0] [5,7,1])
 (.block 4 (.loop (some [5,7,1]) zbX)))
 (sQ (sQ (rG 0 [mI 0 8 0] [5,8,1])
 (.block 6 (.loop (some [5,8,1]) zbW)))
 (sQ (rG 0 [mS 0 108 5,mS 1 2 108] [2])
 .ret)))))))))) }
abbrev zlk:Nat:=38
def zaR:CFn:={ frz:=true,rnd:=none,nargs:=6,ntmps:=64,res:=[(.cell 12 true 6),(.slot 13),(.slot 14)],code :=
 (sQ (rG 4 [o1 0 6 (.box 0 5 (.s 0)),o1 1 9 (.box 1 6 (.s 3)),o1 2 12 (.box 2 6 (.k (.a [(I 0),.nilslice,(I 0),(I 0),(I 0),(I 0)]))),o1 3 13 (.newsl 3 4),mI 4 14 0] [5,4,9,2,1,6,12])
 (sQ (rG 0 [lT 0 18 5 6,lT 1 19 6 9,cA 2 20 62 [(.s 18),(.s 19)],mS 3 15 20] [5,4,9,2,1,6,15,12])
 (sQ (sQ (rG 0 [mS 0 21 15,bI 1 22 .neq 21 0] [22,5,4,9,2,1,6,15,12])
 (.cond (.s 22) (sQ (rG 1 [o1 0 23 (.build [(I 0),.nilslice,(I 0),(I 0),(I 0),(I 0)] []),mS 1 24 15,o0 2 (.store 6 (.s 12) (.s 23)),o1 3 13 (.newsl 0 4),mS 4 14 24] [12,13,14])
 .ret)
 .skip))
 (sQ (sQ (rG 0 [lT 0 25 5 6,mS 1 26 1,cA 2 27 60 [(.s 25),(.s 26)],bI 3 28 .neq 27 0] [28,6,1,2,9,4,5,12])
 (.cond (.s 28) (sQ (rG 1 [o1 0 29 (.build [(I 0),.nilslice,(I 0),(I 0),(I 0),(I 0)] []),o0 1 (.store 6 (.s 12) (.s 29)),o1 2 13 (.newsl 0 4),mI 3 14 13] [12,13,14])
 .ret)
 .skip))
 (sQ (sQ (rG 0 [mS 0 30 2,bI 1 31 .lss 30 300,mS 2 32 31,oG 3 33 32 false (.mv (.s 2)),oG 4 34 32 false (.bin .gtr (.s 33) (kI 20000)),o1 5 35 (.pick (.s 32) (kB true) (.s 34)),mS 6 36 35,oG 7 37 36 false (.faddr 0 (.s 9)),oG 8 38 36 false (.load false 1 (.s 37)),oG 9 39 36 false (.bin .eql (.s 38) (kI 1099511627776)),o1 10 40 (.pick (.s 36) (kB true) (.s 39)),mS 11 41 40,oG 12 42 41 false (.load true 5 (.s 6)),oG 13 43 41 false (.mv (.s 1)),oG 14 44 41 false (.faddr 2 (.s 9)),oG 15 45 41 false (.load true 4 (.s 44)),oG 16 46 41 false (.mv (.s 4)),⟨17,(some 47),(some (41,false)),.call ⟨true⟩ (.k (.c (.fn 88 [] []))) [(.s 42),(.s 43),(.s 45),(.s 46)]⟩,oG 18 48 41 false (.field false 1 1 (.s 47)),oG 19 49 41 false (.bin .gtr (.s 48) (kI 1099511627776)),o1 20 50 (.pick (.s 41) (kB true) (.s 49))] [50,5,4,9,2,1,6,12])
 (.cond (.s 50) (sQ (rG 1 [o1 0 51 (.build [(I 0),.nilslice,(I 0),(I 0),(I 0),(I 0)] []),o0 1 (.store 6 (.s 12) (.s 51)),o1 2 13 (.newsl 0 4),mI 3 14 2] [12,13,14])
 .ret)
 .skip))
 (sQ (rG 1 [lT 0 53 5 6,mS 1 54 1,mS 2 55 2,lT 3 56 6 9,mS 4 57 4,mS 5 58 5,cA 6 59 64 [(.s 53),(.s 54),(.s 55),(.s 56),(.s 57),(.s 58)],mS 7 52 59,eX 8 60 52 0,eX 9 61 52 1,o1 10 16 (.box 0 6 (.k (.a [(I 0),.nilslice,(I 0),(I 0),(I 0),(I 0)]))),o0 11 (.store 6 (.s 16) (.s 60)),mS 12 17 61] [16,17,12])
 (sQ (rG 0 [lT 0 62 6 16,mS 1 63 17,o0 2 (.store 6 (.s 12) (.s 62)),mS 3 13 63,mI 4 14 0] [12,13,14])
 .ret))))))) }
abbrev zGR:Nat:=39
def zGa:CFn:={ frz:=true,rnd:=none,nargs:=2,ntmps:=20,res:=[(.slot 4)],code :=
 (sQ (rG 1 [o1 0 2 (.box 0 1 (.s 0)),mI 1 4 0] [2,1])
 (sQ (sQ (rG 0 [fA 0 5 0 2,lF 1 6 5,lN 2 7 6,bI 3 8 .eql 7 0] [8,2,1])
 (.cond (.s 8) (sQ (rG 0 [mI 0 4 0] [4])
 .ret)
 .skip))
 (sQ (rG 0 [fA 0 9 0 2,lF 1 10 9,mS 2 11 1,o1 3 12 (.minmax true [(.s 11),(kI 0)]),fA 4 13 0 2,lF 5 14 13,lN 6 15 14,bI 7 16 .sub 15 1,o1 8 17 (.minmax false [(.s 12),(.s 16)]),iA 9 18 1 10 17,lF 10 19 18,mS 11 4 19] [4])
 .ret))) }
abbrev zGe:Nat:=47
def zFN:CFn:={ frz:=true,rnd:=none,nargs:=1,ntmps:=26,res:=[(.slot 2)],code :=
 (sQ (rG 1 [o1 0 1 (.box 0 5 (.s 0)),mI 1 2 0] [1])
 (sQ (sQ (rG 0 [fA 0 3 0 1,lF 1 4 3,cA 2 5 103 [(.s 4),(kI 300),(kI 20000)],mS 3 6 5,oG 4 7 6 true (.faddr 1 (.s 1)),oG 5 8 6 true (.load false 1 (.s 7)),⟨6,(some 9),(some (6,true)),.call ⟨true⟩ (.k (.c (.fn 103 [] []))) [(.s 8),(kI 1),(kI 30)]⟩,o1 7 10 (.pick (.s 6) (.s 9) (kB false)),mS 8 11 10,oG 9 12 11 true (.faddr 2 (.s 1)),oG 10 13 11 true (.load false 1 (.s 12)),⟨11,(some 14),(some (11,true)),.call ⟨true⟩ (.k (.c (.fn 103 [] []))) [(.s 13),(kI 20),(kI 90)]⟩,o1 12 15 (.pick (.s 11) (.s 14) (kB false)),mS 13 16 15,oG 14 17 16 true (.faddr 3 (.s 1)),oG 15 18 16 true (.load false 1 (.s 17)),⟨16,(some 19),(some (16,true)),.call ⟨true⟩ (.k (.c (.fn 103 [] []))) [(.s 18),(kI 5),(kI 120)]⟩,o1 17 20 (.pick (.s 16) (.s 19) (kB false)),mS 18 21 20,oG 19 22 21 true (.faddr 4 (.s 1)),oG 20 23 21 true (.load false 1 (.s 22)),⟨21,(some 24),(some (21,true)),.call ⟨true⟩ (.k (.c (.fn 103 [] []))) [(.s 23),(kI 0),(kI 5)]⟩,o1 22 25 (.pick (.s 21) (.s 24) (kB false))] [25])
 (.cond (.s 25) (sQ (rG 0 [mI 0 2 0] [2])
 .ret)
 .skip))
 (sQ (rG 0 [mI 0 2 2] [2])
 .ret))) }
def zGk:CFn:={ frz:=true,rnd:=none,nargs:=0,ntmps:=2,res:=[(.cell 0 true 5)],code :=
 (sQ (rG 1 [o1 0 0 (.box 0 5 (.k (.a [(I 0),(I 0),(I 0),(I 0),(I 0)])))] [0])
 (sQ (rG 0 [o1 0 1 (.build [(I 0),(I 0),(I 0),(I 0),(I 0)] [(0,1,(kI 4000)),(1,1,(kI 20)),(2,1,(kI 60)),(3,1,(kI 30)),(4,1,(kI 1))]),o0 1 (.store 5 (.s 0) (.s 1))] [0])
 .ret)) }
def zGw:CC:=(sQ (rG 0 [bS 0 46 .lss 45 44] [46,7,2,43,44,45])
 (sQ (.cond (.s 46) .skip
 (.exit 1))
 (sQ (.block 2 (sQ (rG 0 [iA 0 47 1 43 45,lF 1 48 47,mS 2 9 48] [7,2,43,44,45,9])
 (sQ (sQ (rG 0 [mS 0 49 9,mS 1 50 7,bS 2 51 .sub 49 50,fA 3 52 3 2,lF 4 53 52,o1 5 54 (.un .neg (.s 53)),fA 6 55 3 2,lF 7 56 55,cA 8 57 103 [(.s 51),(.s 54),(.s 56)],o1 9 58 (.un .not (.s 57))] [58,2,43,44,45,9])
 (.cond (.s 58) (sQ (rG 0 [mI 0 4 11] [4])
 .ret)
 .skip))
 (rG 0 [mS 0 59 9,mS 1 7 59] [45,7,44,43,2]))))
 (rG 0 [bI 0 60 .add 45 1,mS 1 45 60] [7,44,43,2,45]))))
def zGK:CFn:={ frz:=true,rnd:=none,nargs:=2,ntmps:=61,res:=[(.slot 4)],code :=
 (sQ (rG 2 [o1 0 2 (.box 0 5 (.s 0)),o1 1 3 (.box 1 1 (.s 1)),mI 2 4 0] [3,2])
 (sQ (sQ (rG 0 [lT 0 10 5 2,cA 1 11 47 [(.s 10)],mS 2 5 11] [3,2,5])
 (sQ (rG 0 [mS 0 12 5,bI 1 13 .neq 12 0] [13,3,2,5])
 (.cond (.s 13) (sQ (rG 0 [mS 0 14 5,mS 1 4 14] [4])
 .ret)
 .skip)))
 (sQ (sQ (rG 0 [fA 0 15 0 3,lF 1 16 15,lN 2 17 16,mS 3 6 17] [6,2,3])
 (.block 0 (sQ (rG 0 [mS 0 19 6,bI 1 20 .eql 19 0,mS 2 18 20] [18,6,2,3])
 (.cond (.s 18) (sQ (rG 0 [mI 0 4 6] [4])
 .ret)
 (sQ (rG 0 [mS 0 22 6,bI 1 23 .gtr 22 200,mS 2 21 23] [21,3,2,6])
 (.cond (.s 21) (sQ (rG 0 [mI 0 4 5] [4])
 .ret)
 (sQ (rG 0 [fA 0 25 0 3,lF 1 26 25,mS 2 27 6,bI 3 28 .sub 27 1,iA 4 29 1 26 28,lF 5 30 29,bI 6 31 .gtr 30 0,mS 7 32 31,oG 8 33 32 false (.faddr 0 (.s 3)),oG 9 34 32 false (.load false 1 (.s 33)),oG 10 35 32 false (.mkfn 105 [] [(.s 2)]),⟨11,(some 36),(some (32,false)),.call ⟨true⟩ (.k (.c (.fn 104 [] []))) [(.s 34),(.s 35)]⟩,o1 12 37 (.pick (.s 32) (kB true) (.s 36)),mS 13 24 37] [24,2,3])
 (.cond (.s 24) (sQ (rG 0 [mI 0 4 2] [4])
 .ret)
 .skip))))))))
 (sQ (rG 0 [fA 0 38 0 3,lF 1 39 38,o1 2 40 (.iaddr 1 (.s 39) (kI 0)),lF 3 41 40,mS 4 7 41] [3,7,2])
 (sQ (sQ (rG 0 [fA 0 42 0 3,lF 1 43 42,lN 2 44 43,mI 3 45 0] [7,44,43,2,45])
 (.block 1 (.loop (some [7,44,43,2,45]) zGw)))
 (sQ (rG 0 [mI 0 4 0] [4])
 .ret)))))) }
def zGO:CFn:={ frz:=true,rnd:=none,nargs:=3,ntmps:=18,res:=[(.slot 6)],code :=
 (sQ (rG 1 [o1 0 3 (.box 0 5 (.s 0)),mI 1 6 0] [2,1,3])
 (sQ (sQ (rG 0 [lT 0 8 5 3,cA 1 9 47 [(.s 8)],bI 2 10 .neq 9 0] [10,2,1,3])
 (.cond (.s 10) (sQ (rG 0 [mI 0 6 0] [6])
 .ret)
 .skip))
 (sQ (rG 1 [lT 0 11 5 3,mS 1 12 1,o1 2 13 (.build [(I 0),(I 0),(I 0),(I 0),(I 0),(I 0),(I 0),.nilslice] [(0,5,(.s 11)),(5,1,(.s 12))]),o1 3 14 (.box 0 8 (.s 13)),mS 4 7 14] [7,2])
 (sQ (rG 0 [mS 0 15 7,mS 1 16 2,cA 2 17 106 [(.s 15),(.s 16)],mS 3 6 17] [6])
 .ret)))) }
def zGA:CFn:={ frz:=true,rnd:=none,nargs:=6,ntmps:=24,res:=[(.cell 12 true 1)],code :=
 (sQ (rG 2 [o1 0 6 (.box 0 5 (.s 0)),o1 1 12 (.box 1 1 (.k (.a [.nilslice])))] [5,4,3,2,1,6,12])
 (sQ (sQ (rG 0 [lT 0 13 5 6,cA 1 14 47 [(.s 13)],bI 2 15 .neq 14 0] [15,5,4,3,2,1,6,12])
 (.cond (.s 15) (sQ (rG 0 [o1 0 16 (.build [.nilslice] []),o0 1 (.store 1 (.s 12) (.s 16))] [12])
 .ret)
 .skip))
 (sQ (rG 0 [lT 0 17 5 6,mS 1 18 1,mS 2 19 2,mS 3 20 3,mS 4 21 4,mS 5 22 5,cA 6 23 74 [(.s 17),(.s 18),(.s 19),(.s 20),(.s 21),(.s 22)],o0 7 (.store 1 (.s 12) (.s 23))] [12])
 .ret))) }
def zco:CC:=(sQ (sQ (rG 0 [mS 0 15 10,bI 1 16 .add 15 1,mS 2 17 3,lN 3 18 17,bS 4 19 .lss 16 18] [19,10,8,0,3,9])
 (.cond (.s 19) .skip
 (.exit 0)))
 (sQ (.block 1 (.region 1 [fA 0 22 1 9,fA 1 23 0 22,mS 3 25 3,mS 4 26 10,iA 5 27 1 25 26,mS 7 29 3,mS 8 30 10,bI 9 31 .add 30 1,iA 10 32 1 29 31,lF 2 24 23,lF 6 28 27,lF 11 33 32,o1 12 34 (.build [(I 0),(I 0)] [(0,1,(.s 28)),(1,1,(.s 33))]),o1 13 35 (.lit 0 2 [[(I 0),(I 0)]] [(0,(.s 34))]),o1 14 36 (.append 2 16 (.s 24) (.s 35)),fA 15 37 1 9,fA 16 38 0 37,o0 17 (.store 1 (.s 38) (.s 36))] [(9,13)] (some [10,8,0,3,9])))
 (rG 0 [mS 0 20 10,bI 1 21 .add 20 2,mS 2 10 21] [10,8,0,3,9])))
abbrev zmT:Nat:=52
def zee:CFn:={ frz:=true,rnd:=none,nargs:=4,ntmps:=43,res:=[(.cell 8 true 5)],code :=
 (sQ (rG 1 [o1 0 8 (.box 0 5 (.k (.a [(I 0),.nilslice,(I 0),(I 0),.nilslice])))] [1,2,8,0,3])
 (sQ (rG 1 [mS 0 11 0,mS 1 12 1,mS 2 13 2,o1 3 14 (.build [(I 0),.nilslice,(I 0),(I 0),.nilslice] [(0,1,(.s 11)),(2,1,(kI 1500)),(3,1,(.s 12)),(4,1,(.s 13))]),o1 4 9 (.box 0 5 (.k (.a [(I 0),.nilslice,(I 0),(I 0),.nilslice]))),o0 5 (.store 5 (.s 9) (.s 14))] [8,0,3,9])
 (sQ (sQ (rG 0 [mI 0 10 0] [10,8,0,3,9])
 (.block 0 (.loop (some [10,8,0,3,9]) zco)))
 (sQ (sQ (rG 0 [mS 0 39 0,bI 1 40 .eql 39 3] [40,9,8])
 (.cond (.s 40) (rG 0 [fA 0 41 2 9,o0 1 (.store 1 (.s 41) (kI 500))] [9,8])
 .skip))
 (sQ (rG 0 [lT 0 42 5 9,o0 1 (.store 5 (.s 8) (.s 42))] [8])
 .ret))))) }
abbrev zlr:Nat:=53
def ze2:CFn:={ frz:=true,rnd:=none,nargs:=3,ntmps:=18,res:=[(.cell 6 true 2)],code :=
 (sQ (rG 1 [o1 0 6 (.box 0 2 (.k (.a [(I 0),.nilslice])))] [0,1,2,6])
 (sQ (rG 3 [mS 0 7 0,mS 1 8 1,o1 2 9 (.lit 0 1 [[(I 0)]] [(0,(.s 8))]),o1 3 10 (.build [(I 0),.nilslice] [(0,1,(kI 12)),(1,1,(.s 9))]),o1 4 11 (.build [(I 0),.nilslice] [(0,1,(kI 5))]),mS 5 12 2,o1 6 13 (.lit 1 1 [[(I 0)]] [(0,(.s 12))]),o1 7 14 (.build [(I 0),.nilslice] [(0,1,(kI 9)),(1,1,(.s 13))]),o1 8 15 (.build [(I 0),.nilslice] [(0,1,(kI 4))]),o1 9 16 (.lit 2 2 [[(I 0),.nilslice],[(I 0),.nilslice],[(I 0),.nilslice],[(I 0),.nilslice]] [(0,(.s 10)),(1,(.s 11)),(2,(.s 14)),(3,(.s 15))]),o1 10 17 (.build [(I 0),.nilslice] [(0,1,(.s 7)),(1,1,(.s 16))]),o0 11 (.store 2 (.s 6) (.s 17))] [6])
 .ret)) }
abbrev zuc:Nat:=54
def zdi:CFn:={ frz:=true,rnd:=none,nargs:=6,ntmps:=63,res:=[(.cell 12 true 6),(.slot 13),(.slot 14)],code :=
 (sQ (rG 4 [o1 0 6 (.box 0 5 (.s 0)),o1 1 9 (.box 1 6 (.s 3)),o1 2 12 (.box 2 6 (.k (.a [(I 0),.nilslice,(I 0),(I 0),(I 0),(I 0)]))),o1 3 13 (.newsl 3 4),mI 4 14 0] [6,1,2,5,4,9,12])
 (sQ (sQ (rG 0 [lT 0 19 5 6,lT 1 20 6 9,cA 2 21 107 [(.s 19),(.s 20)],mS 3 15 21] [6,1,2,5,4,9,15,12])
 (sQ (rG 0 [mS 0 22 15,bI 1 23 .neq 22 0] [23,6,1,2,5,4,9,15,12])
 (.cond (.s 23) (sQ (rG 1 [o1 0 24 (.build [(I 0),.nilslice,(I 0),(I 0),(I 0),(I 0)] []),mS 1 25 15,o0 2 (.store 6 (.s 12) (.s 24)),o1 3 13 (.newsl 0 4),mS 4 14 25] [12,13,14])
 .ret)
 .skip)))
 (sQ (sQ (rG 0 [lT 0 26 5 6,mS 1 27 1,cA 2 28 108 [(.s 26),(.s 27)],bI 3 29 .neq 28 0] [29,9,4,5,2,1,6,12])
 (.cond (.s 29) (sQ (rG 1 [o1 0 30 (.build [(I 0),.nilslice,(I 0),(I 0),(I 0),(I 0)] []),o0 1 (.store 6 (.s 12) (.s 30)),o1 2 13 (.newsl 0 4),mI 3 14 13] [12,13,14])
 .ret)
 .skip))
 (sQ (rG 1 [lT 0 31 5 6,mS 1 32 1,mS 2 33 2,cA 3 34 109 [(.s 31),(.s 32),(.s 33)],o1 4 16 (.box 0 11 (.k (.a [(I 0),.nilslice,.nilslice,.nilslice,.nilslice,.nilslice,.nilslice,(I 0),(I 0),.nilslice,.nilslice]))),o0 5 (.store 11 (.s 16) (.s 34))] [2,5,4,9,16,12])
 (sQ (sQ (rG 0 [mS 0 35 2,cA 1 36 110 [(.s 35)],o1 2 37 (.un .not (.s 36)),mS 3 38 37,oG 4 39 38 false (.faddr 0 (.s 9)),oG 5 40 38 false (.load false 1 (.s 39)),oG 6 41 38 false (.bin .eql (.s 40) (kI 1099511627776)),o1 7 42 (.pick (.s 38) (kB true) (.s 41)),mS 8 43 42,oG 9 44 43 false (.load true 11 (.s 16)),oG 10 45 43 false (.faddr 2 (.s 9)),oG 11 46 43 false (.load true 4 (.s 45)),oG 12 47 43 false (.mv (.s 4)),⟨13,(some 48),(some (43,false)),.call ⟨true⟩ (.k (.c (.fn 111 [] []))) [(.s 44),(.s 46),(.s 47)]⟩,oG 14 49 43 false (.field false 1 1 (.s 48)),oG 15 50 43 false (.bin .gtr (.s 49) (kI 1099511627776)),o1 16 51 (.pick (.s 43) (kB true) (.s 50))] [51,5,4,9,16,12])
 (.cond (.s 51) (sQ (rG 1 [o1 0 52 (.build [(I 0),.nilslice,(I 0),(I 0),(I 0),(I 0)] []),o0 1 (.store 6 (.s 12) (.s 52)),o1 2 13 (.newsl 0 4),mI 3 14 2] [12,13,14])
 .ret)
 .skip))
 (sQ (rG 1 [lT 0 54 11 16,lT 1 55 6 9,mS 2 56 4,mS 3 57 5,cA 4 58 112 [(.s 54),(.s 55),(.s 56),(.s 57)],mS 5 53 58,eX 6 59 53 0,eX 7 60 53 1,o1 8 17 (.box 0 6 (.k (.a [(I 0),.nilslice,(I 0),(I 0),(I 0),(I 0)]))),o0 9 (.store 6 (.s 17) (.s 59)),mS 10 18 60] [17,18,12])
 (sQ (rG 0 [lT 0 61 6 17,mS 1 62 18,o0 2 (.store 6 (.s 12) (.s 61)),mS 3 13 62,mI 4 14 0] [12,13,14])
 .ret))))))) }
abbrev zGj:Nat:=55
def zFQ:CFn:={ frz:=true,rnd:=none,nargs:=2,ntmps:=20,res:=[(.slot 4)],code :=
 (sQ (rG 1 [o1 0 2 (.box 0 1 (.s 0)),mI 1 4 0] [2,1])
 (sQ (sQ (rG 0 [fA 0 5 0 2,lF 1 6 5,lN 2 7 6,bI 3 8 .eql 7 0] [8,2,1])
 (.cond (.s 8) (sQ (rG 0 [mI 0 4 0] [4])
 .ret)
 .skip))
 (sQ (rG 0 [fA 0 9 0 2,lF 1 10 9,mS 2 11 1,fA 3 12 0 2,lF 4 13 12,lN 5 14 13,bI 6 15 .sub 14 1,o1 7 16 (.minmax false [(.s 11),(.s 15)]),o1 8 17 (.minmax true [(kI 0),(.s 16)]),iA 9 18 1 10 17,lF 10 19 18,mS 11 4 19] [4])
 .ret))) }
def zag:CC:=(sQ (sQ (rG 0 [mS 0 44 6,mS 1 45 1,lN 2 46 45,bS 3 47 .lss 44 46] [47,1,2,6])
 (.cond (.s 47) .skip
 (.exit 0)))
 (sQ (.block 1 (sQ (rG 0 [fA 0 50 1 2,mS 2 52 1,mS 3 53 6,bI 4 54 .sub 53 1,iA 5 55 1 52 54,mS 10 60 1,mS 11 61 6,iA 12 62 1 60 61,lF 1 51 50,lF 6 56 55,iA 7 57 5 51 56,fA 8 58 4 57,lF 9 59 58,lF 13 63 62,cA 14 64 121 [(.s 59),(.s 63)],o1 15 65 (.un .not (.s 64))] [65,1,2,6])
 (.cond (.s 65) (sQ (rG 0 [mI 0 4 13] [4])
 .ret)
 .skip)))
 (rG 0 [mS 0 48 6,bI 1 49 .add 48 1,mS 2 6 49] [2,1,6])))
abbrev zh0:Nat:=60
def zai:CFn:={ frz:=true,rnd:=none,nargs:=2,ntmps:=66,res:=[(.slot 4)],code :=
 (sQ (rG 1 [o1 0 2 (.box 0 5 (.s 0)),mI 1 4 0] [2,1])
 (sQ (rG 0 [lT 0 7 5 2,cA 1 8 36 [(.s 7)],mS 2 5 8] [2,1,5])
 (sQ (sQ (rG 0 [mS 0 9 5,bI 1 10 .neq 9 0] [10,2,1,5])
 (.cond (.s 10) (sQ (rG 0 [mS 0 11 5,mS 1 4 11] [4])
 .ret)
 .skip))
 (sQ (sQ (rG 0 [mS 0 12 1,lN 1 13 12,bI 2 14 .eql 13 0,mS 3 15 14,oG 4 16 15 false (.mv (.s 1)),oG 5 17 15 false (.len (.s 16)),oG 6 18 15 false (.bin .gtr (.s 17) (kI 8)),o1 7 19 (.pick (.s 15) (kB true) (.s 18)),mS 8 20 19,oG 9 21 20 false (.mv (.s 1)),oG 10 22 20 false (.iaddr 1 (.s 21) (kI 0)),oG 11 23 20 false (.load false 1 (.s 22)),oG 12 24 20 false (.bin .lss (.s 23) (kI 0)),o1 13 25 (.pick (.s 20) (kB true) (.s 24)),mS 14 26 25,oG 15 27 26 false (.mv (.s 1)),oG 16 28 26 false (.iaddr 1 (.s 27) (kI 0)),oG 18 30 26 false (.faddr 1 (.s 2)),oG 17 29 26 false (.load false 1 (.s 28)),oG 19 31 26 false (.load false 1 (.s 30)),oG 20 32 26 false (.len (.s 31)),oG 21 33 26 false (.bin .geq (.s 29) (.s 32)),o1 22 34 (.pick (.s 26) (kB true) (.s 33)),mS 23 35 34,oG 25 37 35 false (.mv (.s 1)),oG 26 38 35 false (.iaddr 1 (.s 37) (kI 0)),oG 24 36 35 false (.load true 5 (.s 2)),oG 27 39 35 false (.load false 1 (.s 38)),⟨28,(some 40),(some (35,false)),.call ⟨true⟩ (.k (.c (.fn 120 [] []))) [(.s 36),(.s 39)]⟩,oG 29 41 35 false (.len (.s 40)),oG 30 42 35 false (.bin .gtr (.s 41) (kI 0)),o1 31 43 (.pick (.s 35) (kB true) (.s 42))] [43,1,2])
 (.cond (.s 43) (sQ (rG 0 [mI 0 4 13] [4])
 .ret)
 .skip))
 (sQ (sQ (rG 0 [mI 0 6 1] [2,1,6])
 (.block 0 (.loop (some [2,1,6]) zag)))
 (sQ (rG 0 [mI 0 4 0] [4])
 .ret)))))) }
def zaX:CC:=(sQ (sQ (rG 0 [mS 0 57 7,fA 1 58 1 3,lF 2 59 58,lN 3 60 59,bS 4 61 .lss 57 60,mS 5 62 61,oG 6 63 62 true (.mv (.s 5)),oG 7 64 62 true (.bin .eql (.s 63) (kI 0)),o1 8 65 (.pick (.s 62) (.s 64) (kB false))] [65,5,7,2,3])
 (.cond (.s 65) .skip
 (.exit 0)))
 (sQ (.block 1 (rG 0 [lT 0 68 5 2,fA 1 69 1 3,lF 2 70 69,mS 3 71 7,cA 4 72 122 [(.s 68),(.s 70),(.s 71)],mS 5 5 72] [7,5,2,3]))
 (rG 0 [mS 0 66 7,bI 1 67 .add 66 1,mS 2 7 67] [5,7,2,3])))
abbrev zkF:Nat:=62
def zaj:CFn:={ frz:=true,rnd:=none,nargs:=2,ntmps:=74,res:=[(.slot 4)],code :=
 (sQ (rG 2 [o1 0 2 (.box 0 5 (.s 0)),o1 1 3 (.box 1 6 (.s 1)),mI 2 4 0] [2,3])
 (sQ (rG 0 [lT 0 8 5 2,cA 1 9 36 [(.s 8)],mS 2 5 9] [2,3,5])
 (sQ (sQ (rG 0 [mS 0 10 5,bI 1 11 .neq 10 0] [11,2,3,5])
 (.cond (.s 11) (sQ (rG 0 [mS 0 12 5,mS 1 4 12] [4])
 .ret)
 .skip))
 (sQ (rG 1 [fA 0 13 2 3,lT 1 14 4 13,o1 2 6 (.box 0 4 (.k (.a [(I 0),(I 0),(I 0),(I 0)]))),o0 3 (.store 4 (.s 6) (.s 14))] [6,3,2,5])
 (sQ (sQ (rG 0 [fA 0 15 0 3,lF 1 16 15,bI 2 17 .lss 16 0,mS 3 18 17,oG 4 19 18 false (.faddr 0 (.s 3)),oG 5 20 18 false (.load false 1 (.s 19)),oG 6 21 18 false (.bin .gtr (.s 20) (kI 1099511627776)),o1 7 22 (.pick (.s 18) (kB true) (.s 21)),mS 8 23 22,oG 9 24 23 false (.faddr 0 (.s 6)),oG 10 25 23 false (.load false 1 (.s 24)),oG 11 26 23 false (.bin .lss (.s 25) (kI 0)),o1 12 27 (.pick (.s 23) (kB true) (.s 26)),mS 13 28 27,oG 14 29 28 false (.faddr 0 (.s 6)),oG 15 30 28 false (.load false 1 (.s 29)),oG 16 31 28 false (.faddr 1 (.s 6)),oG 17 32 28 false (.load false 1 (.s 31)),oG 18 33 28 false (.bin .gtr (.s 30) (.s 32)),o1 19 34 (.pick (.s 28) (kB true) (.s 33)),mS 20 35 34,oG 21 36 35 false (.faddr 1 (.s 6)),oG 22 37 35 false (.load false 1 (.s 36)),oG 23 38 35 false (.bin .gtr (.s 37) (kI 1099511627776)),o1 24 39 (.pick (.s 35) (kB true) (.s 38)),mS 25 40 39,oG 26 41 40 false (.faddr 2 (.s 6)),oG 27 42 40 false (.load false 1 (.s 41)),oG 28 43 40 false (.bin .lss (.s 42) (kI 0)),o1 29 44 (.pick (.s 40) (kB true) (.s 43)),mS 30 45 44,oG 31 46 45 false (.faddr 2 (.s 6)),oG 32 47 45 false (.load false 1 (.s 46)),oG 33 48 45 false (.faddr 3 (.s 6)),oG 34 49 45 false (.load false 1 (.s 48)),oG 35 50 45 false (.bin .gtr (.s 47) (.s 49)),o1 36 51 (.pick (.s 45) (kB true) (.s 50)),mS 37 52 51,oG 38 53 52 false (.faddr 3 (.s 6)),oG 39 54 52 false (.load false 1 (.s 53)),oG 40 55 52 false (.bin .gtr (.s 54) (kI 2000)),o1 41 56 (.pick (.s 52) (kB true) (.s 55))] [56,3,2,5])
 (.cond (.s 56) (sQ (rG 0 [mI 0 4 2] [4])
 .ret)
 .skip))
 (sQ (sQ (rG 0 [mI 0 7 0] [5,7,2,3])
 (.block 0 (.loop (some [5,7,2,3]) zaX)))
 (sQ (rG 0 [mS 0 73 5,mS 1 4 73] [4])
 .ret))))))) }
def zcn:CC:=(sQ (sQ (rG 0 [mS 0 9 8,mS 1 10 1,lN 2 11 10,bS 3 12 .lss 9 11] [12,6,7,8,1,2])
 (.cond (.s 12) .skip
 (.exit 0)))
 (sQ (.block 1 (sQ (rG 1 [mS 0 15 6,mS 1 16 7,o1 2 17 (.lit 0 1 [[(I 0)]] [(0,(.s 16))]),o1 3 18 (.append 1 8 (.s 15) (.s 17)),mS 4 6 18] [7,8,6,1,2])
 (rG 0 [mS 0 19 7,mS 2 21 1,mS 3 22 8,iA 4 23 1 21 22,lT 1 20 5 2,lF 5 24 23,cA 6 25 81 [(.s 20),(.s 24)],bS 7 26 .add 19 25,mS 8 7 26] [8,6,7,1,2])))
 (rG 0 [mS 0 13 8,bI 1 14 .add 13 1,mS 2 8 14] [6,7,8,1,2])))
abbrev zjQ:Nat:=63
def zep:CFn:={ frz:=true,rnd:=none,nargs:=2,ntmps:=29,res:=[(.slot 4),(.slot 5)],code :=
 (sQ (rG 2 [o1 0 2 (.box 0 5 (.s 0)),o1 1 4 (.newsl 1 1),mI 2 5 0] [1,2])
 (sQ (rG 1 [o1 0 6 (.newsl 0 1)] [6,1,2])
 (sQ (rG 0 [mI 0 7 0] [6,7,1,2])
 (sQ (sQ (rG 0 [mI 0 8 0] [6,7,8,1,2])
 (.block 0 (.loop (some [6,7,8,1,2]) zcn)))
 (sQ (rG 0 [mS 0 27 6,mS 1 28 7,mS 2 4 27,mS 3 5 28] [4,5])
 .ret))))) }
def zdp:CC:=(sQ (sQ (rG 0 [mS 0 150 29,mS 1 151 28,lN 2 152 151,bS 3 153 .lss 150 152] [153,19,29,23,1,14,12,5,21,6,22,17,2,9,18,20,24,27,28])
 (.cond (.s 153) .skip
 (.exit 2)))
 (sQ (.block 3 (rG 1 [mS 0 156 19,mS 1 157 28,mS 2 158 29,iA 3 159 7 157 158,fA 4 160 0 159,lT 5 161 6 160,o1 6 162 (.lit 0 6 [[(I 0),(I 0),(I 0),(I 0),(I 0),(I 0)]] [(0,(.s 161))]),o1 7 163 (.append 6 48 (.s 156) (.s 162)),mS 8 19 163] [29,19,23,1,14,12,5,21,6,22,17,2,9,18,20,24,27,28]))
 (rG 0 [mS 0 154 29,bI 1 155 .add 154 1,mS 2 29 155] [19,29,23,1,14,12,5,21,6,22,17,2,9,18,20,24,27,28])))
def zdo:CC:=(sQ (sQ (rG 0 [mS 0 177 30,mS 1 178 28,lN 2 179 178,bS 3 180 .lss 177 179] [180,20,30,18,9,2,19,17,22,6,21,5,12,14,1,23,28])
 (.cond (.s 180) .skip
 (.exit 4)))
 (sQ (.block 5 (rG 1 [mS 0 183 20,mS 1 184 28,mS 2 185 30,iA 3 186 7 184 185,fA 4 187 0 186,fA 5 188 0 187,mS 7 190 28,mS 8 191 30,iA 9 192 7 190 191,fA 10 193 0 192,fA 11 194 1 193,mS 13 196 28,mS 14 197 30,iA 15 198 7 196 197,fA 16 199 0 198,fA 17 200 2 199,mS 19 202 28,mS 20 203 30,iA 21 204 7 202 203,fA 22 205 6 204,lF 6 189 188,lF 12 195 194,lF 18 201 200,lF 23 206 205,o1 24 207 (.build [(I 0),(I 0),(I 0),(.bool false)] [(0,1,(.s 189)),(1,1,(.s 195)),(2,1,(.s 201)),(3,1,(.s 206))]),o1 25 208 (.lit 0 4 [[(I 0),(I 0),(I 0),(.bool false)]] [(0,(.s 207))]),o1 26 209 (.append 4 32 (.s 183) (.s 208)),mS 27 20 209] [30,20,18,9,2,19,17,22,6,21,5,12,14,1,23,28]))
 (rG 0 [mS 0 181 30,bI 1 182 .add 181 1,mS 2 30 182] [20,30,18,9,2,19,17,22,6,21,5,12,14,1,23,28])))
def zas:CC:=(sQ (sQ (rG 0 [mS 0 82 23,mS 1 83 22,lN 2 84 83,bS 3 85 .lss 82 84] [85,23,1,14,12,5,21,6,22,17,20,19,2,9,18])
 (.cond (.s 85) .skip
 (.exit 0)))
 (sQ (.block 1 (sQ (.region 1 [mS 1 90 22,mS 2 91 23,iA 3 92 6 90 91,fA 5 94 0 9,mS 7 96 5,mS 8 97 21,mS 9 98 22,mS 10 99 23,iA 11 100 6 98 99,fA 12 101 0 100,lT 0 89 5 6,lT 4 93 6 92,lF 6 95 94,lF 13 102 101,cA 14 103 125 [(.s 97),(.s 102)],cA 15 104 124 [(.s 89),(.s 93),(.s 95),(.s 96),(.s 103)],mS 16 88 104,eX 17 105 88 0,eX 18 106 88 1,o1 19 24 (.box 0 6 (.k (.a [(I 0),(I 0),(I 0),(I 0),(I 0),(I 0)]))),o0 20 (.store 6 (.s 24) (.s 105)),mS 21 25 106] [(10,14),(10,19),(11,14),(11,19),(12,14),(12,19),(13,19),(14,19),(15,19)] (some [25,24,23,1,14,12,5,21,6,22,17,20,19,2,9,18]))
 (sQ (sQ (rG 0 [mS 0 107 25,o1 1 108 (.un .not (.s 107))] [108,24,23,1,14,12,5,21,6,22,17,20,19,2,9,18])
 (.cond (.s 108) (.exit 1)
 .skip))
 (sQ (rG 0 [mS 1 110 22,mS 2 111 23,iA 3 112 6 110 111,fA 4 113 0 112,lT 0 109 12 17,lF 5 114 113,cA 6 115 126 [(.s 109),(.s 114)],mS 7 26 115] [26,19,23,1,14,12,5,21,6,22,17,2,9,18,20,24])
 (sQ (rG 0 [mS 0 116 18,mS 1 117 116,oG 2 118 117 true (.mv (.s 26)),oG 3 119 117 true (.bin .geq (.s 118) (kI 0)),o1 4 120 (.pick (.s 117) (.s 119) (kB false)),mS 5 121 120,oG 6 122 121 true (.faddr 6 (.s 17)),oG 8 124 121 true (.mv (.s 26)),oG 11 127 121 true (.mv (.s 22)),oG 12 128 121 true (.mv (.s 23)),oG 13 129 121 true (.iaddr 6 (.s 127) (.s 128)),oG 14 130 121 true (.faddr 2 (.s 129)),oG 17 133 121 true (.faddr 2 (.s 9)),oG 18 134 121 true (.faddr 1 (.s 133)),oG 20 136 121 true (.mv (.s 2)),oG 7 123 121 true (.load false 1 (.s 122)),oG 9 125 121 true (.iaddr 1 (.s 123) (.s 124)),oG 10 126 121 true (.load false 1 (.s 125)),oG 15 131 121 true (.load false 1 (.s 130)),oG 16 132 121 true (.bin .add (.s 126) (.s 131)),oG 19 135 121 true (.load false 1 (.s 134)),oG 21 137 121 true (.bin .sub (.s 135) (.s 136)),oG 22 138 121 true (.bin .lss (.s 132) (.s 137)),o1 23 139 (.pick (.s 121) (.s 138) (kB false)),mS 24 27 139] [19,23,1,14,12,5,21,6,22,17,2,9,18,20,24,27])
 (sQ (rG 0 [lT 0 140 12 17,lT 1 141 6 24,fA 2 142 1 24,lF 3 143 142,fA 4 144 2 24,lF 5 145 144,mS 6 146 27,fA 7 147 7 17,lF 8 148 147,cA 9 149 127 [(.s 140),(.s 141),(.s 143),(.s 145),(.s 146),(.s 148)],mS 10 28 149] [19,23,1,14,12,5,21,6,22,17,2,9,18,20,24,27,28])
 (sQ (sQ (rG 0 [mI 0 29 0] [19,29,23,1,14,12,5,21,6,22,17,2,9,18,20,24,27,28])
 (.block 2 (.loop (some [19,29,23,1,14,12,5,21,6,22,17,2,9,18,20,24,27,28]) zdp)))
 (sQ (rG 0 [mS 2 166 22,mS 3 167 23,iA 4 168 6 166 167,fA 5 169 1 168,fA 7 171 2 24,mS 9 173 27,fA 10 174 7 17,lT 0 164 12 17,lT 1 165 6 24,lF 6 170 169,lF 8 172 171,lF 11 175 174,cA 12 176 127 [(.s 164),(.s 165),(.s 170),(.s 172),(.s 173),(.s 175)],mS 13 28 176] [20,18,9,2,19,17,22,6,21,5,12,14,1,23,28])
 (sQ (rG 0 [mI 0 30 0] [20,30,18,9,2,19,17,22,6,21,5,12,14,1,23,28])
 (.block 4 (.loop (some [20,30,18,9,2,19,17,22,6,21,5,12,14,1,23,28]) zdo)))))))))))
 (rG 0 [mS 0 86 23,bI 1 87 .add 86 1,mS 2 23 87] [23,1,14,12,5,21,6,22,17,20,19,2,9,18])))
def zbR:CC:=(sQ (sQ (rG 0 [mS 0 210 31,mS 1 211 21,lN 2 212 211,bS 3 213 .lss 210 212] [213,19,31,12,14,20,2,6,1,17,21])
 (.cond (.s 213) .skip
 (.exit 6)))
 (sQ (.block 7 (sQ (rG 0 [fA 0 217 1 6,mS 2 219 21,mS 3 220 31,iA 4 221 1 219 220,lF 1 218 217,lF 5 222 221,iA 6 223 5 218 222,fA 7 224 0 223,lF 8 225 224,cA 9 226 75 [(.s 225)],mS 10 216 226,eX 11 227 216 0,eX 12 228 216 1,eX 13 229 216 2,mS 14 32 227,mS 15 33 228,mS 16 34 229] [19,32,31,12,14,20,2,6,1,17,21])
 (sQ (rG 0 [mS 0 230 21,mS 1 231 31,iA 2 232 1 230 231,mS 4 234 1,o1 5 235 (.iaddr 1 (.s 234) (kI 0)),lF 3 233 232,lF 6 236 235,bS 7 237 .neq 233 236,mS 8 238 237,oG 9 239 238 false (.faddr 7 (.s 17)),oG 10 240 238 false (.load false 1 (.s 239)),oG 11 241 238 false (.bin .geq (.s 240) (kI 0)),o1 12 242 (.pick (.s 238) (kB true) (.s 241))] [242,19,32,31,12,14,20,2,6,1,17,21])
 (.cond (.s 242) (rG 1 [mS 0 243 19,mS 1 244 21,mS 2 245 31,iA 3 246 1 244 245,lF 4 247 246,mS 5 248 32,o1 6 249 (.build [(I 0),(I 0),(I 0),(I 0),(I 0),(I 0)] [(0,1,(.s 247)),(4,1,(.s 248))]),o1 7 250 (.lit 0 6 [[(I 0),(I 0),(I 0),(I 0),(I 0),(I 0)]] [(0,(.s 249))]),o1 8 251 (.append 6 48 (.s 243) (.s 250)),mS 9 19 251] [31,19,12,14,20,2,6,1,17,21])
 .skip))))
 (rG 0 [mS 0 214 31,bI 1 215 .add 214 1,mS 2 31 215] [19,31,12,14,20,2,6,1,17,21])))
abbrev zmS:Nat:=64
def zfH:CFn:={ frz:=true,rnd:=none,nargs:=6,ntmps:=264,res:=[(.cell 12 true 6),(.slot 13)],code :=
 (sQ (rG 4 [o1 0 6 (.box 0 5 (.s 0)),o1 1 9 (.box 1 6 (.s 3)),o1 2 12 (.box 2 6 (.k (.a [(I 0),.nilslice,(I 0),(I 0),(I 0),(I 0)]))),o1 3 13 (.newsl 3 4)] [4,1,12,5,6,2,9])
 (sQ (.region 1 [fA 0 35 0 9,mS 4 39 1,fA 5 40 2 9,mS 7 42 4,lF 1 36 35,bI 2 37 .add 36 1,lT 3 38 5 6,lT 6 41 4 40,cA 8 43 88 [(.s 38),(.s 39),(.s 41),(.s 42)],o1 9 44 (.build [(I 0),.nilslice,(I 0),(I 0),(I 0),(I 0)] [(0,1,(.s 37)),(2,4,(.s 43))]),o1 10 14 (.box 0 6 (.k (.a [(I 0),.nilslice,(I 0),(I 0),(I 0),(I 0)]))),o0 11 (.store 6 (.s 14) (.s 44))] [(4,8),(4,10),(6,10),(7,10),(8,10)] (some [1,14,12,5,6,2,9]))
 (sQ (rG 0 [lT 0 46 5 6,mS 1 47 1,cA 2 48 63 [(.s 46),(.s 47)],mS 3 45 48,eX 4 49 45 0,eX 5 50 45 1,mS 6 15 49,mS 7 16 50] [15,1,14,12,5,6,2,9])
 (sQ (rG 1 [lT 0 51 5 6,mS 1 52 1,mS 2 53 15,fA 3 54 2 14,fA 4 55 1 54,lF 5 56 55,mS 6 57 2,bS 7 58 .sub 56 57,bI 8 59 .sub 58 1,fA 9 60 2 14,lT 10 61 4 60,o1 11 62 (.build [(I 0),.nilslice,.nilslice,.nilslice,.nilslice,.nilslice,.nilslice,(I 0),(I 0),(I 0),(I 0),(I 0)] [(0,5,(.s 51)),(5,1,(.s 52)),(6,1,(.s 53)),(7,1,(.s 59)),(8,4,(.s 61))]),o1 12 17 (.box 0 12 (.k (.a [(I 0),.nilslice,.nilslice,.nilslice,.nilslice,.nilslice,.nilslice,(I 0),(I 0),(I 0),(I 0),(I 0)]))),o0 13 (.store 12 (.s 17) (.s 62))] [1,14,12,5,6,17,2,9])
 (sQ (rG 0 [fA 0 63 2 9,fA 1 64 1 63,lF 2 65 64,mS 3 66 2,bS 4 67 .sub 65 66,fA 5 68 2 9,fA 6 69 0 68,lF 7 70 69,bS 8 71 .leq 67 70,mS 9 18 71] [1,14,12,5,6,17,2,9,18])
 (sQ (rG 1 [o1 0 19 (.newsl 0 6)] [1,14,12,5,6,17,19,2,9,18])
 (sQ (rG 1 [o1 0 20 (.newsl 0 4)] [1,14,12,5,6,17,20,19,2,9,18])
 (sQ (rG 0 [lT 0 72 5 6,cA 1 73 123 [(.s 72)],mS 2 21 73] [1,14,12,5,21,6,17,20,19,2,9,18])
 (sQ (rG 0 [lT 0 74 5 6,mS 1 75 1,mS 2 76 2,fA 3 77 1 9,lF 4 78 77,fA 5 79 2 9,lT 6 80 4 79,cA 7 81 73 [(.s 74),(.s 75),(.s 76),(.s 78),(.s 80)],mS 8 22 81] [1,14,12,5,21,6,22,17,20,19,2,9,18])
 (sQ (sQ (rG 0 [mI 0 23 0] [23,1,14,12,5,21,6,22,17,20,19,2,9,18])
 (.block 0 (.loop (some [23,1,14,12,5,21,6,22,17,20,19,2,9,18]) zas)))
 (sQ (sQ (rG 0 [mI 0 31 0] [19,31,12,14,20,2,6,1,17,21])
 (.block 6 (.loop (some [19,31,12,14,20,2,6,1,17,21]) zbR)))
 (sQ (.region 0 [mS 1 253 1,mS 2 254 2,mS 3 255 19,fA 5 257 2 14,lT 0 252 5 6,lT 6 258 4 257,cA 4 256 69 [(.s 255)],cA 7 259 73 [(.s 252),(.s 253),(.s 254),(.s 256),(.s 258)],fA 8 260 1 14,o0 9 (.store 1 (.s 260) (.s 259))] [(4,6),(5,6)] (some [20,14,12]))
 (sQ (.region 0 [mS 1 262 20,lT 0 261 6 14,cA 2 263 128 [(.s 262)],o0 3 (.store 6 (.s 12) (.s 261)),mS 4 13 263] [(1,2)] (some [12,13]))
 .ret))))))))))))) }
def zca:CC:=(sQ (sQ (rG 0 [mS 0 31 5,bI 1 32 .gtr 31 0,mS 2 33 32,oG 3 34 33 true (.mv (.s 0)),oG 4 35 33 true (.mv (.s 4)),oG 5 36 33 true (.iaddr 6 (.s 34) (.s 35)),oG 7 38 33 true (.mv (.s 3)),oG 8 39 33 true (.mv (.s 5)),oG 9 40 33 true (.bin .sub (.s 39) (kI 1)),oG 10 41 33 true (.iaddr 6 (.s 38) (.s 40)),oG 6 37 33 true (.load true 6 (.s 36)),oG 11 42 33 true (.load true 6 (.s 41)),⟨12,(some 43),(some (33,true)),.call ⟨true⟩ (.k (.c (.fn 134 [] []))) [(.s 37),(.s 42)]⟩,o1 13 44 (.pick (.s 33) (.s 43) (kB false))] [44,5,0,4,3])
 (.cond (.s 44) .skip
 (.exit 2)))
 (.block 3 (rG 0 [mS 0 45 5,bI 1 46 .sub 45 1,mS 2 5 46] [5,0,4,3])))
def zb9:CC:=(sQ (sQ (rG 0 [mS 0 12 4,mS 1 13 0,lN 2 14 13,bS 3 15 .lss 12 14] [15,4,0,3])
 (.cond (.s 15) .skip
 (.exit 0)))
 (sQ (.block 1 (sQ (sQ (rG 0 [mS 0 18 0,mS 1 19 4,iA 2 20 6 18 19,fA 3 21 1 20,mS 5 23 0,mS 6 24 4,iA 7 25 6 23 24,fA 8 26 2 25,lF 4 22 21,lF 9 27 26,bS 10 28 .gtr 22 27] [28,4,0,3])
 (.cond (.s 28) (.exit 1)
 .skip))
 (sQ (rG 0 [mS 0 29 3,lN 1 30 29,mS 2 5 30] [5,0,4,3])
 (sQ (.block 2 (.loop (some [5,0,4,3]) zca))
 (.region 2 [mS 1 48 3,mS 2 49 5,o1 3 50 (.slice 6 (.s 48) none (some (.s 49)) none),mS 5 52 0,mS 6 53 4,iA 7 54 6 52 53,mS 11 58 3,mS 12 59 5,o1 13 60 (.slice 6 (.s 58) (some (.s 59)) none none),lT 8 55 6 54,o1 0 47 (.lit 0 6 [] []),o1 4 51 (.append 6 48 (.s 47) (.s 50)),o1 9 56 (.lit 1 6 [[(I 0),(I 0),(I 0),(I 0),(I 0),(I 0)]] [(0,(.s 55))]),o1 10 57 (.append 6 48 (.s 51) (.s 56)),o1 14 61 (.append 6 48 (.s 57) (.s 60)),mS 15 3 61] [(9,10),(9,11),(10,12),(11,12)] (some [4,0,3]))))))
 (rG 0 [mS 0 16 4,bI 1 17 .add 16 1,mS 2 4 17] [4,0,3])))
def zcN:CC:=(sQ (sQ (rG 0 [mS 0 62 7,mS 1 63 3,lN 2 64 63,bS 3 65 .lss 62 64] [65,6,7,3])
 (.cond (.s 65) .skip
 (.exit 4)))
 (sQ (.block 5 (sQ (rG 1 [mS 0 68 3,mS 1 69 7,iA 2 70 6 68 69,lT 3 71 6 70,mS 4 72 6,lN 5 73 72,bI 6 74 .sub 73 1,o1 7 8 (.box 0 6 (.k (.a [(I 0),(I 0),(I 0),(I 0),(I 0),(I 0)]))),o0 8 (.store 6 (.s 8) (.s 71)),mS 9 9 74] [9,6,8,7,3])
 (sQ (sQ (rG 0 [mS 0 75 9,bI 1 76 .lss 75 0,mS 2 77 76,oG 3 78 77 false (.mv (.s 6)),oG 4 79 77 false (.mv (.s 9)),oG 5 80 77 false (.iaddr 6 (.s 78) (.s 79)),oG 6 81 77 false (.faddr 0 (.s 80)),oG 8 83 77 false (.faddr 0 (.s 8)),oG 7 82 77 false (.load false 1 (.s 81)),oG 9 84 77 false (.load false 1 (.s 83)),oG 10 85 77 false (.bin .neq (.s 82) (.s 84)),o1 11 86 (.pick (.s 77) (kB true) (.s 85)),mS 12 87 86,oG 13 88 87 false (.faddr 1 (.s 8)),oG 15 90 87 false (.mv (.s 6)),oG 16 91 87 false (.mv (.s 9)),oG 17 92 87 false (.iaddr 6 (.s 90) (.s 91)),oG 18 93 87 false (.faddr 2 (.s 92)),oG 14 89 87 false (.load false 1 (.s 88)),oG 19 94 87 false (.load false 1 (.s 93)),oG 20 95 87 false (.bin .gtr (.s 89) (.s 94)),oG 21 96 87 false (.mv (.s 95)),oG 22 97 96 true (.faddr 1 (.s 8)),oG 25 100 96 true (.mv (.s 6)),oG 26 101 96 true (.mv (.s 9)),oG 27 102 96 true (.iaddr 6 (.s 100) (.s 101)),oG 28 103 96 true (.faddr 2 (.s 102)),oG 23 98 96 true (.load false 1 (.s 97)),oG 24 99 96 true (.bin .sub (.s 98) (kI 1)),oG 29 104 96 true (.load false 1 (.s 103)),oG 30 105 96 true (.bin .gtr (.s 99) (.s 104)),oG 31 106 87 false (.pick (.s 96) (.s 105) (kB false)),o1 32 107 (.pick (.s 87) (kB true) (.s 106))] [107,9,6,8,7,3])
 (.cond (.s 107) (sQ (rG 1 [mS 0 108 6,lT 1 109 6 8,o1 2 110 (.lit 0 6 [[(I 0),(I 0),(I 0),(I 0),(I 0),(I 0)]] [(0,(.s 109))]),o1 3 111 (.append 6 48 (.s 108) (.s 110)),mS 4 6 111] [7,6,3])
 (.exit 5))
 .skip))
 (sQ (rG 1 [mS 0 112 6,mS 1 113 9,iA 2 114 6 112 113,lT 3 115 6 114,o1 4 10 (.box 0 6 (.k (.a [(I 0),(I 0),(I 0),(I 0),(I 0),(I 0)]))),o0 5 (.store 6 (.s 10) (.s 115))] [9,10,8,7,6,3])
 (sQ (rG 0 [fA 0 116 5 10,lF 1 117 116,fA 2 118 5 8,lF 3 119 118,o1 4 120 (.minmax true [(.s 117),(.s 119)]),mS 5 11 120] [11,9,10,8,7,6,3])
 (sQ (sQ (rG 0 [fA 0 121 5 10,lF 1 122 121,bI 2 123 .eql 122 0,mS 3 124 123,oG 4 125 124 false (.faddr 5 (.s 8)),oG 5 126 124 false (.load false 1 (.s 125)),oG 6 127 124 false (.bin .eql (.s 126) (kI 0)),o1 7 128 (.pick (.s 124) (kB true) (.s 127))] [128,11,9,10,8,7,6,3])
 (.cond (.s 128) (rG 0 [mI 0 11 0] [9,10,8,11,7,6,3])
 .skip))
 (rG 0 [mS 0 129 6,mS 1 130 9,fA 2 131 0 8,lF 3 132 131,fA 4 133 1 10,lF 5 134 133,fA 6 135 2 10,lF 7 136 135,fA 8 137 2 8,lF 9 138 137,o1 10 139 (.minmax true [(.s 136),(.s 138)]),fA 11 140 3 10,lF 12 141 140,fA 13 142 3 8,lF 14 143 142,o1 15 144 (.minmax false [(.s 141),(.s 143)]),fA 16 145 4 10,lF 17 146 145,fA 18 147 4 8,lF 19 148 147,o1 20 149 (.minmax true [(.s 146),(.s 148)]),mS 21 150 11,o1 22 151 (.build [(I 0),(I 0),(I 0),(I 0),(I 0),(I 0)] [(0,1,(.s 132)),(1,1,(.s 134)),(2,1,(.s 139)),(3,1,(.s 144)),(4,1,(.s 149)),(5,1,(.s 150))]),iA 23 152 6 129 130,o0 24 (.store 6 (.s 152) (.s 151))] [7,6,3])))))))
 (rG 0 [mS 0 66 7,bI 1 67 .add 66 1,mS 2 7 67] [6,7,3])))
abbrev zlm:Nat:=69
def ze0:CFn:={ frz:=true,rnd:=none,nargs:=1,ntmps:=154,res:=[(.slot 2)],code :=
 (sQ (rG 1 [o1 0 2 (.newsl 0 6)] [0])
 (sQ (rG 1 [o1 0 3 (.newsl 0 6)] [0,3])
 (sQ (sQ (rG 0 [mI 0 4 0] [4,0,3])
 (.block 0 (.loop (some [4,0,3]) zb9)))
 (sQ (rG 1 [o1 0 6 (.newsl 0 6)] [6,3])
 (sQ (sQ (rG 0 [mI 0 7 0] [6,7,3])
 (.block 4 (.loop (some [6,7,3]) zcN)))
 (sQ (rG 0 [mS 0 153 6,mS 1 2 153] [2])
 .ret)))))) }
def zc7:CC:=(sQ (sQ (rG 0 [mS 0 28 13,mS 1 29 1,lN 2 30 29,bS 3 31 .lss 28 30] [31,3,13,1,2,9,11])
 (.cond (.s 31) .skip
 (.exit 0)))
 (sQ (.block 1 (rG 0 [mS 0 34 3,mS 1 35 1,mS 2 36 13,iA 3 37 1 35 36,fA 5 39 1 9,mS 7 41 2,mS 9 43 11,mS 10 44 13,iA 11 45 1 43 44,fA 14 48 0 9,mS 16 50 11,mS 17 51 13,iA 18 52 1 50 51,lF 4 38 37,lF 6 40 39,bS 8 42 .sub 40 41,lF 12 46 45,bS 13 47 .sub 42 46,lF 15 49 48,lF 19 53 52,bS 20 54 .sub 49 53,o1 21 55 (.build [(I 0),(I 0),(I 0)] [(0,1,(.s 38)),(1,1,(.s 47)),(2,1,(.s 54))]),cA 22 56 135 [(.s 34),(.s 55)],mS 23 3 56] [13,3,1,2,9,11]))
 (rG 0 [mS 0 32 13,bI 1 33 .add 32 1,mS 2 13 33] [3,13,1,2,9,11])))
abbrev zl8:Nat:=73
def zdW:CFn:={ frz:=true,rnd:=none,nargs:=5,ntmps:=58,res:=[(.slot 10)],code :=
 (sQ (rG 3 [o1 0 5 (.box 0 5 (.s 0)),o1 1 9 (.box 1 4 (.s 4)),o1 2 10 (.newsl 2 6)] [9,2,1,5,3])
 (sQ (sQ (rG 0 [fA 0 14 1 9,lF 1 15 14,mS 2 16 2,bS 3 17 .sub 15 16,fA 4 18 0 9,lF 5 19 18,bS 6 20 .gtr 17 19] [20,9,2,1,5,3])
 (.cond (.s 20) (sQ (rG 0 [mS 0 21 3,mS 1 10 21] [10])
 .ret)
 .skip))
 (sQ (rG 0 [lT 0 23 5 5,mS 1 24 1,cA 2 25 63 [(.s 23),(.s 24)],mS 3 22 25,eX 4 26 22 0,eX 5 27 22 1,mS 6 11 26,mS 7 12 27] [3,1,2,9,11])
 (sQ (sQ (rG 0 [mI 0 13 0] [3,13,1,2,9,11])
 (.block 0 (.loop (some [3,13,1,2,9,11]) zc7)))
 (sQ (rG 0 [mS 0 57 3,mS 1 10 57] [10])
 .ret))))) }
def zGt:CC:=(sQ (rG 0 [bS 0 30 .lss 29 28] [30,29,28,6,5,12,4,27,13])
 (sQ (.cond (.s 30) .skip
 (.exit 0))
 (sQ (.block 1 (sQ (rG 0 [iA 0 31 1 27 29,lF 1 32 31,mS 2 15 32] [15,29,28,6,5,12,4,27,13])
 (rG 0 [mS 0 33 13,mS 1 34 15,cA 2 35 136 [(.s 33),(.s 34)]] [29,28,6,5,12,4,27,13])))
 (rG 0 [bI 0 36 .add 29 1,mS 1 29 36] [29,28,6,5,12,4,27,13]))))
def zGs:CC:=(sQ (rG 0 [bS 0 41 .lss 40 39] [41,40,39,12,5,13,6])
 (sQ (.cond (.s 41) .skip
 (.exit 2))
 (sQ (.block 3 (rG 0 [mS 0 42 13,mS 1 43 13,fA 2 44 1 6,lF 3 45 44,cA 4 46 106 [(.s 43),(.s 45)],cA 5 47 136 [(.s 42),(.s 46)]] [40,39,12,5,13,6]))
 (rG 0 [bI 0 48 .add 40 1,mS 1 40 48] [40,39,12,5,13,6]))))
def zGr:CC:=(sQ (rG 0 [bS 0 53 .lss 52 51] [53,52,51,12,13])
 (sQ (.cond (.s 53) .skip
 (.exit 4))
 (sQ (.block 5 (rG 0 [mS 0 54 13,mS 1 55 13,cA 2 56 106 [(.s 55),(kI 0)],cA 3 57 136 [(.s 54),(.s 56)]] [52,51,12,13]))
 (rG 0 [bI 0 58 .add 52 1,mS 1 52 58] [52,51,12,13]))))
def zGz:CFn:={ frz:=true,rnd:=none,nargs:=6,ntmps:=66,res:=[(.cell 12 true 1)],code :=
 (sQ (rG 2 [o1 0 6 (.box 0 5 (.s 0)),o1 1 12 (.box 1 1 (.k (.a [.nilslice])))] [2,3,1,6,5,12,4])
 (sQ (rG 1 [lT 0 16 5 6,mS 1 17 2,mS 2 18 3,o1 3 19 (.minmax false [(.s 18),(kI 2000)]),o1 4 20 (.minmax true [(kI 0),(.s 19)]),o1 5 21 (.build [(I 0),(I 0),(I 0),(I 0),(I 0),(I 0),(I 0),.nilslice] [(0,5,(.s 16)),(5,1,(.s 17)),(6,1,(.s 20))]),o1 6 22 (.box 0 8 (.s 21)),mS 7 13 22] [1,6,5,12,4,13])
 (sQ (sQ (rG 0 [mS 0 23 1,mS 1 24 1,lN 2 25 24,o1 3 26 (.minmax false [(.s 25),(kI 5)]),o1 4 27 (.slice 1 (.s 23) none (some (.s 26)) none),lN 5 28 27,mI 6 29 0] [29,28,6,5,12,4,27,13])
 (.block 0 (.loop (some [29,28,6,5,12,4,27,13]) zGt)))
 (sQ (sQ (rG 0 [mS 0 37 4,o1 1 38 (.minmax false [(.s 37),(kI 20)]),o1 2 39 (.minmax true [(kI 0),(.s 38)]),mI 3 40 0] [40,39,12,5,13,6])
 (.block 2 (.loop (some [40,39,12,5,13,6]) zGs)))
 (sQ (sQ (rG 0 [mS 0 49 5,o1 1 50 (.minmax false [(.s 49),(kI 20)]),o1 2 51 (.minmax true [(kI 0),(.s 50)]),mI 3 52 0] [52,51,12,13])
 (.block 4 (.loop (some [52,51,12,13]) zGr)))
 (sQ (rG 0 [mS 0 59 13,cA 1 60 137 [(.s 59)]] [13,12])
 (sQ (rG 0 [mS 0 61 13,nC 1 62 61,fA 2 63 7 62,lF 3 64 63,o1 4 65 (.build [.nilslice] [(0,1,(.s 64))]),o0 5 (.store 1 (.s 12) (.s 65))] [12])
 .ret))))))) }
abbrev zc1:Nat:=75
def zjY:CFn:={ frz:=true,rnd:=none,nargs:=1,ntmps:=12,res:=[(.slot 2),(.slot 3),(.slot 4)],code :=
 (sQ (rG 0 [mI 0 2 0,mI 1 3 0,mI 2 4 0] [0])
 (sQ (sQ (rG 0 [mS 0 5 0] [5])
 (.block 0 (sQ (rG 0 [bI 0 7 .eql 5 1,mS 1 6 7] [6,5])
 (.cond (.s 6) (sQ (rG 0 [mI 0 2 2000,mI 1 3 30,mI 2 4 90] [2,3,4])
 .ret)
 (sQ (rG 0 [bI 0 9 .eql 5 2,mS 1 8 9] [8,5])
 (.cond (.s 8) (sQ (rG 0 [mI 0 2 1000,mI 1 3 20,mI 2 4 60] [2,3,4])
 .ret)
 (sQ (rG 0 [bI 0 11 .eql 5 3,mS 1 10 11] [10])
 (.cond (.s 10) (sQ (rG 0 [mI 0 2 300,mI 1 3 100,mI 2 4 300] [2,3,4])
 .ret)
 .skip))))))))
 (sQ (rG 0 [mI 0 2 0,mI 1 3 0,mI 2 4 0] [2,3,4])
 .ret))) }
abbrev zgl:Nat:=81
def zen:CFn:={ frz:=true,rnd:=none,nargs:=2,ntmps:=12,res:=[(.slot 4)],code :=
 (sQ (rG 1 [o1 0 2 (.box 0 5 (.s 0)),mI 1 4 0] [2,1])
 (sQ (rG 0 [fA 0 5 1 2,lF 1 6 5,mS 2 7 1,iA 3 8 5 6 7,fA 4 9 1 8,lT 5 10 1 9,cA 6 11 138 [(.s 10)],mS 7 4 11] [4])
 .ret)) }
abbrev zjO:Nat:=82
def zc9:CFn:={ frz:=true,rnd:=none,nargs:=3,ntmps:=15,res:=[(.slot 6)],code :=
 (sQ (rG 0 [mB 0 6 false] [1,0,2])
 (sQ (rG 0 [mS 0 7 0,mS 1 8 1,bS 2 9 .geq 7 8,mS 3 10 9,oG 4 11 10 true (.mv (.s 0)),oG 5 12 10 true (.mv (.s 2)),oG 6 13 10 true (.bin .leq (.s 11) (.s 12)),o1 7 14 (.pick (.s 10) (.s 13) (kB false)),mS 8 6 14] [6])
 .ret)) }
abbrev zav:Nat:=83
def ziy:CFn:={ frz:=true,rnd:=none,nargs:=2,ntmps:=60,res:=[(.slot 4)],code :=
 (sQ (rG 1 [o1 0 2 (.box 0 5 (.s 0)),mI 1 4 0] [1,2])
 (sQ (rG 1 [fA 0 10 1 2,lF 1 11 10,mS 2 12 1,iA 3 13 5 11 12,lT 4 14 5 13,o1 5 5 (.box 0 5 (.k (.a [(I 0),.nilslice,(I 0),(I 0),.nilslice]))),o0 6 (.store 5 (.s 5) (.s 14))] [5,1,2])
 (sQ (sQ (rG 0 [fA 0 15 0 5,lF 1 16 15,bI 2 17 .lss 16 1,mS 3 18 17,oG 4 19 18 false (.faddr 0 (.s 5)),oG 5 20 18 false (.load false 1 (.s 19)),oG 6 21 18 false (.bin .gtr (.s 20) (kI 3)),o1 7 22 (.pick (.s 18) (kB true) (.s 21))] [22,5,1,2])
 (.cond (.s 22) (sQ (rG 0 [mI 0 4 4] [4])
 .ret)
 .skip))
 (sQ (rG 0 [fA 0 23 1 5,lT 1 24 1 23,cA 2 25 139 [(.s 24)],mS 3 6 25] [2,1,5,6])
 (sQ (sQ (rG 0 [mS 0 26 6,bI 1 27 .neq 26 0] [27,2,1,5,6])
 (.cond (.s 27) (sQ (rG 0 [mS 0 28 6,mS 1 4 28] [4])
 .ret)
 .skip))
 (sQ (rG 0 [fA 0 30 0 5,lF 1 31 30,cA 2 32 75 [(.s 31)],mS 3 29 32,eX 4 33 29 0,eX 5 34 29 1,eX 6 35 29 2,mS 7 7 33,mS 8 8 34,mS 9 9 35] [7,5,1,2])
 (sQ (sQ (rG 0 [fA 0 36 2 5,lF 1 37 36,cA 2 38 82 [(.s 37),(kI 200),(kI 4000)],o1 3 39 (.un .not (.s 38)),mS 4 40 39,oG 5 41 40 false (.faddr 3 (.s 5)),oG 6 42 40 false (.load false 1 (.s 41)),oG 7 43 40 false (.mv (.s 7)),⟨8,(some 44),(some (40,false)),.call ⟨true⟩ (.k (.c (.fn 82 [] []))) [(.s 42),(kI 1),(.s 43)]⟩,oG 9 45 40 false (.un .not (.s 44)),o1 10 46 (.pick (.s 40) (kB true) (.s 45))] [46,5,1,2])
 (.cond (.s 46) (sQ (rG 0 [mI 0 4 2] [4])
 .ret)
 .skip))
 (sQ (sQ (rG 0 [fA 0 47 4 5,lF 1 48 47,lN 2 49 48,bI 3 50 .gtr 49 3] [50,2,1,5])
 (.cond (.s 50) (sQ (rG 0 [mI 0 4 8] [4])
 .ret)
 .skip))
 (sQ (sQ (rG 0 [fA 0 51 4 5,lF 1 52 51,mS 2 53 1,bI 3 54 .add 53 1,fA 4 55 1 2,lF 5 56 55,lN 6 57 56,cA 7 58 140 [(.s 52),(.s 54),(.s 57)],o1 8 59 (.un .not (.s 58))] [59])
 (.cond (.s 59) (sQ (rG 0 [mI 0 4 11] [4])
 .ret)
 .skip))
 (sQ (rG 0 [mI 0 4 0] [4])
 .ret)))))))))) }
def zhu:CC:=(sQ (sQ (rG 0 [mS 0 19 5,fA 1 20 4 4,lF 2 21 20,lN 3 22 21,bS 4 23 .lss 19 22] [23,5,3,1,4])
 (.cond (.s 23) .skip
 (.exit 2)))
 (sQ (.block 3 (sQ (.region 1 [fA 0 26 1 1,fA 2 28 4 4,mS 4 30 5,lF 1 27 26,lF 3 29 28,iA 5 31 1 29 30,lF 6 32 31,iA 7 33 5 27 32,lT 8 34 5 33,o1 9 6 (.box 0 5 (.k (.a [(I 0),.nilslice,(I 0),(I 0),.nilslice]))),o0 10 (.store 5 (.s 6) (.s 34))] [(3,9),(4,9),(6,9),(8,9)] (some [5,3,1,4,6]))
 (sQ (sQ (rG 0 [fA 0 35 0 6,lF 1 36 35,fA 2 37 0 4,lF 3 38 37,bS 4 39 .neq 36 38] [39,5,3,1,4,6])
 (.cond (.s 39) (sQ (rG 0 [mI 0 2 4] [2])
 .ret)
 .skip))
 (sQ (rG 0 [fA 0 40 1 6,fA 1 41 0 40,fA 5 45 1 4,fA 6 46 0 45,fA 8 48 1 4,fA 9 49 0 48,lF 2 42 41,o1 3 43 (.iaddr 2 (.s 42) (kI 0)),lT 4 44 2 43,lF 7 47 46,lF 10 50 49,lN 11 51 50,bI 12 52 .sub 51 1,iA 13 53 2 47 52,lT 14 54 2 53,o1 15 55 (.eqa true [false,false] (.s 44) (.s 54))] [55,4,1,3,5])
 (.cond (.s 55) (sQ (rG 0 [mI 0 2 3] [2])
 .ret)
 .skip)))))
 (rG 0 [mS 0 24 5,bI 1 25 .add 24 1,mS 2 5 25] [5,3,1,4])))
def zht:CC:=(sQ (sQ (rG 0 [mS 0 7 3,fA 1 8 1 1,lF 2 9 8,lN 3 10 9,bS 4 11 .lss 7 10] [11,3,1])
 (.cond (.s 11) .skip
 (.exit 0)))
 (sQ (.block 1 (sQ (rG 1 [fA 0 14 1 1,lF 1 15 14,mS 2 16 3,iA 3 17 5 15 16,lT 4 18 5 17,o1 5 4 (.box 0 5 (.k (.a [(I 0),.nilslice,(I 0),(I 0),.nilslice]))),o0 6 (.store 5 (.s 4) (.s 18))] [3,1,4])
 (sQ (rG 0 [mI 0 5 0] [5,3,1,4])
 (.block 2 (.loop (some [5,3,1,4]) zhu)))))
 (rG 0 [mS 0 12 3,bI 1 13 .add 12 1,mS 2 3 13] [3,1])))
abbrev zau:Nat:=84
def zix:CFn:={ frz:=true,rnd:=none,nargs:=1,ntmps:=56,res:=[(.slot 2)],code :=
 (sQ (rG 1 [o1 0 1 (.box 0 5 (.s 0)),mI 1 2 0] [1])
 (sQ (sQ (rG 0 [mI 0 3 0] [3,1])
 (.block 0 (.loop (some [3,1]) zht)))
 (sQ (rG 0 [mI 0 2 0] [2])
 .ret))) }
def zgT:CC:=(sQ (sQ (rG 0 [mS 0 19 6,fA 1 20 1 3,lF 2 21 20,lN 3 22 21,bS 4 23 .lss 19 22] [23,5,6,2,3])
 (.cond (.s 23) .skip
 (.exit 0)))
 (sQ (.block 1 (rG 0 [mS 0 26 5,mS 1 27 26,oG 2 28 27 true (.faddr 1 (.s 3)),oG 3 29 27 true (.load false 1 (.s 28)),oG 4 30 27 true (.mv (.s 6)),oG 5 31 27 true (.iaddr 2 (.s 29) (.s 30)),oG 6 32 27 true (.faddr 0 (.s 31)),oG 7 33 27 true (.load false 1 (.s 32)),⟨8,(some 34),(some (27,true)),.call ⟨true⟩ (.k (.c (.fn 82 [] []))) [(.s 33),(kI 1),(kI 10000)]⟩,o1 9 35 (.pick (.s 27) (.s 34) (kB false)),mS 10 5 35] [6,5,2,3]))
 (rG 0 [mS 0 24 6,bI 1 25 .add 24 1,mS 2 6 25] [5,6,2,3])))
def zgS:CC:=(sQ (sQ (rG 0 [mS 0 38 7,fA 1 39 1 3,lF 2 40 39,lN 3 41 40,bS 4 42 .lss 38 41] [42,2,3,7])
 (.cond (.s 42) .skip
 (.exit 2)))
 (sQ (.block 3 (sQ (rG 0 [fA 0 45 1 3,mS 2 47 7,fA 6 51 1 2,lF 1 46 45,iA 3 48 2 46 47,fA 4 49 1 48,lF 5 50 49,lF 7 52 51,lN 8 53 52,cA 9 54 140 [(.s 50),(kI 0),(.s 53)],o1 10 55 (.un .not (.s 54))] [55,2,3,7])
 (.cond (.s 55) (sQ (rG 0 [mI 0 4 11] [4])
 .ret)
 .skip)))
 (rG 0 [mS 0 43 7,bI 1 44 .add 43 1,mS 2 7 44] [3,2,7])))
abbrev zV:Nat:=85
def zhI:CFn:={ frz:=true,rnd:=none,nargs:=2,ntmps:=56,res:=[(.slot 4)],code :=
 (sQ (rG 2 [o1 0 2 (.box 0 5 (.s 0)),o1 1 3 (.box 1 2 (.s 1)),mI 2 4 0] [2,3])
 (sQ (sQ (rG 0 [fA 0 8 1 3,lF 1 9 8,lN 2 10 9,bI 3 11 .eql 10 0] [11,2,3])
 (.cond (.s 11) (sQ (rG 0 [mI 0 4 6] [4])
 .ret)
 .skip))
 (sQ (sQ (rG 0 [fA 0 12 1 3,lF 1 13 12,lN 2 14 13,bI 3 15 .gtr 14 6] [15,3,2])
 (.cond (.s 15) (sQ (rG 0 [mI 0 4 8] [4])
 .ret)
 .skip))
 (sQ (rG 0 [fA 0 16 0 3,lF 1 17 16,cA 2 18 82 [(.s 17),(kI 0),(kI 1099511627776)],mS 3 5 18] [5,2,3])
 (sQ (sQ (rG 0 [mI 0 6 0] [5,6,2,3])
 (.block 0 (.loop (some [5,6,2,3]) zgT)))
 (sQ (sQ (rG 0 [mS 0 36 5,o1 1 37 (.un .not (.s 36))] [37,2,3])
 (.cond (.s 37) (sQ (rG 0 [mI 0 4 2] [4])
 .ret)
 .skip))
 (sQ (sQ (rG 0 [mI 0 7 0] [3,2,7])
 (.block 2 (.loop (some [3,2,7]) zgS)))
 (sQ (rG 0 [mI 0 4 0] [4])
 .ret)))))))) }
def zhs:CC:=(sQ (sQ (rG 0 [mS 0 28 6,fA 1 29 0 3,lF 2 30 29,lN 3 31 30,bS 4 32 .lss 28 31] [32,5,6,2,3])
 (.cond (.s 32) .skip
 (.exit 0)))
 (sQ (.block 1 (rG 1 [mS 0 35 5,fA 1 36 0 3,lF 2 37 36,mS 3 38 6,iA 4 39 4 37 38,fA 5 40 0 39,lF 6 41 40,o1 7 42 (.lit 0 1 [[(I 0)]] [(0,(.s 41))]),o1 8 43 (.append 1 8 (.s 35) (.s 42)),mS 9 5 43] [6,5,2,3]))
 (rG 0 [mS 0 33 6,bI 1 34 .add 33 1,mS 2 6 34] [5,6,2,3])))
def zhr:CC:=(sQ (sQ (rG 0 [mS 0 50 7,fA 1 51 0 3,lF 2 52 51,lN 3 53 52,bS 4 54 .lss 50 53] [54,2,3,7])
 (.cond (.s 54) .skip
 (.exit 2)))
 (sQ (.block 3 (sQ (rG 1 [fA 0 57 0 3,lF 1 58 57,mS 2 59 7,iA 3 60 4 58 59,lT 4 61 4 60,o1 5 8 (.box 0 4 (.k (.a [(I 0),(I 0),(I 0),(I 0)]))),o0 6 (.store 4 (.s 8) (.s 61))] [8,2,3,7])
 (sQ (.region 0 [fA 0 62 1 8,lF 1 63 62,bI 2 64 .lss 63 0,mS 3 65 64,oG 4 66 65 false (.faddr 1 (.s 8)),oG 6 68 65 false (.faddr 2 (.s 8)),oG 5 67 65 false (.load false 1 (.s 66)),oG 7 69 65 false (.load false 1 (.s 68)),oG 8 70 65 false (.bin .geq (.s 67) (.s 69)),o1 9 71 (.pick (.s 65) (kB true) (.s 70)),mS 10 72 71,oG 11 73 72 false (.faddr 2 (.s 8)),oG 13 75 72 false (.faddr 1 (.s 2)),oG 15 77 72 false (.faddr 0 (.s 8)),oG 12 74 72 false (.load false 1 (.s 73)),oG 14 76 72 false (.load false 1 (.s 75)),oG 16 78 72 false (.load false 1 (.s 77)),oG 17 79 72 false (.iaddr 5 (.s 76) (.s 78)),oG 18 80 72 false (.faddr 1 (.s 79)),oG 19 81 72 false (.load true 1 (.s 80)),⟨20,(some 82),(some (72,false)),.call ⟨true⟩ (.k (.c (.fn 138 [] []))) [(.s 81)]⟩,oG 21 83 72 false (.bin .gtr (.s 74) (.s 82)),o1 22 84 (.pick (.s 72) (kB true) (.s 83)),mS 23 85 84,oG 24 86 85 false (.faddr 3 (.s 8)),oG 25 87 85 false (.load false 1 (.s 86)),oG 26 88 85 false (.bin .lss (.s 87) (kI 0)),o1 27 89 (.pick (.s 85) (kB true) (.s 88)),mS 28 90 89,oG 29 91 90 false (.faddr 3 (.s 8)),oG 30 92 90 false (.load false 1 (.s 91)),oG 31 93 90 false (.bin .gtr (.s 92) (kI 100)),o1 32 94 (.pick (.s 90) (kB true) (.s 93))] [(14,20)] (some [94,2,3,7]))
 (.cond (.s 94) (sQ (rG 0 [mI 0 4 2] [4])
 .ret)
 .skip))))
 (rG 0 [mS 0 55 7,bI 1 56 .add 55 1,mS 2 7 56] [3,2,7])))
abbrev zJ:Nat:=86
def ziw:CFn:={ frz:=true,rnd:=none,nargs:=2,ntmps:=95,res:=[(.slot 4)],code :=
 (sQ (rG 2 [o1 0 2 (.box 0 5 (.s 0)),o1 1 3 (.box 1 2 (.s 1)),mI 2 4 0] [3,2])
 (sQ (sQ (rG 0 [fA 0 9 0 3,lF 1 10 9,lN 2 11 10,bI 3 12 .lss 11 2] [12,3,2])
 (.cond (.s 12) (sQ (rG 0 [mI 0 4 6] [4])
 .ret)
 .skip))
 (sQ (sQ (rG 0 [fA 0 13 0 3,lF 1 14 13,lN 2 15 14,bI 3 16 .gtr 15 6] [16,2,3])
 (.cond (.s 16) (sQ (rG 0 [mI 0 4 8] [4])
 .ret)
 .skip))
 (sQ (sQ (rG 0 [fA 0 17 1 3,lF 1 18 17,bI 2 19 .lss 18 0,mS 3 20 19,oG 4 21 20 false (.faddr 1 (.s 3)),oG 5 22 20 false (.load false 1 (.s 21)),oG 6 23 20 false (.faddr 3 (.s 2)),oG 7 24 20 false (.load false 1 (.s 23)),oG 8 25 20 false (.len (.s 24)),oG 9 26 20 false (.bin .gtr (.s 22) (.s 25)),o1 10 27 (.pick (.s 20) (kB true) (.s 26))] [27,3,2])
 (.cond (.s 27) (sQ (rG 0 [mI 0 4 2] [4])
 .ret)
 .skip))
 (sQ (rG 1 [o1 0 5 (.newsl 0 1)] [5,2,3])
 (sQ (sQ (rG 0 [mI 0 6 0] [5,6,2,3])
 (.block 0 (.loop (some [5,6,2,3]) zhs)))
 (sQ (sQ (rG 0 [mS 0 44 5,fA 1 45 1 2,lF 2 46 45,lN 3 47 46,cA 4 48 140 [(.s 44),(kI 0),(.s 47)],o1 5 49 (.un .not (.s 48))] [49,2,3])
 (.cond (.s 49) (sQ (rG 0 [mI 0 4 11] [4])
 .ret)
 .skip))
 (sQ (sQ (rG 0 [mI 0 7 0] [3,2,7])
 (.block 2 (.loop (some [3,2,7]) zhr)))
 (sQ (rG 0 [mI 0 4 0] [4])
 .ret))))))))) }
abbrev zfh:Nat:=87
def zdF:CFn:={ frz:=true,rnd:=none,nargs:=2,ntmps:=75,res:=[(.slot 4)],code :=
 (sQ (rG 2 [o1 0 2 (.box 0 5 (.s 0)),o1 1 3 (.box 1 6 (.s 1)),mI 2 4 0] [3,2])
 (sQ (sQ (rG 0 [fA 0 9 0 3,lF 1 10 9,bI 2 11 .lss 10 0,mS 3 12 11,oG 4 13 12 false (.faddr 0 (.s 3)),oG 5 14 12 false (.load false 1 (.s 13)),oG 6 15 12 false (.faddr 1 (.s 2)),oG 7 16 12 false (.load false 1 (.s 15)),oG 8 17 12 false (.len (.s 16)),oG 9 18 12 false (.bin .geq (.s 14) (.s 17)),o1 10 19 (.pick (.s 12) (kB true) (.s 18))] [19,3,2])
 (.cond (.s 19) (sQ (rG 0 [mI 0 4 7] [4])
 .ret)
 .skip))
 (sQ (rG 1 [fA 0 20 1 2,lF 1 21 20,fA 2 22 0 3,lF 3 23 22,iA 4 24 5 21 23,lT 5 25 5 24,o1 6 5 (.box 0 5 (.k (.a [(I 0),.nilslice,(I 0),(I 0),.nilslice]))),o0 7 (.store 5 (.s 5) (.s 25))] [5,3])
 (sQ (rG 0 [fA 0 27 0 5,lF 1 28 27,cA 2 29 75 [(.s 28)],mS 3 26 29,eX 4 30 26 0,eX 5 31 26 1,eX 6 32 26 2,mS 7 6 30,mS 8 7 31,mS 9 8 32] [5,3,6])
 (sQ (sQ (.region 0 [fA 0 33 1 3,lF 1 34 33,bI 2 35 .lss 34 0,mS 3 36 35,oG 4 37 36 false (.faddr 1 (.s 3)),oG 6 39 36 false (.faddr 2 (.s 3)),oG 5 38 36 false (.load false 1 (.s 37)),oG 7 40 36 false (.load false 1 (.s 39)),oG 8 41 36 false (.bin .gtr (.s 38) (.s 40)),o1 9 42 (.pick (.s 36) (kB true) (.s 41)),mS 10 43 42,oG 11 44 43 false (.faddr 2 (.s 3)),oG 13 46 43 false (.faddr 1 (.s 5)),oG 12 45 43 false (.load false 1 (.s 44)),oG 14 47 43 false (.load true 1 (.s 46)),⟨15,(some 48),(some (43,false)),.call ⟨true⟩ (.k (.c (.fn 138 [] []))) [(.s 47)]⟩,oG 16 49 43 false (.bin .gtr (.s 45) (.s 48)),o1 17 50 (.pick (.s 43) (kB true) (.s 49)),mS 18 51 50,oG 19 52 51 false (.faddr 3 (.s 3)),oG 20 53 51 false (.load false 1 (.s 52)),oG 21 54 51 false (.bin .lss (.s 53) (kI 0)),o1 22 55 (.pick (.s 51) (kB true) (.s 54)),mS 23 56 55,oG 24 57 56 false (.faddr 3 (.s 3)),oG 26 59 56 false (.faddr 4 (.s 3)),oG 25 58 56 false (.load false 1 (.s 57)),oG 27 60 56 false (.load false 1 (.s 59)),oG 28 61 56 false (.bin .geq (.s 58) (.s 60)),o1 29 62 (.pick (.s 56) (kB true) (.s 61)),mS 30 63 62,oG 31 64 63 false (.faddr 4 (.s 3)),oG 32 65 63 false (.load false 1 (.s 64)),oG 33 66 63 false (.bin .gtr (.s 65) (kI 1099511627776)),o1 34 67 (.pick (.s 63) (kB true) (.s 66)),mS 35 68 67,oG 36 69 68 false (.faddr 5 (.s 3)),oG 38 71 68 false (.mv (.s 6)),oG 37 70 68 false (.load false 1 (.s 69)),⟨39,(some 72),(some (68,false)),.call ⟨true⟩ (.k (.c (.fn 82 [] []))) [(.s 70),(kI 0),(.s 71)]⟩,oG 40 73 68 false (.un .not (.s 72)),o1 41 74 (.pick (.s 68) (kB true) (.s 73))] [(13,15)] (some [74]))
 (.cond (.s 74) (sQ (rG 0 [mI 0 4 2] [4])
 .ret)
 .skip))
 (sQ (rG 0 [mI 0 4 0] [4])
 .ret)))))) }
abbrev zgB:Nat:=88
def zeI:CFn:={ frz:=true,rnd:=none,nargs:=4,ntmps:=60,res:=[(.cell 8 true 4)],code :=
 (sQ (rG 3 [o1 0 4 (.box 0 5 (.s 0)),o1 1 6 (.box 1 4 (.s 2)),o1 2 8 (.box 2 4 (.k (.a [(I 0),(I 0),(I 0),(I 0)])))] [4,1,3,6,8])
 (sQ (rG 0 [fA 0 13 1 4,mS 2 15 1,o1 3 16 (.iaddr 1 (.s 15) (kI 0)),lF 1 14 13,lF 4 17 16,iA 5 18 5 14 17,fA 6 19 0 18,lF 7 20 19,cA 8 21 75 [(.s 20)],mS 9 12 21,eX 10 22 12 0,eX 11 23 12 1,eX 12 24 12 2,mS 13 9 22,mS 14 10 23,mS 15 11 24] [11,3,10,9,6,8])
 (sQ (rG 0 [mS 0 25 11,o1 1 26 (.un .neg (.s 25)),mS 2 27 3,mS 3 28 10,o1 4 29 (.minmax false [(.s 27),(.s 28)]),o1 5 30 (.minmax true [(.s 26),(.s 29)]),mS 6 3 30] [3,9,6,8])
 (sQ (rG 0 [fA 0 31 2 6,lF 1 32 31,mS 2 33 3,bS 3 34 .add 32 33,mS 4 35 9,o1 5 36 (.minmax false [(.s 34),(.s 35)]),o1 6 37 (.minmax true [(kI 0),(.s 36)]),fA 7 38 3 6,lF 8 39 38,mS 9 40 3,bS 10 41 .add 39 40,mS 11 42 9,o1 12 43 (.minmax false [(.s 41),(.s 42)]),o1 13 44 (.minmax true [(kI 0),(.s 43)]),fA 14 45 2 6,o0 15 (.store 1 (.s 45) (.s 37)),fA 16 46 3 6,o0 17 (.store 1 (.s 46) (.s 44))] [6,8])
 (sQ (rG 0 [fA 0 47 0 6,lF 1 48 47,fA 2 49 2 6,lF 3 50 49,bS 4 51 .add 48 50,fA 5 52 1 6,lF 6 53 52,fA 7 54 3 6,lF 8 55 54,bS 9 56 .add 53 55,fA 10 57 0 6,o0 11 (.store 1 (.s 57) (.s 51)),fA 12 58 1 6,o0 13 (.store 1 (.s 58) (.s 56))] [6,8])
 (sQ (rG 0 [lT 0 59 4 6,o0 1 (.store 4 (.s 8) (.s 59))] [8])
 .ret)))))) }
abbrev zGF:Nat:=103
def zF3:CFn:={ frz:=true,rnd:=none,nargs:=3,ntmps:=15,res:=[(.slot 6)],code :=
 (sQ (rG 0 [mB 0 6 false] [1,0,2])
 (sQ (rG 0 [mS 0 7 1,mS 1 8 0,bS 2 9 .leq 7 8,mS 3 10 9,oG 4 11 10 true (.mv (.s 0)),oG 5 12 10 true (.mv (.s 2)),oG 6 13 10 true (.bin .leq (.s 11) (.s 12)),o1 7 14 (.pick (.s 10) (.s 13) (kB false)),mS 8 6 14] [6])
 .ret)) }
def zF0:CFn:={ frz:=true,rnd:=none,nargs:=2,ntmps:=9,res:=[(.slot 4)],code :=
 (sQ (rG 0 [mB 0 4 false] [0,1])
 (sQ (rG 0 [mS 0 5 0,mS 1 6 1,cA 2 7 148 [(.s 5),(.s 6)],bI 3 8 .geq 7 0,mS 4 4 8] [4])
 .ret)) }
def zGB:CFn:={ frz:=true,rnd:=none,nargs:=2,ntmps:=12,res:=[(.slot 3)],code :=
 (sQ (rG 0 [mB 0 3 false] [0,1])
 (sQ (rG 0 [mS 0 4 0,fA 1 5 2 1,lF 2 6 5,o1 3 7 (.un .neg (.s 6)),fA 4 8 1 1,lF 5 9 8,cA 6 10 103 [(.s 4),(.s 7),(.s 9)],o1 7 11 (.un .not (.s 10)),mS 8 3 11] [3])
 .ret)) }
def zGp:CFn:={ frz:=true,rnd:=none,nargs:=2,ntmps:=31,res:=[(.slot 4)],code :=
 (sQ (rG 0 [mI 0 4 0] [1,0])
 (sQ (rG 0 [mS 0 6 0,mS 1 7 0,nC 2 8 7,fA 3 9 5 8,lF 4 10 9,cA 5 11 149 [(.s 6),(.s 10)],mS 6 5 11] [1,5,0])
 (sQ (.region 0 [mS 0 12 5,mS 1 13 0,nC 2 14 13,fA 3 15 0 14,fA 4 16 3 15,mS 7 19 0,mS 8 20 1,mS 10 22 5,mS 11 23 0,nC 12 24 23,fA 13 25 0 24,fA 14 26 3 25,lF 5 17 16,bS 6 18 .sub 12 17,lF 15 27 26,bS 16 28 .add 22 27,cA 9 21 149 [(.s 19),(.s 20)],o1 17 29 (.minmax false [(.s 21),(.s 28)]),o1 18 30 (.minmax true [(.s 18),(.s 29)]),mS 19 4 30] [(12,16),(14,16)] (some [4]))
 .ret))) }
def z0:CC:=(sQ (rG 0 [bS 0 64 .lss 63 62] [64,2,7,61,62,63])
 (sQ (.cond (.s 64) .skip
 (.exit 0))
 (sQ (.block 1 (sQ (rG 1 [iA 0 65 6 61 63,lT 1 66 6 65,o1 2 9 (.box 0 6 (.k (.a [(I 0),(I 0),(I 0),(I 0),(I 0),(I 0)]))),o0 3 (.store 6 (.s 9) (.s 66))] [2,7,61,62,63,9])
 (sQ (sQ (rG 0 [fA 0 67 0 9,lF 1 68 67,bI 2 69 .lss 68 0,mS 3 70 69,oG 4 71 70 false (.faddr 0 (.s 9)),oG 5 72 70 false (.load false 1 (.s 71)),oG 6 73 70 false (.faddr 1 (.s 2)),oG 7 74 70 false (.load false 1 (.s 73)),oG 8 75 70 false (.len (.s 74)),oG 9 76 70 false (.bin .geq (.s 72) (.s 75)),o1 10 77 (.pick (.s 70) (kB true) (.s 76))] [77,2,7,61,62,63,9])
 (.cond (.s 77) (sQ (rG 0 [mI 0 4 7] [4])
 .ret)
 .skip))
 (sQ (rG 0 [lT 0 78 5 2,fA 1 79 0 9,lF 2 80 79,cA 3 81 152 [(.s 78),(.s 80)],mS 4 10 81] [10,9,63,62,61,7,2])
 (sQ (rG 0 [fA 0 83 1 2,lF 1 84 83,fA 2 85 0 9,lF 3 86 85,iA 4 87 5 84 86,fA 5 88 0 87,lF 6 89 88,cA 7 90 153 [(.s 89)],mS 8 82 90,eX 9 91 82 0,eX 10 92 82 1,eX 11 93 82 2,mS 12 11 91,mS 13 12 92,mS 14 13 93] [11,10,9,63,62,61,7,2])
 (sQ (sQ (rG 0 [fA 0 94 1 9,lF 1 95 94,bI 2 96 .lss 95 0,mS 3 97 96,oG 4 98 97 false (.faddr 1 (.s 9)),oG 5 99 97 false (.load false 1 (.s 98)),oG 6 100 97 false (.faddr 2 (.s 9)),oG 7 101 97 false (.load false 1 (.s 100)),oG 8 102 97 false (.bin .gtr (.s 99) (.s 101)),o1 9 103 (.pick (.s 97) (kB true) (.s 102)),mS 10 104 103,oG 11 105 104 false (.faddr 2 (.s 9)),oG 12 106 104 false (.load false 1 (.s 105)),oG 13 107 104 false (.mv (.s 10)),oG 14 108 104 false (.bin .gtr (.s 106) (.s 107)),o1 15 109 (.pick (.s 104) (kB true) (.s 108)),mS 16 110 109,oG 17 111 110 false (.faddr 3 (.s 9)),oG 18 112 110 false (.load false 1 (.s 111)),oG 19 113 110 false (.bin .lss (.s 112) (kI 0)),o1 20 114 (.pick (.s 110) (kB true) (.s 113)),mS 21 115 114,oG 22 116 115 false (.faddr 3 (.s 9)),oG 23 117 115 false (.load false 1 (.s 116)),oG 24 118 115 false (.faddr 4 (.s 9)),oG 25 119 115 false (.load false 1 (.s 118)),oG 26 120 115 false (.bin .gtr (.s 117) (.s 119)),o1 27 121 (.pick (.s 115) (kB true) (.s 120)),mS 28 122 121,oG 29 123 122 false (.faddr 4 (.s 9)),oG 30 124 122 false (.load false 1 (.s 123)),oG 31 125 122 false (.mv (.s 11)),oG 32 126 122 false (.bin .gtr (.s 124) (.s 125)),o1 33 127 (.pick (.s 122) (kB true) (.s 126)),mS 34 128 127,oG 35 129 128 false (.faddr 5 (.s 9)),oG 36 130 128 false (.load false 1 (.s 129)),oG 37 131 128 false (.mv (.s 10)),⟨38,(some 132),(some (128,false)),.call ⟨true⟩ (.k (.c (.fn 151 [] []))) [(.s 130),(kI 0),(.s 131)]⟩,oG 39 133 128 false (.un .not (.s 132)),o1 40 134 (.pick (.s 128) (kB true) (.s 133))] [134,9,63,62,61,7,2])
 (.cond (.s 134) (sQ (rG 0 [mI 0 4 2] [4])
 .ret)
 .skip))
 (sQ (sQ (rG 0 [fA 0 135 0 9,lF 1 136 135,fA 2 137 0 7,lF 3 138 137,bS 4 139 .lss 136 138,mS 5 140 139,oG 6 141 140 false (.faddr 0 (.s 9)),oG 7 142 140 false (.load false 1 (.s 141)),oG 8 143 140 false (.faddr 0 (.s 7)),oG 9 144 140 false (.load false 1 (.s 143)),oG 10 145 140 false (.bin .eql (.s 142) (.s 144)),oG 11 146 140 false (.mv (.s 145)),oG 12 147 146 true (.faddr 1 (.s 9)),oG 13 148 146 true (.load false 1 (.s 147)),oG 14 149 146 true (.faddr 2 (.s 7)),oG 15 150 146 true (.load false 1 (.s 149)),oG 16 151 146 true (.bin .add (.s 150) (kI 1)),oG 17 152 146 true (.bin .leq (.s 148) (.s 151)),oG 18 153 140 false (.pick (.s 146) (.s 152) (kB false)),o1 19 154 (.pick (.s 140) (kB true) (.s 153))] [154,2,7,61,62,63,9])
 (.cond (.s 154) (sQ (rG 0 [mI 0 4 11] [4])
 .ret)
 .skip))
 (rG 0 [lT 0 155 6 9,o0 1 (.store 6 (.s 7) (.s 155))] [63,62,61,7,2]))))))))
 (rG 0 [bI 0 156 .add 63 1,mS 1 63 156] [62,61,7,2,63]))))
abbrev zsg:Nat:=107
def zbJ:CFn:={ frz:=true,rnd:=none,nargs:=2,ntmps:=157,res:=[(.slot 4)],code :=
 (sQ (rG 2 [o1 0 2 (.box 0 5 (.s 0)),o1 1 3 (.box 1 6 (.s 1)),mI 2 4 0] [3,2])
 (sQ (sQ (rG 0 [lT 0 14 5 2,cA 1 15 150 [(.s 14)],mS 2 5 15] [3,2,5])
 (sQ (rG 0 [mS 0 16 5,bI 1 17 .neq 16 0] [17,3,2,5])
 (.cond (.s 17) (sQ (rG 0 [mS 0 18 5,mS 1 4 18] [4])
 .ret)
 .skip)))
 (sQ (rG 1 [fA 0 19 2 3,lT 1 20 4 19,o1 2 6 (.box 0 4 (.k (.a [(I 0),(I 0),(I 0),(I 0)]))),o0 3 (.store 4 (.s 6) (.s 20))] [6,2,3])
 (sQ (sQ (rG 0 [fA 0 21 0 3,lF 1 22 21,cA 2 23 151 [(.s 22),(kI 0),(kI 1099511627776)],o1 3 24 (.un .not (.s 23)),mS 4 25 24,oG 5 26 25 false (.faddr 0 (.s 6)),oG 6 27 25 false (.load false 1 (.s 26)),oG 7 28 25 false (.bin .lss (.s 27) (kI 0)),o1 8 29 (.pick (.s 25) (kB true) (.s 28)),mS 9 30 29,oG 10 31 30 false (.faddr 0 (.s 6)),oG 11 32 30 false (.load false 1 (.s 31)),oG 12 33 30 false (.faddr 1 (.s 6)),oG 13 34 30 false (.load false 1 (.s 33)),oG 14 35 30 false (.bin .gtr (.s 32) (.s 34)),o1 15 36 (.pick (.s 30) (kB true) (.s 35)),mS 16 37 36,oG 17 38 37 false (.faddr 1 (.s 6)),oG 18 39 37 false (.load false 1 (.s 38)),oG 19 40 37 false (.bin .gtr (.s 39) (kI 1099511627776)),o1 20 41 (.pick (.s 37) (kB true) (.s 40)),mS 21 42 41,oG 22 43 42 false (.faddr 2 (.s 6)),oG 23 44 42 false (.load false 1 (.s 43)),oG 24 45 42 false (.bin .lss (.s 44) (kI 0)),o1 25 46 (.pick (.s 42) (kB true) (.s 45)),mS 26 47 46,oG 27 48 47 false (.faddr 2 (.s 6)),oG 28 49 47 false (.load false 1 (.s 48)),oG 29 50 47 false (.faddr 3 (.s 6)),oG 30 51 47 false (.load false 1 (.s 50)),oG 31 52 47 false (.bin .gtr (.s 49) (.s 51)),o1 32 53 (.pick (.s 47) (kB true) (.s 52)),mS 33 54 53,oG 34 55 54 false (.faddr 3 (.s 6)),oG 35 56 54 false (.load false 1 (.s 55)),oG 36 57 54 false (.bin .gtr (.s 56) (kI 2000)),o1 37 58 (.pick (.s 54) (kB true) (.s 57))] [58,2,3])
 (.cond (.s 58) (sQ (rG 0 [mI 0 4 2] [4])
 .ret)
 .skip))
 (sQ (rG 1 [o1 0 59 (.build [(I 0),(I 0),(I 0),(I 0),(I 0),(I 0)] [(0,1,(kI (-1)))]),o1 1 7 (.box 0 6 (.k (.a [(I 0),(I 0),(I 0),(I 0),(I 0),(I 0)]))),o0 2 (.store 6 (.s 7) (.s 59))] [3,7,2])
 (sQ (sQ (rG 0 [fA 0 60 1 3,lF 1 61 60,lN 2 62 61,mI 3 63 0] [62,61,7,2,63])
 (.block 0 (.loop (some [62,61,7,2,63]) z0)))
 (sQ (rG 0 [mI 0 4 0] [4])
 .ret))))))) }
def za8:CC:=(sQ (rG 0 [bS 0 53 .lss 52 51] [53,6,2,50,51,52])
 (sQ (.cond (.s 53) .skip
 (.exit 0))
 (sQ (.block 1 (sQ (rG 0 [iA 0 54 1 50 52,lF 1 55 54,mS 2 8 55] [6,2,50,51,52,8])
 (sQ (sQ (rG 0 [fA 0 56 1 2,lF 1 57 56,mS 2 58 6,iA 3 59 5 57 58,fA 4 60 4 59,lF 5 61 60,mS 6 62 8,cA 7 63 155 [(.s 61),(.s 62)],o1 8 64 (.un .not (.s 63))] [64,2,50,51,52,8])
 (.cond (.s 64) (sQ (rG 0 [mI 0 4 13] [4])
 .ret)
 .skip))
 (rG 0 [mS 0 65 8,mS 1 6 65] [52,6,51,50,2]))))
 (rG 0 [bI 0 66 .add 52 1,mS 1 52 66] [6,51,50,2,52]))))
abbrev znv:Nat:=108
def zbl:CFn:={ frz:=true,rnd:=none,nargs:=2,ntmps:=67,res:=[(.slot 4)],code :=
 (sQ (rG 1 [o1 0 2 (.box 0 5 (.s 0)),mI 1 4 0] [1,2])
 (sQ (sQ (rG 0 [lT 0 9 5 2,cA 1 10 150 [(.s 9)],mS 2 5 10] [1,2,5])
 (sQ (rG 0 [mS 0 11 5,bI 1 12 .neq 11 0] [12,1,2,5])
 (.cond (.s 12) (sQ (rG 0 [mS 0 13 5,mS 1 4 13] [4])
 .ret)
 .skip)))
 (sQ (sQ (rG 0 [mS 0 14 1,lN 1 15 14,bI 2 16 .eql 15 0,mS 3 17 16,oG 4 18 17 false (.mv (.s 1)),oG 5 19 17 false (.len (.s 18)),oG 6 20 17 false (.bin .gtr (.s 19) (kI 8)),o1 7 21 (.pick (.s 17) (kB true) (.s 20)),mS 8 22 21,oG 9 23 22 false (.mv (.s 1)),oG 10 24 22 false (.iaddr 1 (.s 23) (kI 0)),oG 11 25 22 false (.load false 1 (.s 24)),oG 12 26 22 false (.bin .lss (.s 25) (kI 0)),o1 13 27 (.pick (.s 22) (kB true) (.s 26)),mS 14 28 27,oG 15 29 28 false (.mv (.s 1)),oG 16 30 28 false (.iaddr 1 (.s 29) (kI 0)),oG 18 32 28 false (.faddr 1 (.s 2)),oG 17 31 28 false (.load false 1 (.s 30)),oG 19 33 28 false (.load false 1 (.s 32)),oG 20 34 28 false (.len (.s 33)),oG 21 35 28 false (.bin .geq (.s 31) (.s 34)),o1 22 36 (.pick (.s 28) (kB true) (.s 35)),mS 23 37 36,oG 25 39 37 false (.mv (.s 1)),oG 26 40 37 false (.iaddr 1 (.s 39) (kI 0)),oG 24 38 37 false (.load true 5 (.s 2)),oG 27 41 37 false (.load false 1 (.s 40)),⟨28,(some 42),(some (37,false)),.call ⟨true⟩ (.k (.c (.fn 154 [] []))) [(.s 38),(.s 41)]⟩,oG 29 43 37 false (.len (.s 42)),oG 30 44 37 false (.bin .gtr (.s 43) (kI 0)),o1 31 45 (.pick (.s 37) (kB true) (.s 44))] [45,2,1])
 (.cond (.s 45) (sQ (rG 0 [mI 0 4 13] [4])
 .ret)
 .skip))
 (sQ (rG 0 [mS 0 46 1,o1 1 47 (.iaddr 1 (.s 46) (kI 0)),lF 2 48 47,mS 3 6 48] [1,6,2])
 (sQ (sQ (rG 0 [mS 0 49 1,o1 1 50 (.slice 1 (.s 49) (some (kI 1)) none none),lN 2 51 50,mI 3 52 0] [6,51,50,2,52])
 (.block 0 (.loop (some [6,51,50,2,52]) za8)))
 (sQ (rG 0 [mI 0 4 0] [4])
 .ret)))))) }
def zc6:CC:=(sQ (rG 0 [bS 0 29 .lss 28 27] [29,28,27,6,3,7])
 (sQ (.cond (.s 29) .skip
 (.exit 0))
 (sQ (.block 1 (sQ (rG 0 [mS 0 30 28,mS 1 8 30] [8,28,27,6,3,7])
 (.region 1 [fA 0 31 9 7,mS 3 34 8,lF 1 32 31,lT 2 33 5 3,cA 4 35 152 [(.s 33),(.s 34)],o1 5 36 (.lit 0 1 [[(I 0)]] [(0,(.s 35))]),o1 6 37 (.append 1 8 (.s 32) (.s 36)),fA 7 38 9 7,o0 8 (.store 1 (.s 38) (.s 37))] [(2,4),(2,5)] (some [28,27,6,3,7]))))
 (rG 0 [bI 0 39 .add 28 1,mS 1 28 39] [28,27,6,3,7]))))
def ze5:CC:=(sQ (rG 0 [bS 0 44 .lss 43 42] [44,43,42,6,41,7])
 (sQ (.cond (.s 44) .skip
 (.exit 2))
 (sQ (.block 3 (sQ (rG 0 [iA 0 45 1 41 43,lF 1 46 45,mS 2 10 46] [10,43,42,6,41,7])
 (rG 0 [fA 0 47 10 7,lF 1 48 47,mS 2 49 10,iA 3 50 1 48 49,o0 4 (.store 1 (.s 50) (kB true))] [43,42,6,41,7])))
 (rG 0 [bI 0 51 .add 43 1,mS 1 43 51] [43,42,6,41,7]))))
abbrev zrj:Nat:=109
def ziv:CFn:={ frz:=true,rnd:=none,nargs:=3,ntmps:=53,res:=[(.cell 6 true 11)],code :=
 (sQ (rG 2 [o1 0 3 (.box 0 5 (.s 0)),o1 1 6 (.box 1 11 (.k (.a [(I 0),.nilslice,.nilslice,.nilslice,.nilslice,.nilslice,.nilslice,(I 0),(I 0),.nilslice,.nilslice])))] [1,2,6,3])
 (sQ (.region 2 [mS 1 12 1,mS 3 14 1,mS 6 17 1,mS 8 19 2,fA 9 20 1 3,lT 0 11 5 3,lT 2 13 5 3,lT 5 16 5 3,lF 10 21 20,cA 4 15 156 [(.s 13),(.s 14)],cA 7 18 157 [(.s 16),(.s 17)],lN 11 22 21,o1 12 23 (.mkslice 0 1 1 [(.bool false)] (.s 22) (.s 22)),o1 13 24 (.build [(I 0),.nilslice,.nilslice,.nilslice,.nilslice,.nilslice,.nilslice,(I 0),(I 0),.nilslice,.nilslice] [(0,5,(.s 11)),(5,1,(.s 12)),(6,1,(.s 15)),(7,1,(.s 18)),(8,1,(.s 19)),(10,1,(.s 23))]),o1 14 7 (.box 1 11 (.k (.a [(I 0),.nilslice,.nilslice,.nilslice,.nilslice,.nilslice,.nilslice,(I 0),(I 0),.nilslice,.nilslice]))),o0 15 (.store 11 (.s 7) (.s 24))] [(5,9),(5,10),(5,12),(5,14),(6,12),(6,14),(7,9),(7,12),(7,14),(8,9),(8,10),(8,14),(9,12),(9,14),(10,12),(10,14),(12,14)] (some [6,3,7]))
 (sQ (sQ (rG 0 [fA 0 25 1 3,lF 1 26 25,lN 2 27 26,mI 3 28 0] [28,27,6,3,7])
 (.block 0 (.loop (some [28,27,6,3,7]) zc6)))
 (sQ (sQ (rG 0 [lT 0 40 5 3,cA 1 41 158 [(.s 40)],lN 2 42 41,mI 3 43 0] [43,42,6,41,7])
 (.block 2 (.loop (some [43,42,6,41,7]) ze5)))
 (sQ (rG 0 [lT 0 52 11 7,o0 1 (.store 11 (.s 6) (.s 52))] [6])
 .ret))))) }
abbrev zub:Nat:=110
def zkM:CFn:={ frz:=true,rnd:=none,nargs:=1,ntmps:=5,res:=[(.slot 2)],code :=
 (sQ (rG 0 [mB 0 2 false] [0])
 (sQ (rG 0 [mS 0 3 0,cA 1 4 151 [(.s 3),(kI 300),(kI 20000)],mS 2 2 4] [2])
 .ret)) }
abbrev zgW:Nat:=111
def zeZ:CFn:={ frz:=true,rnd:=none,nargs:=3,ntmps:=56,res:=[(.cell 6 true 4)],code :=
 (sQ (rG 4 [o1 0 3 (.box 0 11 (.s 0)),o1 1 4 (.box 1 4 (.s 1)),o1 2 5 (.box 2 1 (.s 2)),o1 3 6 (.box 3 4 (.k (.a [(I 0),(I 0),(I 0),(I 0)])))] [3,5,4,6])
 (sQ (.region 1 [fA 0 12 0 3,fA 1 13 1 12,fA 3 15 5 3,lF 2 14 13,lF 4 16 15,o1 5 17 (.iaddr 1 (.s 16) (kI 0)),lF 6 18 17,iA 7 19 5 14 18,fA 8 20 0 19,lF 9 21 20,cA 10 22 153 [(.s 21)],mS 11 11 22,eX 12 23 11 0,eX 13 24 11 1,eX 14 25 11 2,o1 15 7 (.box 0 1 (.k (.a [(I 0)]))),o0 16 (.store 1 (.s 7) (.s 23)),mS 17 8 24,mS 18 9 25] [(3,15),(4,15),(6,15),(9,15),(10,15)] (some [9,8,7,5,4,6]))
 (sQ (rG 0 [mS 0 26 9,o1 1 27 (.un .neg (.s 26)),lF 2 28 5,mS 3 29 8,o1 4 30 (.minmax false [(.s 28),(.s 29)]),o1 5 31 (.minmax true [(.s 27),(.s 30)]),o0 6 (.store 1 (.s 5) (.s 31))] [7,5,4,6])
 (sQ (rG 0 [o1 0 32 (.mkfn 159 [] [(.s 5),(.s 7)]),mS 1 10 32] [10,4,6])
 (sQ (.region 0 [mS 0 33 10,fA 1 34 2 4,mS 4 37 10,fA 5 38 3 4,lF 2 35 34,lF 6 39 38,⟨3,(some 36),none,.call ⟨true⟩ (.s 33) [(.s 35)]⟩,fA 8 41 2 4,⟨7,(some 40),none,.call ⟨true⟩ (.s 37) [(.s 39)]⟩,o0 9 (.store 1 (.s 41) (.s 36)),fA 10 42 3 4,o0 11 (.store 1 (.s 42) (.s 40))] [(5,6)] (some [4,6]))
 (sQ (rG 0 [fA 0 43 0 4,lF 1 44 43,fA 2 45 2 4,lF 3 46 45,bS 4 47 .add 44 46,fA 5 48 1 4,lF 6 49 48,fA 7 50 3 4,lF 8 51 50,bS 9 52 .add 49 51,fA 10 53 0 4,o0 11 (.store 1 (.s 53) (.s 47)),fA 12 54 1 4,o0 13 (.store 1 (.s 54) (.s 52))] [4,6])
 (sQ (rG 0 [lT 0 55 4 4,o0 1 (.store 4 (.s 6) (.s 55))] [6])
 .ret))))))) }
def zc5:CC:=(sQ (rG 0 [bS 0 105 .lss 104 103] [105,12,104,103,50,49,10,8,48,3,11,4,5,13,19,16,15,102])
 (sQ (.cond (.s 105) .skip
 (.exit 2))
 (sQ (.block 3 (sQ (rG 1 [iA 0 106 7 102 104,lT 1 107 7 106,o1 2 21 (.box 0 7 (.k (.a [(I 0),(I 0),(I 0),(I 0),(I 0),(I 0),(.bool false)]))),o0 3 (.store 7 (.s 21) (.s 107))] [12,21,104,103,50,49,10,8,48,3,11,4,5,13,19,16,15,102])
 (rG 1 [mS 0 108 12,fA 1 109 0 21,lT 2 110 6 109,o1 3 111 (.lit 0 6 [[(I 0),(I 0),(I 0),(I 0),(I 0),(I 0)]] [(0,(.s 110))]),o1 4 112 (.append 6 48 (.s 108) (.s 111)),mS 5 12 112] [104,12,103,50,49,10,8,48,3,11,4,5,13,19,16,15,102])))
 (rG 0 [bI 0 113 .add 104 1,mS 1 104 113] [12,104,103,50,49,10,8,48,3,11,4,5,13,19,16,15,102]))))
def zc4:CC:=(sQ (rG 0 [bS 0 124 .lss 123 122] [124,13,123,122,5,4,12,11,3,48,8,10,49,50,121])
 (sQ (.cond (.s 124) .skip
 (.exit 4))
 (sQ (.block 5 (sQ (rG 1 [iA 0 125 7 121 123,lT 1 126 7 125,o1 2 23 (.box 0 7 (.k (.a [(I 0),(I 0),(I 0),(I 0),(I 0),(I 0),(.bool false)]))),o0 3 (.store 7 (.s 23) (.s 126))] [13,23,123,122,5,4,12,11,3,48,8,10,49,50,121])
 (rG 1 [mS 0 127 13,fA 1 128 0 23,fA 2 129 0 128,lF 3 130 129,fA 4 131 0 23,fA 5 132 1 131,lF 6 133 132,fA 7 134 0 23,fA 8 135 2 134,lF 9 136 135,fA 10 137 6 23,lF 11 138 137,o1 12 139 (.build [(I 0),(I 0),(I 0),(.bool false)] [(0,1,(.s 130)),(1,1,(.s 133)),(2,1,(.s 136)),(3,1,(.s 138))]),o1 13 140 (.lit 0 4 [[(I 0),(I 0),(I 0),(.bool false)]] [(0,(.s 139))]),o1 14 141 (.append 4 32 (.s 127) (.s 140)),mS 15 13 141] [123,13,122,5,4,12,11,3,48,8,10,49,50,121])))
 (rG 0 [bI 0 142 .add 123 1,mS 1 123 142] [13,123,122,5,4,12,11,3,48,8,10,49,50,121]))))
def zan:CC:=(sQ (rG 0 [bS 0 51 .lss 50 49] [51,50,49,10,8,48,3,11,13,12,4,5])
 (sQ (.cond (.s 51) .skip
 (.exit 0))
 (sQ (.block 1 (sQ (rG 1 [iA 0 52 6 48 50,lT 1 53 6 52,o1 2 15 (.box 0 6 (.k (.a [(I 0),(I 0),(I 0),(I 0),(I 0),(I 0)]))),o0 3 (.store 6 (.s 15) (.s 53))] [15,50,49,10,8,48,3,11,13,12,4,5])
 (sQ (rG 1 [lT 0 55 11 4,lT 1 56 6 15,fA 2 57 0 5,lF 3 58 57,mS 4 59 3,cA 5 60 161 [(.s 55),(.s 56),(.s 58),(.s 59)],mS 6 54 60,eX 7 61 54 0,eX 8 62 54 1,o1 9 16 (.box 0 6 (.k (.a [(I 0),(I 0),(I 0),(I 0),(I 0),(I 0)]))),o0 10 (.store 6 (.s 16) (.s 61)),mS 11 17 62] [17,15,16,50,49,10,8,48,3,11,13,12,4,5])
 (sQ (sQ (rG 0 [mS 0 63 17,o1 1 64 (.un .not (.s 63))] [64,15,16,50,49,10,8,48,3,11,13,12,4,5])
 (.cond (.s 64) (.exit 1)
 .skip))
 (sQ (rG 0 [fA 0 65 5 4,lF 1 66 65,fA 2 67 0 15,lF 3 68 67,cA 4 69 162 [(.s 66),(.s 68)],mS 5 18 69] [18,12,50,49,10,8,48,3,11,4,5,13,16,15])
 (sQ (rG 0 [mS 0 70 18,bI 1 71 .geq 70 0,mS 2 72 71,oG 4 74 72 true (.faddr 2 (.s 5)),oG 3 73 72 true (.load true 11 (.s 4)),oG 5 75 72 true (.load true 4 (.s 74)),⟨6,(some 76),(some (72,true)),.call ⟨true⟩ (.k (.c (.fn 163 [] []))) [(.s 73),(.s 75)]⟩,o1 7 77 (.pick (.s 72) (.s 76) (kB false)),mS 8 78 77,oG 9 79 78 true (.faddr 6 (.s 4)),oG 11 81 78 true (.mv (.s 18)),oG 14 84 78 true (.faddr 2 (.s 15)),oG 17 87 78 true (.faddr 2 (.s 5)),oG 18 88 78 true (.faddr 1 (.s 87)),oG 20 90 78 true (.faddr 8 (.s 4)),oG 10 80 78 true (.load false 1 (.s 79)),oG 12 82 78 true (.iaddr 1 (.s 80) (.s 81)),oG 13 83 78 true (.load false 1 (.s 82)),oG 15 85 78 true (.load false 1 (.s 84)),oG 16 86 78 true (.bin .add (.s 83) (.s 85)),oG 19 89 78 true (.load false 1 (.s 88)),oG 21 91 78 true (.load false 1 (.s 90)),oG 22 92 78 true (.bin .sub (.s 89) (.s 91)),oG 23 93 78 true (.bin .lss (.s 86) (.s 92)),o1 24 94 (.pick (.s 78) (.s 93) (kB false)),mS 25 19 94] [12,50,49,10,8,48,3,11,4,5,13,19,16,15])
 (sQ (sQ (rG 0 [lT 0 95 16 11,lT 1 96 6 16,fA 2 97 1 16,lF 3 98 97,fA 4 99 2 16,lF 5 100 99,mS 6 101 19,cA 7 102 164 [(.s 95),(.s 96),(.s 98),(.s 100),(.s 101)],lN 8 103 102,mI 9 104 0] [12,104,103,50,49,10,8,48,3,11,4,5,13,19,16,15,102])
 (.block 2 (.loop (some [12,104,103,50,49,10,8,48,3,11,4,5,13,19,16,15,102]) zc5)))
 (sQ (rG 0 [lT 0 114 16 11,lT 1 115 6 16,fA 2 116 1 15,lF 3 117 116,fA 4 118 2 16,lF 5 119 118,mS 6 120 19,cA 7 121 164 [(.s 114),(.s 115),(.s 117),(.s 119),(.s 120)],lN 8 122 121,mI 9 123 0] [13,123,122,5,4,12,11,3,48,8,10,49,50,121])
 (.block 4 (.loop (some [13,123,122,5,4,12,11,3,48,8,10,49,50,121]) zc4))))))))))
 (rG 0 [bI 0 143 .add 50 1,mS 1 50 143] [50,49,10,8,48,3,11,13,12,4,5]))))
def zbd:CC:=(sQ (rG 0 [bS 0 148 .lss 147 146] [148,12,147,146,8,10,13,5,145,11,4])
 (sQ (.cond (.s 148) .skip
 (.exit 6))
 (sQ (.block 7 (sQ (rG 0 [mS 0 149 147,iA 1 150 1 145 147,lF 2 151 150,mS 3 24 149,mS 4 25 151] [25,12,24,147,146,8,10,13,5,145,11,4])
 (sQ (rG 0 [mS 0 152 25,mS 1 153 152,oG 2 154 153 true (.mv (.s 24)),oG 3 155 153 true (.faddr 5 (.s 4)),oG 4 156 153 true (.load false 1 (.s 155)),oG 5 157 153 true (.iaddr 1 (.s 156) (kI 0)),oG 6 158 153 true (.load false 1 (.s 157)),oG 7 159 153 true (.bin .neq (.s 154) (.s 158)),oG 8 160 153 true (.mv (.s 159)),oG 9 161 160 false (.faddr 11 (.s 11)),oG 10 162 160 false (.load false 1 (.s 161)),oG 11 163 160 false (.bin .geq (.s 162) (kI 0)),oG 12 164 153 true (.pick (.s 160) (kB true) (.s 163)),o1 13 165 (.pick (.s 153) (.s 164) (kB false))] [165,12,24,147,146,8,10,13,5,145,11,4])
 (.cond (.s 165) (sQ (rG 0 [fA 0 167 0 4,fA 1 168 1 167,lF 2 169 168,mS 3 170 24,iA 4 171 5 169 170,fA 5 172 0 171,lF 6 173 172,cA 7 174 153 [(.s 173)],mS 8 166 174,eX 9 175 166 0,eX 10 176 166 1,eX 11 177 166 2,mS 12 26 175,mS 13 27 176,mS 14 28 177] [12,24,26,147,146,8,10,13,5,145,11,4])
 (rG 1 [mS 0 178 12,mS 1 179 24,mS 2 180 26,o1 3 181 (.build [(I 0),(I 0),(I 0),(I 0),(I 0),(I 0)] [(0,1,(.s 179)),(4,1,(.s 180))]),o1 4 182 (.lit 0 6 [[(I 0),(I 0),(I 0),(I 0),(I 0),(I 0)]] [(0,(.s 181))]),o1 5 183 (.append 6 48 (.s 178) (.s 182)),mS 6 12 183] [147,12,146,8,10,13,5,145,11,4]))
 .skip))))
 (rG 0 [bI 0 184 .add 147 1,mS 1 147 184] [12,147,146,8,10,13,5,145,11,4]))))
abbrev zl7:Nat:=112
def zcT:CFn:={ frz:=true,rnd:=none,nargs:=4,ntmps:=199,res:=[(.cell 8 true 6),(.slot 9)],code :=
 (sQ (rG 4 [o1 0 4 (.box 0 11 (.s 0)),o1 1 5 (.box 1 6 (.s 1)),o1 2 8 (.box 2 6 (.k (.a [(I 0),.nilslice,(I 0),(I 0),(I 0),(I 0)]))),o1 3 9 (.newsl 3 4)] [2,8,3,4,5])
 (sQ (rG 1 [lT 0 29 11 4,fA 1 30 2 5,lT 2 31 4 30,mS 3 32 2,cA 4 33 111 [(.s 29),(.s 31),(.s 32)],o1 5 10 (.box 0 4 (.k (.a [(I 0),(I 0),(I 0),(I 0)]))),o0 6 (.store 4 (.s 10) (.s 33))] [10,8,3,4,5])
 (sQ (rG 1 [lT 0 34 11 4,fA 1 35 1 10,lF 2 36 35,fA 3 37 8 4,lF 4 38 37,bS 5 39 .sub 36 38,bI 6 40 .sub 39 1,lT 7 41 4 10,o1 8 42 (.build [(I 0),.nilslice,.nilslice,.nilslice,.nilslice,.nilslice,.nilslice,(I 0),(I 0),.nilslice,.nilslice,(I 0),(I 0),(I 0),(I 0),(I 0)] [(0,11,(.s 34)),(11,1,(.s 40)),(12,4,(.s 41))]),o1 9 11 (.box 0 16 (.k (.a [(I 0),.nilslice,.nilslice,.nilslice,.nilslice,.nilslice,.nilslice,(I 0),(I 0),.nilslice,.nilslice,(I 0),(I 0),(I 0),(I 0),(I 0)]))),o0 10 (.store 16 (.s 11) (.s 42))] [10,8,3,11,4,5])
 (sQ (rG 1 [o1 0 12 (.newsl 0 6)] [10,8,3,11,12,4,5])
 (sQ (rG 1 [o1 0 13 (.newsl 0 4)] [10,8,3,11,13,12,4,5])
 (sQ (sQ (rG 0 [lT 0 43 11 4,fA 1 44 1 5,lF 2 45 44,fA 3 46 2 5,lT 4 47 4 46,cA 5 48 160 [(.s 43),(.s 45),(.s 47)],lN 6 49 48,mI 7 50 0] [50,49,10,8,48,3,11,13,12,4,5])
 (.block 0 (.loop (some [50,49,10,8,48,3,11,13,12,4,5]) zan)))
 (sQ (sQ (rG 0 [fA 0 144 10 4,lF 1 145 144,lN 2 146 145,mI 3 147 0] [12,147,146,8,10,13,5,145,11,4])
 (.block 6 (.loop (some [12,147,146,8,10,13,5,145,11,4]) zbd)))
 (sQ (rG 0 [mS 0 185 13,⟨1,(some 186),none,.call ⟨false⟩ (.k (.c (.fn 165 [] []))) [(.s 185),(.k (.c (.fn 166 [] [])))]⟩] [5,12,13,4,10,8])
 (sQ (.region 0 [fA 0 187 0 5,mS 5 192 12,mS 10 197 13,lF 1 188 187,bI 2 189 .add 188 1,lT 3 190 4 10,lT 4 191 11 4,lT 7 194 4 10,cA 6 193 167 [(.s 192)],cA 8 195 160 [(.s 191),(.s 193),(.s 194)],o1 9 196 (.build [(I 0),.nilslice,(I 0),(I 0),(I 0),(I 0)] [(0,1,(.s 189)),(2,4,(.s 190)),(1,1,(.s 195))]),⟨11,(some 198),none,.call ⟨false⟩ (.k (.c (.fn 168 [] []))) [(.s 197)]⟩,o0 12 (.store 6 (.s 8) (.s 196)),mS 13 9 198] [(3,8),(3,9),(3,11),(5,8),(5,9),(5,11),(6,8),(7,8)] (some [8,9]))
 .ret))))))))) }
def zbI:CC:=(sQ (sQ (rG 0 [mS 0 7 6,fA 1 8 1 2,lF 2 9 8,lN 3 10 9,bS 4 11 .lss 7 10] [11,5,6,2,1])
 (.cond (.s 11) .skip
 (.exit 0)))
 (sQ (.block 1 (sQ (rG 0 [fA 0 14 1 2,lF 1 15 14,mS 2 16 6,iA 3 17 5 15 16,fA 4 18 4 17,lF 5 19 18,mS 6 20 1,cA 7 21 121 [(.s 19),(.s 20)]] [21,5,6,2,1])
 (.cond (.s 21) (rG 1 [mS 0 22 5,mS 1 23 6,o1 2 24 (.lit 0 1 [[(I 0)]] [(0,(.s 23))]),o1 3 25 (.append 1 8 (.s 22) (.s 24)),mS 4 5 25] [6,5,2,1])
 .skip)))
 (rG 0 [mS 0 12 6,bI 1 13 .add 12 1,mS 2 6 13] [5,6,2,1])))
abbrev zjP:Nat:=120
def zeo:CFn:={ frz:=true,rnd:=none,nargs:=2,ntmps:=27,res:=[(.slot 4)],code :=
 (sQ (rG 2 [o1 0 2 (.box 0 5 (.s 0)),o1 1 4 (.newsl 1 1)] [2,1])
 (sQ (rG 1 [o1 0 5 (.newsl 0 1)] [5,2,1])
 (sQ (sQ (rG 0 [mI 0 6 0] [5,6,2,1])
 (.block 0 (.loop (some [5,6,2,1]) zbI)))
 (sQ (rG 0 [mS 0 26 5,mS 1 4 26] [4])
 .ret)))) }
def zaT:CC:=(sQ (sQ (rG 0 [mS 0 6 5,mS 1 7 0,lN 2 8 7,bS 3 9 .lss 6 8] [9,1,0,5])
 (.cond (.s 9) .skip
 (.exit 0)))
 (sQ (.block 1 (sQ (rG 0 [mS 0 12 0,mS 1 13 5,iA 2 14 1 12 13,lF 3 15 14,mS 4 16 1,bS 5 17 .eql 15 16] [17,1,0,5])
 (.cond (.s 17) (sQ (rG 0 [mB 0 4 true] [4])
 .ret)
 .skip)))
 (rG 0 [mS 0 10 5,bI 1 11 .add 10 1,mS 2 5 11] [0,1,5])))
abbrev zmb:Nat:=121
def zdY:CFn:={ frz:=true,rnd:=none,nargs:=2,ntmps:=18,res:=[(.slot 4)],code :=
 (sQ (rG 0 [mB 0 4 false] [0,1])
 (sQ (sQ (rG 0 [mI 0 5 0] [0,1,5])
 (.block 0 (.loop (some [0,1,5]) zaT)))
 (sQ (rG 0 [mB 0 4 false] [4])
 .ret))) }
abbrev zio:Nat:=122
def zF:CFn:={ frz:=true,rnd:=none,nargs:=3,ntmps:=124,res:=[(.slot 6)],code :=
 (sQ (rG 1 [o1 0 3 (.box 0 5 (.s 0)),mI 1 6 0] [1,2,3])
 (sQ (rG 1 [mS 0 12 1,mS 1 13 2,iA 2 14 6 12 13,lT 3 15 6 14,o1 4 7 (.box 0 6 (.k (.a [(I 0),(I 0),(I 0),(I 0),(I 0),(I 0)]))),o0 5 (.store 6 (.s 7) (.s 15))] [7,1,2,3])
 (sQ (sQ (rG 0 [fA 0 16 0 7,lF 1 17 16,bI 2 18 .lss 17 0,mS 3 19 18,oG 4 20 19 false (.faddr 0 (.s 7)),oG 5 21 19 false (.load false 1 (.s 20)),oG 6 22 19 false (.faddr 1 (.s 3)),oG 7 23 19 false (.load false 1 (.s 22)),oG 8 24 19 false (.len (.s 23)),oG 9 25 19 false (.bin .geq (.s 21) (.s 24)),o1 10 26 (.pick (.s 19) (kB true) (.s 25))] [26,7,1,2,3])
 (.cond (.s 26) (sQ (rG 0 [mI 0 6 7] [6])
 .ret)
 .skip))
 (sQ (rG 0 [lT 0 27 5 3,fA 1 28 0 7,lF 2 29 28,cA 3 30 192 [(.s 27),(.s 29)],mS 4 8 30] [3,8,2,1,7])
 (sQ (rG 0 [fA 0 32 1 3,lF 1 33 32,fA 2 34 0 7,lF 3 35 34,iA 4 36 5 33 35,fA 5 37 0 36,lF 6 38 37,cA 7 39 75 [(.s 38)],mS 8 31 39,eX 9 40 31 0,eX 10 41 31 1,eX 11 42 31 2,mS 12 9 40,mS 13 10 41,mS 14 11 42] [9,8,2,1,7])
 (sQ (sQ (rG 0 [fA 0 43 1 7,lF 1 44 43,bI 2 45 .lss 44 0,mS 3 46 45,oG 4 47 46 false (.faddr 1 (.s 7)),oG 5 48 46 false (.load false 1 (.s 47)),oG 6 49 46 false (.faddr 2 (.s 7)),oG 7 50 46 false (.load false 1 (.s 49)),oG 8 51 46 false (.bin .gtr (.s 48) (.s 50)),o1 9 52 (.pick (.s 46) (kB true) (.s 51)),mS 10 53 52,oG 11 54 53 false (.faddr 2 (.s 7)),oG 12 55 53 false (.load false 1 (.s 54)),oG 13 56 53 false (.mv (.s 8)),oG 14 57 53 false (.bin .gtr (.s 55) (.s 56)),o1 15 58 (.pick (.s 53) (kB true) (.s 57)),mS 16 59 58,oG 17 60 59 false (.faddr 3 (.s 7)),oG 18 61 59 false (.load false 1 (.s 60)),oG 19 62 59 false (.bin .lss (.s 61) (kI 0)),o1 20 63 (.pick (.s 59) (kB true) (.s 62)),mS 21 64 63,oG 22 65 64 false (.faddr 3 (.s 7)),oG 23 66 64 false (.load false 1 (.s 65)),oG 24 67 64 false (.faddr 4 (.s 7)),oG 25 68 64 false (.load false 1 (.s 67)),oG 26 69 64 false (.bin .gtr (.s 66) (.s 68)),o1 27 70 (.pick (.s 64) (kB true) (.s 69)),mS 28 71 70,oG 29 72 71 false (.faddr 4 (.s 7)),oG 30 73 71 false (.load false 1 (.s 72)),oG 31 74 71 false (.mv (.s 9)),oG 32 75 71 false (.bin .gtr (.s 73) (.s 74)),o1 33 76 (.pick (.s 71) (kB true) (.s 75)),mS 34 77 76,oG 35 78 77 false (.faddr 5 (.s 7)),oG 36 79 77 false (.load false 1 (.s 78)),oG 37 80 77 false (.bin .lss (.s 79) (kI 0)),o1 38 81 (.pick (.s 77) (kB true) (.s 80)),mS 39 82 81,oG 40 83 82 false (.faddr 5 (.s 7)),oG 41 84 82 false (.load false 1 (.s 83)),oG 42 85 82 false (.mv (.s 8)),oG 43 86 82 false (.bin .gtr (.s 84) (.s 85)),o1 44 87 (.pick (.s 82) (kB true) (.s 86))] [87,2,1,7])
 (.cond (.s 87) (sQ (rG 0 [mI 0 6 2] [6])
 .ret)
 .skip))
 (sQ (sQ (rG 0 [mS 0 88 2,bI 1 89 .gtr 88 0,mS 2 90 89,oG 3 91 90 true (.faddr 0 (.s 7)),oG 5 93 90 true (.mv (.s 1)),oG 6 94 90 true (.mv (.s 2)),oG 7 95 90 true (.bin .sub (.s 94) (kI 1)),oG 8 96 90 true (.iaddr 6 (.s 93) (.s 95)),oG 9 97 90 true (.faddr 0 (.s 96)),oG 4 92 90 true (.load false 1 (.s 91)),oG 10 98 90 true (.load false 1 (.s 97)),oG 11 99 90 true (.bin .lss (.s 92) (.s 98)),oG 12 100 90 true (.mv (.s 99)),oG 13 101 100 false (.faddr 0 (.s 7)),oG 15 103 100 false (.mv (.s 1)),oG 16 104 100 false (.mv (.s 2)),oG 17 105 100 false (.bin .sub (.s 104) (kI 1)),oG 18 106 100 false (.iaddr 6 (.s 103) (.s 105)),oG 19 107 100 false (.faddr 0 (.s 106)),oG 14 102 100 false (.load false 1 (.s 101)),oG 20 108 100 false (.load false 1 (.s 107)),oG 21 109 100 false (.bin .eql (.s 102) (.s 108)),oG 22 110 100 false (.mv (.s 109)),oG 23 111 110 true (.faddr 1 (.s 7)),oG 26 114 110 true (.mv (.s 1)),oG 27 115 110 true (.mv (.s 2)),oG 28 116 110 true (.bin .sub (.s 115) (kI 1)),oG 29 117 110 true (.iaddr 6 (.s 114) (.s 116)),oG 30 118 110 true (.faddr 2 (.s 117)),oG 24 112 110 true (.load false 1 (.s 111)),oG 25 113 110 true (.bin .sub (.s 112) (kI 1)),oG 31 119 110 true (.load false 1 (.s 118)),oG 32 120 110 true (.bin .leq (.s 113) (.s 119)),oG 33 121 100 false (.pick (.s 110) (.s 120) (kB false)),oG 34 122 90 true (.pick (.s 100) (kB true) (.s 121)),o1 35 123 (.pick (.s 90) (.s 122) (kB false))] [123])
 (.cond (.s 123) (sQ (rG 0 [mI 0 6 11] [6])
 .ret)
 .skip))
 (sQ (rG 0 [mI 0 6 0] [6])
 .ret)))))))) }
def zbx:CC:=(sQ (sQ (rG 0 [mS 0 5 4,fA 1 6 1 1,lF 2 7 6,lN 3 8 7,bS 4 9 .lss 5 8] [9,3,4,1])
 (.cond (.s 9) .skip
 (.exit 0)))
 (sQ (.block 1 (sQ (rG 0 [lT 0 12 5 1,mS 1 13 4,cA 2 14 120 [(.s 12),(.s 13)],lN 3 15 14,bI 4 16 .eql 15 0] [16,3,4,1])
 (.cond (.s 16) (rG 1 [mS 0 17 3,mS 1 18 4,o1 2 19 (.lit 0 1 [[(I 0)]] [(0,(.s 18))]),o1 3 20 (.append 1 8 (.s 17) (.s 19)),mS 4 3 20] [4,3,1])
 .skip)))
 (rG 0 [mS 0 10 4,bI 1 11 .add 10 1,mS 2 4 11] [3,4,1])))
abbrev zjm:Nat:=123
def zd0:CFn:={ frz:=true,rnd:=none,nargs:=1,ntmps:=22,res:=[(.slot 2)],code :=
 (sQ (rG 2 [o1 0 1 (.box 0 5 (.s 0)),o1 1 2 (.newsl 1 1)] [1])
 (sQ (rG 1 [o1 0 3 (.newsl 0 1)] [3,1])
 (sQ (sQ (rG 0 [mI 0 4 0] [3,4,1])
 (.block 0 (.loop (some [3,4,1]) zbx)))
 (sQ (rG 0 [mS 0 21 3,mS 1 2 21] [2])
 .ret)))) }
def zaW:CC:=(sQ (sQ (rG 0 [mS 0 39 17,bI 1 40 .geq 39 0,mS 2 41 40,oG 3 42 41 true (.mv (.s 3)),o1 4 43 (.pick (.s 41) (.s 42) (kB false))] [43,15,17,3,10,4,13,12,14,6,16])
 (.cond (.s 43) .skip
 (.exit 0)))
 (sQ (.block 1 (sQ (.region 0 [mS 0 46 16,mS 1 47 17,iA 2 48 1 46 47,fA 4 50 2 6,lF 3 49 48,lF 5 51 50,bS 6 52 .gtr 49 51,mS 7 53 52,oG 8 54 53 true (.faddr 2 (.s 6)),oG 10 56 53 true (.faddr 4 (.s 6)),oG 12 58 53 true (.mv (.s 14)),oG 15 61 53 true (.mv (.s 16)),oG 16 62 53 true (.mv (.s 17)),oG 17 63 53 true (.iaddr 1 (.s 61) (.s 62)),oG 9 55 53 true (.load false 1 (.s 54)),oG 11 57 53 true (.load false 1 (.s 56)),oG 18 64 53 true (.load false 1 (.s 63)),⟨13,(some 59),(some (53,true)),.call ⟨true⟩ (.k (.c (.fn 194 [] []))) [(.s 57),(.s 58)]⟩,oG 14 60 53 true (.bin .add (.s 55) (.s 59)),oG 19 65 53 true (.bin .lss (.s 60) (.s 64)),oG 20 66 53 true (.mv (.s 65)),oG 21 67 66 false (.faddr 5 (.s 6)),oG 22 68 66 false (.load false 1 (.s 67)),oG 23 69 66 false (.bin .neq (.s 68) (kI 0)),oG 24 70 66 false (.mv (.s 69)),oG 25 71 70 true (.faddr 5 (.s 6)),oG 27 73 70 true (.mv (.s 16)),oG 28 74 70 true (.mv (.s 17)),oG 29 75 70 true (.iaddr 1 (.s 73) (.s 74)),oG 26 72 70 true (.load false 1 (.s 71)),oG 30 76 70 true (.load false 1 (.s 75)),oG 31 77 70 true (.bin .leq (.s 72) (.s 76)),oG 32 78 66 false (.pick (.s 70) (.s 77) (kB false)),oG 33 79 53 true (.pick (.s 66) (kB true) (.s 78)),o1 34 80 (.pick (.s 53) (.s 79) (kB false))] [(14,17),(16,17)] (some [80,15,17,3,10,4,13,12,14,6,16]))
 (.cond (.s 80) (rG 0 [mS 0 81 16,mS 1 82 17,iA 2 83 1 81 82,lF 3 84 83,mS 4 15 84] [17,15,3,10,4,13,12,14,6,16])
 .skip)))
 (rG 0 [mS 0 44 17,bI 1 45 .sub 44 1,mS 2 17 45] [15,17,3,10,4,13,12,14,6,16])))
abbrev zgA:Nat:=124
def zbQ:CFn:={ frz:=true,rnd:=none,nargs:=5,ntmps:=134,res:=[(.cell 10 true 6),(.slot 11)],code :=
 (sQ (rG 3 [o1 0 5 (.box 0 5 (.s 0)),o1 1 6 (.box 1 6 (.s 1)),o1 2 10 (.box 2 6 (.k (.a [(I 0),(I 0),(I 0),(I 0),(I 0),(I 0)]))),mB 3 11 false] [5,2,3,10,4,6])
 (sQ (rG 0 [fA 0 20 1 5,lF 1 21 20,fA 2 22 0 6,lF 3 23 22,iA 4 24 5 21 23,fA 5 25 0 24,lF 6 26 25,cA 7 27 75 [(.s 26)],mS 8 19 27,eX 9 28 19 0,eX 10 29 19 1,eX 11 30 19 2,mS 12 12 28,mS 13 13 29,mS 14 14 30] [5,2,3,10,4,13,12,14,6])
 (sQ (rG 0 [mI 0 15 0] [5,2,15,3,10,4,13,12,14,6])
 (sQ (rG 0 [lT 0 31 5 5,fA 1 32 0 6,lF 2 33 32,mS 3 34 2,cA 4 35 193 [(.s 31),(.s 33),(.s 34)],mS 5 16 35] [15,3,10,4,13,12,14,6,16])
 (sQ (sQ (rG 0 [mS 0 36 16,lN 1 37 36,bI 2 38 .sub 37 1,mS 3 17 38] [15,17,3,10,4,13,12,14,6,16])
 (.block 0 (.loop (some [15,17,3,10,4,13,12,14,6,16]) zaW)))
 (sQ (rG 1 [lT 0 85 6 6,o1 1 18 (.box 0 6 (.k (.a [(I 0),(I 0),(I 0),(I 0),(I 0),(I 0)]))),o0 2 (.store 6 (.s 18) (.s 85))] [14,12,13,15,4,6,18,10])
 (sQ (.region 0 [fA 0 86 3 6,mS 2 88 14,mS 5 91 12,fA 6 92 4 6,mS 8 94 13,lF 1 87 86,bS 3 89 .sub 87 88,lF 7 93 92,bS 9 95 .add 93 94,o1 4 90 (.minmax true [(kI 0),(.s 89)]),fA 11 97 3 18,o1 10 96 (.minmax false [(.s 91),(.s 95)]),o0 12 (.store 1 (.s 97) (.s 90)),fA 13 98 4 18,o0 14 (.store 1 (.s 98) (.s 96))] [(7,12)] (some [15,4,6,18,10]))
 (sQ (.region 0 [fA 0 99 1 6,fA 2 101 3 18,fA 5 104 2 6,fA 7 106 4 18,mS 10 109 15,lF 1 100 99,lF 3 102 101,bS 4 103 .add 100 102,lF 6 105 104,lF 8 107 106,bS 9 108 .add 105 107,fA 11 110 1 18,o0 12 (.store 1 (.s 110) (.s 103)),fA 13 111 2 18,o0 14 (.store 1 (.s 111) (.s 108)),fA 15 112 5 18,o0 16 (.store 1 (.s 112) (.s 109))] [(8,12)] (some [15,4,6,18,10]))
 (sQ (sQ (rG 0 [mS 0 113 15,bI 1 114 .gtr 113 0] [114,15,4,6,18,10])
 (.cond (.s 114) (rG 0 [fA 0 115 2 18,lF 1 116 115,mS 2 117 15,bI 3 118 .sub 117 1,o1 4 119 (.minmax false [(.s 116),(.s 118)]),fA 5 120 2 18,o0 6 (.store 1 (.s 120) (.s 119))] [4,6,18,10])
 .skip))
 (sQ (sQ (rG 0 [mS 0 121 4,mS 1 122 121,oG 2 123 122 true (.faddr 1 (.s 6)),oG 3 124 122 true (.load false 1 (.s 123)),oG 4 125 122 true (.bin .eql (.s 124) (kI 0)),o1 5 126 (.pick (.s 122) (.s 125) (kB false))] [126,18,10])
 (.cond (.s 126) (rG 0 [fA 0 127 1 18,o0 1 (.store 1 (.s 127) (kI 0))] [18,10])
 .skip))
 (sQ (.region 0 [fA 1 129 1 18,fA 3 131 2 18,lT 0 128 6 18,lF 2 130 129,lF 4 132 131,bS 5 133 .leq 130 132,o0 6 (.store 6 (.s 10) (.s 128)),mS 7 11 133] [(3,6),(4,6)] (some [10,11]))
 .ret))))))))))) }
def zaS:CC:=(sQ (sQ (rG 0 [mS 0 6 5,mS 1 7 0,lN 2 8 7,bS 3 9 .lss 6 8] [9,1,0,5])
 (.cond (.s 9) .skip
 (.exit 0)))
 (sQ (.block 1 (sQ (rG 0 [mS 0 12 0,mS 1 13 5,iA 2 14 1 12 13,lF 3 15 14,mS 4 16 1,bS 5 17 .eql 15 16] [17,1,0,5])
 (.cond (.s 17) (sQ (rG 0 [mB 0 4 true] [4])
 .ret)
 .skip)))
 (rG 0 [mS 0 10 5,bI 1 11 .add 10 1,mS 2 5 11] [0,1,5])))
abbrev zl9:Nat:=125
def zdX:CFn:={ frz:=true,rnd:=none,nargs:=2,ntmps:=18,res:=[(.slot 4)],code :=
 (sQ (rG 0 [mB 0 4 false] [0,1])
 (sQ (sQ (rG 0 [mI 0 5 0] [0,1,5])
 (.block 0 (.loop (some [0,1,5]) zaS)))
 (sQ (rG 0 [mB 0 4 false] [4])
 .ret))) }
def zal:CC:=(sQ (sQ (rG 0 [mS 0 6 5,fA 1 7 5 2,lF 2 8 7,lN 3 9 8,bS 4 10 .lss 6 9] [10,1,2,5])
 (.cond (.s 10) .skip
 (.exit 0)))
 (sQ (.block 1 (sQ (rG 0 [fA 0 13 5 2,lF 1 14 13,mS 2 15 5,iA 3 16 1 14 15,lF 4 17 16,mS 5 18 1,bS 6 19 .eql 17 18] [19,1,2,5])
 (.cond (.s 19) (sQ (rG 0 [mS 0 20 5,mS 1 4 20] [4])
 .ret)
 .skip)))
 (rG 0 [mS 0 11 5,bI 1 12 .add 11 1,mS 2 5 12] [2,1,5])))
abbrev zfy:Nat:=126
def zcv:CFn:={ frz:=true,rnd:=none,nargs:=2,ntmps:=21,res:=[(.slot 4)],code :=
 (sQ (rG 1 [o1 0 2 (.box 0 12 (.s 0)),mI 1 4 0] [2,1])
 (sQ (sQ (rG 0 [mI 0 5 0] [2,1,5])
 (.block 0 (.loop (some [2,1,5]) zal)))
 (sQ (rG 0 [mI 0 4 (-1)] [4])
 .ret))) }
def zax:CC:=(sQ (sQ (rG 0 [mS 0 86 18,mS 1 87 17,lN 2 88 87,bS 3 89 .lss 86 88] [89,13,18,7,17,15,6,2,3,14,4,5])
 (.cond (.s 89) .skip
 (.exit 0)))
 (sQ (.block 1 (sQ (rG 0 [mS 1 93 17,mS 2 94 18,iA 3 95 1 93 94,lT 0 92 12 6,lF 4 96 95,cA 5 97 126 [(.s 92),(.s 96)],mS 6 19 97] [19,13,18,7,17,15,6,2,3,14,4,5])
 (sQ (rG 1 [lT 0 98 6 7,o1 1 20 (.box 0 6 (.k (.a [(I 0),(I 0),(I 0),(I 0),(I 0),(I 0)]))),o0 2 (.store 6 (.s 20) (.s 98))] [19,13,20,18,7,17,15,6,2,3,14,4,5])
 (sQ (rG 0 [mS 0 99 17,mS 1 100 18,iA 2 101 1 99 100,lF 3 102 101,fA 4 103 0 20,o0 5 (.store 1 (.s 103) (.s 102)),fA 6 104 5 20,o0 7 (.store 1 (.s 104) (kI 0))] [19,13,20,18,7,17,15,6,2,3,14,4,5])
 (.block 2 (sQ (rG 0 [mS 0 117 19,bI 1 118 .geq 117 0,mS 2 119 118,oG 3 120 119 true (.mv (.s 15)),oG 4 121 119 true (.bin .geq (.s 120) (kI 0)),o1 5 122 (.pick (.s 119) (.s 121) (kB false)),mS 6 123 122,oG 7 124 123 true (.mv (.s 19)),oG 8 125 123 true (.mv (.s 15)),oG 9 126 123 true (.bin .add (.s 125) (kI 1)),oG 10 127 123 true (.bin .eql (.s 124) (.s 126)),o1 11 128 (.pick (.s 123) (.s 127) (kB false)),mS 12 116 128] [116,19,13,20,18,7,17,15,6,2,3,14,4,5])
 (.cond (.s 116) (rG 0 [mS 0 129 13,lT 1 130 12 6,lT 2 131 6 20,mS 3 132 2,mS 4 133 14,bS 5 134 .sub 132 133,mS 6 135 3,mS 7 136 14,bS 8 137 .sub 135 136,mS 9 138 4,mS 10 139 5,cA 11 140 127 [(.s 130),(.s 131),(.s 134),(.s 137),(.s 138),(.s 139)],o1 12 141 (.append 7 56 (.s 129) (.s 140)),mS 13 13 141] [18,13,7,17,15,6,2,3,14,4,5])
 (sQ (rG 0 [mS 0 143 19,bI 1 144 .geq 143 0,mS 2 145 144,oG 3 146 145 true (.faddr 8 (.s 6)),oG 4 147 145 true (.faddr 0 (.s 146)),oG 6 149 145 true (.faddr 6 (.s 6)),oG 8 151 145 true (.mv (.s 19)),oG 5 148 145 true (.load false 1 (.s 147)),oG 7 150 145 true (.load false 1 (.s 149)),oG 9 152 145 true (.iaddr 1 (.s 150) (.s 151)),oG 10 153 145 true (.load false 1 (.s 152)),oG 11 154 145 true (.bin .geq (.s 148) (.s 153)),o1 12 155 (.pick (.s 145) (.s 154) (kB false)),mS 13 142 155] [142,13,20,18,7,17,15,6,2,3,14,4,5])
 (.cond (.s 142) (rG 0 [mS 0 156 13,lT 1 157 12 6,lT 2 158 6 20,mS 3 159 2,mS 4 160 14,bS 5 161 .sub 159 160,mS 6 162 3,mS 7 163 14,bS 8 164 .sub 162 163,fA 9 165 7 6,lF 10 166 165,cA 11 167 127 [(.s 157),(.s 158),(.s 161),(.s 164),(kB true),(.s 166)],o1 12 168 (.append 7 56 (.s 156) (.s 167)),mS 13 13 168] [18,13,7,17,15,6,2,3,14,4,5])
 (rG 0 [mS 0 105 13,lT 1 106 12 6,lT 2 107 6 20,mS 3 108 2,mS 4 109 14,bS 5 110 .sub 108 109,mS 6 111 3,mS 7 112 14,bS 8 113 .sub 111 112,cA 9 114 127 [(.s 106),(.s 107),(.s 110),(.s 113),(kB false),(kI 0)],o1 10 115 (.append 7 56 (.s 105) (.s 114)),mS 11 13 115] [18,13,7,17,15,6,2,3,14,4,5]))))))))))
 (rG 0 [mS 0 90 18,bI 1 91 .add 90 1,mS 2 18 91] [13,18,7,17,15,6,2,3,14,4,5])))
abbrev zbD:Nat:=127
def zp:CFn:={ frz:=true,rnd:=none,nargs:=6,ntmps:=170,res:=[(.slot 12)],code :=
 (sQ (rG 3 [o1 0 6 (.box 0 12 (.s 0)),o1 1 7 (.box 1 6 (.s 1)),o1 2 12 (.newsl 2 7)] [5,4,3,2,6,7])
 (sQ (rG 1 [o1 0 13 (.newsl 0 7)] [13,5,4,3,2,6,7])
 (sQ (rG 0 [fA 0 21 0 6,lT 1 22 5 21,fA 2 23 0 7,lF 3 24 23,cA 4 25 192 [(.s 22),(.s 24)],mS 5 14 25] [13,5,4,14,3,2,6,7])
 (sQ (rG 0 [lT 0 26 12 6,fA 1 27 0 7,lF 2 28 27,cA 3 29 126 [(.s 26),(.s 28)],mS 4 15 29] [13,5,4,14,3,2,6,15,7])
 (sQ (rG 1 [lT 0 30 6 7,o1 1 16 (.box 0 6 (.k (.a [(I 0),(I 0),(I 0),(I 0),(I 0),(I 0)]))),o0 2 (.store 6 (.s 16) (.s 30))] [13,16,5,4,14,3,2,6,15,7])
 (sQ (rG 0 [mS 0 31 2,o1 1 32 (.minmax true [(kI 0),(.s 31)]),mS 2 33 3,mS 3 34 14,o1 4 35 (.minmax false [(.s 33),(.s 34)]),fA 5 36 1 16,o0 6 (.store 1 (.s 36) (.s 32)),fA 7 37 2 16,o0 8 (.store 1 (.s 37) (.s 35))] [13,16,5,4,14,3,2,6,15,7])
 (sQ (sQ (rG 0 [mS 0 38 4,mS 1 39 38,oG 2 40 39 true (.mv (.s 15)),oG 3 41 39 true (.bin .geq (.s 40) (kI 0)),o1 4 42 (.pick (.s 39) (.s 41) (kB false))] [42,13,16,5,4,14,3,2,6,15,7])
 (.cond (.s 42) (rG 0 [fA 0 43 2 16,mS 2 45 5,fA 3 46 6 6,mS 5 48 15,lF 1 44 43,lF 4 47 46,iA 6 49 1 47 48,lF 7 50 49,bS 8 51 .sub 45 50,o1 9 52 (.minmax false [(.s 44),(.s 51)]),fA 10 53 2 16,o0 11 (.store 1 (.s 53) (.s 52))] [13,16,5,4,14,3,2,6,15,7])
 .skip))
 (sQ (sQ (rG 0 [mS 0 54 2,mS 1 55 14,bS 2 56 .leq 54 55,mS 3 57 56,oG 4 58 57 true (.faddr 1 (.s 16)),oG 5 59 57 true (.load false 1 (.s 58)),oG 6 60 57 true (.faddr 2 (.s 16)),oG 7 61 57 true (.load false 1 (.s 60)),oG 8 62 57 true (.bin .leq (.s 59) (.s 61)),o1 9 63 (.pick (.s 57) (.s 62) (kB false))] [63,13,16,5,4,14,3,2,6,15,7])
 (.cond (.s 63) (rG 1 [mS 0 64 13,lT 1 65 6 16,mS 2 66 4,mS 3 67 66,oG 4 68 67 true (.mv (.s 15)),oG 5 69 67 true (.bin .geq (.s 68) (kI 0)),o1 6 70 (.pick (.s 67) (.s 69) (kB false)),o1 7 71 (.build [(I 0),(I 0),(I 0),(I 0),(I 0),(I 0),(.bool false)] [(0,6,(.s 65)),(6,1,(.s 70))]),o1 8 72 (.lit 0 7 [[(I 0),(I 0),(I 0),(I 0),(I 0),(I 0),(.bool false)]] [(0,(.s 71))]),o1 9 73 (.append 7 56 (.s 64) (.s 72)),mS 10 13 73] [5,4,14,3,2,6,15,7,13])
 .skip))
 (sQ (sQ (rG 0 [mS 0 74 3,mS 1 75 14,bS 2 76 .lss 74 75] [76,5,4,14,3,2,6,15,7,13])
 (.cond (.s 76) (sQ (rG 0 [mS 0 77 13,mS 1 12 77] [12])
 .ret)
 .skip))
 (sQ (rG 0 [fA 0 78 0 6,fA 1 79 1 78,lF 2 80 79,fA 3 81 0 7,lF 4 82 81,iA 5 83 5 80 82,fA 6 84 4 83,lF 7 85 84,mS 8 17 85] [13,7,17,15,6,2,3,14,4,5])
 (sQ (sQ (rG 0 [mI 0 18 0] [13,18,7,17,15,6,2,3,14,4,5])
 (.block 0 (.loop (some [13,18,7,17,15,6,2,3,14,4,5]) zax)))
 (sQ (rG 0 [mS 0 169 13,mS 1 12 169] [12])
 .ret)))))))))))) }
def zbH:CC:=(sQ (sQ (rG 0 [mS 0 14 5,bI 1 15 .gtr 14 0,mS 2 16 15,oG 3 17 16 true (.mv (.s 0)),oG 4 18 16 true (.mv (.s 4)),oG 5 19 16 true (.iaddr 4 (.s 17) (.s 18)),oG 7 21 16 true (.mv (.s 3)),oG 8 22 16 true (.mv (.s 5)),oG 9 23 16 true (.bin .sub (.s 22) (kI 1)),oG 10 24 16 true (.iaddr 4 (.s 21) (.s 23)),oG 6 20 16 true (.load true 4 (.s 19)),oG 11 25 16 true (.load true 4 (.s 24)),⟨12,(some 26),(some (16,true)),.call ⟨true⟩ (.k (.c (.fn 195 [] []))) [(.s 20),(.s 25)]⟩,o1 13 27 (.pick (.s 16) (.s 26) (kB false))] [27,5,3,0,4])
 (.cond (.s 27) .skip
 (.exit 2)))
 (.block 3 (rG 0 [mS 0 28 5,bI 1 29 .sub 28 1,mS 2 5 29] [5,3,0,4])))
def zbG:CC:=(sQ (sQ (rG 0 [mS 0 6 4,mS 1 7 0,lN 2 8 7,bS 3 9 .lss 6 8] [9,3,0,4])
 (.cond (.s 9) .skip
 (.exit 0)))
 (sQ (.block 1 (sQ (rG 0 [mS 0 12 3,lN 1 13 12,mS 2 5 13] [5,3,0,4])
 (sQ (.block 2 (.loop (some [5,3,0,4]) zbH))
 (sQ (sQ (rG 0 [mS 0 30 5,bI 1 31 .gtr 30 0,mS 2 32 31,oG 3 33 32 true (.mv (.s 3)),oG 4 34 32 true (.mv (.s 5)),oG 5 35 32 true (.bin .sub (.s 34) (kI 1)),oG 6 36 32 true (.iaddr 4 (.s 33) (.s 35)),oG 8 38 32 true (.mv (.s 0)),oG 9 39 32 true (.mv (.s 4)),oG 10 40 32 true (.iaddr 4 (.s 38) (.s 39)),oG 7 37 32 true (.load true 4 (.s 36)),oG 11 41 32 true (.load true 4 (.s 40)),oG 12 42 32 true (.eqa false [false,false,false,true] (.s 37) (.s 41)),o1 13 43 (.pick (.s 32) (.s 42) (kB false))] [43,5,4,0,3])
 (.cond (.s 43) (.exit 1)
 .skip))
 (.region 2 [mS 1 45 3,mS 2 46 5,o1 3 47 (.slice 4 (.s 45) none (some (.s 46)) none),mS 5 49 0,mS 6 50 4,iA 7 51 4 49 50,mS 11 55 3,mS 12 56 5,o1 13 57 (.slice 4 (.s 55) (some (.s 56)) none none),lT 8 52 4 51,o1 0 44 (.lit 0 4 [] []),o1 4 48 (.append 4 32 (.s 44) (.s 47)),o1 9 53 (.lit 1 4 [[(I 0),(I 0),(I 0),(.bool false)]] [(0,(.s 52))]),o1 10 54 (.append 4 32 (.s 48) (.s 53)),o1 14 58 (.append 4 32 (.s 54) (.s 57)),mS 15 3 58] [(9,10),(9,11),(10,12),(11,12)] (some [4,0,3]))))))
 (rG 0 [mS 0 10 4,bI 1 11 .add 10 1,mS 2 4 11] [0,3,4])))
abbrev zjM:Nat:=128
def zem:CFn:={ frz:=true,rnd:=none,nargs:=1,ntmps:=60,res:=[(.slot 2)],code :=
 (sQ (rG 1 [o1 0 2 (.newsl 0 4)] [0])
 (sQ (rG 1 [o1 0 3 (.newsl 0 4)] [0,3])
 (sQ (sQ (rG 0 [mI 0 4 0] [0,3,4])
 (.block 0 (.loop (some [0,3,4]) zbG)))
 (sQ (rG 0 [mS 0 59 3,mS 1 2 59] [2])
 .ret)))) }
abbrev zlj:Nat:=134
def zcA:CFn:={ frz:=true,rnd:=none,nargs:=2,ntmps:=24,res:=[(.slot 4)],code :=
 (sQ (rG 2 [o1 0 2 (.box 0 6 (.s 0)),o1 1 3 (.box 1 6 (.s 1)),mB 2 4 false] [2,3])
 (sQ (rG 0 [fA 0 5 0 2,lF 1 6 5,fA 2 7 0 3,lF 3 8 7,bS 4 9 .lss 6 8,mS 5 10 9,oG 6 11 10 false (.faddr 0 (.s 2)),oG 7 12 10 false (.load false 1 (.s 11)),oG 8 13 10 false (.faddr 0 (.s 3)),oG 9 14 10 false (.load false 1 (.s 13)),oG 10 15 10 false (.bin .eql (.s 12) (.s 14)),oG 11 16 10 false (.mv (.s 15)),oG 12 17 16 true (.faddr 1 (.s 2)),oG 13 18 16 true (.load false 1 (.s 17)),oG 14 19 16 true (.faddr 1 (.s 3)),oG 15 20 16 true (.load false 1 (.s 19)),oG 16 21 16 true (.bin .lss (.s 18) (.s 20)),oG 17 22 10 false (.pick (.s 16) (.s 21) (kB false)),o1 18 23 (.pick (.s 10) (kB true) (.s 22)),mS 19 4 23] [4])
 .ret)) }
def zc8:CC:=(sQ (sQ (rG 0 [mS 0 10 6,mS 1 11 0,lN 2 12 11,bS 3 13 .lss 10 12] [13,5,6,0,3])
 (.cond (.s 13) .skip
 (.exit 0)))
 (sQ (.block 1 (sQ (rG 1 [mS 0 16 0,mS 1 17 6,iA 2 18 6 16 17,lT 3 19 6 18,o1 4 7 (.box 0 6 (.k (.a [(I 0),(I 0),(I 0),(I 0),(I 0),(I 0)]))),o0 5 (.store 6 (.s 7) (.s 19))] [5,7,6,0,3])
 (sQ (sQ (rG 0 [fA 0 20 0 7,lF 1 21 20,fA 2 22 0 3,lF 3 23 22,bS 4 24 .neq 21 23,mS 5 25 24,oG 6 26 25 false (.faddr 1 (.s 3)),oG 7 27 25 false (.load false 1 (.s 26)),oG 8 28 25 false (.faddr 2 (.s 7)),oG 9 29 25 false (.load false 1 (.s 28)),oG 10 30 25 false (.bin .gtr (.s 27) (.s 29)),o1 11 31 (.pick (.s 25) (kB true) (.s 30)),mS 12 32 31,oG 13 33 32 false (.faddr 2 (.s 3)),oG 14 34 32 false (.load false 1 (.s 33)),oG 15 35 32 false (.faddr 1 (.s 7)),oG 16 36 32 false (.load false 1 (.s 35)),oG 17 37 32 false (.bin .lss (.s 34) (.s 36)),o1 18 38 (.pick (.s 32) (kB true) (.s 37)),mS 19 39 38,oG 20 40 39 false (.faddr 1 (.s 3)),oG 21 41 39 false (.load false 1 (.s 40)),oG 22 42 39 false (.faddr 2 (.s 3)),oG 23 43 39 false (.load false 1 (.s 42)),oG 24 44 39 false (.bin .gtr (.s 41) (.s 43)),o1 25 45 (.pick (.s 39) (kB true) (.s 44))] [45,5,7,6,0,3])
 (.cond (.s 45) (sQ (rG 1 [mS 0 46 5,lT 1 47 6 7,o1 2 48 (.lit 0 6 [[(I 0),(I 0),(I 0),(I 0),(I 0),(I 0)]] [(0,(.s 47))]),o1 3 49 (.append 6 48 (.s 46) (.s 48)),mS 4 5 49] [6,5,0,3])
 (.exit 1))
 .skip))
 (sQ (.region 2 [lT 0 50 6 7,lT 1 51 6 7,o1 2 8 (.box 0 6 (.k (.a [(I 0),(I 0),(I 0),(I 0),(I 0),(I 0)]))),o1 3 9 (.box 1 6 (.k (.a [(I 0),(I 0),(I 0),(I 0),(I 0),(I 0)]))),o0 4 (.store 6 (.s 8) (.s 50)),o0 5 (.store 6 (.s 9) (.s 51))] [(0,2),(0,3),(1,2),(1,3),(1,4),(2,3)] (some [5,8,9,6,0,3]))
 (sQ (.region 0 [fA 0 52 1 3,fA 3 55 2 3,lF 1 53 52,bI 2 54 .sub 53 1,fA 6 58 2 8,lF 4 56 55,bI 5 57 .add 56 1,o0 7 (.store 1 (.s 58) (.s 54)),fA 8 59 1 9,o0 9 (.store 1 (.s 59) (.s 57))] [(5,7)] (some [5,8,9,6,0,3]))
 (sQ (sQ (rG 0 [fA 0 60 1 8,lF 1 61 60,fA 2 62 2 8,lF 3 63 62,bS 4 64 .leq 61 63] [64,5,8,9,6,0,3])
 (.cond (.s 64) (rG 1 [mS 0 65 5,lT 1 66 6 8,o1 2 67 (.lit 0 6 [[(I 0),(I 0),(I 0),(I 0),(I 0),(I 0)]] [(0,(.s 66))]),o1 3 68 (.append 6 48 (.s 65) (.s 67)),mS 4 5 68] [5,9,6,0,3])
 .skip))
 (sQ (rG 0 [fA 0 69 1 9,lF 1 70 69,fA 2 71 2 9,lF 3 72 71,bS 4 73 .leq 70 72] [73,5,9,6,0,3])
 (.cond (.s 73) (rG 1 [mS 0 74 5,lT 1 75 6 9,o1 2 76 (.lit 0 6 [[(I 0),(I 0),(I 0),(I 0),(I 0),(I 0)]] [(0,(.s 75))]),o1 3 77 (.append 6 48 (.s 74) (.s 76)),mS 4 5 77] [6,5,0,3])
 .skip))))))))
 (rG 0 [mS 0 14 6,bI 1 15 .add 14 1,mS 2 6 15] [5,6,0,3])))
abbrev zma:Nat:=135
def zfm:CFn:={ frz:=true,rnd:=none,nargs:=2,ntmps:=79,res:=[(.slot 4)],code :=
 (sQ (rG 2 [o1 0 3 (.box 0 3 (.s 1)),o1 1 4 (.newsl 1 6)] [0,3])
 (sQ (rG 1 [o1 0 5 (.newsl 0 6)] [5,0,3])
 (sQ (sQ (rG 0 [mI 0 6 0] [5,6,0,3])
 (.block 0 (.loop (some [5,6,0,3]) zc8)))
 (sQ (rG 0 [mS 0 78 5,mS 1 4 78] [4])
 .ret)))) }
def zGu:CFn:={ frz:=true,rnd:=none,nargs:=2,ntmps:=31,res:=[],code :=
 (sQ (rG 0 [mS 0 4 0,mS 1 5 1,nC 2 6 4,fA 3 7 5 6,o0 4 (.store 1 (.s 7) (.s 5))] [0,1])
 (sQ (rG 0 [mS 0 8 0,mS 1 9 0,nC 2 10 9,fA 3 11 6 10,lF 4 12 11,mS 5 13 1,o1 6 14 (.minmax false [(.s 13),(kI 2000)]),o1 7 15 (.minmax true [(kI (-2000)),(.s 14)]),bS 8 16 .add 12 15,o1 9 17 (.minmax true [(.s 16),(kI 0)]),o1 10 18 (.minmax false [(.s 17),(kI 2000)]),nC 11 19 8,fA 12 20 6 19,o0 13 (.store 1 (.s 20) (.s 18))] [0,1])
 (rG 1 [mS 0 21 0,mS 1 22 0,nC 2 23 22,fA 3 24 7 23,lF 4 25 24,mS 5 26 1,o1 6 27 (.lit 0 1 [[(I 0)]] [(0,(.s 26))]),o1 7 28 (.append 1 8 (.s 25) (.s 27)),nC 8 29 21,fA 9 30 7 29,o0 10 (.store 1 (.s 30) (.s 28))] []))) }
def zGg:CC:=(sQ (sQ (rG 0 [mS 0 3 2,mS 1 4 3,oG 2 5 4 false (.mv (.s 0)),oG 3 6 4 false (.nilck (.s 5)),oG 4 7 4 false (.faddr 6 (.s 6)),oG 5 8 4 false (.load false 1 (.s 7)),oG 6 9 4 false (.bin .gtr (.s 8) (kI 0)),o1 7 10 (.pick (.s 4) (kB true) (.s 9)),mS 8 11 10,oG 9 12 11 false (.mv (.s 0)),oG 10 13 11 false (.nilck (.s 12)),oG 11 14 11 false (.faddr 5 (.s 13)),oG 12 15 11 false (.load false 1 (.s 14)),oG 13 16 11 false (.bin .gtr (.s 15) (kI 0)),o1 14 17 (.pick (.s 11) (kB true) (.s 16))] [17,0])
 (.cond (.s 17) .skip
 (.exit 0)))
 (sQ (.block 1 (rG 0 [mS 0 18 0,mS 1 19 0,mS 2 20 0,nC 3 21 20,fA 4 22 0 21,fA 5 23 2 22,lF 6 24 23,o1 7 25 (.un .neg (.s 24)),cA 8 26 106 [(.s 19),(.s 25)],cA 9 27 136 [(.s 18),(.s 26)]] [0]))
 (rG 0 [mB 0 2 false] [2,0])))
def zGo:CFn:={ frz:=true,rnd:=none,nargs:=1,ntmps:=28,res:=[],code :=
 (sQ (rG 0 [mB 0 2 true] [2,0])
 (.block 0 (.loop (some [2,0]) zGg))) }
def ziA:CC:=(sQ (sQ (rG 0 [mS 0 8 5,mS 1 9 4,lN 2 10 9,bS 3 11 .lss 8 10] [11,3,5,4])
 (.cond (.s 11) .skip
 (.exit 0)))
 (sQ (.block 1 (rG 0 [mS 0 14 3,mS 1 15 4,mS 2 16 5,iA 3 17 1 15 16,lF 4 18 17,bS 5 19 .add 14 18,mS 6 3 19] [5,3,4]))
 (rG 0 [mS 0 12 5,bI 1 13 .add 12 1,mS 2 5 13] [3,5,4])))
abbrev zN:Nat:=138
def zj0:CFn:={ frz:=true,rnd:=none,nargs:=1,ntmps:=21,res:=[(.slot 2)],code :=
 (sQ (rG 1 [o1 0 1 (.box 0 1 (.s 0)),mI 1 2 0] [1])
 (sQ (rG 0 [mI 0 3 0] [1,3])
 (sQ (rG 0 [lT 0 6 1 1,cA 1 7 198 [(.s 6)],mS 2 4 7] [3,4])
 (sQ (sQ (rG 0 [mI 0 5 0] [3,5,4])
 (.block 0 (.loop (some [3,5,4]) ziA)))
 (sQ (rG 0 [mS 0 20 3,mS 1 2 20] [2])
 .ret))))) }
def ziN:CC:=(sQ (sQ (rG 0 [mS 0 15 3,fA 1 16 0 1,lF 2 17 16,lN 3 18 17,bS 4 19 .lss 15 18] [19,1,3])
 (.cond (.s 19) .skip
 (.exit 0)))
 (sQ (.block 1 (sQ (rG 0 [fA 0 22 0 1,lF 1 23 22,mS 2 24 3,iA 3 25 2 23 24,lT 4 26 2 25,cA 5 27 199 [(.s 26)],o1 6 28 (.un .not (.s 27))] [28,1,3])
 (.cond (.s 28) (sQ (rG 0 [mI 0 2 2] [2])
 .ret)
 .skip)))
 (rG 0 [mS 0 20 3,bI 1 21 .add 20 1,mS 2 3 21] [1,3])))
def ziM:CC:=(sQ (sQ (rG 0 [mS 0 29 4,bI 1 30 .add 29 1,fA 2 31 0 1,lF 3 32 31,lN 4 33 32,bS 5 34 .lss 30 33] [34,1,4])
 (.cond (.s 34) .skip
 (.exit 2)))
 (sQ (.block 3 (sQ (.region 1 [fA 0 37 0 1,mS 2 39 4,bI 3 40 .add 39 1,fA 6 43 0 1,mS 8 45 4,lF 1 38 37,iA 4 41 2 38 40,lT 5 42 2 41,lF 7 44 43,iA 9 46 2 44 45,lT 10 47 2 46,cA 11 48 200 [(.s 42),(.s 47)],o1 12 5 (.box 0 2 (.k (.a [(I 0),(I 0)]))),o0 13 (.store 2 (.s 5) (.s 48))] [(5,12),(7,12),(8,12),(10,12),(11,12)] (some [5,1,4]))
 (sQ (rG 0 [lT 0 49 2 5,lT 1 50 2 5,cA 2 51 202 [(.s 49),(.s 50)],cA 3 52 201 [(.s 51)],mS 4 6 52] [5,1,4,6])
 (sQ (sQ (rG 0 [mS 0 53 6,mS 1 54 6,bS 2 55 .mul 53 54,lT 3 56 2 5,lT 4 57 2 5,cA 5 58 202 [(.s 56),(.s 57)],bS 6 59 .neq 55 58] [59,5,1,4,6])
 (.cond (.s 59) (sQ (rG 0 [mI 0 2 3] [2])
 .ret)
 .skip))
 (sQ (sQ (rG 0 [mS 0 60 6,bI 1 61 .lss 60 1000,mS 2 62 61,oG 3 63 62 false (.mv (.s 6)),oG 4 64 62 false (.bin .gtr (.s 63) (kI 1048576)),o1 5 65 (.pick (.s 62) (kB true) (.s 64))] [65,4,1,5])
 (.cond (.s 65) (sQ (rG 0 [mI 0 2 2] [2])
 .ret)
 .skip))
 (sQ (.region 0 [mS 0 66 4,bI 1 67 .gtr 66 0,mS 2 68 67,oG 4 70 68 true (.faddr 0 (.s 1)),oG 6 72 68 true (.mv (.s 4)),oG 9 75 68 true (.faddr 0 (.s 1)),oG 11 77 68 true (.mv (.s 4)),oG 12 78 68 true (.bin .sub (.s 77) (kI 1)),oG 3 69 68 true (.load true 2 (.s 5)),oG 5 71 68 true (.load false 1 (.s 70)),oG 7 73 68 true (.iaddr 2 (.s 71) (.s 72)),oG 8 74 68 true (.load true 2 (.s 73)),oG 10 76 68 true (.load false 1 (.s 75)),oG 13 79 68 true (.iaddr 2 (.s 76) (.s 78)),oG 14 80 68 true (.load true 2 (.s 79)),⟨15,(some 81),(some (68,true)),.call ⟨true⟩ (.k (.c (.fn 200 [] []))) [(.s 74),(.s 80)]⟩,⟨16,(some 82),(some (68,true)),.call ⟨true⟩ (.k (.c (.fn 202 [] []))) [(.s 69),(.s 81)]⟩,oG 17 83 68 true (.bin .leq (.s 82) (kI 0)),o1 18 84 (.pick (.s 68) (.s 83) (kB false))] [(8,15)] (some [84,1,4]))
 (.cond (.s 84) (sQ (rG 0 [mI 0 2 12] [2])
 .ret)
 .skip)))))))
 (rG 0 [mS 0 35 4,bI 1 36 .add 35 1,mS 2 4 36] [1,4])))
abbrev zkH:Nat:=139
def zkU:CFn:={ frz:=true,rnd:=none,nargs:=1,ntmps:=85,res:=[(.slot 2)],code :=
 (sQ (rG 1 [o1 0 1 (.box 0 1 (.s 0)),mI 1 2 0] [1])
 (sQ (sQ (rG 0 [fA 0 7 0 1,lF 1 8 7,lN 2 9 8,bI 3 10 .lss 9 2] [10,1])
 (.cond (.s 10) (sQ (rG 0 [mI 0 2 6] [2])
 .ret)
 .skip))
 (sQ (sQ (rG 0 [fA 0 11 0 1,lF 1 12 11,lN 2 13 12,bI 3 14 .gtr 13 16] [14,1])
 (.cond (.s 14) (sQ (rG 0 [mI 0 2 5] [2])
 .ret)
 .skip))
 (sQ (sQ (rG 0 [mI 0 3 0] [1,3])
 (.block 0 (.loop (some [1,3]) ziN)))
 (sQ (sQ (rG 0 [mI 0 4 0] [1,4])
 (.block 2 (.loop (some [1,4]) ziM)))
 (sQ (rG 0 [mI 0 2 0] [2])
 .ret)))))) }
def zh6:CC:=(sQ (sQ (rG 0 [mS 0 8 7,mS 1 9 0,lN 2 10 9,bS 3 11 .lss 8 10] [11,0,2,1,7])
 (.cond (.s 11) .skip
 (.exit 0)))
 (sQ (.block 1 (sQ (rG 0 [mS 0 14 0,mS 1 15 7,iA 2 16 1 14 15,mS 4 18 1,lF 3 17 16,bS 5 19 .lss 17 18,mS 6 20 19,oG 7 21 20 false (.mv (.s 0)),oG 8 22 20 false (.mv (.s 7)),oG 9 23 20 false (.iaddr 1 (.s 21) (.s 22)),oG 11 25 20 false (.mv (.s 2)),oG 10 24 20 false (.load false 1 (.s 23)),oG 12 26 20 false (.bin .geq (.s 24) (.s 25)),o1 13 27 (.pick (.s 20) (kB true) (.s 26)),mS 14 28 27,oG 15 29 28 false (.mv (.s 7)),oG 16 30 28 false (.bin .gtr (.s 29) (kI 0)),oG 17 31 28 false (.mv (.s 30)),oG 18 32 31 true (.mv (.s 0)),oG 19 33 31 true (.mv (.s 7)),oG 20 34 31 true (.iaddr 1 (.s 32) (.s 33)),oG 22 36 31 true (.mv (.s 0)),oG 23 37 31 true (.mv (.s 7)),oG 24 38 31 true (.bin .sub (.s 37) (kI 1)),oG 25 39 31 true (.iaddr 1 (.s 36) (.s 38)),oG 21 35 31 true (.load false 1 (.s 34)),oG 26 40 31 true (.load false 1 (.s 39)),oG 27 41 31 true (.bin .leq (.s 35) (.s 40)),oG 28 42 28 false (.pick (.s 31) (.s 41) (kB false)),o1 29 43 (.pick (.s 28) (kB true) (.s 42))] [43,0,2,1,7])
 (.cond (.s 43) (sQ (rG 0 [mB 0 6 false] [6])
 .ret)
 .skip)))
 (rG 0 [mS 0 12 7,bI 1 13 .add 12 1,mS 2 7 13] [1,2,0,7])))
def zjr:CFn:={ frz:=true,rnd:=none,nargs:=3,ntmps:=44,res:=[(.slot 6)],code :=
 (sQ (rG 0 [mB 0 6 false] [1,2,0])
 (sQ (sQ (rG 0 [mI 0 7 0] [1,2,0,7])
 (.block 0 (.loop (some [1,2,0,7]) zh6)))
 (sQ (rG 0 [mB 0 6 true] [6])
 .ret))) }
def zFZ:CC:=(sQ (rG 0 [bS 0 9 .lss 8 7] [9,0,1,7,8])
 (sQ (.cond (.s 9) .skip
 (.exit 0))
 (sQ (.block 1 (sQ (rG 0 [mS 0 10 8,mS 1 5 10] [0,1,7,8,5])
 (sQ (rG 0 [mS 0 11 1,mS 1 12 0,mS 2 13 5,iA 3 14 1 12 13,lF 4 15 14,⟨5,(some 16),none,.call ⟨true⟩ (.s 11) [(.s 15)]⟩] [16,0,1,7,8,5])
 (.cond (.s 16) (sQ (rG 0 [mS 0 17 5,mS 1 4 17] [4])
 .ret)
 .skip))))
 (rG 0 [bI 0 18 .add 8 1,mS 1 8 18] [7,1,0,8]))))
def zF2:CFn:={ frz:=true,rnd:=none,nargs:=2,ntmps:=19,res:=[(.slot 4)],code :=
 (sQ (rG 0 [mI 0 4 0] [1,0])
 (sQ (sQ (rG 0 [mS 0 6 0,lN 1 7 6,mI 2 8 0] [7,1,0,8])
 (.block 0 (.loop (some [7,1,0,8]) zFZ)))
 (sQ (rG 0 [mI 0 4 (-1)] [4])
 .ret))) }
def zGq:CFn:={ frz:=true,rnd:=none,nargs:=2,ntmps:=19,res:=[(.slot 4)],code :=
 (sQ (rG 0 [mI 0 4 0] [1,0])
 (sQ (rG 0 [mS 0 5 0,nC 1 6 5,fA 2 7 0 6,fA 3 8 2 7,mS 6 11 1,mS 7 12 0,nC 8 13 12,fA 9 14 0 13,fA 10 15 1 14,lF 4 9 8,o1 5 10 (.un .neg (.s 9)),lF 11 16 15,o1 12 17 (.minmax false [(.s 11),(.s 16)]),o1 13 18 (.minmax true [(.s 10),(.s 17)]),mS 14 4 18] [4])
 .ret)) }
def zbP:CC:=(sQ (rG 0 [bS 0 9 .lss 8 7] [9,1,6,7,8])
 (sQ (.cond (.s 9) .skip
 (.exit 0))
 (sQ (.block 1 (sQ (rG 0 [iA 0 10 1 6 8,lF 1 11 10,mS 2 4 11] [4,1,6,7,8])
 (sQ (rG 0 [mS 0 12 4,lT 1 13 5 1,o1 2 14 (.build [(I 0),.nilslice,.nilslice,.nilslice,.nilslice] [(0,5,(.s 13))]),⟨3,(some 15),none,.call ⟨true⟩ (.s 12) [(.s 14)]⟩,mS 4 5 15] [1,6,7,8,5])
 (sQ (rG 0 [mS 0 16 5,bI 1 17 .neq 16 0] [17,1,6,7,8,5])
 (.cond (.s 17) (sQ (rG 0 [mS 0 18 5,mS 1 2 18] [2])
 .ret)
 .skip)))))
 (rG 0 [bI 0 19 .add 8 1,mS 1 8 19] [7,6,1,8]))))
abbrev zjl:Nat:=150
def zjp:CFn:={ frz:=true,rnd:=none,nargs:=1,ntmps:=20,res:=[(.slot 2)],code :=
 (sQ (rG 1 [o1 0 1 (.box 0 5 (.s 0)),mI 1 2 0] [1])
 (sQ (sQ (rG 1 [o1 0 6 (.mlay .litf 0 [(.k (.c (.fn 208 [] []))),(.k (.c (.fn 209 [] []))),(.k (.c (.fn 210 [] []))),(.k (.c (.fn 211 [] []))),(.k (.c (.fn 212 [] []))),(.k (.c (.fn 213 [] [])))]),lN 1 7 6,mI 2 8 0] [7,6,1,8])
 (.block 0 (.loop (some [7,6,1,8]) zbP)))
 (sQ (rG 0 [mI 0 2 0] [2])
 .ret))) }
abbrev zrd:Nat:=151
def zgJ:CFn:={ frz:=true,rnd:=none,nargs:=3,ntmps:=15,res:=[(.slot 6)],code :=
 (sQ (rG 0 [mB 0 6 false] [1,0,2])
 (sQ (rG 0 [mS 0 7 1,mS 1 8 0,bS 2 9 .leq 7 8,mS 3 10 9,oG 4 11 10 true (.mv (.s 0)),oG 5 12 10 true (.mv (.s 2)),oG 6 13 10 true (.bin .leq (.s 11) (.s 12)),o1 7 14 (.pick (.s 10) (.s 13) (kB false)),mS 8 6 14] [6])
 .ret)) }
abbrev zri:Nat:=152
def ziu:CFn:={ frz:=true,rnd:=none,nargs:=2,ntmps:=12,res:=[(.slot 4)],code :=
 (sQ (rG 1 [o1 0 2 (.box 0 5 (.s 0)),mI 1 4 0] [1,2])
 (sQ (sQ (rG 0 [lT 0 5 5 2,mS 1 6 1,cA 2 7 214 [(.s 5),(.s 6)],o1 3 8 (.un .not (.s 7))] [8,1,2])
 (.cond (.s 8) (sQ (rG 0 [mI 0 4 0] [4])
 .ret)
 .skip))
 (sQ (rG 0 [lT 0 9 5 2,mS 1 10 1,cA 2 11 215 [(.s 9),(.s 10)],mS 3 4 11] [4])
 .ret))) }
abbrev zgz:Nat:=153
def zrD:CFn:={ frz:=true,rnd:=none,nargs:=1,ntmps:=26,res:=[(.slot 2),(.slot 3),(.slot 4)],code :=
 (sQ (rG 0 [mI 0 2 0,mI 1 3 0,mI 2 4 0] [0])
 (sQ (rG 1 [o1 0 7 (.build [(I 0),(I 0),(I 0)] [(0,1,(kI 2000)),(1,1,(kI 30)),(2,1,(kI 90))]),o1 1 8 (.build [(I 0),(I 0),(I 0)] [(0,1,(kI 1000)),(1,1,(kI 20)),(2,1,(kI 60))]),o1 2 9 (.build [(I 0),(I 0),(I 0)] [(0,1,(kI 300)),(1,1,(kI 100)),(2,1,(kI 300))]),o1 3 10 (.build [(I 0),(I 0),(I 0),(I 0),(I 0),(I 0),(I 0),(I 0),(I 0),(I 0),(I 0),(I 0)] [(3,3,(.s 7)),(6,3,(.s 8)),(9,3,(.s 9))]),o1 4 5 (.box 0 12 (.k (.a [(I 0),(I 0),(I 0),(I 0),(I 0),(I 0),(I 0),(I 0),(I 0),(I 0),(I 0),(I 0)]))),o0 5 (.store 12 (.s 5) (.s 10))] [5,0])
 (sQ (sQ (rG 0 [mS 0 11 0,bI 1 12 .lss 11 0,mS 2 13 12,oG 3 14 13 false (.mv (.s 0)),oG 4 15 13 false (.bin .geq (.s 14) (kI 4)),o1 5 16 (.pick (.s 13) (kB true) (.s 15))] [16,5,0])
 (.cond (.s 16) (sQ (rG 0 [mI 0 2 0,mI 1 3 0,mI 2 4 0] [2,3,4])
 .ret)
 .skip))
 (sQ (rG 1 [mS 0 17 0,o1 1 18 (.aaddr 4 3 (.s 5) (.s 17)),lT 2 19 3 18,o1 3 6 (.box 0 3 (.k (.a [(I 0),(I 0),(I 0)]))),o0 4 (.store 3 (.s 6) (.s 19))] [6])
 (sQ (rG 0 [o1 0 20 (.aaddr 3 1 (.s 6) (kI 0)),o1 2 22 (.aaddr 3 1 (.s 6) (kI 1)),o1 4 24 (.aaddr 3 1 (.s 6) (kI 2)),lF 1 21 20,mS 6 2 21,lF 3 23 22,mS 7 3 23,lF 5 25 24,mS 8 4 25] [2,3,4])
 .ret))))) }
def zdU:CC:=(sQ (rG 0 [bS 0 12 .lss 11 10] [12,5,11,10,9,1])
 (sQ (.cond (.s 12) .skip
 (.exit 0))
 (sQ (.block 1 (sQ (rG 1 [mS 0 13 11,iA 1 14 5 9 11,lT 2 15 5 14,o1 3 7 (.box 0 5 (.k (.a [(I 0),.nilslice,(I 0),(I 0),.nilslice]))),mS 4 6 13,o0 5 (.store 5 (.s 7) (.s 15))] [7,5,6,11,10,9,1])
 (sQ (rG 0 [fA 0 16 4 7,lF 1 17 16,mS 2 18 1,cA 3 19 155 [(.s 17),(.s 18)]] [19,5,6,11,10,9,1])
 (.cond (.s 19) (rG 1 [mS 0 20 5,mS 1 21 6,o1 2 22 (.lit 0 1 [[(I 0)]] [(0,(.s 21))]),o1 3 23 (.append 1 8 (.s 20) (.s 22)),mS 4 5 23] [11,5,10,9,1])
 .skip))))
 (rG 0 [bI 0 24 .add 11 1,mS 1 11 24] [5,11,10,9,1]))))
abbrev zrg:Nat:=154
def zis:CFn:={ frz:=true,rnd:=none,nargs:=2,ntmps:=26,res:=[(.slot 4)],code :=
 (sQ (rG 2 [o1 0 2 (.box 0 5 (.s 0)),o1 1 4 (.newsl 1 1)] [2,1])
 (sQ (rG 1 [o1 0 5 (.newsl 0 1)] [2,5,1])
 (sQ (sQ (rG 0 [fA 0 8 1 2,lF 1 9 8,lN 2 10 9,mI 3 11 0] [5,11,10,9,1])
 (.block 0 (.loop (some [5,11,10,9,1]) zdU)))
 (sQ (rG 0 [mS 0 25 5,mS 1 4 25] [4])
 .ret)))) }
abbrev zli:Nat:=155
def zeW:CFn:={ frz:=true,rnd:=none,nargs:=2,ntmps:=9,res:=[(.slot 4)],code :=
 (sQ (rG 0 [mB 0 4 false] [0,1])
 (sQ (rG 0 [mS 0 5 0,mS 1 6 1,cA 2 7 162 [(.s 5),(.s 6)],bI 3 8 .geq 7 0,mS 4 4 8] [4])
 .ret)) }
abbrev zrh:Nat:=156
def zit:CFn:={ frz:=true,rnd:=none,nargs:=2,ntmps:=9,res:=[(.slot 4)],code :=
 (sQ (rG 2 [o1 0 2 (.box 0 5 (.s 0)),o1 1 4 (.newsl 1 1)] [2,1])
 (sQ (rG 0 [lT 0 5 5 2,mS 1 6 1,cA 2 7 173 [(.s 5),(.s 6)],o1 3 8 (.field false 6 1 (.s 7)),mS 4 4 8] [4])
 .ret)) }
abbrev zmQ:Nat:=157
def zfF:CFn:={ frz:=true,rnd:=none,nargs:=2,ntmps:=9,res:=[(.slot 4)],code :=
 (sQ (rG 1 [o1 0 2 (.box 0 5 (.s 0)),mI 1 4 0] [2,1])
 (sQ (rG 0 [lT 0 5 5 2,mS 1 6 1,cA 2 7 173 [(.s 5),(.s 6)],o1 3 8 (.field false 7 1 (.s 7)),mS 4 4 8] [4])
 .ret)) }
def zdE:CC:=(sQ (rG 0 [bS 0 12 .lss 11 10] [12,3,11,10,1])
 (sQ (.cond (.s 12) .skip
 (.exit 0))
 (sQ (.block 1 (sQ (rG 0 [mS 0 13 11,mS 1 4 13] [3,4,11,10,1])
 (sQ (rG 0 [lT 0 14 5 1,mS 1 15 4,cA 2 16 154 [(.s 14),(.s 15)],lN 3 17 16,bI 4 18 .eql 17 0] [18,3,4,11,10,1])
 (.cond (.s 18) (rG 1 [mS 0 19 3,mS 1 20 4,o1 2 21 (.lit 0 1 [[(I 0)]] [(0,(.s 20))]),o1 3 22 (.append 1 8 (.s 19) (.s 21)),mS 4 3 22] [11,3,10,1])
 .skip))))
 (rG 0 [bI 0 23 .add 11 1,mS 1 11 23] [3,11,10,1]))))
abbrev zpR:Nat:=158
def zhE:CFn:={ frz:=true,rnd:=none,nargs:=1,ntmps:=25,res:=[(.slot 2)],code :=
 (sQ (rG 2 [o1 0 1 (.box 0 5 (.s 0)),o1 1 2 (.newsl 1 1)] [1])
 (sQ (sQ (rG 0 [lT 0 5 5 1,cA 1 6 150 [(.s 5)],bI 2 7 .neq 6 0] [7,1])
 (.cond (.s 7) (sQ (rG 1 [o1 0 2 (.newsl 0 1)] [2])
 .ret)
 .skip))
 (sQ (rG 1 [o1 0 3 (.newsl 0 1)] [3,1])
 (sQ (sQ (rG 0 [fA 0 8 1 1,lF 1 9 8,lN 2 10 9,mI 3 11 0] [3,11,10,1])
 (.block 0 (.loop (some [3,11,10,1]) zdE)))
 (sQ (rG 0 [mS 0 24 3,mS 1 2 24] [2])
 .ret))))) }
abbrev zjL:Nat:=159
def zel:CFn:={ frz:=true,rnd:=none,nargs:=3,ntmps:=11,res:=[(.slot 4)],code :=
 (sQ (rG 0 [mI 0 4 0] [0,1,2])
 (sQ (rG 0 [mS 0 5 0,lF 1 6 1,bS 2 7 .add 5 6,lF 3 8 2,o1 4 9 (.minmax false [(.s 7),(.s 8)]),o1 5 10 (.minmax true [(kI 0),(.s 9)]),mS 6 4 10] [4])
 .ret)) }
def zdn:CC:=(sQ (rG 0 [bS 0 18 .lss 17 16] [18,1,17,16,15,5,3])
 (sQ (.cond (.s 18) .skip
 (.exit 0))
 (sQ (.block 1 (sQ (rG 0 [mS 0 19 17,iA 1 20 1 15 17,lF 2 21 20,mS 3 7 19,mS 4 8 21] [1,8,7,17,16,15,5,3])
 (rG 0 [mS 0 22 1,mS 1 23 8,fA 2 24 1 5,fA 4 26 8 3,fA 7 29 6 3,mS 9 31 7,fA 13 35 0 5,fA 15 37 6 3,mS 17 39 7,lF 3 25 24,lF 5 27 26,bS 6 28 .sub 25 27,lF 8 30 29,iA 10 32 1 30 31,lF 11 33 32,bS 12 34 .sub 28 33,lF 14 36 35,lF 16 38 37,iA 18 40 1 38 39,lF 19 41 40,bS 20 42 .sub 36 41,o1 21 43 (.build [(I 0),(I 0),(I 0)] [(0,1,(.s 23)),(1,1,(.s 34)),(2,1,(.s 42))]),cA 22 44 216 [(.s 22),(.s 43)],mS 23 1 44] [17,1,16,15,5,3])))
 (rG 0 [bI 0 45 .add 17 1,mS 1 17 45] [1,17,16,15,5,3]))))
abbrev zmR:Nat:=160
def zed:CFn:={ frz:=true,rnd:=none,nargs:=3,ntmps:=47,res:=[(.slot 6)],code :=
 (sQ (rG 3 [o1 0 3 (.box 0 11 (.s 0)),o1 1 5 (.box 1 4 (.s 2)),o1 2 6 (.newsl 2 6)] [3,5,1])
 (sQ (sQ (rG 0 [lT 0 9 11 3,lT 1 10 4 5,cA 2 11 163 [(.s 9),(.s 10)],o1 3 12 (.un .not (.s 11))] [12,3,5,1])
 (.cond (.s 12) (sQ (rG 0 [mS 0 13 1,mS 1 6 13] [6])
 .ret)
 .skip))
 (sQ (sQ (rG 0 [fA 0 14 5 3,lF 1 15 14,lN 2 16 15,mI 3 17 0] [1,17,16,15,5,3])
 (.block 0 (.loop (some [1,17,16,15,5,3]) zdn)))
 (sQ (rG 0 [mS 0 46 1,mS 1 6 46] [6])
 .ret)))) }
def zb7:CC:=(sQ (rG 0 [bS 0 87 .lss 86 85] [87,5,14,84,85,86,13,8])
 (sQ (.cond (.s 87) .skip
 (.exit 0))
 (sQ (.block 1 (sQ (rG 0 [iA 0 88 1 84 86,lF 1 89 88,mS 2 16 89] [5,14,84,85,86,16,13,8])
 (sQ (rG 0 [mS 0 90 16,fA 1 91 2 5,lF 2 92 91,bS 3 93 .gtr 90 92,mS 4 94 93,oG 5 95 94 true (.mv (.s 14)),oG 6 96 94 true (.mv (.s 16)),oG 7 97 94 true (.bin .lss (.s 95) (.s 96)),oG 8 98 94 true (.mv (.s 97)),oG 9 99 98 false (.faddr 5 (.s 5)),oG 10 100 98 false (.load false 1 (.s 99)),oG 11 101 98 false (.bin .neq (.s 100) (kI 0)),oG 12 102 98 false (.mv (.s 101)),oG 13 103 102 true (.faddr 5 (.s 5)),oG 14 104 102 true (.load false 1 (.s 103)),oG 15 105 102 true (.mv (.s 16)),oG 16 106 102 true (.bin .leq (.s 104) (.s 105)),oG 17 107 98 false (.pick (.s 102) (.s 106) (kB false)),oG 18 108 94 true (.pick (.s 98) (kB true) (.s 107)),o1 19 109 (.pick (.s 94) (.s 108) (kB false))] [109,5,14,84,85,86,16,13,8])
 (.cond (.s 109) (sQ (rG 0 [fA 0 110 2 13,lF 1 111 110,mS 2 112 16,bI 3 113 .sub 112 1,o1 4 114 (.minmax false [(.s 111),(.s 113)]),mS 5 115 16,fA 6 116 2 13,o0 7 (.store 1 (.s 116) (.s 114)),fA 8 117 5 13,o0 9 (.store 1 (.s 117) (.s 115))] [13,8])
 (.exit 0))
 .skip))))
 (rG 0 [bI 0 118 .add 86 1,mS 1 86 118] [85,84,14,5,86,13,8]))))
abbrev zgV:Nat:=161
def za9:CFn:={ frz:=true,rnd:=none,nargs:=4,ntmps:=125,res:=[(.cell 8 true 6),(.slot 9)],code :=
 (sQ (rG 3 [o1 0 4 (.box 0 11 (.s 0)),o1 1 5 (.box 1 6 (.s 1)),o1 2 8 (.box 2 6 (.k (.a [(I 0),(I 0),(I 0),(I 0),(I 0),(I 0)]))),mB 3 9 false] [3,5,2,4,8])
 (sQ (rG 0 [fA 0 18 0 4,fA 1 19 1 18,lF 2 20 19,fA 3 21 0 5,lF 4 22 21,iA 5 23 5 20 22,fA 6 24 0 23,lF 7 25 24,cA 8 26 153 [(.s 25)],mS 9 17 26,eX 10 27 17 0,eX 11 28 17 1,eX 12 29 17 2,mS 13 10 27,mS 14 11 28,mS 15 12 29] [10,11,3,5,2,4,12,8])
 (sQ (rG 1 [lT 0 30 6 5,o1 1 13 (.box 0 6 (.k (.a [(I 0),(I 0),(I 0),(I 0),(I 0),(I 0)]))),o0 2 (.store 6 (.s 13) (.s 30))] [10,11,3,5,2,4,12,13,8])
 (sQ (.region 0 [fA 0 31 3 5,mS 2 33 12,mS 5 36 10,fA 6 37 4 5,mS 8 39 11,lF 1 32 31,bS 3 34 .sub 32 33,lF 7 38 37,bS 9 40 .add 38 39,o1 4 35 (.minmax true [(kI 0),(.s 34)]),fA 11 42 3 13,o1 10 41 (.minmax false [(.s 36),(.s 40)]),o0 12 (.store 1 (.s 42) (.s 35)),fA 13 43 4 13,o0 14 (.store 1 (.s 43) (.s 41))] [(7,12)] (some [3,5,2,4,12,13,8]))
 (sQ (.region 0 [fA 0 44 1 5,fA 2 46 3 13,fA 5 49 2 5,fA 7 51 4 13,lF 1 45 44,lF 3 47 46,bS 4 48 .add 45 47,lF 6 50 49,lF 8 52 51,bS 9 53 .add 50 52,fA 10 54 1 13,o0 11 (.store 1 (.s 54) (.s 48)),fA 12 55 2 13,o0 13 (.store 1 (.s 55) (.s 53)),fA 14 56 5 13,o0 15 (.store 1 (.s 56) (kI 0))] [(7,11)] (some [3,5,2,4,12,13,8]))
 (sQ (sQ (rG 0 [fA 0 57 1 5,lF 1 58 57,bI 2 59 .eql 58 0,mS 3 60 59,oG 4 61 60 true (.faddr 10 (.s 4)),oG 5 62 60 true (.load false 1 (.s 61)),oG 6 63 60 true (.faddr 0 (.s 5)),oG 7 64 60 true (.load false 1 (.s 63)),oG 8 65 60 true (.iaddr 1 (.s 62) (.s 64)),oG 9 66 60 true (.load false 1 (.s 65)),o1 10 67 (.pick (.s 60) (.s 66) (kB false))] [67,3,5,2,4,12,13,8])
 (.cond (.s 67) (rG 0 [fA 0 68 1 13,o0 1 (.store 1 (.s 68) (kI 0))] [3,5,2,4,12,13,8])
 .skip))
 (sQ (sQ (rG 0 [mS 0 69 3,o1 1 70 (.un .not (.s 69))] [70,5,2,4,12,13,8])
 (.cond (.s 70) (sQ (rG 0 [lT 0 71 6 13,o0 1 (.store 6 (.s 8) (.s 71)),mB 2 9 true] [8,9])
 .ret)
 .skip))
 (sQ (.region 0 [fA 0 72 2 5,fA 2 74 4 5,mS 4 76 12,lF 1 73 72,lF 3 75 74,cA 5 77 217 [(.s 75),(.s 76)],bS 6 78 .add 73 77,mS 7 14 78] [(3,5)] (some [4,2,14,5,13,8]))
 (sQ (sQ (rG 0 [fA 0 79 0 4,lT 1 80 5 79,fA 2 81 0 5,lF 3 82 81,mS 4 83 2,cA 5 84 218 [(.s 80),(.s 82),(.s 83)],lN 6 85 84,mI 7 86 0] [85,84,14,5,86,13,8])
 (.block 0 (.loop (some [85,84,14,5,86,13,8]) zb7)))
 (sQ (.region 0 [fA 1 120 1 13,fA 3 122 2 13,lT 0 119 6 13,lF 2 121 120,lF 4 123 122,bS 5 124 .leq 121 123,o0 6 (.store 6 (.s 8) (.s 119)),mS 7 9 124] [(3,6),(4,6)] (some [8,9]))
 .ret)))))))))) }
def za7:CC:=(sQ (rG 0 [bS 0 9 .lss 8 7] [9,0,1,7,8])
 (sQ (.cond (.s 9) .skip
 (.exit 0))
 (sQ (.block 1 (sQ (rG 0 [mS 0 10 8,mS 1 5 10] [0,1,7,8,5])
 (sQ (rG 0 [mS 0 11 1,mS 1 12 0,mS 2 13 5,iA 3 14 1 12 13,lF 4 15 14,bS 5 16 .eql 11 15] [16,0,1,7,8,5])
 (.cond (.s 16) (sQ (rG 0 [mS 0 17 5,mS 1 4 17] [4])
 .ret)
 .skip))))
 (rG 0 [bI 0 18 .add 8 1,mS 1 8 18] [7,1,0,8]))))
abbrev zf1:Nat:=162
def zcI:CFn:={ frz:=true,rnd:=none,nargs:=2,ntmps:=19,res:=[(.slot 4)],code :=
 (sQ (rG 0 [mI 0 4 0] [1,0])
 (sQ (sQ (rG 0 [mS 0 6 0,lN 1 7 6,mI 2 8 0] [7,1,0,8])
 (.block 0 (.loop (some [7,1,0,8]) za7)))
 (sQ (rG 0 [mI 0 4 (-1)] [4])
 .ret))) }
abbrev zhP:Nat:=163
def zfG:CFn:={ frz:=true,rnd:=none,nargs:=2,ntmps:=13,res:=[(.slot 4)],code :=
 (sQ (rG 2 [o1 0 2 (.box 0 11 (.s 0)),o1 1 3 (.box 1 4 (.s 1)),mB 2 4 false] [2,3])
 (sQ (rG 0 [fA 0 5 1 3,lF 1 6 5,fA 2 7 8 2,lF 3 8 7,bS 4 9 .sub 6 8,fA 5 10 0 3,lF 6 11 10,bS 7 12 .leq 9 11,mS 8 4 12] [4])
 .ret)) }
abbrev znw:Nat:=164
def zeH:CFn:={ frz:=true,rnd:=none,nargs:=5,ntmps:=21,res:=[(.slot 10)],code :=
 (sQ (rG 3 [o1 0 5 (.box 0 16 (.s 0)),o1 1 6 (.box 1 6 (.s 1)),o1 2 10 (.newsl 2 7)] [5,6,2,3,4])
 (sQ (rG 1 [o1 0 11 (.box 0 1 (.k (.a [.nilslice])))] [5,6,2,3,4,11])
 (sQ (rG 1 [o1 0 12 (.box 0 1 (.k (.a [.nilfn])))] [5,12,6,2,3,4,11])
 (sQ (rG 0 [o1 0 13 (.mkfn 219 [] [(.s 5),(.s 11),(.s 12)]),o0 1 (.store 1 (.s 12) (.s 13))] [12,6,2,3,4,11])
 (sQ (rG 0 [lF 0 14 12,lT 1 15 6 6,mS 2 16 2,mS 3 17 3,mS 4 18 4,⟨5,(some 19),none,.call ⟨true⟩ (.s 14) [(.s 15),(.s 16),(.s 17),(.s 18)]⟩] [11])
 (sQ (rG 0 [lF 0 20 11,mS 1 10 20] [10])
 .ret)))))) }
abbrev zbb:Nat:=165
abbrev zar:Nat:=166
def zjq:CFn:={ frz:=true,rnd:=none,nargs:=2,ntmps:=32,res:=[(.slot 4)],code :=
 (sQ (rG 2 [o1 0 2 (.box 0 4 (.s 0)),o1 1 3 (.box 1 4 (.s 1)),mI 2 4 0] [2,3])
 (sQ (rG 0 [o1 0 5 (.mv (.k (.c (.fn 222 [] []))))] [2,5,3])
 (sQ (.region 1 [fA 0 6 0 2,fA 2 8 0 3,fA 5 11 1 2,fA 7 13 1 3,fA 10 16 2 2,fA 12 18 2 3,mS 15 21 5,fA 16 22 3 2,mS 19 25 5,fA 20 26 3 3,lF 1 7 6,lF 3 9 8,lF 6 12 11,lF 8 14 13,lF 11 17 16,lF 13 19 18,lF 17 23 22,lF 21 27 26,cA 4 10 178 [(.s 7),(.s 9)],cA 9 15 177 [(.s 12),(.s 14)],cA 14 20 177 [(.s 17),(.s 19)],⟨18,(some 24),none,.call ⟨true⟩ (.s 21) [(.s 23)]⟩,⟨22,(some 28),none,.call ⟨true⟩ (.s 25) [(.s 27)]⟩,bS 23 29 .sub 24 28,o1 24 30 (.lit 0 1 [[(I 0)],[(I 0)],[(I 0)],[(I 0)]] [(0,(.s 10)),(1,(.s 15)),(2,(.s 20)),(3,(.s 29))]),cA 25 31 176 [(.s 30)],mS 26 4 31] [(12,18),(13,18),(14,18),(14,19),(15,18),(15,19),(16,18),(16,19),(16,20),(17,18),(17,19),(17,20),(17,21)] (some [4]))
 .ret))) }
def zfv:CC:=(sQ (rG 0 [bS 0 16 .lss 15 14] [16,15,14,13,4])
 (sQ (.cond (.s 16) .skip
 (.exit 0))
 (sQ (.block 1 (sQ (rG 1 [iA 0 17 6 13 15,lT 1 18 6 17,o1 2 6 (.box 0 6 (.k (.a [(I 0),(I 0),(I 0),(I 0),(I 0),(I 0)]))),o0 3 (.store 6 (.s 6) (.s 18))] [6,15,14,13,4])
 (sQ (rG 0 [mS 0 19 4,lN 1 20 19,mS 2 7 20] [7,6,15,14,13,4])
 (sQ (rG 0 [mS 0 21 7,bI 1 22 .gtr 21 0,mS 2 23 22,oG 3 24 23 true (.mv (.s 4)),oG 4 25 23 true (.mv (.s 7)),oG 5 26 23 true (.bin .sub (.s 25) (kI 1)),oG 6 27 23 true (.iaddr 6 (.s 24) (.s 26)),oG 7 28 23 true (.faddr 0 (.s 27)),oG 9 30 23 true (.faddr 0 (.s 6)),oG 8 29 23 true (.load false 1 (.s 28)),oG 10 31 23 true (.load false 1 (.s 30)),oG 11 32 23 true (.bin .eql (.s 29) (.s 31)),o1 12 33 (.pick (.s 23) (.s 32) (kB false)),mS 13 34 33,oG 14 35 34 true (.faddr 1 (.s 6)),oG 16 37 34 true (.mv (.s 4)),oG 17 38 34 true (.mv (.s 7)),oG 18 39 34 true (.bin .sub (.s 38) (kI 1)),oG 19 40 34 true (.iaddr 6 (.s 37) (.s 39)),oG 20 41 34 true (.faddr 2 (.s 40)),oG 15 36 34 true (.load false 1 (.s 35)),oG 21 42 34 true (.load false 1 (.s 41)),oG 22 43 34 true (.bin .leq (.s 36) (.s 42)),oG 23 44 34 true (.mv (.s 43)),oG 24 45 44 false (.faddr 1 (.s 6)),oG 27 48 44 false (.mv (.s 4)),oG 28 49 44 false (.mv (.s 7)),oG 29 50 44 false (.bin .sub (.s 49) (kI 1)),oG 30 51 44 false (.iaddr 6 (.s 48) (.s 50)),oG 31 52 44 false (.faddr 2 (.s 51)),oG 25 46 44 false (.load false 1 (.s 45)),oG 26 47 44 false (.bin .sub (.s 46) (kI 1)),oG 32 53 44 false (.load false 1 (.s 52)),oG 33 54 44 false (.bin .eql (.s 47) (.s 53)),oG 34 55 34 true (.pick (.s 44) (kB true) (.s 54)),o1 35 56 (.pick (.s 34) (.s 55) (kB false))] [56,7,6,15,14,13,4])
 (.cond (.s 56) (rG 0 [mS 0 57 4,mS 1 58 7,bI 2 59 .sub 58 1,mS 3 60 4,mS 4 61 7,bI 5 62 .sub 61 1,iA 6 63 6 60 62,lT 7 64 6 63,lT 8 65 6 6,cA 9 66 228 [(.s 64),(.s 65)],iA 10 67 6 57 59,o0 11 (.store 6 (.s 67) (.s 66))] [15,14,13,4])
 (rG 1 [mS 0 68 4,lT 1 69 6 6,o1 2 70 (.lit 0 6 [[(I 0),(I 0),(I 0),(I 0),(I 0),(I 0)]] [(0,(.s 69))]),o1 3 71 (.append 6 48 (.s 68) (.s 70)),mS 4 4 71] [15,14,13,4]))))))
 (rG 0 [bI 0 72 .add 15 1,mS 1 15 72] [15,14,13,4]))))
abbrev zsj:Nat:=167
def zeQ:CFn:={ frz:=true,rnd:=none,nargs:=1,ntmps:=74,res:=[(.slot 2)],code :=
 (sQ (rG 1 [o1 0 2 (.newsl 0 6)] [0])
 (sQ (rG 0 [mS 0 8 0,cA 1 9 224 [(.s 8)],⟨2,(some 10),none,.call ⟨false⟩ (.k (.c (.fn 223 [] []))) [(.s 9),(.k (.c (.fn 225 [] [])))]⟩,mS 3 3 10] [3])
 (sQ (rG 0 [mS 0 11 3,⟨1,(some 12),none,.call ⟨false⟩ (.k (.c (.fn 226 [] []))) [(.s 11),(.k (.c (.fn 227 [] [])))]⟩] [3])
 (sQ (rG 1 [o1 0 4 (.newsl 0 6)] [3,4])
 (sQ (sQ (rG 0 [mS 0 13 3,lN 1 14 13,mI 2 15 0] [15,14,13,4])
 (.block 0 (.loop (some [15,14,13,4]) zfv)))
 (sQ (rG 0 [mS 0 73 4,mS 1 2 73] [2])
 .ret)))))) }
def zbU:CC:=(sQ (sQ (rG 0 [mS 0 29 5,mS 1 30 4,lN 2 31 30,bS 3 32 .lss 29 31] [32,3,5,0,4])
 (.cond (.s 32) .skip
 (.exit 2)))
 (sQ (.block 3 (sQ (rG 0 [mS 0 35 4,mS 1 36 5,iA 2 37 4 35 36,mS 4 39 4,mS 5 40 5,bI 6 41 .sub 40 1,iA 7 42 4 39 41,lT 3 38 4 37,lT 8 43 4 42,o1 9 44 (.eqa true [false,false,false,true] (.s 38) (.s 43))] [44,3,5,0,4])
 (.cond (.s 44) (sQ (rG 0 [mS 0 45 0,mS 1 46 3,mS 2 47 4,mS 3 48 5,iA 4 49 4 47 48,lT 5 50 4 49,iA 6 51 4 45 46,o0 7 (.store 4 (.s 51) (.s 50))] [3,5,0,4])
 (rG 0 [mS 0 52 3,bI 1 53 .add 52 1,mS 2 3 53] [5,3,0,4]))
 .skip)))
 (rG 0 [mS 0 33 5,bI 1 34 .add 33 1,mS 2 5 34] [3,5,0,4])))
def zaF:CC:=(sQ (sQ (rG 0 [mS 0 10 3,mS 1 11 0,lN 2 12 11,bS 3 13 .lss 10 12] [13,3,0])
 (.cond (.s 13) .skip
 (.exit 0)))
 (sQ (.block 1 (sQ (rG 0 [mS 0 16 0,mS 1 17 3,iA 2 18 4 16 17,mS 4 20 0,mS 5 21 3,bI 6 22 .sub 21 1,iA 7 23 4 20 22,lT 3 19 4 18,lT 8 24 4 23,o1 9 25 (.eqa false [false,false,false,true] (.s 19) (.s 24))] [25,3,0])
 (.cond (.s 25) (sQ (rG 0 [mS 0 26 0,mS 1 27 3,o1 2 28 (.slice 4 (.s 26) (some (.s 27)) none none),mS 3 4 28] [3,0,4])
 (sQ (sQ (rG 0 [mI 0 5 1] [3,5,0,4])
 (.block 2 (.loop (some [3,5,0,4]) zbU)))
 (sQ (rG 0 [mS 0 54 0,mS 1 55 3,o1 2 56 (.slice 4 (.s 54) (some (.s 55)) none none),o0 3 (.clear [(I 0),(I 0),(I 0),(.bool false)] (.s 56))] [0,3])
 (sQ (rG 0 [mS 0 57 0,mS 1 58 3,o1 2 59 (.slice 4 (.s 57) none (some (.s 58)) none),mS 3 2 59] [2])
 .ret))))
 .skip)))
 (rG 0 [mS 0 14 3,bI 1 15 .add 14 1,mS 2 3 15] [3,0])))
abbrev zeD:Nat:=168
def zbk:CFn:={ frz:=false,rnd:=none,nargs:=1,ntmps:=61,res:=[(.slot 2)],code :=
 (sQ (rG 1 [o1 0 2 (.newsl 0 4)] [0])
 (sQ (sQ (rG 0 [mS 0 6 0,lN 1 7 6,bI 2 8 .lss 7 2] [8,0])
 (.cond (.s 8) (sQ (rG 0 [mS 0 9 0,mS 1 2 9] [2])
 .ret)
 .skip))
 (sQ (sQ (rG 0 [mI 0 3 1] [3,0])
 (.block 0 (.loop (some [3,0]) zaF)))
 (sQ (rG 0 [mS 0 60 0,mS 1 2 60] [2])
 .ret)))) }
def zc3:CC:=(sQ (rG 0 [bS 0 19 .lss 18 17] [19,18,17,4,16,2,5])
 (sQ (.cond (.s 19) .skip
 (.exit 0))
 (sQ (.block 1 (sQ (rG 0 [iA 0 20 1 16 18,lF 1 21 20,mS 2 7 21] [7,18,17,4,16,2,5])
 (sQ (rG 1 [fA 0 22 6 5,lF 1 23 22,fA 2 24 7 5,lF 3 25 24,o1 4 26 (.lit 0 1 [[(I 0)]] [(0,(.s 25))]),o1 5 27 (.append 1 8 (.s 23) (.s 26)),fA 6 28 6 5,o0 7 (.store 1 (.s 28) (.s 27))] [7,18,17,4,16,2,5])
 (.region 0 [fA 0 29 7 5,mS 3 32 7,lF 1 30 29,lT 2 31 5 2,cA 4 33 215 [(.s 31),(.s 32)],bS 5 34 .add 30 33,fA 6 35 7 5,o0 7 (.store 1 (.s 35) (.s 34))] [(2,4)] (some [18,17,4,16,2,5])))))
 (rG 0 [bI 0 36 .add 18 1,mS 1 18 36] [18,17,4,16,2,5]))))
abbrev zrf:Nat:=173
def zir:CFn:={ frz:=true,rnd:=none,nargs:=2,ntmps:=38,res:=[(.cell 4 true 8)],code :=
 (sQ (rG 2 [o1 0 2 (.box 0 5 (.s 0)),o1 1 4 (.box 1 8 (.k (.a [(I 0),.nilslice,.nilslice,.nilslice,.nilslice,.nilslice,.nilslice,(I 0)])))] [2,1,4])
 (sQ (sQ (rG 0 [lT 0 8 5 2,mS 1 9 1,cA 2 10 108 [(.s 8),(.s 9)],bI 3 11 .neq 10 0] [11,2,1,4])
 (.cond (.s 11) (sQ (rG 0 [o1 0 12 (.build [(I 0),.nilslice,.nilslice,.nilslice,.nilslice,.nilslice,.nilslice,(I 0)] []),o0 1 (.store 8 (.s 4) (.s 12))] [4])
 .ret)
 .skip))
 (sQ (rG 1 [lT 0 13 5 2,mS 1 14 1,o1 2 15 (.build [(I 0),.nilslice,.nilslice,.nilslice,.nilslice,.nilslice,.nilslice,(I 0)] [(0,5,(.s 13)),(5,1,(.s 14))]),o1 3 5 (.box 0 8 (.k (.a [(I 0),.nilslice,.nilslice,.nilslice,.nilslice,.nilslice,.nilslice,(I 0)]))),o0 4 (.store 8 (.s 5) (.s 15))] [1,4,2,5])
 (sQ (sQ (rG 0 [mS 0 16 1,lN 1 17 16,mI 2 18 0] [18,17,4,16,2,5])
 (.block 0 (.loop (some [18,17,4,16,2,5]) zc3)))
 (sQ (rG 0 [lT 0 37 8 5,o0 1 (.store 8 (.s 4) (.s 37))] [4])
 .ret))))) }
def zab:CC:=(sQ (rG 0 [bS 0 9 .lss 8 7] [9,3,6,7,8])
 (sQ (.cond (.s 9) .skip
 (.exit 0))
 (sQ (.block 1 (sQ (rG 0 [iA 0 10 1 6 8,lF 1 11 10,mS 2 5 11] [3,6,7,8,5])
 (sQ (rG 0 [mS 0 12 5,mS 1 13 3,bS 2 14 .neq 12 13] [14,3,6,7,8,5])
 (.cond (.s 14) (sQ (rG 0 [mS 0 15 5,mS 1 2 15] [2])
 .ret)
 .skip))))
 (rG 0 [bI 0 16 .add 8 1,mS 1 8 16] [7,6,3,8]))))
abbrev zob:Nat:=176
def zfw:CFn:={ frz:=true,rnd:=none,nargs:=1,ntmps:=18,res:=[(.slot 2)],code :=
 (sQ (rG 0 [mI 0 2 0] [0])
 (sQ (rG 0 [mI 0 3 0] [0,3])
 (sQ (sQ (rG 0 [mS 0 6 0,lN 1 7 6,mI 2 8 0] [7,6,3,8])
 (.block 0 (.loop (some [7,6,3,8]) zab)))
 (sQ (rG 0 [mS 0 17 3,mS 1 2 17] [2])
 .ret)))) }
abbrev zhQ:Nat:=177
def zbq:CFn:={ frz:=true,rnd:=none,nargs:=2,ntmps:=20,res:=[(.slot 4)],code :=
 (sQ (rG 0 [mI 0 4 0] [1,0])
 (sQ (rG 0 [mS 0 7 0,cA 1 8 242 [(.s 7)],mS 2 5 8] [5,1,0])
 (sQ (rG 0 [mS 0 9 1,cA 1 10 242 [(.s 9)],mS 2 6 10] [5,1,0,6])
 (sQ (sQ (rG 0 [mS 0 11 5] [11,1,0,6])
 (.cond (.s 11) (sQ (sQ (rG 0 [mS 0 12 6] [12])
 (.cond (.s 12) (sQ (rG 0 [mI 0 4 0] [4])
 .ret)
 .skip))
 (sQ (rG 0 [mI 0 4 (-1)] [4])
 .ret))
 .skip))
 (sQ (sQ (rG 0 [mS 0 13 6] [13,0,1])
 (.cond (.s 13) (sQ (rG 0 [mI 0 4 1] [4])
 .ret)
 .skip))
 (sQ (sQ (rG 0 [mS 0 14 0,mS 1 15 1,bS 2 16 .lss 14 15] [16,1,0])
 (.cond (.s 16) (sQ (rG 0 [mI 0 4 (-1)] [4])
 .ret)
 .skip))
 (sQ (sQ (rG 0 [mS 0 17 0,mS 1 18 1,bS 2 19 .gtr 17 18] [19])
 (.cond (.s 19) (sQ (rG 0 [mI 0 4 1] [4])
 .ret)
 .skip))
 (sQ (rG 0 [mI 0 4 0] [4])
 .ret)))))))) }
abbrev zi6:Nat:=178
def zb3:CFn:={ frz:=true,rnd:=none,nargs:=2,ntmps:=20,res:=[(.slot 4)],code :=
 (sQ (rG 0 [mI 0 4 0] [1,0])
 (sQ (rG 0 [mS 0 7 0,cA 1 8 243 [(.s 7)],mS 2 5 8] [5,1,0])
 (sQ (rG 0 [mS 0 9 1,cA 1 10 243 [(.s 9)],mS 2 6 10] [5,1,0,6])
 (sQ (sQ (rG 0 [mS 0 11 5] [11,1,0,6])
 (.cond (.s 11) (sQ (sQ (rG 0 [mS 0 12 6] [12])
 (.cond (.s 12) (sQ (rG 0 [mI 0 4 0] [4])
 .ret)
 .skip))
 (sQ (rG 0 [mI 0 4 (-1)] [4])
 .ret))
 .skip))
 (sQ (sQ (rG 0 [mS 0 13 6] [13,0,1])
 (.cond (.s 13) (sQ (rG 0 [mI 0 4 1] [4])
 .ret)
 .skip))
 (sQ (sQ (rG 0 [mS 0 14 0,mS 1 15 1,bS 2 16 .lss 14 15] [16,1,0])
 (.cond (.s 16) (sQ (rG 0 [mI 0 4 (-1)] [4])
 .ret)
 .skip))
 (sQ (sQ (rG 0 [mS 0 17 0,mS 1 18 1,bS 2 19 .gtr 17 18] [19])
 (.cond (.s 19) (sQ (rG 0 [mI 0 4 1] [4])
 .ret)
 .skip))
 (sQ (rG 0 [mI 0 4 0] [4])
 .ret)))))))) }
def zcc:CC:=(sQ (sQ (rG 0 [mS 0 7 6,fA 1 8 0 2,lF 2 9 8,lN 3 10 9,bS 4 11 .lss 7 10] [11,1,2,6,4])
 (.cond (.s 11) .skip
 (.exit 0)))
 (sQ (.block 1 (sQ (rG 0 [fA 0 14 0 2,lF 1 15 14,mS 2 16 6,iA 3 17 4 15 16,fA 4 18 0 17,lF 5 19 18,mS 6 20 1,bS 7 21 .eql 19 20] [21,1,2,6,4])
 (.cond (.s 21) (sQ (rG 0 [fA 0 22 0 2,lF 1 23 22,mS 2 24 6,iA 3 25 4 23 24,lT 4 26 4 25,o0 5 (.store 4 (.s 4) (.s 26)),mB 6 5 true] [4,5])
 .ret)
 .skip)))
 (rG 0 [mS 0 12 6,bI 1 13 .add 12 1,mS 2 6 13] [1,2,6,4])))
abbrev zlp:Nat:=190
def zdJ:CFn:={ frz:=true,rnd:=none,nargs:=2,ntmps:=28,res:=[(.cell 4 true 4),(.slot 5)],code :=
 (sQ (rG 2 [o1 0 2 (.box 0 2 (.s 0)),o1 1 4 (.box 1 4 (.k (.a [(I 0),(I 0),(I 0),(I 0)]))),mB 2 5 false] [1,2,4])
 (sQ (sQ (rG 0 [mI 0 6 0] [1,2,6,4])
 (.block 0 (.loop (some [1,2,6,4]) zcc)))
 (sQ (rG 0 [o1 0 27 (.build [(I 0),(I 0),(I 0),(I 0)] []),o0 1 (.store 4 (.s 4) (.s 27)),mB 2 5 false] [4,5])
 .ret))) }
abbrev zgX:Nat:=192
def ze1:CFn:={ frz:=true,rnd:=none,nargs:=2,ntmps:=8,res:=[(.slot 4)],code :=
 (sQ (rG 1 [o1 0 2 (.box 0 5 (.s 0)),mI 1 4 0] [2,1])
 (sQ (rG 0 [lT 0 5 5 2,mS 1 6 1,cA 2 7 81 [(.s 5),(.s 6)],mS 3 4 7] [4])
 .ret)) }
def zcx:CC:=(sQ (sQ (rG 0 [mS 0 50 12,mS 1 51 7,lN 2 52 51,bS 3 53 .lss 50 52,mS 4 54 53,oG 5 55 54 true (.mv (.s 7)),oG 6 56 54 true (.mv (.s 12)),oG 7 57 54 true (.iaddr 1 (.s 55) (.s 56)),oG 9 59 54 true (.faddr 1 (.s 10)),oG 8 58 54 true (.load false 1 (.s 57)),oG 10 60 54 true (.load false 1 (.s 59)),oG 11 61 54 true (.bin .lss (.s 58) (.s 60)),o1 12 62 (.pick (.s 54) (.s 61) (kB false))] [62,12,7,2,1,3,8,10])
 (.cond (.s 62) .skip
 (.exit 2)))
 (.block 3 (rG 0 [mS 0 63 12,bI 1 64 .add 63 1,mS 2 12 64] [12,7,2,1,3,8,10])))
def z6:CC:=(sQ (sQ (rG 0 [mS 0 13 8,fA 1 14 2 3,lF 2 15 14,lN 3 16 15,bS 4 17 .lss 13 16] [17,8,3,1,2,7])
 (.cond (.s 17) .skip
 (.exit 0)))
 (sQ (.block 1 (sQ (rG 1 [fA 0 20 2 3,lF 1 21 20,mS 2 22 8,iA 3 23 2 21 22,lT 4 24 2 23,o1 5 9 (.box 0 2 (.k (.a [.nilslice,(I 0)]))),o0 6 (.store 2 (.s 9) (.s 24))] [9,8,3,1,2,7])
 (sQ (rG 1 [lT 0 26 2 9,mS 1 27 1,cA 2 28 190 [(.s 26),(.s 27)],mS 3 25 28,eX 4 29 25 0,eX 5 30 25 1,o1 6 10 (.box 0 4 (.k (.a [(I 0),(I 0),(I 0),(I 0)]))),o0 7 (.store 4 (.s 10) (.s 29)),mS 8 11 30] [11,9,10,8,3,1,2,7])
 (sQ (sQ (rG 0 [mS 0 31 11,o1 1 32 (.un .not (.s 31)),mS 2 33 32,oG 3 34 33 false (.faddr 1 (.s 9)),oG 4 35 33 false (.load false 1 (.s 34)),oG 5 36 33 false (.bin .eql (.s 35) (kI 0)),o1 6 37 (.pick (.s 33) (kB true) (.s 36)),mS 7 38 37,oG 8 39 38 false (.faddr 3 (.s 3)),oG 9 40 38 false (.load false 1 (.s 39)),oG 10 41 38 false (.faddr 1 (.s 9)),oG 11 42 38 false (.load false 1 (.s 41)),oG 12 43 38 false (.bin .sub (.s 42) (kI 1)),oG 13 44 38 false (.iaddr 2 (.s 40) (.s 43)),oG 14 45 38 false (.load true 2 (.s 44)),oG 15 46 38 false (.mv (.s 1)),oG 16 47 38 false (.mv (.s 2)),⟨17,(some 48),(some (38,false)),.call ⟨true⟩ (.k (.c (.fn 207 [] []))) [(.s 45),(.s 46),(.s 47)]⟩,o1 18 49 (.pick (.s 38) (kB true) (.s 48))] [49,10,8,3,1,2,7])
 (.cond (.s 49) (.exit 1)
 .skip))
 (sQ (rG 0 [mI 0 12 0] [12,7,2,1,3,8,10])
 (sQ (.block 2 (.loop (some [12,7,2,1,3,8,10]) zcx))
 (sQ (sQ (rG 0 [mS 0 65 12,mS 1 66 7,lN 2 67 66,bS 3 68 .lss 65 67,mS 4 69 68,oG 5 70 69 true (.mv (.s 7)),oG 6 71 69 true (.mv (.s 12)),oG 7 72 69 true (.iaddr 1 (.s 70) (.s 71)),oG 9 74 69 true (.faddr 1 (.s 10)),oG 8 73 69 true (.load false 1 (.s 72)),oG 10 75 69 true (.load false 1 (.s 74)),oG 11 76 69 true (.bin .eql (.s 73) (.s 75)),o1 12 77 (.pick (.s 69) (.s 76) (kB false))] [77,12,10,8,3,1,2,7])
 (.cond (.s 77) (.exit 1)
 .skip))
 (.region 2 [mS 1 79 7,mS 2 80 12,o1 3 81 (.slice 1 (.s 79) none (some (.s 80)) none),fA 5 83 1 10,mS 9 87 7,mS 10 88 12,o1 11 89 (.slice 1 (.s 87) (some (.s 88)) none none),lF 6 84 83,o1 0 78 (.lit 0 1 [] []),o1 4 82 (.append 1 8 (.s 78) (.s 81)),o1 7 85 (.lit 1 1 [[(I 0)]] [(0,(.s 84))]),o1 8 86 (.append 1 8 (.s 82) (.s 85)),o1 12 90 (.append 1 8 (.s 86) (.s 89)),mS 13 7 90] [(7,8),(7,9),(8,10),(9,10)] (some [8,3,1,2,7])))))))))
 (rG 0 [mS 0 18 8,bI 1 19 .add 18 1,mS 2 8 19] [8,3,1,2,7])))
abbrev zgC:Nat:=193
def zdr:CFn:={ frz:=true,rnd:=none,nargs:=3,ntmps:=92,res:=[(.slot 6)],code :=
 (sQ (rG 2 [o1 0 3 (.box 0 5 (.s 0)),o1 1 6 (.newsl 1 1)] [3,1,2])
 (sQ (rG 1 [o1 0 7 (.newsl 0 1)] [3,1,2,7])
 (sQ (sQ (rG 0 [mI 0 8 0] [8,3,1,2,7])
 (.block 0 (.loop (some [8,3,1,2,7]) z6)))
 (sQ (rG 0 [mS 0 91 7,mS 1 6 91] [6])
 .ret)))) }
def zcb:CC:=(sQ (sQ (rG 0 [mS 0 16 0,mS 1 17 1,bS 2 18 .gtr 16 17] [18,0,5,1])
 (.cond (.s 18) .skip
 (.exit 0)))
 (.block 1 (sQ (rG 0 [mS 0 19 0,mS 1 20 1,bS 2 21 .sub 19 20,mS 3 0 21] [5,0,1])
 (rG 0 [mS 0 22 5,mS 1 23 0,bS 2 24 .add 22 23,mS 3 5 24] [0,5,1]))))
abbrev zlo:Nat:=194
def zdI:CFn:={ frz:=true,rnd:=none,nargs:=2,ntmps:=26,res:=[(.slot 4)],code :=
 (sQ (rG 0 [mI 0 4 0] [0,1])
 (sQ (rG 0 [mS 0 6 0,o1 1 7 (.minmax false [(.s 6),(kI 1000000)]),mS 2 8 1,o1 3 9 (.minmax false [(.s 8),(kI 1000000)]),mS 4 0 7,mS 5 1 9] [1,0])
 (sQ (rG 0 [mI 0 5 0] [1,5,0])
 (sQ (sQ (rG 0 [mS 0 10 0,bI 1 11 .lss 10 1,mS 2 12 11,oG 3 13 12 false (.mv (.s 1)),oG 4 14 12 false (.bin .lss (.s 13) (kI 1)),o1 5 15 (.pick (.s 12) (kB true) (.s 14))] [15,1,5,0])
 (.cond (.s 15) (sQ (rG 0 [mI 0 4 0] [4])
 .ret)
 .skip))
 (sQ (.block 0 (.loop (some [0,5,1]) zcb))
 (sQ (rG 0 [mS 0 25 5,mS 1 4 25] [4])
 .ret)))))) }
abbrev zjN:Nat:=195
def zbB:CFn:={ frz:=true,rnd:=none,nargs:=2,ntmps:=42,res:=[(.slot 4)],code :=
 (sQ (rG 2 [o1 0 2 (.box 0 4 (.s 0)),o1 1 3 (.box 1 4 (.s 1)),mB 2 4 false] [2,3])
 (sQ (sQ (rG 0 [fA 0 5 0 2,lF 1 6 5,fA 2 7 0 3,lF 3 8 7,bS 4 9 .neq 6 8] [9,2,3])
 (.cond (.s 9) (sQ (rG 0 [fA 0 10 0 2,lF 1 11 10,fA 2 12 0 3,lF 3 13 12,bS 4 14 .lss 11 13,mS 5 4 14] [4])
 .ret)
 .skip))
 (sQ (sQ (rG 0 [fA 0 15 1 2,lF 1 16 15,fA 2 17 1 3,lF 3 18 17,bS 4 19 .neq 16 18] [19,2,3])
 (.cond (.s 19) (sQ (rG 0 [fA 0 20 1 2,lF 1 21 20,fA 2 22 1 3,lF 3 23 22,bS 4 24 .lss 21 23,mS 5 4 24] [4])
 .ret)
 .skip))
 (sQ (sQ (rG 0 [fA 0 25 2 2,lF 1 26 25,fA 2 27 2 3,lF 3 28 27,bS 4 29 .neq 26 28] [29,2,3])
 (.cond (.s 29) (sQ (rG 0 [fA 0 30 2 2,lF 1 31 30,fA 2 32 2 3,lF 3 33 32,bS 4 34 .lss 31 33,mS 5 4 34] [4])
 .ret)
 .skip))
 (sQ (rG 0 [fA 0 35 3 2,lF 1 36 35,o1 2 37 (.un .not (.s 36)),mS 3 38 37,oG 4 39 38 true (.faddr 3 (.s 3)),oG 5 40 38 true (.load false 1 (.s 39)),o1 6 41 (.pick (.s 38) (.s 40) (kB false)),mS 7 4 41] [4])
 .ret))))) }
def ziz:CC:=(sQ (sQ (rG 0 [mS 0 9 4,bI 1 10 .add 9 1,fA 2 11 0 1,lF 3 12 11,lN 4 13 12,bS 5 14 .lss 10 13] [14,3,4,1])
 (.cond (.s 14) .skip
 (.exit 0)))
 (sQ (.block 1 (sQ (.region 1 [fA 0 17 0 1,mS 2 19 4,bI 3 20 .add 19 1,fA 6 23 0 1,mS 8 25 4,lF 1 18 17,iA 4 21 2 18 20,lT 5 22 2 21,lF 7 24 23,iA 9 26 2 24 25,lT 10 27 2 26,cA 11 28 200 [(.s 22),(.s 27)],o1 12 5 (.box 0 2 (.k (.a [(I 0),(I 0)]))),o0 13 (.store 2 (.s 5) (.s 28))] [(5,12),(7,12),(8,12),(10,12),(11,12)] (some [3,5,4,1]))
 (rG 1 [mS 0 29 3,lT 1 30 2 5,lT 2 31 2 5,cA 3 32 202 [(.s 30),(.s 31)],cA 4 33 201 [(.s 32)],o1 5 34 (.lit 0 1 [[(I 0)]] [(0,(.s 33))]),o1 6 35 (.append 1 8 (.s 29) (.s 34)),mS 7 3 35] [4,3,1])))
 (rG 0 [mS 0 15 4,bI 1 16 .add 15 1,mS 2 4 16] [3,4,1])))
def zjZ:CFn:={ frz:=true,rnd:=none,nargs:=1,ntmps:=37,res:=[(.slot 2)],code :=
 (sQ (rG 2 [o1 0 1 (.box 0 1 (.s 0)),o1 1 2 (.newsl 1 1)] [1])
 (sQ (sQ (rG 0 [lT 0 6 1 1,cA 1 7 139 [(.s 6)],bI 2 8 .neq 7 0] [8,1])
 (.cond (.s 8) (sQ (rG 1 [o1 0 2 (.newsl 0 1)] [2])
 .ret)
 .skip))
 (sQ (rG 1 [o1 0 3 (.newsl 0 1)] [3,1])
 (sQ (sQ (rG 0 [mI 0 4 0] [3,4,1])
 (.block 0 (.loop (some [3,4,1]) ziz)))
 (sQ (rG 0 [mS 0 36 3,mS 1 2 36] [2])
 .ret))))) }
def zkS:CFn:={ frz:=true,rnd:=none,nargs:=1,ntmps:=21,res:=[(.slot 2)],code :=
 (sQ (rG 1 [o1 0 1 (.box 0 2 (.s 0)),mB 1 2 false] [1])
 (sQ (rG 0 [fA 0 3 0 1,lF 1 4 3,bI 2 5 .geq 4 (-16777216),mS 3 6 5,oG 4 7 6 true (.faddr 0 (.s 1)),oG 5 8 6 true (.load false 1 (.s 7)),oG 6 9 6 true (.bin .leq (.s 8) (kI 16777216)),o1 7 10 (.pick (.s 6) (.s 9) (kB false)),mS 8 11 10,oG 9 12 11 true (.faddr 1 (.s 1)),oG 10 13 11 true (.load false 1 (.s 12)),oG 11 14 11 true (.bin .geq (.s 13) (kI (-16777216))),o1 12 15 (.pick (.s 11) (.s 14) (kB false)),mS 13 16 15,oG 14 17 16 true (.faddr 1 (.s 1)),oG 15 18 16 true (.load false 1 (.s 17)),oG 16 19 16 true (.bin .leq (.s 18) (kI 16777216)),o1 17 20 (.pick (.s 16) (.s 19) (kB false)),mS 18 2 20] [2])
 .ret)) }
def zkT:CFn:={ frz:=true,rnd:=none,nargs:=2,ntmps:=16,res:=[(.cell 4 true 2)],code :=
 (sQ (rG 3 [o1 0 2 (.box 0 2 (.s 0)),o1 1 3 (.box 1 2 (.s 1)),o1 2 4 (.box 2 2 (.k (.a [(I 0),(I 0)])))] [2,3,4])
 (sQ (rG 0 [fA 0 5 0 2,lF 1 6 5,fA 2 7 0 3,lF 3 8 7,bS 4 9 .sub 6 8,fA 5 10 1 2,lF 6 11 10,fA 7 12 1 3,lF 8 13 12,bS 9 14 .sub 11 13,o1 10 15 (.build [(I 0),(I 0)] [(0,1,(.s 9)),(1,1,(.s 14))]),o0 11 (.store 2 (.s 4) (.s 15))] [4])
 .ret)) }
def zjs:CC:=(sQ (sQ (rG 0 [mS 0 5 4,bI 1 6 .gtr 5 0] [6,3,4,0])
 (.cond (.s 6) .skip
 (.exit 0)))
 (sQ (.block 1 (sQ (rG 0 [mS 0 9 3,mS 1 10 4,bS 2 11 .add 9 10,mS 3 12 3,mS 4 13 4,bS 5 14 .add 12 13,bS 6 15 .mul 11 14,mS 7 16 0,bS 8 17 .leq 15 16] [17,3,4,0])
 (.cond (.s 17) (rG 0 [mS 0 18 3,mS 1 19 4,bS 2 20 .add 18 19,mS 3 3 20] [4,3,0])
 .skip)))
 (rG 0 [mS 0 7 4,bI 1 8 .quo 7 2,mS 2 4 8] [3,4,0])))
abbrev zlq:Nat:=201
def zlt:CFn:={ frz:=true,rnd:=none,nargs:=1,ntmps:=22,res:=[(.slot 2)],code :=
 (sQ (rG 0 [mI 0 2 0] [0])
 (sQ (rG 0 [mI 0 3 0] [3,0])
 (sQ (sQ (rG 0 [mI 0 4 67108864] [3,4,0])
 (.block 0 (.loop (some [3,4,0]) zjs)))
 (sQ (rG 0 [mS 0 21 3,mS 1 2 21] [2])
 .ret)))) }
def zmg:CFn:={ frz:=true,rnd:=none,nargs:=2,ntmps:=16,res:=[(.slot 4)],code :=
 (sQ (rG 2 [o1 0 2 (.box 0 2 (.s 0)),o1 1 3 (.box 1 2 (.s 1)),mI 2 4 0] [2,3])
 (sQ (rG 0 [fA 0 5 0 2,lF 1 6 5,fA 2 7 0 3,lF 3 8 7,bS 4 9 .mul 6 8,fA 5 10 1 2,lF 6 11 10,fA 7 12 1 3,lF 8 13 12,bS 9 14 .mul 11 13,bS 10 15 .add 9 14,mS 11 4 15] [4])
 .ret)) }
def zcw:CC:=(sQ (sQ (rG 0 [mS 0 11 8,fA 1 12 1 3,lF 2 13 12,lN 3 14 13,bS 4 15 .lss 11 14] [15,7,8,1,2,3])
 (.cond (.s 15) .skip
 (.exit 0)))
 (sQ (.block 1 (rG 0 [mS 0 18 7,fA 1 19 1 3,lF 2 20 19,mS 3 21 8,iA 4 22 2 20 21,fA 5 23 0 22,lF 6 24 23,bS 7 25 .add 18 24,mS 8 7 25] [8,7,1,2,3]))
 (rG 0 [mS 0 16 8,bI 1 17 .add 16 1,mS 2 8 17] [7,8,1,2,3])))
def zbV:CC:=(sQ (sQ (rG 0 [mS 0 36 10,fA 1 37 1 3,lF 2 38 37,lN 3 39 38,bS 4 40 .lss 36 39] [40,9,3,10,1])
 (.cond (.s 40) .skip
 (.exit 2)))
 (sQ (.block 3 (sQ (sQ (rG 0 [mS 0 43 9,fA 1 44 1 3,lF 2 45 44,mS 3 46 10,iA 4 47 2 45 46,fA 5 48 0 47,lF 6 49 48,bS 7 50 .lss 43 49] [50,9,3,10,1])
 (.cond (.s 50) (sQ (rG 0 [fA 0 51 1 3,lF 1 52 51,mS 2 53 10,iA 3 54 2 52 53,fA 4 55 1 54,lF 5 56 55,mS 6 57 1,cA 7 58 121 [(.s 56),(.s 57)],mS 8 6 58] [6])
 .ret)
 .skip))
 (rG 0 [mS 0 59 9,fA 1 60 1 3,lF 2 61 60,mS 3 62 10,iA 4 63 2 61 62,fA 5 64 0 63,lF 6 65 64,bS 7 66 .sub 59 65,mS 8 9 66] [10,9,3,1])))
 (rG 0 [mS 0 41 10,bI 1 42 .add 41 1,mS 2 10 42] [9,3,10,1])))
abbrev zkG:Nat:=207
def zdq:CFn:={ frz:=true,rnd:=none,nargs:=3,ntmps:=67,res:=[(.slot 6)],code :=
 (sQ (rG 1 [o1 0 3 (.box 0 2 (.s 0)),mB 1 6 false] [1,2,3])
 (sQ (rG 0 [mI 0 7 0] [7,1,2,3])
 (sQ (sQ (rG 0 [mI 0 8 0] [7,8,1,2,3])
 (.block 0 (.loop (some [7,8,1,2,3]) zcw)))
 (sQ (rG 0 [fA 0 26 0 3,mS 2 28 7,mS 4 30 2,mS 5 31 7,bS 6 32 .rem 30 31,mS 8 34 7,lF 1 27 26,bS 3 29 .rem 27 28,bS 7 33 .add 29 32,bS 9 35 .rem 33 34,mS 10 9 35] [9,3,1])
 (sQ (sQ (rG 0 [mI 0 10 0] [9,3,10,1])
 (.block 2 (.loop (some [9,3,10,1]) zbV)))
 (sQ (rG 0 [mB 0 6 false] [6])
 .ret)))))) }
abbrev zdG:Nat:=208
def zeY:CFn:={ frz:=true,rnd:=none,nargs:=1,ntmps:=42,res:=[(.slot 2)],code :=
 (sQ (rG 1 [o1 0 1 (.box 0 5 (.s 0)),mI 1 2 0] [1])
 (sQ (.block 0 (sQ (rG 0 [fA 0 4 0 1,fA 1 5 0 4,lF 2 6 5,cA 3 7 253 [(.s 6),(kI 0),(kI 1099511627776)],o1 4 8 (.un .not (.s 7)),mS 5 3 8] [3,1])
 (.cond (.s 3) (sQ (rG 0 [mI 0 2 2] [2])
 .ret)
 (sQ (rG 0 [fA 0 10 0 1,fA 1 11 1 10,lF 2 12 11,lN 3 13 12,bI 4 14 .eql 13 0,mS 5 9 14] [9,1])
 (.cond (.s 9) (sQ (rG 0 [mI 0 2 6] [2])
 .ret)
 (sQ (rG 0 [fA 0 16 0 1,fA 1 17 1 16,lF 2 18 17,lN 3 19 18,bI 4 20 .gtr 19 12,mS 5 21 20,oG 6 22 21 false (.faddr 0 (.s 1)),oG 7 23 21 false (.faddr 2 (.s 22)),oG 8 24 21 false (.load false 1 (.s 23)),oG 9 25 21 false (.len (.s 24)),oG 10 26 21 false (.bin .gtr (.s 25) (kI 12)),o1 11 27 (.pick (.s 21) (kB true) (.s 26)),mS 12 28 27,oG 13 29 28 false (.faddr 0 (.s 1)),oG 14 30 28 false (.faddr 3 (.s 29)),oG 15 31 28 false (.load false 1 (.s 30)),oG 16 32 28 false (.len (.s 31)),oG 17 33 28 false (.bin .gtr (.s 32) (kI 4)),o1 18 34 (.pick (.s 28) (kB true) (.s 33)),mS 19 35 34,oG 20 36 35 false (.faddr 0 (.s 1)),oG 21 37 35 false (.faddr 4 (.s 36)),oG 22 38 35 false (.load false 1 (.s 37)),oG 23 39 35 false (.len (.s 38)),oG 24 40 35 false (.bin .gtr (.s 39) (kI 8)),o1 25 41 (.pick (.s 35) (kB true) (.s 40)),mS 26 15 41] [15])
 (.cond (.s 15) (sQ (rG 0 [mI 0 2 8] [2])
 .ret)
 .skip)))))))
 (sQ (rG 0 [mI 0 2 0] [2])
 .ret))) }
def zkR:CC:=(sQ (rG 0 [bS 0 14 .lss 13 12] [14,1,11,12,13])
 (sQ (.cond (.s 14) .skip
 (.exit 0))
 (sQ (.block 1 (sQ (rG 1 [mS 0 15 13,iA 1 16 5 11 13,lT 2 17 5 16,o1 3 4 (.box 0 5 (.k (.a [(I 0),.nilslice,(I 0),(I 0),.nilslice]))),mS 4 3 15,o0 5 (.store 5 (.s 4) (.s 17))] [4,3,1,11,12,13])
 (sQ (rG 0 [fA 0 19 0 4,lF 1 20 19,cA 2 21 153 [(.s 20)],mS 3 18 21,eX 4 22 18 0,eX 5 23 18 1,eX 6 24 18 2,mS 7 5 22,mS 8 6 23,mS 9 7 24] [5,4,3,1,11,12,13])
 (sQ (sQ (rG 0 [mS 0 25 5,bI 1 26 .eql 25 0] [26,5,4,3,1,11,12,13])
 (.cond (.s 26) (sQ (rG 0 [mI 0 2 4] [2])
 .ret)
 .skip))
 (sQ (sQ (rG 0 [fA 0 27 1 4,lT 1 28 1 27,cA 2 29 254 [(.s 28)],mS 3 8 29] [13,12,11,1,3,4,5,8])
 (sQ (rG 0 [mS 0 30 8,bI 1 31 .neq 30 0] [31,13,12,11,1,3,4,5,8])
 (.cond (.s 31) (sQ (rG 0 [mS 0 32 8,mS 1 2 32] [2])
 .ret)
 .skip)))
 (.block 2 (sQ (rG 0 [fA 0 34 2 4,lF 1 35 34,cA 2 36 253 [(.s 35),(kI 200),(kI 4000)],o1 3 37 (.un .not (.s 36)),mS 4 38 37,oG 5 39 38 false (.faddr 3 (.s 4)),oG 6 40 38 false (.load false 1 (.s 39)),oG 7 41 38 false (.mv (.s 5)),⟨8,(some 42),(some (38,false)),.call ⟨true⟩ (.k (.c (.fn 253 [] []))) [(.s 40),(kI 1),(.s 41)]⟩,oG 9 43 38 false (.un .not (.s 42)),o1 10 44 (.pick (.s 38) (kB true) (.s 43)),mS 11 33 44] [33,4,3,1,11,12,13])
 (.cond (.s 33) (sQ (rG 0 [mI 0 2 2] [2])
 .ret)
 (sQ (rG 0 [fA 0 46 4 4,lF 1 47 46,lN 2 48 47,bI 3 49 .gtr 48 3,mS 4 45 49] [45,13,12,11,1,3,4])
 (.cond (.s 45) (sQ (rG 0 [mI 0 2 8] [2])
 .ret)
 (sQ (rG 0 [fA 0 51 4 4,lF 1 52 51,mS 2 53 3,bI 3 54 .add 53 1,fA 4 55 0 1,fA 5 56 1 55,lF 6 57 56,lN 7 58 57,cA 8 59 255 [(.s 52),(.s 54),(.s 58)],o1 9 60 (.un .not (.s 59)),mS 10 50 60] [50,1,11,12,13])
 (.cond (.s 50) (sQ (rG 0 [mI 0 2 11] [2])
 .ret)
 .skip))))))))))))
 (rG 0 [bI 0 61 .add 13 1,mS 1 13 61] [12,11,1,13]))))
abbrev zaU:Nat:=209
def zmV:CFn:={ frz:=true,rnd:=none,nargs:=1,ntmps:=62,res:=[(.slot 2)],code :=
 (sQ (rG 1 [o1 0 1 (.box 0 5 (.s 0)),mI 1 2 0] [1])
 (sQ (sQ (rG 0 [fA 0 9 0 1,fA 1 10 1 9,lF 2 11 10,lN 3 12 11,mI 4 13 0] [12,11,1,13])
 (.block 0 (.loop (some [12,11,1,13]) zkR)))
 (sQ (rG 0 [mI 0 2 0] [2])
 .ret))) }
def zjX:CC:=(sQ (rG 0 [bS 0 30 .lss 29 28] [30,29,28,10,11,12,27,4,5,1])
 (sQ (.cond (.s 30) .skip
 (.exit 2))
 (sQ (.block 3 (sQ (rG 0 [iA 0 31 1 27 29,lF 1 32 31,mS 2 7 32] [29,28,10,11,12,27,4,5,1,7])
 (sQ (sQ (rG 0 [fA 0 33 0 1,fA 1 34 1 33,mS 3 36 7,fA 7 40 0 4,lF 2 35 34,iA 4 37 5 35 36,fA 5 38 0 37,lF 6 39 38,lF 8 41 40,bS 9 42 .neq 39 41] [42,29,28,10,11,12,27,4,5,1,7])
 (.cond (.s 42) (sQ (rG 0 [mI 0 2 4] [2])
 .ret)
 .skip))
 (sQ (rG 0 [fA 0 43 0 1,fA 1 44 1 43,mS 3 46 7,lF 2 45 44,iA 4 47 5 45 46,fA 5 48 1 47,fA 6 49 0 48,lF 7 50 49,o1 8 51 (.iaddr 2 (.s 50) (kI 0)),lT 9 52 2 51,lT 10 53 2 5,o1 11 54 (.eqa true [false,false] (.s 52) (.s 53))] [54,1,5,4,27,12,11,10,28,29])
 (.cond (.s 54) (sQ (rG 0 [mI 0 2 3] [2])
 .ret)
 .skip)))))
 (rG 0 [bI 0 55 .add 29 1,mS 1 29 55] [29,28,10,11,12,27,4,5,1]))))
def zjW:CC:=(sQ (rG 0 [bS 0 13 .lss 12 11] [13,10,11,12,1])
 (sQ (.cond (.s 13) .skip
 (.exit 0))
 (sQ (.block 1 (sQ (rG 1 [iA 0 14 5 10 12,lT 1 15 5 14,o1 2 4 (.box 0 5 (.k (.a [(I 0),.nilslice,(I 0),(I 0),.nilslice]))),o0 3 (.store 5 (.s 4) (.s 15))] [10,11,12,4,1])
 (sQ (rG 1 [fA 0 16 1 4,fA 1 17 0 16,lF 2 18 17,fA 3 19 1 4,fA 4 20 0 19,lF 5 21 20,lN 6 22 21,bI 7 23 .sub 22 1,iA 8 24 2 18 23,lT 9 25 2 24,o1 10 5 (.box 0 2 (.k (.a [(I 0),(I 0)]))),o0 11 (.store 2 (.s 5) (.s 25))] [10,11,12,4,5,1])
 (sQ (rG 0 [fA 0 26 4 4,lF 1 27 26,lN 2 28 27,mI 3 29 0] [29,28,10,11,12,27,4,5,1])
 (.block 2 (.loop (some [29,28,10,11,12,27,4,5,1]) zjX))))))
 (rG 0 [bI 0 56 .add 12 1,mS 1 12 56] [11,10,12,1]))))
abbrev zaM:Nat:=210
def zmf:CFn:={ frz:=true,rnd:=none,nargs:=1,ntmps:=57,res:=[(.slot 2)],code :=
 (sQ (rG 1 [o1 0 1 (.box 0 5 (.s 0)),mI 1 2 0] [1])
 (sQ (sQ (rG 0 [fA 0 8 0 1,fA 1 9 1 8,lF 2 10 9,lN 3 11 10,mI 4 12 0] [11,10,12,1])
 (.block 0 (.loop (some [11,10,12,1]) zjW)))
 (sQ (rG 0 [mI 0 2 0] [2])
 .ret))) }
def zcM:CC:=(sQ (rG 0 [bS 0 11 .lss 10 9] [11,1,8,9,10])
 (sQ (.cond (.s 11) .skip
 (.exit 0))
 (sQ (.block 1 (sQ (rG 1 [iA 0 12 2 8 10,lT 1 13 2 12,o1 2 4 (.box 0 2 (.k (.a [(I 0),.nilslice]))),o0 3 (.store 2 (.s 4) (.s 13))] [4,1,8,9,10])
 (sQ (rG 0 [fA 0 14 1 4,lF 1 15 14,lN 2 16 15,mS 3 5 16] [4,1,8,9,10,5])
 (.block 2 (sQ (rG 0 [mS 0 18 5,bI 1 19 .eql 18 0,mS 2 17 19] [17,4,1,8,9,10,5])
 (.cond (.s 17) (sQ (rG 0 [mI 0 2 6] [2])
 .ret)
 (sQ (rG 0 [mS 0 21 5,bI 1 22 .gtr 21 6,mS 2 20 22] [20,10,9,8,1,4])
 (.cond (.s 20) (sQ (rG 0 [mI 0 2 8] [2])
 .ret)
 (sQ (rG 0 [fA 0 24 0 4,lF 1 25 24,cA 2 26 253 [(.s 25),(kI 0),(kI 1099511627776)],o1 3 27 (.un .not (.s 26)),mS 4 23 27] [23,4,1,8,9,10])
 (.cond (.s 23) (sQ (rG 0 [mI 0 2 2] [2])
 .ret)
 (sQ (rG 0 [fA 0 29 1 4,lF 1 30 29,⟨2,(some 31),none,.call ⟨true⟩ (.k (.c (.fn 239 [] []))) [(.s 30),(.k (.c (.fn 256 [] [])))]⟩,mS 3 28 31] [28,10,9,8,1,4])
 (.cond (.s 28) (sQ (rG 0 [mI 0 2 2] [2])
 .ret)
 (sQ (rG 0 [fA 0 33 1 4,lF 1 34 33,o1 2 35 (.mkfn 257 [] [(.s 1)]),cA 3 36 239 [(.s 34),(.s 35)],mS 4 32 36] [32,1,8,9,10])
 (.cond (.s 32) (sQ (rG 0 [mI 0 2 11] [2])
 .ret)
 .skip))))))))))))))
 (rG 0 [bI 0 37 .add 10 1,mS 1 10 37] [9,8,1,10]))))
abbrev zao:Nat:=211
def zeX:CFn:={ frz:=true,rnd:=none,nargs:=1,ntmps:=38,res:=[(.slot 2)],code :=
 (sQ (rG 1 [o1 0 1 (.box 0 5 (.s 0)),mI 1 2 0] [1])
 (sQ (sQ (rG 0 [fA 0 6 0 1,fA 1 7 3 6,lF 2 8 7,lN 3 9 8,mI 4 10 0] [9,8,1,10])
 (.block 0 (.loop (some [9,8,1,10]) zcM)))
 (sQ (rG 0 [mI 0 2 0] [2])
 .ret))) }
def zkQ:CC:=(sQ (rG 0 [bS 0 45 .lss 44 43] [45,6,44,43,4,13,14,15,1,42])
 (sQ (.cond (.s 45) .skip
 (.exit 3))
 (sQ (.block 4 (sQ (rG 1 [iA 0 46 4 42 44,lT 1 47 4 46,o1 2 8 (.box 0 4 (.k (.a [(I 0),(I 0),(I 0),(I 0)]))),o0 3 (.store 4 (.s 8) (.s 47))] [6,8,44,43,4,13,14,15,1,42])
 (rG 1 [mS 0 48 6,fA 1 49 0 8,lF 2 50 49,o1 3 51 (.lit 0 1 [[(I 0)]] [(0,(.s 50))]),o1 4 52 (.append 1 8 (.s 48) (.s 51)),mS 5 6 52] [44,6,43,4,13,14,15,1,42])))
 (rG 0 [bI 0 53 .add 44 1,mS 1 44 53] [6,44,43,4,13,14,15,1,42]))))
def zkP:CC:=(sQ (rG 0 [bS 0 65 .lss 64 63] [65,1,62,15,14,13,63,64])
 (sQ (.cond (.s 65) .skip
 (.exit 5))
 (sQ (.block 6 (sQ (rG 1 [iA 0 66 4 62 64,lT 1 67 4 66,o1 2 10 (.box 0 4 (.k (.a [(I 0),(I 0),(I 0),(I 0)]))),o0 3 (.store 4 (.s 10) (.s 67))] [10,1,62,15,14,13,63,64])
 (sQ (.region 0 [fA 0 68 1 10,lF 1 69 68,bI 2 70 .lss 69 0,mS 3 71 70,oG 4 72 71 false (.faddr 1 (.s 10)),oG 6 74 71 false (.faddr 2 (.s 10)),oG 5 73 71 false (.load false 1 (.s 72)),oG 7 75 71 false (.load false 1 (.s 74)),oG 8 76 71 false (.bin .geq (.s 73) (.s 75)),o1 9 77 (.pick (.s 71) (kB true) (.s 76)),mS 10 78 77,oG 11 79 78 false (.faddr 2 (.s 10)),oG 13 81 78 false (.faddr 0 (.s 1)),oG 15 83 78 false (.faddr 0 (.s 10)),oG 12 80 78 false (.load false 1 (.s 79)),oG 14 82 78 false (.load true 5 (.s 81)),oG 16 84 78 false (.load false 1 (.s 83)),⟨17,(some 85),(some (78,false)),.call ⟨true⟩ (.k (.c (.fn 215 [] []))) [(.s 82),(.s 84)]⟩,oG 18 86 78 false (.bin .gtr (.s 80) (.s 85)),o1 19 87 (.pick (.s 78) (kB true) (.s 86)),mS 20 88 87,oG 21 89 88 false (.faddr 3 (.s 10)),oG 22 90 88 false (.load false 1 (.s 89)),oG 23 91 88 false (.bin .lss (.s 90) (kI 0)),o1 24 92 (.pick (.s 88) (kB true) (.s 91)),mS 25 93 92,oG 26 94 93 false (.faddr 3 (.s 10)),oG 27 95 93 false (.load false 1 (.s 94)),oG 28 96 93 false (.bin .gtr (.s 95) (kI 100)),o1 29 97 (.pick (.s 93) (kB true) (.s 96))] [(14,17)] (some [97,1,62,15,14,13,63,64]))
 (.cond (.s 97) (sQ (rG 0 [mI 0 2 2] [2])
 .ret)
 .skip))))
 (rG 0 [bI 0 98 .add 64 1,mS 1 64 98] [63,13,14,15,62,1,64]))))
def zkO:CC:=(sQ (rG 0 [bS 0 16 .lss 15 14] [16,1,15,14,13])
 (sQ (.cond (.s 16) .skip
 (.exit 0))
 (sQ (.block 1 (sQ (rG 1 [iA 0 17 2 13 15,lT 1 18 2 17,o1 2 4 (.box 0 2 (.k (.a [.nilslice,(I 0)]))),o0 3 (.store 2 (.s 4) (.s 18))] [1,15,14,13,4])
 (sQ (sQ (rG 0 [fA 0 19 0 4,lF 1 20 19,lN 2 21 20,mS 3 5 21] [1,15,14,13,4,5])
 (.block 2 (sQ (rG 0 [mS 0 23 5,bI 1 24 .lss 23 2,mS 2 22 24] [22,1,15,14,13,4,5])
 (.cond (.s 22) (sQ (rG 0 [mI 0 2 6] [2])
 .ret)
 (sQ (rG 0 [mS 0 26 5,bI 1 27 .gtr 26 6,mS 2 25 27] [25,4,13,14,15,1])
 (.cond (.s 25) (sQ (rG 0 [mI 0 2 8] [2])
 .ret)
 (sQ (rG 0 [fA 0 29 1 4,lF 1 30 29,bI 2 31 .lss 30 0,mS 3 32 31,oG 4 33 32 false (.faddr 1 (.s 4)),oG 5 34 32 false (.load false 1 (.s 33)),oG 6 35 32 false (.faddr 0 (.s 1)),oG 7 36 32 false (.faddr 3 (.s 35)),oG 8 37 32 false (.load false 1 (.s 36)),oG 9 38 32 false (.len (.s 37)),oG 10 39 32 false (.bin .gtr (.s 34) (.s 38)),o1 11 40 (.pick (.s 32) (kB true) (.s 39)),mS 12 28 40] [28,1,15,14,13,4])
 (.cond (.s 28) (sQ (rG 0 [mI 0 2 2] [2])
 .ret)
 .skip))))))))
 (sQ (rG 1 [o1 0 6 (.newsl 0 1)] [6,4,13,14,15,1])
 (sQ (sQ (rG 0 [fA 0 41 0 4,lF 1 42 41,lN 2 43 42,mI 3 44 0] [6,44,43,4,13,14,15,1,42])
 (.block 3 (.loop (some [6,44,43,4,13,14,15,1,42]) zkQ)))
 (sQ (sQ (rG 0 [mS 0 54 6,fA 1 55 0 1,fA 2 56 1 55,lF 3 57 56,lN 4 58 57,cA 5 59 255 [(.s 54),(kI 0),(.s 58)],o1 6 60 (.un .not (.s 59))] [60,1,15,14,13,4])
 (.cond (.s 60) (sQ (rG 0 [mI 0 2 11] [2])
 .ret)
 .skip))
 (sQ (rG 0 [fA 0 61 0 4,lF 1 62 61,lN 2 63 62,mI 3 64 0] [63,13,14,15,62,1,64])
 (.block 5 (.loop (some [63,13,14,15,62,1,64]) zkP)))))))))
 (rG 0 [bI 0 99 .add 15 1,mS 1 15 99] [1,15,14,13]))))
abbrev zR:Nat:=212
def zmU:CFn:={ frz:=true,rnd:=none,nargs:=1,ntmps:=100,res:=[(.slot 2)],code :=
 (sQ (rG 1 [o1 0 1 (.box 0 5 (.s 0)),mI 1 2 0] [1])
 (sQ (sQ (rG 0 [fA 0 11 0 1,fA 1 12 2 11,lF 2 13 12,lN 3 14 13,mI 4 15 0] [1,15,14,13])
 (.block 0 (.loop (some [1,15,14,13]) zkO)))
 (sQ (rG 0 [mI 0 2 0] [2])
 .ret))) }
def zdm:CC:=(sQ (rG 0 [bS 0 13 .lss 12 11] [13,12,11,10,1])
 (sQ (.cond (.s 13) .skip
 (.exit 0))
 (sQ (.block 1 (sQ (rG 1 [iA 0 14 6 10 12,lT 1 15 6 14,o1 2 4 (.box 0 6 (.k (.a [(I 0),(I 0),(I 0),(I 0),(I 0),(I 0)]))),o0 3 (.store 6 (.s 4) (.s 15))] [12,11,10,1,4])
 (sQ (sQ (rG 0 [fA 0 16 0 4,lF 1 17 16,bI 2 18 .lss 17 0,mS 3 19 18,oG 4 20 19 false (.faddr 0 (.s 4)),oG 5 21 19 false (.load false 1 (.s 20)),oG 6 22 19 false (.faddr 0 (.s 1)),oG 7 23 19 false (.faddr 1 (.s 22)),oG 8 24 19 false (.load false 1 (.s 23)),oG 9 25 19 false (.len (.s 24)),oG 10 26 19 false (.bin .geq (.s 21) (.s 25)),o1 11 27 (.pick (.s 19) (kB true) (.s 26))] [27,12,11,10,1,4])
 (.cond (.s 27) (sQ (rG 0 [mI 0 2 7] [2])
 .ret)
 .skip))
 (sQ (rG 0 [fA 0 29 0 1,fA 1 30 1 29,lF 2 31 30,fA 3 32 0 4,lF 4 33 32,iA 5 34 5 31 33,fA 6 35 0 34,lF 7 36 35,cA 8 37 153 [(.s 36)],mS 9 28 37,eX 10 38 28 0,eX 11 39 28 1,eX 12 40 28 2,mS 13 5 38,mS 14 6 39,mS 15 7 40] [4,5,1,10,11,12])
 (sQ (.region 0 [fA 0 41 1 4,lF 1 42 41,bI 2 43 .lss 42 0,mS 3 44 43,oG 4 45 44 false (.faddr 1 (.s 4)),oG 6 47 44 false (.faddr 2 (.s 4)),oG 5 46 44 false (.load false 1 (.s 45)),oG 7 48 44 false (.load false 1 (.s 47)),oG 8 49 44 false (.bin .gtr (.s 46) (.s 48)),o1 9 50 (.pick (.s 44) (kB true) (.s 49)),mS 10 51 50,oG 11 52 51 false (.faddr 2 (.s 4)),oG 13 54 51 false (.faddr 0 (.s 1)),oG 15 56 51 false (.faddr 0 (.s 4)),oG 12 53 51 false (.load false 1 (.s 52)),oG 14 55 51 false (.load true 5 (.s 54)),oG 16 57 51 false (.load false 1 (.s 56)),⟨17,(some 58),(some (51,false)),.call ⟨true⟩ (.k (.c (.fn 215 [] []))) [(.s 55),(.s 57)]⟩,oG 18 59 51 false (.bin .gtr (.s 53) (.s 58)),o1 19 60 (.pick (.s 51) (kB true) (.s 59)),mS 20 61 60,oG 21 62 61 false (.faddr 3 (.s 4)),oG 22 63 61 false (.load false 1 (.s 62)),oG 23 64 61 false (.bin .lss (.s 63) (kI 0)),o1 24 65 (.pick (.s 61) (kB true) (.s 64)),mS 25 66 65,oG 26 67 66 false (.faddr 3 (.s 4)),oG 28 69 66 false (.faddr 4 (.s 4)),oG 27 68 66 false (.load false 1 (.s 67)),oG 29 70 66 false (.load false 1 (.s 69)),oG 30 71 66 false (.bin .geq (.s 68) (.s 70)),o1 31 72 (.pick (.s 66) (kB true) (.s 71)),mS 32 73 72,oG 33 74 73 false (.faddr 4 (.s 4)),oG 34 75 73 false (.load false 1 (.s 74)),oG 35 76 73 false (.bin .gtr (.s 75) (kI 1099511627776)),o1 36 77 (.pick (.s 73) (kB true) (.s 76)),mS 37 78 77,oG 38 79 78 false (.faddr 5 (.s 4)),oG 40 81 78 false (.mv (.s 5)),oG 39 80 78 false (.load false 1 (.s 79)),⟨41,(some 82),(some (78,false)),.call ⟨true⟩ (.k (.c (.fn 253 [] []))) [(.s 80),(kI 0),(.s 81)]⟩,oG 42 83 78 false (.un .not (.s 82)),o1 43 84 (.pick (.s 78) (kB true) (.s 83))] [(14,17)] (some [84,1,10,11,12]))
 (.cond (.s 84) (sQ (rG 0 [mI 0 2 2] [2])
 .ret)
 .skip))))))
 (rG 0 [bI 0 85 .add 12 1,mS 1 12 85] [12,11,10,1]))))
abbrev zec:Nat:=213
def zfE:CFn:={ frz:=true,rnd:=none,nargs:=1,ntmps:=86,res:=[(.slot 2)],code :=
 (sQ (rG 1 [o1 0 1 (.box 0 5 (.s 0)),mI 1 2 0] [1])
 (sQ (sQ (rG 0 [fA 0 8 0 1,fA 1 9 4 8,lF 2 10 9,lN 3 11 10,mI 4 12 0] [12,11,10,1])
 (.block 0 (.loop (some [12,11,10,1]) zdm)))
 (sQ (rG 0 [mI 0 2 0] [2])
 .ret))) }
abbrev zwZ:Nat:=214
def znA:CFn:={ frz:=true,rnd:=none,nargs:=2,ntmps:=19,res:=[(.slot 4)],code :=
 (sQ (rG 1 [o1 0 2 (.box 0 5 (.s 0)),mB 1 4 false] [1,2])
 (sQ (rG 0 [mS 0 5 1,bI 1 6 .geq 5 0,mS 2 7 6,oG 3 8 7 true (.mv (.s 1)),oG 4 9 7 true (.faddr 1 (.s 2)),oG 5 10 7 true (.load false 1 (.s 9)),oG 6 11 7 true (.len (.s 10)),oG 7 12 7 true (.bin .lss (.s 8) (.s 11)),o1 8 13 (.pick (.s 7) (.s 12) (kB false)),mS 9 14 13,oG 10 15 14 true (.load true 5 (.s 2)),⟨11,(some 16),(some (14,true)),.call ⟨true⟩ (.k (.c (.fn 150 [] []))) [(.s 15)]⟩,oG 12 17 14 true (.bin .eql (.s 16) (kI 0)),o1 13 18 (.pick (.s 14) (.s 17) (kB false)),mS 14 4 18] [4])
 .ret)) }
abbrev zkE:Nat:=215
def zh5:CFn:={ frz:=true,rnd:=none,nargs:=2,ntmps:=12,res:=[(.slot 4)],code :=
 (sQ (rG 1 [o1 0 2 (.box 0 5 (.s 0)),mI 1 4 0] [2,1])
 (sQ (rG 0 [fA 0 5 1 2,lF 1 6 5,mS 2 7 1,iA 3 8 5 6 7,fA 4 9 1 8,lT 5 10 1 9,cA 6 11 258 [(.s 10)],mS 7 4 11] [4])
 .ret)) }
def zdV:CC:=(sQ (rG 0 [bS 0 22 .lss 21 20] [22,5,21,20,19,3])
 (sQ (.cond (.s 22) .skip
 (.exit 0))
 (sQ (.block 1 (sQ (rG 1 [iA 0 23 6 19 21,lT 1 24 6 23,o1 2 7 (.box 0 6 (.k (.a [(I 0),(I 0),(I 0),(I 0),(I 0),(I 0)]))),o0 3 (.store 6 (.s 7) (.s 24))] [5,7,21,20,19,3])
 (sQ (rG 2 [lT 0 25 6 7,lT 1 26 6 7,o1 2 8 (.box 0 6 (.k (.a [(I 0),(I 0),(I 0),(I 0),(I 0),(I 0)]))),o1 3 9 (.box 1 6 (.k (.a [(I 0),(I 0),(I 0),(I 0),(I 0),(I 0)]))),o0 4 (.store 6 (.s 8) (.s 25)),o0 5 (.store 6 (.s 9) (.s 26))] [9,8,5,7,21,20,19,3])
 (sQ (rG 0 [cA 0 28 259 [(.s 7)],mS 1 27 28,eX 2 29 27 0,eX 3 30 27 1,eX 4 31 27 2,mS 5 10 29,mS 6 11 30,mS 7 12 31] [10,9,12,8,11,5,7,21,20,19,3])
 (sQ (sQ (rG 0 [mS 0 32 10,fA 1 33 0 3,lF 2 34 33,bS 3 35 .neq 32 34,mS 4 36 35,oG 5 37 36 false (.faddr 1 (.s 3)),oG 7 39 36 false (.faddr 2 (.s 3)),oG 6 38 36 false (.load false 1 (.s 37)),oG 8 40 36 false (.load false 1 (.s 39)),oG 9 41 36 false (.bin .gtr (.s 38) (.s 40)),o1 10 42 (.pick (.s 36) (kB true) (.s 41)),mS 11 43 42,oG 12 44 43 false (.faddr 1 (.s 3)),oG 14 46 43 false (.mv (.s 12)),oG 15 47 43 false (.nilck (.s 46)),oG 13 45 43 false (.load false 1 (.s 44)),oG 16 48 43 false (.load false 1 (.s 47)),oG 17 49 43 false (.bin .gtr (.s 45) (.s 48)),o1 18 50 (.pick (.s 43) (kB true) (.s 49)),mS 19 51 50,oG 20 52 51 false (.faddr 2 (.s 3)),oG 22 54 51 false (.mv (.s 11)),oG 23 55 51 false (.nilck (.s 54)),oG 21 53 51 false (.load false 1 (.s 52)),oG 24 56 51 false (.load false 1 (.s 55)),oG 25 57 51 false (.bin .lss (.s 53) (.s 56)),o1 26 58 (.pick (.s 51) (kB true) (.s 57))] [58,9,12,8,11,5,7,21,20,19,3])
 (.cond (.s 58) (sQ (rG 1 [mS 0 59 5,lT 1 60 6 7,o1 2 61 (.lit 0 6 [[(I 0),(I 0),(I 0),(I 0),(I 0),(I 0)]] [(0,(.s 60))]),o1 3 62 (.append 6 48 (.s 59) (.s 61)),mS 4 5 62] [21,5,20,19,3])
 (.exit 1))
 .skip))
 (sQ (sQ (rG 0 [fA 0 63 1 3,mS 2 65 11,nC 3 66 65,lF 1 64 63,lF 4 67 66,bS 5 68 .gtr 64 67] [68,5,8,12,9,21,20,19,3])
 (.cond (.s 68) (sQ (rG 0 [cA 0 70 259 [(.s 8)],mS 1 69 70,eX 2 71 69 0,eX 3 72 69 1,eX 4 73 69 2,mS 5 13 71,mS 6 14 72,mS 7 15 73] [15,5,8,12,9,21,20,19,3])
 (sQ (rG 0 [mS 0 74 15,fA 1 75 1 3,lF 2 76 75,bI 3 77 .sub 76 1,nC 4 78 74,o0 5 (.store 1 (.s 78) (.s 77))] [5,8,12,9,21,20,19,3])
 (rG 1 [mS 0 79 5,lT 1 80 6 8,o1 2 81 (.lit 0 6 [[(I 0),(I 0),(I 0),(I 0),(I 0),(I 0)]] [(0,(.s 80))]),o1 3 82 (.append 6 48 (.s 79) (.s 81)),mS 4 5 82] [12,5,9,21,20,19,3])))
 .skip))
 (sQ (rG 0 [fA 0 83 2 3,mS 2 85 12,nC 3 86 85,lF 1 84 83,lF 4 87 86,bS 5 88 .lss 84 87] [88,5,9,21,20,19,3])
 (.cond (.s 88) (sQ (rG 0 [cA 0 90 259 [(.s 9)],mS 1 89 90,eX 2 91 89 0,eX 3 92 89 1,eX 4 93 89 2,mS 5 16 91,mS 6 17 92,mS 7 18 93] [17,5,9,21,20,19,3])
 (sQ (rG 0 [mS 0 94 17,fA 1 95 2 3,lF 2 96 95,bI 3 97 .add 96 1,nC 4 98 94,o0 5 (.store 1 (.s 98) (.s 97))] [5,9,21,20,19,3])
 (rG 1 [mS 0 99 5,lT 1 100 6 9,o1 2 101 (.lit 0 6 [[(I 0),(I 0),(I 0),(I 0),(I 0),(I 0)]] [(0,(.s 100))]),o1 3 102 (.append 6 48 (.s 99) (.s 101)),mS 4 5 102] [21,5,20,19,3])))
 .skip))))))))
 (rG 0 [bI 0 103 .add 21 1,mS 1 21 103] [5,21,20,19,3]))))
abbrev zoa:Nat:=216
def zgM:CFn:={ frz:=true,rnd:=none,nargs:=2,ntmps:=105,res:=[(.slot 4)],code :=
 (sQ (rG 2 [o1 0 3 (.box 0 3 (.s 1)),o1 1 4 (.newsl 1 6)] [0,3])
 (sQ (rG 1 [o1 0 5 (.newsl 0 6)] [0,5,3])
 (sQ (sQ (rG 0 [mS 0 19 0,lN 1 20 19,mI 2 21 0] [5,21,20,19,3])
 (.block 0 (.loop (some [5,21,20,19,3]) zdV)))
 (sQ (rG 0 [mS 0 104 5,mS 1 4 104] [4])
 .ret)))) }
abbrev zua:Nat:=217
def zh2:CFn:={ frz:=true,rnd:=none,nargs:=2,ntmps:=31,res:=[(.slot 4)],code :=
 (sQ (rG 0 [mI 0 4 0] [1,0])
 (sQ (sQ (rG 0 [mS 0 6 0,bI 1 7 .lss 6 1,mS 2 8 7,oG 3 9 8 false (.mv (.s 1)),oG 4 10 8 false (.bin .lss (.s 9) (kI 1)),o1 5 11 (.pick (.s 8) (kB true) (.s 10))] [11,1,0])
 (.cond (.s 11) (sQ (rG 0 [mI 0 4 0] [4])
 .ret)
 .skip))
 (sQ (rG 0 [mS 0 12 0,o1 1 13 (.minmax false [(.s 12),(kI 1000000)]),mS 2 14 1,o1 3 15 (.minmax false [(.s 14),(kI 1000000)]),mS 4 0 13,mS 5 1 15] [0,1])
 (sQ (rG 0 [mS 0 16 0,bI 1 17 .sub 16 1,mS 2 18 1,bS 3 19 .quo 17 18,mS 4 5 19] [0,1,5])
 (sQ (rG 0 [mS 0 20 5,mS 1 21 0,bS 2 22 .mul 20 21,mS 3 23 1,mS 4 24 5,mS 5 25 5,bI 6 26 .add 25 1,bS 7 27 .mul 24 26,bI 8 28 .quo 27 2,bS 9 29 .mul 23 28,bS 10 30 .sub 22 29,mS 11 4 30] [4])
 .ret))))) }
def zej:CC:=(sQ (rG 0 [bS 0 26 .lss 25 24] [26,7,25,24,13,14,15,23,3,9,1,2])
 (sQ (.cond (.s 26) .skip
 (.exit 2))
 (sQ (.block 3 (sQ (rG 1 [iA 0 27 4 23 25,lT 1 28 4 27,o1 2 11 (.box 0 4 (.k (.a [(I 0),(I 0),(I 0),(I 0)]))),o0 3 (.store 4 (.s 11) (.s 28))] [7,11,25,24,13,14,15,23,3,9,1,2])
 (sQ (rG 0 [fA 0 29 0 11,lF 1 30 29,mS 2 31 1,bS 3 32 .eql 30 31,mS 4 33 32,oG 5 34 33 true (.faddr 3 (.s 3)),oG 6 35 33 true (.load false 1 (.s 34)),oG 7 36 33 true (.faddr 1 (.s 9)),oG 8 37 33 true (.load false 1 (.s 36)),oG 9 38 33 true (.bin .sub (.s 37) (kI 1)),oG 10 39 33 true (.iaddr 2 (.s 35) (.s 38)),oG 11 40 33 true (.load true 2 (.s 39)),oG 12 41 33 true (.mv (.s 1)),oG 13 42 33 true (.mv (.s 2)),⟨14,(some 43),(some (33,true)),.call ⟨true⟩ (.k (.c (.fn 249 [] []))) [(.s 40),(.s 41),(.s 42)]⟩,oG 15 44 33 true (.un .not (.s 43)),o1 16 45 (.pick (.s 33) (.s 44) (kB false))] [45,7,11,25,24,13,14,15,23,3,9,1,2])
 (.cond (.s 45) (rG 1 [mS 0 46 7,fA 1 47 1 11,lF 2 48 47,o1 3 49 (.lit 0 1 [[(I 0)]] [(0,(.s 48))]),o1 4 50 (.append 1 8 (.s 46) (.s 49)),mS 5 7 50] [25,7,24,13,14,15,23,3,9,1,2])
 .skip))))
 (rG 0 [bI 0 51 .add 25 1,mS 1 25 51] [7,25,24,13,14,15,23,3,9,1,2]))))
def zgK:CC:=(sQ (rG 0 [bS 0 16 .lss 15 14] [16,15,14,13,2,1,3,7])
 (sQ (.cond (.s 16) .skip
 (.exit 0))
 (sQ (.block 1 (sQ (rG 1 [iA 0 17 2 13 15,lT 1 18 2 17,o1 2 9 (.box 0 2 (.k (.a [.nilslice,(I 0)]))),o0 3 (.store 2 (.s 9) (.s 18))] [9,15,14,13,2,1,3,7])
 (sQ (sQ (rG 0 [fA 0 19 1 9,lF 1 20 19,bI 2 21 .eql 20 0] [21,9,15,14,13,2,1,3,7])
 (.cond (.s 21) (.exit 1)
 .skip))
 (sQ (rG 0 [fA 0 22 0 9,lF 1 23 22,lN 2 24 23,mI 3 25 0] [7,25,24,13,14,15,23,3,9,1,2])
 (.block 2 (.loop (some [7,25,24,13,14,15,23,3,9,1,2]) zej))))))
 (rG 0 [bI 0 52 .add 15 1,mS 1 15 52] [15,14,13,2,1,3,7]))))
abbrev zpy:Nat:=218
def zme:CFn:={ frz:=true,rnd:=none,nargs:=3,ntmps:=57,res:=[(.slot 6)],code :=
 (sQ (rG 2 [o1 0 3 (.box 0 5 (.s 0)),o1 1 6 (.newsl 1 1)] [2,1,3])
 (sQ (rG 1 [o1 0 7 (.newsl 0 1)] [2,1,3,7])
 (sQ (sQ (rG 0 [fA 0 12 2 3,lF 1 13 12,lN 2 14 13,mI 3 15 0] [15,14,13,2,1,3,7])
 (.block 0 (.loop (some [15,14,13,2,1,3,7]) zgK)))
 (sQ (rG 0 [mS 0 53 7,⟨1,(some 54),none,.call ⟨false⟩ (.k (.c (.fn 260 [] []))) [(.s 53)]⟩] [7])
 (sQ (rG 0 [mS 0 55 7,⟨1,(some 56),none,.call ⟨false⟩ (.k (.c (.fn 261 [] []))) [(.s 55)]⟩,mS 2 6 56] [6])
 .ret))))) }
def zU:CC:=(sQ (rG 0 [bS 0 90 .lss 89 88] [90,89,88,87,7,12,4,6,1,2,11,3])
 (sQ (.cond (.s 90) .skip
 (.exit 0))
 (sQ (.block 1 (sQ (rG 0 [iA 0 91 1 87 89,lF 1 92 91,mS 2 15 92] [15,89,88,87,7,12,4,6,1,2,11,3])
 (sQ (rG 1 [lT 0 93 6 7,o1 1 16 (.box 0 6 (.k (.a [(I 0),(I 0),(I 0),(I 0),(I 0),(I 0)]))),o0 2 (.store 6 (.s 16) (.s 93))] [15,16,89,88,87,7,12,4,6,1,2,11,3])
 (sQ (rG 0 [mS 0 94 15,fA 1 95 0 16,o0 2 (.store 1 (.s 95) (.s 94)),fA 3 96 5 16,o0 4 (.store 1 (.s 96) (kI 0))] [15,16,89,88,87,7,12,4,6,1,2,11,3])
 (sQ (rG 0 [fA 0 97 0 4,fA 1 98 5 97,lF 2 99 98,mS 3 100 15,cA 4 101 162 [(.s 99),(.s 100)],mS 5 17 101] [17,16,89,88,87,7,12,4,6,1,2,11,3])
 (sQ (rG 0 [mS 0 102 12,bI 1 103 .geq 102 0,mS 2 104 103,oG 3 105 104 true (.mv (.s 17)),oG 4 106 104 true (.mv (.s 12)),oG 5 107 104 true (.bin .add (.s 106) (kI 1)),oG 6 108 104 true (.bin .eql (.s 105) (.s 107)),o1 7 109 (.pick (.s 104) (.s 108) (kB false)),mS 8 18 109] [17,16,18,89,88,87,7,12,4,6,1,2,11,3])
 (sQ (rG 0 [mS 0 110 17,bI 1 111 .geq 110 0,mS 2 112 111,oG 3 113 112 true (.mv (.s 18)),oG 4 114 112 true (.un .not (.s 113)),o1 5 115 (.pick (.s 112) (.s 114) (kB false)),mS 6 116 115,oG 7 117 116 true (.faddr 12 (.s 4)),oG 8 118 116 true (.faddr 0 (.s 117)),oG 10 120 116 true (.faddr 0 (.s 4)),oG 11 121 116 true (.faddr 6 (.s 120)),oG 13 123 116 true (.mv (.s 17)),oG 9 119 116 true (.load false 1 (.s 118)),oG 12 122 116 true (.load false 1 (.s 121)),oG 14 124 116 true (.iaddr 1 (.s 122) (.s 123)),oG 15 125 116 true (.load false 1 (.s 124)),oG 16 126 116 true (.bin .geq (.s 119) (.s 125)),o1 17 127 (.pick (.s 116) (.s 126) (kB false)),mS 18 19 127] [16,18,19,89,88,87,7,12,4,6,1,2,11,3])
 (rG 0 [lF 0 128 6,lT 1 129 6 16,mS 2 130 1,mS 3 131 11,bS 4 132 .sub 130 131,mS 5 133 2,mS 6 134 11,bS 7 135 .sub 133 134,mS 8 136 18,mS 9 137 136,oG 10 138 137 true (.mv (.s 3)),o1 11 139 (.pick (.s 137) (.s 138) (kB false)),mS 12 140 139,oG 13 141 140 false (.mv (.s 19)),o1 14 142 (.pick (.s 140) (kB true) (.s 141)),⟨15,(some 143),none,.call ⟨true⟩ (.s 128) [(.s 129),(.s 132),(.s 135),(.s 142)]⟩] [89,88,87,7,12,4,6,1,2,11,3]))))))))
 (rG 0 [bI 0 144 .add 89 1,mS 1 89 144] [89,88,87,7,12,4,6,1,2,11,3]))))
abbrev zcg:Nat:=219
def za:CFn:={ frz:=true,rnd:=none,nargs:=7,ntmps:=145,res:=[],code :=
 (sQ (rG 1 [o1 0 7 (.box 0 6 (.s 0))] [3,5,2,1,6,4,7])
 (sQ (.region 0 [fA 0 20 0 4,fA 1 21 9 20,fA 3 23 0 7,fA 7 27 0 4,fA 8 28 5 27,fA 10 30 0 7,lF 2 22 21,lF 4 24 23,iA 5 25 1 22 24,lF 6 26 25,lF 9 29 28,lF 11 31 30,cA 12 32 162 [(.s 29),(.s 31)],mS 13 11 26,mS 14 12 32] [(6,12),(7,12),(9,12)] (some [3,5,11,2,1,6,4,12,7]))
 (sQ (rG 1 [lT 0 33 6 7,o1 1 13 (.box 0 6 (.k (.a [(I 0),(I 0),(I 0),(I 0),(I 0),(I 0)]))),o0 2 (.store 6 (.s 13) (.s 33))] [3,13,5,11,2,1,6,4,12,7])
 (sQ (rG 0 [mS 0 34 1,o1 1 35 (.minmax true [(kI 0),(.s 34)]),mS 2 36 2,mS 3 37 11,o1 4 38 (.minmax false [(.s 36),(.s 37)]),fA 5 39 1 13,o0 6 (.store 1 (.s 39) (.s 35)),fA 7 40 2 13,o0 8 (.store 1 (.s 40) (.s 38))] [3,13,5,11,2,1,6,4,12,7])
 (sQ (rG 0 [mS 0 41 3,mS 1 42 41,oG 2 43 42 true (.mv (.s 12)),oG 3 44 42 true (.bin .geq (.s 43) (kI 0)),o1 4 45 (.pick (.s 42) (.s 44) (kB false)),mS 5 3 45] [13,5,3,11,2,1,6,4,12,7])
 (sQ (sQ (rG 0 [mS 0 46 3] [46,13,5,3,11,2,1,6,4,12,7])
 (.cond (.s 46) (rG 0 [fA 0 47 2 13,fA 2 49 11 4,fA 4 51 0 4,fA 5 52 6 51,mS 7 54 12,lF 1 48 47,lF 3 50 49,lF 6 53 52,iA 8 55 1 53 54,lF 9 56 55,bS 10 57 .sub 50 56,o1 11 58 (.minmax false [(.s 48),(.s 57)]),fA 12 59 2 13,o0 13 (.store 1 (.s 59) (.s 58))] [13,5,3,11,2,1,6,4,12,7])
 .skip))
 (sQ (sQ (rG 0 [mS 0 60 1,mS 1 61 11,bS 2 62 .leq 60 61,mS 3 63 62,oG 4 64 63 true (.faddr 1 (.s 13)),oG 5 65 63 true (.load false 1 (.s 64)),oG 6 66 63 true (.faddr 2 (.s 13)),oG 7 67 63 true (.load false 1 (.s 66)),oG 8 68 63 true (.bin .leq (.s 65) (.s 67)),o1 9 69 (.pick (.s 63) (.s 68) (kB false))] [69,13,5,3,11,2,1,6,4,12,7])
 (.cond (.s 69) (rG 1 [lF 0 70 5,lT 1 71 6 13,mS 2 72 3,o1 3 73 (.build [(I 0),(I 0),(I 0),(I 0),(I 0),(I 0),(.bool false)] [(0,6,(.s 71)),(6,1,(.s 72))]),o1 4 74 (.lit 0 7 [[(I 0),(I 0),(I 0),(I 0),(I 0),(I 0),(.bool false)]] [(0,(.s 73))]),o1 5 75 (.append 7 56 (.s 70) (.s 74)),o0 6 (.store 1 (.s 5) (.s 75))] [3,11,2,1,6,4,12,7])
 .skip))
 (sQ (sQ (rG 0 [mS 0 76 2,mS 1 77 11,bS 2 78 .lss 76 77] [78,3,11,2,1,6,4,12,7])
 (.cond (.s 78) .ret
 .skip))
 (sQ (rG 0 [fA 0 79 0 4,fA 1 80 0 79,fA 2 81 1 80,lF 3 82 81,fA 4 83 0 7,lF 5 84 83,iA 6 85 5 82 84,fA 7 86 4 85,lF 8 87 86,lN 9 88 87,mI 10 89 0] [89,88,87,7,12,4,6,1,2,11,3])
 (.block 0 (.loop (some [89,88,87,7,12,4,6,1,2,11,3]) zU))))))))))) }
abbrev zpS:Nat:=221
def zpW:CFn:={ frz:=true,rnd:=none,nargs:=1,ntmps:=8,res:=[(.slot 2)],code :=
 (sQ (rG 0 [mI 0 2 0] [0])
 (sQ (.cond (kB false) (sQ (rG 0 [mS 0 3 0,o1 1 4 (.conv .u32 (.s 3)),cA 2 5 270 [(.s 4)],mS 3 2 5] [2])
 .ret)
 .skip)
 (sQ (rG 0 [mS 0 6 0,cA 1 7 271 [(.s 6)],mS 2 2 7] [2])
 .ret))) }
abbrev zhB:Nat:=222
def zhF:CFn:={ frz:=true,rnd:=none,nargs:=1,ntmps:=4,res:=[(.slot 2)],code :=
 (sQ (rG 0 [mI 0 2 0] [0])
 (sQ (sQ (rG 0 [mS 0 3 0] [3])
 (.cond (.s 3) (sQ (rG 0 [mI 0 2 1] [2])
 .ret)
 .skip))
 (sQ (rG 0 [mI 0 2 0] [2])
 .ret))) }
def zbw:CC:=(sQ (sQ (rG 0 [mS 0 16 6,mS 1 17 0,lN 2 18 17,bS 3 19 .lss 16 18] [19,5,6,1,0])
 (.cond (.s 19) .skip
 (.exit 0)))
 (sQ (.block 1 (sQ (rG 1 [mS 0 22 0,mS 1 23 6,iA 2 24 6 22 23,lT 3 25 6 24,o1 4 7 (.box 0 6 (.k (.a [(I 0),(I 0),(I 0),(I 0),(I 0),(I 0)]))),o0 5 (.store 6 (.s 7) (.s 25))] [7,5,6,1,0])
 (sQ (rG 0 [mS 0 26 1,lT 1 27 6 7,⟨2,(some 28),none,.call ⟨true⟩ (.s 26) [(.s 27)]⟩,o1 3 29 (.un .not (.s 28))] [29,7,5,6,1,0])
 (.cond (.s 29) (sQ (rG 0 [mS 0 30 0,mS 1 31 5,lT 2 32 6 7,iA 3 33 6 30 31,o0 4 (.store 6 (.s 33) (.s 32))] [5,6,1,0])
 (rG 0 [mS 0 34 5,bI 1 35 .add 34 1,mS 2 5 35] [6,5,1,0]))
 .skip))))
 (rG 0 [mS 0 20 6,bI 1 21 .add 20 1,mS 2 6 21] [5,6,1,0])))
abbrev zjk:Nat:=223
def zb6:CFn:={ frz:=false,rnd:=none,nargs:=2,ntmps:=42,res:=[(.slot 4)],code :=
 (sQ (rG 1 [o1 0 4 (.newsl 0 6)] [1,0])
 (sQ (rG 0 [mS 0 8 0,mS 1 9 1,cA 2 10 272 [(.s 8),(.s 9)],mS 3 5 10] [1,5,0])
 (sQ (sQ (rG 0 [mS 0 11 5,bI 1 12 .eql 11 (-1)] [12,1,5,0])
 (.cond (.s 12) (sQ (rG 0 [mS 0 13 0,mS 1 4 13] [4])
 .ret)
 .skip))
 (sQ (sQ (rG 0 [mS 0 14 5,bI 1 15 .add 14 1,mS 2 6 15] [5,6,1,0])
 (.block 0 (.loop (some [5,6,1,0]) zbw)))
 (sQ (rG 0 [mS 0 36 0,mS 1 37 5,o1 2 38 (.slice 6 (.s 36) (some (.s 37)) none none),o0 3 (.clear [(I 0),(I 0),(I 0),(I 0),(I 0),(I 0)] (.s 38))] [0,5])
 (sQ (rG 0 [mS 0 39 0,mS 1 40 5,o1 2 41 (.slice 6 (.s 39) none (some (.s 40)) none),mS 3 4 41] [4])
 .ret)))))) }
abbrev zmP:Nat:=224
abbrev zct:Nat:=225
def zhH:CFn:={ frz:=true,rnd:=none,nargs:=1,ntmps:=8,res:=[(.slot 2)],code :=
 (sQ (rG 1 [o1 0 1 (.box 0 6 (.s 0)),mB 1 2 false] [1])
 (sQ (rG 0 [fA 0 3 1 1,lF 1 4 3,fA 2 5 2 1,lF 3 6 5,bS 4 7 .gtr 4 6,mS 5 2 7] [2])
 .ret)) }
abbrev zhA:Nat:=226
def zcd:CFn:={ frz:=true,rnd:=none,nargs:=2,ntmps:=9,res:=[],code :=
 (rG 0 [mS 0 4 0,mS 1 5 0,lN 2 6 5,mS 3 7 1,⟨4,(some 8),none,.call ⟨false⟩ (.k (.c (.fn 273 [] []))) [(.s 4),(.s 6),(.s 7)]⟩] []) }
abbrev zdc:Nat:=227
def zhG:CFn:={ frz:=true,rnd:=none,nargs:=2,ntmps:=17,res:=[(.slot 4)],code :=
 (sQ (rG 2 [o1 0 2 (.box 0 6 (.s 0)),o1 1 3 (.box 1 6 (.s 1)),mI 2 4 0] [2,3])
 (sQ (.region 1 [fA 0 5 0 2,fA 2 7 0 3,fA 5 10 1 2,fA 7 12 1 3,lF 1 6 5,lF 3 8 7,lF 6 11 10,lF 8 13 12,cA 4 9 178 [(.s 6),(.s 8)],cA 9 14 177 [(.s 11),(.s 13)],o1 10 15 (.lit 0 1 [[(I 0)],[(I 0)]] [(0,(.s 9)),(1,(.s 14))]),cA 11 16 176 [(.s 15)],mS 12 4 16] [(6,8),(7,8)] (some [4]))
 .ret)) }
abbrev zsi:Nat:=228
def zfO:CFn:={ frz:=true,rnd:=none,nargs:=2,ntmps:=48,res:=[(.cell 4 true 6)],code :=
 (sQ (rG 3 [o1 0 2 (.box 0 6 (.s 0)),o1 1 3 (.box 1 6 (.s 1)),o1 2 4 (.box 2 6 (.k (.a [(I 0),(I 0),(I 0),(I 0),(I 0),(I 0)])))] [3,2,4])
 (sQ (.region 0 [fA 0 5 1 2,fA 2 7 1 3,fA 5 10 2 2,fA 7 12 2 3,fA 10 15 3 2,fA 12 17 3 3,fA 15 20 4 2,fA 17 22 4 3,lF 1 6 5,lF 3 8 7,lF 6 11 10,lF 8 13 12,lF 11 16 15,lF 13 18 17,lF 16 21 20,lF 18 23 22,o1 4 9 (.minmax false [(.s 6),(.s 8)]),fA 20 25 1 2,o1 9 14 (.minmax true [(.s 11),(.s 13)]),o1 14 19 (.minmax false [(.s 16),(.s 18)]),o1 19 24 (.minmax true [(.s 21),(.s 23)]),o0 21 (.store 1 (.s 25) (.s 9)),fA 22 26 2 2,o0 23 (.store 1 (.s 26) (.s 14)),fA 24 27 3 2,o0 25 (.store 1 (.s 27) (.s 19)),fA 26 28 4 2,o0 27 (.store 1 (.s 28) (.s 24))] [(11,21),(13,21),(13,23),(15,21),(15,23),(15,25)] (some [3,2,4]))
 (sQ (sQ (rG 0 [fA 0 29 5 2,lF 1 30 29,bI 2 31 .eql 30 0,mS 3 32 31,oG 4 33 32 false (.faddr 5 (.s 3)),oG 5 34 32 false (.load false 1 (.s 33)),oG 6 35 32 false (.bin .eql (.s 34) (kI 0)),o1 7 36 (.pick (.s 32) (kB true) (.s 35))] [36,3,2,4])
 (.cond (.s 36) (rG 0 [fA 0 37 5 2,o0 1 (.store 1 (.s 37) (kI 0))] [3,2,4])
 .skip))
 (sQ (sQ (rG 0 [fA 0 38 5 2,lF 1 39 38,bI 2 40 .neq 39 0] [40,3,2,4])
 (.cond (.s 40) (rG 0 [fA 0 41 5 2,lF 1 42 41,fA 2 43 5 3,lF 3 44 43,o1 4 45 (.minmax true [(.s 42),(.s 44)]),fA 5 46 5 2,o0 6 (.store 1 (.s 46) (.s 45))] [2,4])
 .skip))
 (sQ (rG 0 [lT 0 47 6 2,o0 1 (.store 6 (.s 4) (.s 47))] [4])
 .ret))))) }
abbrev zap:Nat:=239
def zh4:CFn:={ frz:=true,rnd:=none,nargs:=2,ntmps:=9,res:=[(.slot 4)],code :=
 (sQ (rG 0 [mB 0 4 false] [0,1])
 (sQ (rG 0 [mS 0 5 0,mS 1 6 1,cA 2 7 283 [(.s 5),(.s 6)],bI 3 8 .geq 7 0,mS 4 4 8] [4])
 .ret)) }
abbrev zi5:Nat:=242
def ze6:CFn:={ frz:=true,rnd:=none,nargs:=1,ntmps:=6,res:=[(.slot 2)],code :=
 (sQ (rG 0 [mB 0 2 false] [0])
 (sQ (rG 0 [mS 0 3 0,mS 1 4 0,bS 2 5 .neq 3 4,mS 3 2 5] [2])
 .ret)) }
abbrev zlc:Nat:=243
def zfU:CFn:={ frz:=true,rnd:=none,nargs:=1,ntmps:=6,res:=[(.slot 2)],code :=
 (sQ (rG 0 [mB 0 2 false] [0])
 (sQ (rG 0 [mS 0 3 0,mS 1 4 0,bS 2 5 .neq 3 4,mS 3 2 5] [2])
 .ret)) }
def zfu:CC:=(sQ (rG 0 [bS 0 17 .lss 16 15] [17,7,16,15,1,3,2,14])
 (sQ (.cond (.s 17) .skip
 (.exit 0))
 (sQ (.block 1 (sQ (rG 1 [iA 0 18 2 14 16,lT 1 19 2 18,o1 2 9 (.box 0 2 (.k (.a [(I 0),.nilslice]))),o0 3 (.store 2 (.s 9) (.s 19))] [7,9,16,15,1,3,2,14])
 (rG 0 [mS 0 20 7,fA 1 21 0 9,lF 2 22 21,bS 3 23 .add 20 22,mS 4 7 23] [16,7,15,1,3,2,14])))
 (rG 0 [bI 0 24 .add 16 1,mS 1 16 24] [7,16,15,1,3,2,14]))))
def zek:CC:=(sQ (rG 0 [bS 0 39 .lss 38 37] [39,10,38,37,36,1])
 (sQ (.cond (.s 39) .skip
 (.exit 2))
 (sQ (.block 3 (sQ (rG 1 [iA 0 40 2 36 38,lT 1 41 2 40,o1 2 12 (.box 0 2 (.k (.a [(I 0),.nilslice]))),o0 3 (.store 2 (.s 12) (.s 41))] [10,12,38,37,36,1])
 (sQ (sQ (rG 0 [mS 0 42 10,fA 1 43 0 12,lF 2 44 43,bS 3 45 .geq 42 44] [45,10,12,38,37,36,1])
 (.cond (.s 45) (sQ (rG 0 [mS 0 46 10,fA 1 47 0 12,lF 2 48 47,bS 3 49 .sub 46 48,mS 4 10 49] [38,10,37,36,1])
 (.exit 3))
 .skip))
 (sQ (rG 0 [fA 0 50 1 12,lF 1 51 50,mS 2 52 1,cA 3 53 155 [(.s 51),(.s 52)],mS 4 6 53] [6])
 .ret))))
 (rG 0 [bI 0 54 .add 38 1,mS 1 38 54] [10,38,37,36,1]))))
abbrev zsh:Nat:=249
def zhf:CFn:={ frz:=true,rnd:=none,nargs:=3,ntmps:=55,res:=[(.slot 6)],code :=
 (sQ (rG 1 [o1 0 3 (.box 0 2 (.s 0)),mB 1 6 false] [1,3,2])
 (sQ (sQ (rG 0 [mI 0 7 0] [7,1,3,2])
 (sQ (sQ (rG 0 [fA 0 13 1 3,lF 1 14 13,lN 2 15 14,mI 3 16 0] [7,16,15,1,3,2,14])
 (.block 0 (.loop (some [7,16,15,1,3,2,14]) zfu)))
 (sQ (rG 0 [fA 0 25 0 3,mS 2 27 7,mS 4 29 2,mS 5 30 7,bS 6 31 .rem 29 30,mS 8 33 7,lF 1 26 25,bS 3 28 .rem 26 27,bS 7 32 .add 28 31,bS 9 34 .rem 32 33,mS 10 10 34] [3,10,1])
 (sQ .skip
 (sQ (sQ (rG 0 [fA 0 35 1 3,lF 1 36 35,lN 2 37 36,mI 3 38 0] [10,38,37,36,1])
 (.block 2 (.loop (some [10,38,37,36,1]) zek)))
 (sQ (rG 0 [mB 0 6 false] [6])
 .ret))))))
 .skip)) }
abbrev zre:Nat:=253
def zgL:CFn:={ frz:=true,rnd:=none,nargs:=3,ntmps:=15,res:=[(.slot 6)],code :=
 (sQ (rG 0 [mB 0 6 false] [1,0,2])
 (sQ (rG 0 [mS 0 7 1,mS 1 8 0,bS 2 9 .leq 7 8,mS 3 10 9,oG 4 11 10 true (.mv (.s 0)),oG 5 12 10 true (.mv (.s 2)),oG 6 13 10 true (.bin .leq (.s 11) (.s 12)),o1 7 14 (.pick (.s 10) (.s 13) (kB false)),mS 8 6 14] [6])
 .ret)) }
def zo3:CC:=(sQ (rG 0 [bS 0 28 .lss 27 26] [28,3,1,26,27])
 (sQ (.cond (.s 28) .skip
 (.exit 1))
 (sQ (.block 2 (sQ (rG 0 [mS 0 29 27,mS 1 4 29] [4,3,1,26,27])
 (sQ (.region 1 [fA 0 30 0 1,mS 2 32 4,fA 5 35 0 1,mS 7 37 4,bI 8 38 .add 37 1,lF 1 31 30,iA 3 33 2 31 32,lT 4 34 2 33,lF 6 36 35,iA 9 39 2 36 38,lT 10 40 2 39,cA 11 41 291 [(.s 34),(.s 40)],o1 12 5 (.box 0 2 (.k (.a [(I 0),(I 0)]))),o0 13 (.store 2 (.s 5) (.s 41))] [(5,12),(7,12),(8,12),(10,12),(11,12)] (some [4,3,1,26,27,5]))
 (sQ (rG 0 [lT 0 43 2 5,lT 1 44 2 5,cA 2 45 293 [(.s 43),(.s 44)],cA 3 46 292 [(.s 45)],mS 4 42 46,eX 5 47 42 0,eX 6 48 42 1,mS 7 6 47,mS 8 7 48] [7,4,3,1,26,27,5,6])
 (sQ (.block 3 (sQ (rG 0 [mS 0 50 7,o1 1 51 (.un .not (.s 50)),mS 2 49 51] [49,4,3,1,26,27,5,6])
 (.cond (.s 49) (sQ (rG 0 [mI 0 2 3] [2])
 .ret)
 (sQ (rG 0 [mS 0 53 6,bI 1 54 .lss 53 1000,mS 2 55 54,oG 3 56 55 false (.mv (.s 6)),oG 4 57 55 false (.bin .gtr (.s 56) (kI 1048576)),o1 5 58 (.pick (.s 55) (kB true) (.s 57)),mS 6 52 58] [52,5,27,26,1,3,4])
 (.cond (.s 52) (sQ (rG 0 [mI 0 2 2] [2])
 .ret)
 (sQ (rG 0 [mS 0 60 4,bI 1 61 .gtr 60 0,mS 2 62 61,oG 3 63 62 true (.load true 2 (.s 3)),oG 4 64 62 true (.load true 2 (.s 5)),⟨5,(some 65),(some (62,true)),.call ⟨true⟩ (.k (.c (.fn 293 [] []))) [(.s 63),(.s 64)]⟩,oG 6 66 62 true (.bin .leq (.s 65) (kI 0)),o1 7 67 (.pick (.s 62) (.s 66) (kB false)),mS 8 59 67] [59,3,1,26,27,5])
 (.cond (.s 59) (sQ (rG 0 [mI 0 2 12] [2])
 .ret)
 .skip)))))))
 (rG 0 [lT 0 68 2 5,o0 1 (.store 2 (.s 3) (.s 68))] [27,26,1,3]))))))
 (rG 0 [bI 0 69 .add 27 1,mS 1 27 69] [26,1,3,27]))))
abbrev zsk:Nat:=254
def zsm:CFn:={ frz:=true,rnd:=none,nargs:=1,ntmps:=70,res:=[(.slot 2)],code :=
 (sQ (rG 1 [o1 0 1 (.box 0 1 (.s 0)),mI 1 2 0] [1])
 (sQ (.block 0 (sQ (rG 0 [fA 0 9 0 1,lF 1 10 9,lN 2 11 10,bI 3 12 .lss 11 2,mS 4 8 12] [8,1])
 (.cond (.s 8) (sQ (rG 0 [mI 0 2 6] [2])
 .ret)
 (sQ (rG 0 [fA 0 14 0 1,lF 1 15 14,lN 2 16 15,bI 3 17 .gtr 16 16,mS 4 13 17] [13,1])
 (.cond (.s 13) (sQ (rG 0 [mI 0 2 5] [2])
 .ret)
 (sQ (rG 0 [fA 0 19 0 1,lF 1 20 19,cA 2 21 290 [(.s 20)],o1 3 22 (.un .not (.s 21)),mS 4 18 22] [18,1])
 (.cond (.s 18) (sQ (rG 0 [mI 0 2 2] [2])
 .ret)
 .skip)))))))
 (sQ (rG 1 [o1 0 3 (.box 0 2 (.k (.a [(I 0),(I 0)])))] [1,3])
 (sQ (sQ (rG 0 [fA 0 23 0 1,lF 1 24 23,lN 2 25 24,bI 3 26 .sub 25 1,mI 4 27 0] [26,1,3,27])
 (.block 1 (.loop (some [26,1,3,27]) zo3)))
 (sQ (rG 0 [mI 0 2 0] [2])
 .ret))))) }
def zoe:CC:=(sQ (rG 0 [bS 0 12 .lss 11 10] [12,1,2,9,10,11])
 (sQ (.cond (.s 12) .skip
 (.exit 0))
 (sQ (.block 1 (sQ (rG 0 [iA 0 13 1 9 11,lF 1 14 13,mS 2 8 14] [1,2,9,10,11,8])
 (sQ (sQ (rG 0 [mS 0 15 8,mS 1 16 1,bS 2 17 .lss 15 16,mS 3 18 17,oG 4 19 18 false (.mv (.s 8)),oG 5 20 18 false (.mv (.s 2)),oG 6 21 18 false (.bin .geq (.s 19) (.s 20)),o1 7 22 (.pick (.s 18) (kB true) (.s 21))] [22,2,9,10,11,8])
 (.cond (.s 22) (sQ (rG 0 [mB 0 6 false] [6])
 .ret)
 .skip))
 (rG 0 [mS 0 23 8,bI 1 24 .add 23 1,mS 2 1 24] [11,1,10,9,2]))))
 (rG 0 [bI 0 25 .add 11 1,mS 1 11 25] [1,10,9,2,11]))))
def zrC:CFn:={ frz:=true,rnd:=none,nargs:=3,ntmps:=26,res:=[(.slot 6)],code :=
 (sQ (rG 0 [mB 0 6 false] [0,1,2])
 (sQ (sQ (rG 0 [mS 0 9 0,lN 1 10 9,mI 2 11 0] [1,10,9,2,11])
 (.block 0 (.loop (some [1,10,9,2,11]) zoe)))
 (sQ (rG 0 [mB 0 6 true] [6])
 .ret))) }
abbrev zc0:Nat:=256
def zjV:CFn:={ frz:=true,rnd:=none,nargs:=1,ntmps:=7,res:=[(.slot 2)],code :=
 (sQ (rG 1 [o1 0 1 (.box 0 2 (.s 0)),mB 1 2 false] [1])
 (sQ (rG 0 [fA 0 3 0 1,lF 1 4 3,cA 2 5 253 [(.s 4),(kI 1),(kI 10000)],o1 3 6 (.un .not (.s 5)),mS 4 2 6] [2])
 .ret)) }
abbrev zcZ:Nat:=257
def zjU:CFn:={ frz:=true,rnd:=none,nargs:=2,ntmps:=12,res:=[(.slot 3)],code :=
 (sQ (rG 1 [o1 0 2 (.box 0 2 (.s 0)),mB 1 3 false] [2,1])
 (sQ (rG 0 [fA 0 4 1 2,lF 1 5 4,fA 2 6 0 1,fA 3 7 1 6,lF 4 8 7,lN 5 9 8,cA 6 10 255 [(.s 5),(kI 0),(.s 9)],o1 7 11 (.un .not (.s 10)),mS 8 3 11] [3])
 .ret)) }
def zoi:CC:=(sQ (rG 0 [bS 0 10 .lss 9 8] [10,3,9,8,7])
 (sQ (.cond (.s 10) .skip
 (.exit 0))
 (sQ (.block 1 (sQ (rG 0 [iA 0 11 1 7 9,lF 1 12 11,mS 2 5 12] [3,5,9,8,7])
 (rG 0 [mS 0 13 3,mS 1 14 5,bS 2 15 .add 13 14,mS 3 3 15] [9,3,8,7])))
 (rG 0 [bI 0 16 .add 9 1,mS 1 9 16] [3,9,8,7]))))
abbrev zaw:Nat:=258
def zrG:CFn:={ frz:=true,rnd:=none,nargs:=1,ntmps:=18,res:=[(.slot 2)],code :=
 (sQ (rG 1 [o1 0 1 (.box 0 1 (.s 0)),mI 1 2 0] [1])
 (sQ (rG 0 [mI 0 3 0] [1,3])
 (sQ (sQ (rG 0 [lT 0 6 1 1,cA 1 7 294 [(.s 6)],lN 2 8 7,mI 3 9 0] [3,9,8,7])
 (.block 0 (.loop (some [3,9,8,7]) zoi)))
 (sQ (rG 0 [mS 0 17 3,mS 1 2 17] [2])
 .ret)))) }
abbrev znx:Nat:=259
def zf9:CFn:={ frz:=true,rnd:=none,nargs:=1,ntmps:=35,res:=[(.slot 2),(.slot 3),(.slot 4)],code :=
 (sQ (rG 0 [mI 0 2 0,o1 1 3 (.mv (.k (.c .nilptr))),o1 2 4 (.mv (.k (.c .nilptr)))] [0])
 (sQ (sQ (rG 0 [mS 0 7 0,o1 1 8 (.p1 (.mkif 326) (.s 7))] [8])
 (.block 0 (sQ (rG 0 [o1 0 9 (.p1 (.tass true 326 (.c .nilptr)) (.s 8)),eX 1 10 9 1,eX 2 11 9 0] [10,8,11])
 (.cond (.s 10) (sQ (rG 0 [mS 0 5 11] [5])
 (sQ (rG 0 [mS 0 12 5,nC 1 13 12,fA 2 14 0 13,mS 4 16 5,nC 5 17 16,fA 6 18 1 17,mS 7 19 5,nC 8 20 19,fA 9 21 2 20,lF 3 15 14,mS 10 2 15,mS 11 3 18,mS 12 4 21] [2,3,4])
 .ret))
 (sQ (rG 0 [o1 0 22 (.p1 (.tass true 363 (.c .nilptr)) (.s 8)),eX 1 23 22 1,eX 2 24 22 0] [23,24])
 (.cond (.s 23) (sQ (rG 0 [mS 0 6 24] [6])
 (sQ (rG 0 [mS 0 25 6,nC 1 26 25,fA 2 27 0 26,mS 4 29 6,nC 5 30 29,fA 6 31 1 30,mS 7 32 6,nC 8 33 32,fA 9 34 2 33,lF 3 28 27,mS 10 2 28,mS 11 3 31,mS 12 4 34] [2,3,4])
 .ret))
 .skip))))))
 (sQ (rG 0 [mI 0 2 0,o1 1 3 (.mv (.k (.c .nilptr))),o1 2 4 (.mv (.k (.c .nilptr)))] [2,3,4])
 .ret))) }
abbrev zmO:Nat:=260
def zfD:CFn:={ frz:=true,rnd:=none,nargs:=1,ntmps:=11,res:=[],code :=
 (sQ (rG 0 [mS 0 3 0,lN 1 4 3,mS 2 2 4] [0,2])
 (rG 0 [mS 0 5 0,mS 1 6 2,mS 2 7 2,o1 3 8 (.conv .u64 (.s 7)),cA 4 9 221 [(.s 8)],⟨5,(some 10),none,.call ⟨false⟩ (.k (.c (.fn 295 [] []))) [(.s 5),(kI 0),(.s 6),(.s 9)]⟩] [])) }
def ziL:CC:=(sQ (sQ (rG 0 [mS 0 29 5,mS 1 30 4,lN 2 31 30,bS 3 32 .lss 29 31] [32,3,5,0,4])
 (.cond (.s 32) .skip
 (.exit 2)))
 (sQ (.block 3 (sQ (rG 0 [mS 0 35 4,mS 1 36 5,iA 2 37 1 35 36,mS 4 39 4,mS 5 40 5,bI 6 41 .sub 40 1,iA 7 42 1 39 41,lF 3 38 37,lF 8 43 42,bS 9 44 .neq 38 43] [44,3,5,0,4])
 (.cond (.s 44) (sQ (rG 0 [mS 0 45 0,mS 1 46 3,mS 2 47 4,mS 3 48 5,iA 4 49 1 47 48,lF 5 50 49,iA 6 51 1 45 46,o0 7 (.store 1 (.s 51) (.s 50))] [3,5,0,4])
 (rG 0 [mS 0 52 3,bI 1 53 .add 52 1,mS 2 3 53] [5,3,0,4]))
 .skip)))
 (rG 0 [mS 0 33 5,bI 1 34 .add 33 1,mS 2 5 34] [3,5,0,4])))
def zcu:CC:=(sQ (sQ (rG 0 [mS 0 10 3,mS 1 11 0,lN 2 12 11,bS 3 13 .lss 10 12] [13,3,0])
 (.cond (.s 13) .skip
 (.exit 0)))
 (sQ (.block 1 (sQ (rG 0 [mS 0 16 0,mS 1 17 3,iA 2 18 1 16 17,mS 4 20 0,mS 5 21 3,bI 6 22 .sub 21 1,iA 7 23 1 20 22,lF 3 19 18,lF 8 24 23,bS 9 25 .eql 19 24] [25,3,0])
 (.cond (.s 25) (sQ (rG 0 [mS 0 26 0,mS 1 27 3,o1 2 28 (.slice 1 (.s 26) (some (.s 27)) none none),mS 3 4 28] [3,0,4])
 (sQ (sQ (rG 0 [mI 0 5 1] [3,5,0,4])
 (.block 2 (.loop (some [3,5,0,4]) ziL)))
 (sQ (rG 0 [mS 0 54 0,mS 1 55 3,o1 2 56 (.slice 1 (.s 54) (some (.s 55)) none none),o0 3 (.clear [(I 0)] (.s 56))] [0,3])
 (sQ (rG 0 [mS 0 57 0,mS 1 58 3,o1 2 59 (.slice 1 (.s 57) none (some (.s 58)) none),mS 3 2 59] [2])
 .ret))))
 .skip)))
 (rG 0 [mS 0 14 3,bI 1 15 .add 14 1,mS 2 3 15] [3,0])))
abbrev zkD:Nat:=261
def zdl:CFn:={ frz:=false,rnd:=none,nargs:=1,ntmps:=61,res:=[(.slot 2)],code :=
 (sQ (rG 1 [o1 0 2 (.newsl 0 1)] [0])
 (sQ (sQ (rG 0 [mS 0 6 0,lN 1 7 6,bI 2 8 .lss 7 2] [8,0])
 (.cond (.s 8) (sQ (rG 0 [mS 0 9 0,mS 1 2 9] [2])
 .ret)
 .skip))
 (sQ (sQ (rG 0 [mI 0 3 1] [3,0])
 (.block 0 (.loop (some [3,0]) zcu)))
 (sQ (rG 0 [mS 0 60 0,mS 1 2 60] [2])
 .ret)))) }
def zog:CFn:={ frz:=true,rnd:=none,nargs:=1,ntmps:=19,res:=[(.slot 2)],code :=
 (sQ (rG 0 [mI 0 2 0] [2,0])
 (sQ (sQ (rG 0 [mS 0 3 0,o1 1 4 (.bin .geq (.s 3) (.k (.c (.int .u32 65536))))] [4,2,0])
 (.cond (.s 4) (sQ (rG 0 [mS 0 5 0,o1 1 6 (.bin .shr (.s 5) (.k (.c (.int .u64 16)))),mS 2 0 6] [0])
 (rG 0 [mI 0 2 16] [0,2]))
 .skip))
 (sQ (sQ (rG 0 [mS 0 7 0,o1 1 8 (.bin .geq (.s 7) (.k (.c (.int .u32 256))))] [8,0,2])
 (.cond (.s 8) (sQ (rG 0 [mS 0 9 0,o1 1 10 (.bin .shr (.s 9) (.k (.c (.int .u64 8)))),mS 2 0 10] [2,0])
 (rG 0 [mS 0 11 2,bI 1 12 .add 11 8,mS 2 2 12] [2,0]))
 .skip))
 (sQ (rG 0 [mS 0 13 2,mS 1 14 0,o1 2 15 (.conv .u8 (.s 14)),⟨3,(some 16),none,.p2 .sidx (.k (.c (.str ⟨#[0,1,2,2,3,3,3,3,4,4,4,4,4,4,4,4,5,5,5,5,5,5,5,5,5,5,5,5,5,5,5,5,6,6,6,6,6,6,6,6,6,6,6,6,6,6,6,6,6,6,6,6,6,6,6,6,6,6,6,6,6,6,6,6,7,7,7,7,7,7,7,7,7,7,7,7,7,7,7,7,7,7,7,7,7,7,7,7,7,7,7,7,7,7,7,7,7,7,7,7,7,7,7,7,7,7,7,7,7,7,7,7,7,7,7,7,7,7,7,7,7,7,7,7,7,7,7,7,8,8,8,8,8,8,8,8,8,8,8,8,8,8,8,8,8,8,8,8,8,8,8,8,8,8,8,8,8,8,8,8,8,8,8,8,8,8,8,8,8,8,8,8,8,8,8,8,8,8,8,8,8,8,8,8,8,8,8,8,8,8,8,8,8,8,8,8,8,8,8,8,8,8,8,8,8,8,8,8,8,8,8,8,8,8,8,8,8,8,8,8,8,8,8,8,8,8,8,8,8,8,8,8,8,8,8,8,8,8,8,8,8,8,8,8,8,8,8,8,8,8,8,8,8,8,8,8]⟩))) (.s 15)⟩,o1 4 17 (.conv .i64 (.s 16)),bS 5 18 .add 13 17,mS 6 2 18] [2])
 .ret)))) }
def zof:CFn:={ frz:=true,rnd:=none,nargs:=1,ntmps:=25,res:=[(.slot 2)],code :=
 (sQ (rG 0 [mI 0 2 0] [2,0])
 (sQ (sQ (rG 0 [mS 0 3 0,o1 1 4 (.bin .geq (.s 3) (.k (.c (.int .u64 4294967296))))] [4,2,0])
 (.cond (.s 4) (sQ (rG 0 [mS 0 5 0,o1 1 6 (.bin .shr (.s 5) (.k (.c (.int .u64 32)))),mS 2 0 6] [0])
 (rG 0 [mI 0 2 32] [0,2]))
 .skip))
 (sQ (sQ (rG 0 [mS 0 7 0,o1 1 8 (.bin .geq (.s 7) (.k (.c (.int .u64 65536))))] [8,0,2])
 (.cond (.s 8) (sQ (rG 0 [mS 0 9 0,o1 1 10 (.bin .shr (.s 9) (.k (.c (.int .u64 16)))),mS 2 0 10] [2,0])
 (rG 0 [mS 0 11 2,bI 1 12 .add 11 16,mS 2 2 12] [0,2]))
 .skip))
 (sQ (sQ (rG 0 [mS 0 13 0,o1 1 14 (.bin .geq (.s 13) (.k (.c (.int .u64 256))))] [14,0,2])
 (.cond (.s 14) (sQ (rG 0 [mS 0 15 0,o1 1 16 (.bin .shr (.s 15) (.k (.c (.int .u64 8)))),mS 2 0 16] [2,0])
 (rG 0 [mS 0 17 2,bI 1 18 .add 17 8,mS 2 2 18] [2,0]))
 .skip))
 (sQ (rG 0 [mS 0 19 2,mS 1 20 0,o1 2 21 (.conv .u8 (.s 20)),⟨3,(some 22),none,.p2 .sidx (.k (.c (.str ⟨#[0,1,2,2,3,3,3,3,4,4,4,4,4,4,4,4,5,5,5,5,5,5,5,5,5,5,5,5,5,5,5,5,6,6,6,6,6,6,6,6,6,6,6,6,6,6,6,6,6,6,6,6,6,6,6,6,6,6,6,6,6,6,6,6,7,7,7,7,7,7,7,7,7,7,7,7,7,7,7,7,7,7,7,7,7,7,7,7,7,7,7,7,7,7,7,7,7,7,7,7,7,7,7,7,7,7,7,7,7,7,7,7,7,7,7,7,7,7,7,7,7,7,7,7,7,7,7,7,8,8,8,8,8,8,8,8,8,8,8,8,8,8,8,8,8,8,8,8,8,8,8,8,8,8,8,8,8,8,8,8,8,8,8,8,8,8,8,8,8,8,8,8,8,8,8,8,8,8,8,8,8,8,8,8,8,8,8,8,8,8,8,8,8,8,8,8,8,8,8,8,8,8,8,8,8,8,8,8,8,8,8,8,8,8,8,8,8,8,8,8,8,8,8,8,8,8,8,8,8,8,8,8,8,8,8,8,8,8,8,8,8,8,8,8,8,8,8,8,8,8,8,8,8,8,8,8]⟩))) (.s 21)⟩,o1 4 23 (.conv .i64 (.s 22)),bS 5 24 .add 19 23,mS 6 2 24] [2])
 .ret))))) }
def zbF:CC:=(sQ (rG 0 [bS 0 9 .lss 8 7] [9,0,1,7,8])
 (sQ (.cond (.s 9) .skip
 (.exit 0))
 (sQ (.block 1 (sQ (rG 0 [mS 0 10 8,mS 1 5 10] [0,1,7,8,5])
 (sQ (rG 0 [mS 0 11 1,mS 1 12 0,mS 2 13 5,iA 3 14 6 12 13,lT 4 15 6 14,⟨5,(some 16),none,.call ⟨true⟩ (.s 11) [(.s 15)]⟩] [16,0,1,7,8,5])
 (.cond (.s 16) (sQ (rG 0 [mS 0 17 5,mS 1 4 17] [4])
 .ret)
 .skip))))
 (rG 0 [bI 0 18 .add 8 1,mS 1 8 18] [7,1,0,8]))))
abbrev zjK:Nat:=272
def zc2:CFn:={ frz:=true,rnd:=none,nargs:=2,ntmps:=19,res:=[(.slot 4)],code :=
 (sQ (rG 0 [mI 0 4 0] [1,0])
 (sQ (sQ (rG 0 [mS 0 6 0,lN 1 7 6,mI 2 8 0] [7,1,0,8])
 (.block 0 (.loop (some [7,1,0,8]) zbF)))
 (sQ (rG 0 [mI 0 4 (-1)] [4])
 .ret))) }
def zbO:CC:=(sQ (sQ (rG 0 [mS 0 11 8,mS 1 12 1,bS 2 13 .leq 11 12] [13,7,8,1,0,2,6])
 (.cond (.s 13) .skip
 (.exit 0)))
 (.block 1 (sQ (rG 0 [mS 0 14 0,mS 1 15 7,mS 2 16 8,mS 3 17 2,⟨4,(some 18),none,.call ⟨false⟩ (.k (.c (.fn 301 [] []))) [(.s 14),(.s 15),(.s 16),(.s 17)]⟩] [8,1,0,2,6])
 (sQ (rG 0 [mS 0 19 8,mS 1 7 19] [8,7,1,0,2,6])
 (rG 0 [mS 0 20 8,mS 1 21 6,bS 2 22 .add 20 21,mS 3 8 22] [7,8,1,0,2,6])))))
def zbN:CC:=(sQ (sQ (rG 0 [mS 0 33 8,mS 1 34 1,bS 2 35 .leq 33 34] [35,7,8,1,0,2,6])
 (.cond (.s 35) .skip
 (.exit 4)))
 (.block 5 (sQ (rG 0 [mS 0 36 0,mS 1 37 7,mS 2 38 7,mS 3 39 6,bS 4 40 .add 38 39,mS 5 41 8,mS 6 42 2,⟨7,(some 43),none,.call ⟨false⟩ (.k (.c (.fn 302 [] []))) [(.s 36),(.s 37),(.s 40),(.s 41),(.s 42)]⟩] [8,1,0,2,6])
 (sQ (rG 0 [mS 0 44 8,mS 1 7 44] [8,7,1,0,2,6])
 (rG 0 [mS 0 45 8,mS 1 46 6,o1 2 47 (.bin .mul (kI 2) (.s 46)),bS 3 48 .add 45 47,mS 4 8 48] [7,8,1,0,2,6])))))
def zaO:CC:=(sQ (sQ (rG 0 [mS 0 28 6,mS 1 29 1,bS 2 30 .lss 28 29] [30,1,0,2,6])
 (.cond (.s 30) .skip
 (.exit 2)))
 (.block 3 (sQ (rG 0 [mS 0 31 6,o1 1 32 (.bin .mul (kI 2) (.s 31)),mI 2 7 0,mS 3 8 32] [7,8,1,0,2,6])
 (sQ (.block 4 (.loop (some [7,8,1,0,2,6]) zbN))
 (sQ (sQ (rG 0 [mS 0 49 7,mS 1 50 6,bS 2 51 .add 49 50,mS 3 9 51] [7,9,6,1,0,2])
 (sQ (rG 0 [mS 0 52 9,mS 1 53 1,bS 2 54 .lss 52 53] [54,7,9,6,1,0,2])
 (.cond (.s 54) (rG 0 [mS 0 55 0,mS 1 56 7,mS 2 57 9,mS 3 58 1,mS 4 59 2,⟨5,(some 60),none,.call ⟨false⟩ (.k (.c (.fn 302 [] []))) [(.s 55),(.s 56),(.s 57),(.s 58),(.s 59)]⟩] [6,1,0,2])
 .skip)))
 (rG 0 [mS 0 61 6,bI 1 62 .mul 61 2,mS 2 6 62] [1,0,2,6]))))))
abbrev zhZ:Nat:=273
def zdj:CFn:={ frz:=true,rnd:=none,nargs:=3,ntmps:=63,res:=[],code :=
 (sQ (rG 0 [mI 0 6 20] [1,0,2,6])
 (sQ (rG 0 [mS 0 10 6,mI 1 7 0,mS 2 8 10] [7,8,1,0,2,6])
 (sQ (.block 0 (.loop (some [7,8,1,0,2,6]) zbO))
 (sQ (rG 0 [mS 0 23 0,mS 1 24 7,mS 2 25 1,mS 3 26 2,⟨4,(some 27),none,.call ⟨false⟩ (.k (.c (.fn 301 [] []))) [(.s 23),(.s 24),(.s 25),(.s 26)]⟩] [1,0,2,6])
 (.block 2 (.loop (some [1,0,2,6]) zaO)))))) }
def zh3:CC:=(sQ (rG 0 [bS 0 9 .lss 8 7] [9,0,1,7,8])
 (sQ (.cond (.s 9) .skip
 (.exit 0))
 (sQ (.block 1 (sQ (rG 0 [mS 0 10 8,mS 1 5 10] [0,1,7,8,5])
 (sQ (rG 0 [mS 0 11 1,mS 1 12 0,mS 2 13 5,iA 3 14 2 12 13,lT 4 15 2 14,⟨5,(some 16),none,.call ⟨true⟩ (.s 11) [(.s 15)]⟩] [16,0,1,7,8,5])
 (.cond (.s 16) (sQ (rG 0 [mS 0 17 5,mS 1 4 17] [4])
 .ret)
 .skip))))
 (rG 0 [bI 0 18 .add 8 1,mS 1 8 18] [7,1,0,8]))))
def zjo:CFn:={ frz:=true,rnd:=none,nargs:=2,ntmps:=19,res:=[(.slot 4)],code :=
 (sQ (rG 0 [mI 0 4 0] [1,0])
 (sQ (sQ (rG 0 [mS 0 6 0,lN 1 7 6,mI 2 8 0] [7,1,0,8])
 (.block 0 (.loop (some [7,1,0,8]) zh3)))
 (sQ (rG 0 [mI 0 4 (-1)] [4])
 .ret))) }
def zpY:CC:=(sQ (rG 0 [bS 0 8 .lss 7 6] [8,5,6,7])
 (sQ (.cond (.s 8) .skip
 (.exit 0))
 (sQ (.block 1 (sQ (rG 1 [iA 0 9 2 5 7,lT 1 10 2 9,o1 2 4 (.box 0 2 (.k (.a [(I 0),(I 0)]))),o0 3 (.store 2 (.s 4) (.s 10))] [4,5,6,7])
 (sQ (rG 0 [fA 0 11 0 4,lF 1 12 11,fA 2 13 1 4,lF 3 14 13,o1 4 15 (.minmax false [(.s 12),(.s 14)]),bI 5 16 .lss 15 (-16777216),mS 6 17 16,oG 7 18 17 false (.faddr 0 (.s 4)),oG 8 19 17 false (.load false 1 (.s 18)),oG 9 20 17 false (.faddr 1 (.s 4)),oG 10 21 17 false (.load false 1 (.s 20)),oG 11 22 17 false (.minmax true [(.s 19),(.s 21)]),oG 12 23 17 false (.bin .gtr (.s 22) (kI 16777216)),o1 13 24 (.pick (.s 17) (kB true) (.s 23))] [24,5,6,7])
 (.cond (.s 24) (sQ (rG 0 [mB 0 2 false] [2])
 .ret)
 .skip))))
 (rG 0 [bI 0 25 .add 7 1,mS 1 7 25] [6,5,7]))))
def zuo:CFn:={ frz:=true,rnd:=none,nargs:=1,ntmps:=26,res:=[(.slot 2)],code :=
 (sQ (rG 0 [mB 0 2 false] [0])
 (sQ (sQ (rG 0 [mS 0 5 0,lN 1 6 5,mI 2 7 0] [6,5,7])
 (.block 0 (.loop (some [6,5,7]) zpY)))
 (sQ (rG 0 [mB 0 2 true] [2])
 .ret))) }
def zun:CFn:={ frz:=true,rnd:=none,nargs:=2,ntmps:=16,res:=[(.cell 4 true 2)],code :=
 (sQ (rG 3 [o1 0 2 (.box 0 2 (.s 0)),o1 1 3 (.box 1 2 (.s 1)),o1 2 4 (.box 2 2 (.k (.a [(I 0),(I 0)])))] [3,2,4])
 (sQ (rG 0 [fA 0 5 0 3,lF 1 6 5,fA 2 7 0 2,lF 3 8 7,bS 4 9 .sub 6 8,fA 5 10 1 3,lF 6 11 10,fA 7 12 1 2,lF 8 13 12,bS 9 14 .sub 11 13,o1 10 15 (.build [(I 0),(I 0)] [(0,1,(.s 9)),(1,1,(.s 14))]),o0 11 (.store 2 (.s 4) (.s 15))] [4])
 .ret)) }
def zpX:CC:=(sQ (sQ (rG 0 [mS 0 7 4,mS 1 8 5,bS 2 9 .lss 7 8] [9,4,5,0])
 (.cond (.s 9) .skip
 (.exit 0)))
 (.block 1 (sQ (rG 0 [mS 0 10 4,mS 1 11 5,bS 2 12 .add 10 11,bI 3 13 .quo 12 2,mS 4 6 13] [4,6,5,0])
 (sQ (rG 0 [mS 0 14 6,mS 1 15 6,bS 2 16 .mul 14 15,mS 3 17 0,bS 4 18 .lss 16 17] [18,4,6,5,0])
 (.cond (.s 18) (rG 0 [mS 0 19 6,bI 1 20 .add 19 1,mS 2 4 20] [4,5,0])
 (rG 0 [mS 0 21 6,mS 1 5 21] [4,5,0]))))))
abbrev zud:Nat:=292
def zum:CFn:={ frz:=true,rnd:=none,nargs:=1,ntmps:=28,res:=[(.slot 2),(.slot 3)],code :=
 (sQ (rG 0 [mI 0 2 0,mB 1 3 false] [0])
 (sQ (rG 0 [mI 0 4 0,mI 1 5 67108864] [4,5,0])
 (sQ (.block 0 (.loop (some [4,5,0]) zpX))
 (sQ (rG 0 [mS 0 22 4,mS 1 23 4,mS 2 24 4,bS 3 25 .mul 23 24,mS 4 26 0,bS 5 27 .eql 25 26,mS 6 2 22,mS 7 3 27] [2,3])
 .ret)))) }
def znB:CFn:={ frz:=true,rnd:=none,nargs:=2,ntmps:=16,res:=[(.slot 4)],code :=
 (sQ (rG 2 [o1 0 2 (.box 0 2 (.s 0)),o1 1 3 (.box 1 2 (.s 1)),mI 2 4 0] [2,3])
 (sQ (rG 0 [fA 0 5 0 2,lF 1 6 5,fA 2 7 0 3,lF 3 8 7,bS 4 9 .mul 6 8,fA 5 10 1 2,lF 6 11 10,fA 7 12 1 3,lF 8 13 12,bS 9 14 .mul 11 13,bS 10 15 .add 9 14,mS 11 4 15] [4])
 .ret)) }
def zrF:CFn:={ frz:=true,rnd:=none,nargs:=1,ntmps:=19,res:=[(.slot 2)],code :=
 (sQ (rG 2 [o1 0 1 (.box 0 1 (.s 0)),o1 1 2 (.newsl 1 1)] [2,1])
 (sQ (sQ (rG 0 [lT 0 6 1 1,cA 1 7 254 [(.s 6)],bI 2 8 .neq 7 0] [8,2,1])
 (.cond (.s 8) (sQ (rG 1 [o1 0 2 (.newsl 0 1)] [2])
 .ret)
 .skip))
 (sQ (rG 1 [o1 0 3 (.box 0 1 (.k (.a [.nilslice])))] [1,2,3])
 (sQ (sQ (rG 0 [lT 0 9 1 1,cA 1 10 305 [(.s 9)]] [2,10,3])
 (.block 0 (.rng (.s 10) 5046 [3])))
 (sQ (rG 0 [lF 0 18 3,mS 1 2 18] [2])
 .ret))))) }
def zoh:CFn:={ frz:=false,rnd:=(some ([11,12],(rG 1 [o1 0 5 (.box 0 6 (.k (.a [(I 0),(I 0),(I 0),(I 0),(I 0),(I 0)]))),o0 1 (.store 6 (.s 5) (.s 12))] [5,3]))),nargs:=3,ntmps:=19,res:=[],code :=
 (.block 1 (rG 1 [lF 0 13 3,fA 1 14 4 5,lF 2 15 14,o1 3 16 (.lit 0 1 [[(I 0)]] [(0,(.s 15))]),o1 4 17 (.append 1 8 (.s 13) (.s 16)),o0 5 (.store 1 (.s 3) (.s 17))] [])) }
def zcm:CC:=(.block 1 (sQ (rG 0 [mS 0 19 2,mS 1 20 1,bS 2 21 .sub 19 20,mS 3 10 21] [3,9,8,10,0,1,2])
 (sQ (sQ (rG 0 [mS 0 22 10,bI 1 23 .leq 22 12] [23,3,9,8,10,0,1,2])
 (.cond (.s 23) (sQ (rG 0 [mS 0 24 0,mS 1 25 1,mS 2 26 2,⟨3,(some 27),none,.call ⟨false⟩ (.k (.c (.fn 306 [] []))) [(.s 24),(.s 25),(.s 26)]⟩] [])
 .ret)
 .skip))
 (sQ (sQ (rG 0 [mS 0 28 3,bI 1 29 .eql 28 0] [29,10,8,9,3,0,1,2])
 (.cond (.s 29) (sQ (rG 0 [mS 0 30 0,mS 1 31 1,mS 2 32 2,⟨3,(some 33),none,.call ⟨false⟩ (.k (.c (.fn 307 [] []))) [(.s 30),(.s 31),(.s 32)]⟩] [])
 .ret)
 .skip))
 (sQ (sQ (rG 0 [mS 0 34 8,o1 1 35 (.un .not (.s 34))] [35,3,2,0,9,8,1,10])
 (.cond (.s 35) (sQ (rG 0 [mS 0 36 0,mS 1 37 1,mS 2 38 2,⟨3,(some 39),none,.call ⟨false⟩ (.k (.c (.fn 308 [] []))) [(.s 36),(.s 37),(.s 38)]⟩] [3,2,0,9,8,1,10])
 (rG 0 [mS 0 40 3,bI 1 41 .sub 40 1,mS 2 3 41] [2,0,9,8,3,1,10]))
 .skip))
 (sQ (rG 0 [mS 0 43 0,mS 1 44 1,mS 2 45 2,⟨3,(some 46),none,.call ⟨false⟩ (.k (.c (.fn 309 [] []))) [(.s 43),(.s 44),(.s 45)]⟩,mS 4 42 46,eX 5 47 42 0,eX 6 48 42 1,mS 7 11 47,mS 8 12 48] [12,11,2,0,9,8,3,1,10])
 (sQ (sQ (rG 0 [mS 0 49 12,bI 1 50 .eql 49 2] [50,12,11,2,0,9,8,3,1,10])
 (.cond (.s 50) (sQ (rG 0 [mS 0 51 0,mS 1 52 1,mS 2 53 2,⟨3,(some 54),none,.call ⟨false⟩ (.k (.c (.fn 310 [] []))) [(.s 51),(.s 52),(.s 53)]⟩] [11,2,0,9,8,3,1,10])
 (sQ (rG 0 [mS 0 55 2,bI 1 56 .sub 55 1,mS 2 57 11,mS 3 58 1,bS 4 59 .sub 57 58,bS 5 60 .sub 56 59,mS 6 11 60] [2,0,9,8,3,11,1,10])
 (rG 0 [mI 0 12 1] [12,2,0,9,8,3,11,1,10])))
 .skip))
 (sQ (sQ (rG 0 [mS 0 61 8,mS 1 62 61,oG 2 63 62 true (.mv (.s 9)),o1 3 64 (.pick (.s 62) (.s 63) (kB false)),mS 4 65 64,oG 5 66 65 true (.mv (.s 12)),oG 6 67 65 true (.bin .eql (.s 66) (kI 1)),o1 7 68 (.pick (.s 65) (.s 67) (kB false))] [68,2,0,9,8,3,11,1,10])
 (.cond (.s 68) (sQ (rG 0 [mS 0 69 0,mS 1 70 1,mS 2 71 2,⟨3,(some 72),none,.call ⟨false⟩ (.k (.c (.fn 311 [] []))) [(.s 69),(.s 70),(.s 71)]⟩] [72,2,0,9,8,3,11,1,10])
 (.cond (.s 72) .ret
 .skip))
 .skip))
 (sQ (sQ (rG 0 [mS 0 73 1,bI 1 74 .gtr 73 0,mS 2 75 74,oG 3 76 75 true (.mv (.s 0)),oG 4 77 75 true (.mv (.s 1)),oG 5 78 75 true (.bin .sub (.s 77) (kI 1)),oG 6 79 75 true (.iaddr 1 (.s 76) (.s 78)),oG 8 81 75 true (.mv (.s 0)),oG 9 82 75 true (.mv (.s 11)),oG 10 83 75 true (.iaddr 1 (.s 81) (.s 82)),oG 7 80 75 true (.load false 1 (.s 79)),oG 11 84 75 true (.load false 1 (.s 83)),⟨12,(some 85),(some (75,true)),.call ⟨true⟩ (.k (.c (.fn 312 [] []))) [(.s 80),(.s 84)]⟩,oG 13 86 75 true (.un .not (.s 85)),o1 14 87 (.pick (.s 75) (.s 86) (kB false))] [87,10,1,11,3,8,9,0,2])
 (.cond (.s 87) (sQ (rG 0 [mS 0 88 0,mS 1 89 1,mS 2 90 2,mS 3 91 11,⟨4,(some 92),none,.call ⟨false⟩ (.k (.c (.fn 313 [] []))) [(.s 88),(.s 89),(.s 90),(.s 91)]⟩,mS 5 13 92] [13,3,8,9,0,2])
 (sQ (rG 0 [mS 0 93 13,mS 1 1 93] [3,8,9,0,1,2])
 (.exit 1)))
 .skip))
 (sQ (rG 0 [mS 0 95 0,mS 1 96 1,mS 2 97 2,mS 3 98 11,⟨4,(some 99),none,.call ⟨false⟩ (.k (.c (.fn 314 [] []))) [(.s 95),(.s 96),(.s 97),(.s 98)]⟩,mS 5 94 99,eX 6 100 94 0,eX 7 101 94 1,mS 8 14 100,mS 9 15 101] [15,10,1,14,3,0,2])
 (sQ (rG 0 [mS 0 102 15,mS 1 9 102] [10,1,14,3,9,0,2])
 (sQ (rG 0 [mS 0 103 14,mS 1 104 1,bS 2 105 .sub 103 104,mS 3 106 2,mS 4 107 14,bS 5 108 .sub 106 107,mS 6 16 105,mS 7 17 108] [10,17,16,1,14,3,9,0,2])
 (sQ (rG 0 [mS 0 109 10,bI 1 110 .quo 109 8,mS 2 18 110] [17,16,18,1,14,3,9,0,2])
 (sQ (rG 0 [mS 0 111 16,mS 1 112 17,bS 2 113 .lss 111 112] [113,17,16,18,1,14,3,9,0,2])
 (.cond (.s 113) (sQ (rG 0 [mS 0 114 16,mS 1 115 18,bS 2 116 .geq 114 115,mS 3 8 116] [1,14,3,8,9,0,2])
 (sQ (rG 0 [mS 0 117 0,mS 1 118 1,mS 2 119 14,mS 3 120 3,⟨4,(some 121),none,.call ⟨false⟩ (.k (.c (.fn 295 [] []))) [(.s 117),(.s 118),(.s 119),(.s 120)]⟩] [14,3,8,9,0,2])
 (rG 0 [mS 0 122 14,bI 1 123 .add 122 1,mS 2 1 123] [3,8,9,0,1,2])))
 (sQ (rG 0 [mS 0 124 17,mS 1 125 18,bS 2 126 .geq 124 125,mS 3 8 126] [2,14,3,8,9,0,1])
 (sQ (rG 0 [mS 0 127 0,mS 1 128 14,bI 2 129 .add 128 1,mS 3 130 2,mS 4 131 3,⟨5,(some 132),none,.call ⟨false⟩ (.k (.c (.fn 295 [] []))) [(.s 127),(.s 129),(.s 130),(.s 131)]⟩] [14,3,8,9,0,1])
 (rG 0 [mS 0 133 14,mS 1 2 133] [3,8,9,0,1,2]))))))))))))))))))
abbrev zhm:Nat:=295
def zcS:CFn:={ frz:=true,rnd:=none,nargs:=4,ntmps:=134,res:=[],code :=
 (sQ (rG 0 [mB 0 8 true] [3,8,0,1,2])
 (sQ (rG 0 [mB 0 9 true] [3,8,9,0,1,2])
 (.block 0 (.loop (some [3,8,9,0,1,2]) zcm)))) }
def zjT:CFn:={ frz:=true,rnd:=none,nargs:=1,ntmps:=7,res:=[(.slot 2)],code :=
 (sQ (rG 0 [o1 0 2 (.mv (.k (.c (.int .u64 0))))] [0])
 (sQ (rG 0 [mS 0 3 0,o1 1 4 (.conv .u64 (.s 3)),cA 2 5 221 [(.s 4)],o1 3 6 (.bin .shl (.k (.c (.int .u64 1))) (.s 5)),mS 4 2 6] [2])
 .ret)) }
def zkN:CFn:={ frz:=true,rnd:=none,nargs:=1,ntmps:=33,res:=[(.slot 2)],code :=
 (sQ (rG 0 [o1 0 2 (.mv (.k (.c (.int .u64 0))))] [0])
 (sQ (rG 0 [mS 0 3 0,nC 1 4 3,mS 3 6 0,nC 4 7 6,lF 2 5 4,lF 5 8 7,o1 6 9 (.bin .shl (.s 8) (.k (.c (.int .u64 13)))),bS 7 10 .xor 5 9,nC 8 11 3,o0 9 (.store 1 (.s 11) (.s 10))] [0])
 (sQ (rG 0 [mS 0 12 0,nC 1 13 12,mS 3 15 0,nC 4 16 15,lF 2 14 13,lF 5 17 16,o1 6 18 (.bin .shr (.s 17) (.k (.c (.int .u64 7)))),bS 7 19 .xor 14 18,nC 8 20 12,o0 9 (.store 1 (.s 20) (.s 19))] [0])
 (sQ (rG 0 [mS 0 21 0,nC 1 22 21,mS 3 24 0,nC 4 25 24,lF 2 23 22,lF 5 26 25,o1 6 27 (.bin .shl (.s 26) (.k (.c (.int .u64 17)))),bS 7 28 .xor 23 27,nC 8 29 21,o0 9 (.store 1 (.s 29) (.s 28))] [0])
 (sQ (rG 0 [mS 0 30 0,nC 1 31 30,lF 2 32 31,mS 3 2 32] [2])
 .ret))))) }
def zaD:CC:=(sQ (sQ (rG 0 [mS 0 18 9,mS 1 19 1,bS 2 20 .gtr 18 19,mS 3 21 20,oG 4 22 21 true (.mv (.s 3)),oG 5 23 21 true (.mv (.s 0)),oG 6 24 21 true (.mv (.s 9)),oG 7 25 21 true (.iaddr 6 (.s 23) (.s 24)),oG 9 27 21 true (.mv (.s 0)),oG 10 28 21 true (.mv (.s 9)),oG 11 29 21 true (.bin .sub (.s 28) (kI 1)),oG 12 30 21 true (.iaddr 6 (.s 27) (.s 29)),oG 8 26 21 true (.load true 6 (.s 25)),oG 13 31 21 true (.load true 6 (.s 30)),⟨14,(some 32),(some (21,true)),.call ⟨true⟩ (.s 22) [(.s 26),(.s 31)]⟩,oG 15 33 21 true (.bin .lss (.s 32) (kI 0)),o1 16 34 (.pick (.s 21) (.s 33) (kB false))] [34,9,3,1,2,8,0])
 (.cond (.s 34) .skip
 (.exit 2)))
 (sQ (.block 3 (rG 0 [mS 0 37 0,mS 1 38 9,mS 2 39 0,mS 3 40 9,bI 4 41 .sub 40 1,mS 5 42 0,mS 6 43 9,bI 7 44 .sub 43 1,iA 8 45 6 42 44,mS 10 47 0,mS 11 48 9,iA 12 49 6 47 48,lT 9 46 6 45,lT 13 50 6 49,iA 14 51 6 37 38,o0 15 (.store 6 (.s 51) (.s 46)),iA 16 52 6 39 41,o0 17 (.store 6 (.s 52) (.s 50))] [9,3,1,2,8,0]))
 (rG 0 [mS 0 35 9,bI 1 36 .sub 35 1,mS 2 9 36] [9,3,1,2,8,0])))
def za3:CC:=(sQ (sQ (rG 0 [mS 0 12 8,mS 1 13 2,bS 2 14 .lss 12 13] [14,3,1,2,8,0])
 (.cond (.s 14) .skip
 (.exit 0)))
 (sQ (.block 1 (sQ (rG 0 [mS 0 17 8,mS 1 9 17] [9,3,1,2,8,0])
 (.block 2 (.loop (some [9,3,1,2,8,0]) zaD))))
 (rG 0 [mS 0 15 8,bI 1 16 .add 15 1,mS 2 8 16] [2,1,3,8,0])))
abbrev zf0:Nat:=301
def zce:CFn:={ frz:=true,rnd:=none,nargs:=4,ntmps:=53,res:=[],code :=
 (sQ (rG 0 [mS 0 10 1,bI 1 11 .add 10 1,mS 2 8 11] [2,1,3,8,0])
 (.block 0 (.loop (some [2,1,3,8,0]) za3))) }
def zaC:CC:=(sQ (sQ (rG 0 [mS 0 31 10,mS 1 32 11,bS 2 33 .lss 31 32] [33,10,11,4,0,1])
 (.cond (.s 33) .skip
 (.exit 0)))
 (.block 1 (sQ (rG 0 [mS 0 34 10,mS 1 35 11,bS 2 36 .add 34 35,o1 3 37 (.conv .u64 (.s 36)),o1 4 38 (.bin .shr (.s 37) (.k (.c (.int .u64 1)))),o1 5 39 (.conv .i64 (.s 38)),mS 6 12 39] [10,12,11,4,0,1])
 (sQ (rG 0 [mS 0 40 4,mS 1 41 0,mS 2 42 12,iA 3 43 6 41 42,mS 5 45 0,mS 6 46 1,iA 7 47 6 45 46,lT 4 44 6 43,lT 8 48 6 47,⟨9,(some 49),none,.call ⟨true⟩ (.s 40) [(.s 44),(.s 48)]⟩,bI 10 50 .lss 49 0] [50,10,12,11,4,0,1])
 (.cond (.s 50) (rG 0 [mS 0 51 12,bI 1 52 .add 51 1,mS 2 10 52] [10,11,4,0,1])
 (rG 0 [mS 0 53 12,mS 1 11 53] [10,11,4,0,1]))))))
def zbv:CC:=(sQ (sQ (rG 0 [mS 0 55 13,mS 1 56 10,bI 2 57 .sub 56 1,bS 3 58 .lss 55 57] [58,13,10,0])
 (.cond (.s 58) .skip
 (.exit 2)))
 (sQ (.block 3 (rG 0 [mS 0 61 0,mS 1 62 13,mS 2 63 0,mS 3 64 13,bI 4 65 .add 64 1,mS 5 66 0,mS 6 67 13,bI 7 68 .add 67 1,iA 8 69 6 66 68,mS 10 71 0,mS 11 72 13,iA 12 73 6 71 72,lT 9 70 6 69,lT 13 74 6 73,iA 14 75 6 61 62,o0 15 (.store 6 (.s 75) (.s 70)),iA 16 76 6 63 65,o0 17 (.store 6 (.s 76) (.s 74))] [13,10,0]))
 (rG 0 [mS 0 59 13,bI 1 60 .add 59 1,mS 2 13 60] [13,10,0])))
def zaB:CC:=(sQ (sQ (rG 0 [mS 0 83 14,mS 1 84 15,bS 2 85 .lss 83 84] [85,14,15,4,2,0])
 (.cond (.s 85) .skip
 (.exit 4)))
 (.block 5 (sQ (rG 0 [mS 0 86 14,mS 1 87 15,bS 2 88 .add 86 87,o1 3 89 (.conv .u64 (.s 88)),o1 4 90 (.bin .shr (.s 89) (.k (.c (.int .u64 1)))),o1 5 91 (.conv .i64 (.s 90)),mS 6 16 91] [14,16,15,4,2,0])
 (sQ (rG 0 [mS 0 92 4,mS 1 93 0,mS 2 94 2,iA 3 95 6 93 94,mS 5 97 0,mS 6 98 16,iA 7 99 6 97 98,lT 4 96 6 95,lT 8 100 6 99,⟨9,(some 101),none,.call ⟨true⟩ (.s 92) [(.s 96),(.s 100)]⟩,bI 10 102 .lss 101 0,o1 11 103 (.un .not (.s 102))] [103,14,16,15,4,2,0])
 (.cond (.s 103) (rG 0 [mS 0 104 16,bI 1 105 .add 104 1,mS 2 14 105] [14,15,4,2,0])
 (rG 0 [mS 0 106 16,mS 1 15 106] [14,15,4,2,0]))))))
def zbu:CC:=(sQ (sQ (rG 0 [mS 0 108 17,mS 1 109 14,bS 2 110 .gtr 108 109] [110,17,14,0])
 (.cond (.s 110) .skip
 (.exit 6)))
 (sQ (.block 7 (rG 0 [mS 0 113 0,mS 1 114 17,mS 2 115 0,mS 3 116 17,bI 4 117 .sub 116 1,mS 5 118 0,mS 6 119 17,bI 7 120 .sub 119 1,iA 8 121 6 118 120,mS 10 123 0,mS 11 124 17,iA 12 125 6 123 124,lT 9 122 6 121,lT 13 126 6 125,iA 14 127 6 113 114,o0 15 (.store 6 (.s 127) (.s 122)),iA 16 128 6 115 117,o0 17 (.store 6 (.s 128) (.s 126))] [17,14,0]))
 (rG 0 [mS 0 111 17,bI 1 112 .sub 111 1,mS 2 17 112] [17,14,0])))
def zaA:CC:=(sQ (sQ (rG 0 [mS 0 149 20,mS 1 150 21,bS 2 151 .lss 149 150] [151,20,3,18,1,2,19,21,4,22,0])
 (.cond (.s 151) .skip
 (.exit 8)))
 (.block 9 (sQ (rG 0 [mS 0 152 20,mS 1 153 21,bS 2 154 .add 152 153,o1 3 155 (.conv .u64 (.s 154)),o1 4 156 (.bin .shr (.s 155) (.k (.c (.int .u64 1)))),o1 5 157 (.conv .i64 (.s 156)),mS 6 23 157] [20,23,3,18,1,2,19,21,4,22,0])
 (sQ (rG 0 [mS 0 158 4,mS 1 159 0,mS 2 160 22,mS 3 161 23,bS 4 162 .sub 160 161,iA 5 163 6 159 162,mS 7 165 0,mS 8 166 23,iA 9 167 6 165 166,lT 6 164 6 163,lT 10 168 6 167,⟨11,(some 169),none,.call ⟨true⟩ (.s 158) [(.s 164),(.s 168)]⟩,bI 12 170 .lss 169 0,o1 13 171 (.un .not (.s 170))] [171,20,23,3,18,1,2,19,21,4,22,0])
 (.cond (.s 171) (rG 0 [mS 0 172 23,bI 1 173 .add 172 1,mS 2 20 173] [20,3,18,1,2,19,21,4,22,0])
 (rG 0 [mS 0 174 23,mS 1 21 174] [20,3,18,1,2,19,21,4,22,0]))))))
abbrev zcQ:Nat:=302
def zc:CFn:={ frz:=true,rnd:=none,nargs:=5,ntmps:=220,res:=[],code :=
 (sQ (sQ (rG 0 [mS 0 25 2,mS 1 26 1,bS 2 27 .sub 25 26,bI 3 28 .eql 27 1] [28,2,3,4,0,1])
 (.cond (.s 28) (sQ (rG 0 [mS 0 29 2,mS 1 10 29] [3,10,4,0,1])
 (sQ (rG 0 [mS 0 30 3,mS 1 11 30] [10,11,4,0,1])
 (sQ (.block 0 (.loop (some [10,11,4,0,1]) zaC))
 (sQ (sQ (rG 0 [mS 0 54 1,mS 1 13 54] [13,10,0])
 (.block 2 (.loop (some [13,10,0]) zbv)))
 .ret))))
 .skip))
 (sQ (sQ (rG 0 [mS 0 77 3,mS 1 78 2,bS 2 79 .sub 77 78,bI 3 80 .eql 79 1] [80,3,1,4,2,0])
 (.cond (.s 80) (sQ (rG 0 [mS 0 81 1,mS 1 14 81] [14,4,2,0])
 (sQ (rG 0 [mS 0 82 2,mS 1 15 82] [14,15,4,2,0])
 (sQ (.block 4 (.loop (some [14,15,4,2,0]) zaB))
 (sQ (sQ (rG 0 [mS 0 107 2,mS 1 17 107] [17,14,0])
 (.block 6 (.loop (some [17,14,0]) zbu)))
 .ret))))
 .skip))
 (sQ (rG 0 [mS 0 129 1,mS 1 130 3,bS 2 131 .add 129 130,o1 3 132 (.conv .u64 (.s 131)),o1 4 133 (.bin .shr (.s 132) (.k (.c (.int .u64 1)))),o1 5 134 (.conv .i64 (.s 133)),mS 6 18 134] [3,18,1,2,4,0])
 (sQ (rG 0 [mS 0 135 18,mS 1 136 2,bS 2 137 .add 135 136,mS 3 19 137] [3,18,1,2,19,4,0])
 (sQ (rG 0 [mI 0 20 0,mI 1 21 0] [3,18,1,2,19,4,0])
 (sQ (sQ (rG 0 [mS 0 138 2,mS 1 139 18,bS 2 140 .gtr 138 139] [140,3,18,1,2,19,4,0])
 (.cond (.s 140) (sQ (rG 0 [mS 0 141 19,mS 1 142 3,bS 2 143 .sub 141 142,mS 3 20 143] [20,3,18,1,2,19,4,0])
 (rG 0 [mS 0 144 18,mS 1 21 144] [20,3,18,1,2,19,21,4,0]))
 (sQ (rG 0 [mS 0 145 1,mS 1 20 145] [20,3,18,1,2,19,4,0])
 (rG 0 [mS 0 146 2,mS 1 21 146] [20,3,18,1,2,19,21,4,0]))))
 (sQ (rG 0 [mS 0 147 19,bI 1 148 .sub 147 1,mS 2 22 148] [20,3,18,1,2,19,21,4,22,0])
 (sQ (.block 8 (.loop (some [20,3,18,1,2,19,21,4,22,0]) zaA))
 (sQ (rG 0 [mS 0 175 19,mS 1 176 20,bS 2 177 .sub 175 176,mS 3 24 177] [2,1,20,0,18,24,3,4])
 (sQ (sQ (rG 0 [mS 0 178 20,mS 1 179 2,bS 2 180 .lss 178 179,mS 3 181 180,oG 4 182 181 true (.mv (.s 2)),oG 5 183 181 true (.mv (.s 24)),oG 6 184 181 true (.bin .lss (.s 182) (.s 183)),o1 7 185 (.pick (.s 181) (.s 184) (kB false))] [185,2,1,20,0,18,24,3,4])
 (.cond (.s 185) (rG 0 [mS 0 186 0,mS 1 187 20,mS 2 188 2,mS 3 189 24,mS 4 190 4,⟨5,(some 191),none,.call ⟨false⟩ (.k (.c (.fn 316 [] []))) [(.s 186),(.s 187),(.s 188),(.s 189),(.s 190)]⟩] [1,20,0,18,24,3,4])
 .skip))
 (sQ (sQ (rG 0 [mS 0 192 1,mS 1 193 20,bS 2 194 .lss 192 193,mS 3 195 194,oG 4 196 195 true (.mv (.s 20)),oG 5 197 195 true (.mv (.s 18)),oG 6 198 195 true (.bin .lss (.s 196) (.s 197)),o1 7 199 (.pick (.s 195) (.s 198) (kB false))] [199,1,20,0,18,24,3,4])
 (.cond (.s 199) (rG 0 [mS 0 200 0,mS 1 201 1,mS 2 202 20,mS 3 203 18,mS 4 204 4,⟨5,(some 205),none,.call ⟨false⟩ (.k (.c (.fn 302 [] []))) [(.s 200),(.s 201),(.s 202),(.s 203),(.s 204)]⟩] [0,18,24,3,4])
 .skip))
 (sQ (rG 0 [mS 0 206 18,mS 1 207 24,bS 2 208 .lss 206 207,mS 3 209 208,oG 4 210 209 true (.mv (.s 24)),oG 5 211 209 true (.mv (.s 3)),oG 6 212 209 true (.bin .lss (.s 210) (.s 211)),o1 7 213 (.pick (.s 209) (.s 212) (kB false))] [213,0,18,24,3,4])
 (.cond (.s 213) (rG 0 [mS 0 214 0,mS 1 215 18,mS 2 216 24,mS 3 217 3,mS 4 218 4,⟨5,(some 219),none,.call ⟨false⟩ (.k (.c (.fn 302 [] []))) [(.s 214),(.s 215),(.s 216),(.s 217),(.s 218)]⟩] [])
 .skip))))))))))))) }
def zrE:CFn:={ frz:=true,rnd:=none,nargs:=1,ntmps:=4,res:=[(.slot 2)],code :=
 (sQ (rG 1 [o1 0 1 (.box 0 1 (.s 0)),o1 1 2 (.mv (.k (.c .nilfn)))] [1])
 (sQ (rG 0 [o1 0 3 (.mkfn 318 [] [(.s 1)]),mS 1 2 3] [2])
 .ret)) }
def zbE:CC:=(sQ (sQ (rG 0 [mS 0 16 7,mS 1 17 1,bS 2 18 .gtr 16 17,mS 3 19 18,oG 4 20 19 true (.mv (.s 0)),oG 5 21 19 true (.mv (.s 7)),oG 6 22 19 true (.iaddr 1 (.s 20) (.s 21)),oG 8 24 19 true (.mv (.s 0)),oG 9 25 19 true (.mv (.s 7)),oG 10 26 19 true (.bin .sub (.s 25) (kI 1)),oG 11 27 19 true (.iaddr 1 (.s 24) (.s 26)),oG 7 23 19 true (.load false 1 (.s 22)),oG 12 28 19 true (.load false 1 (.s 27)),⟨13,(some 29),(some (19,true)),.call ⟨true⟩ (.k (.c (.fn 312 [] []))) [(.s 23),(.s 28)]⟩,o1 14 30 (.pick (.s 19) (.s 29) (kB false))] [30,7,1,2,6,0])
 (.cond (.s 30) .skip
 (.exit 2)))
 (sQ (.block 3 (rG 0 [mS 0 33 0,mS 1 34 7,mS 2 35 0,mS 3 36 7,bI 4 37 .sub 36 1,mS 5 38 0,mS 6 39 7,bI 7 40 .sub 39 1,iA 8 41 1 38 40,mS 10 43 0,mS 11 44 7,iA 12 45 1 43 44,lF 9 42 41,lF 13 46 45,iA 14 47 1 33 34,o0 15 (.store 1 (.s 47) (.s 42)),iA 16 48 1 35 37,o0 17 (.store 1 (.s 48) (.s 46))] [7,1,2,6,0]))
 (rG 0 [mS 0 31 7,bI 1 32 .sub 31 1,mS 2 7 32] [7,1,2,6,0])))
def zaf:CC:=(sQ (sQ (rG 0 [mS 0 10 6,mS 1 11 2,bS 2 12 .lss 10 11] [12,1,2,6,0])
 (.cond (.s 12) .skip
 (.exit 0)))
 (sQ (.block 1 (sQ (rG 0 [mS 0 15 6,mS 1 7 15] [7,1,2,6,0])
 (.block 2 (.loop (some [7,1,2,6,0]) zbE))))
 (rG 0 [mS 0 13 6,bI 1 14 .add 13 1,mS 2 6 14] [2,1,6,0])))
abbrev zfL:Nat:=306
def zbh:CFn:={ frz:=true,rnd:=none,nargs:=3,ntmps:=49,res:=[],code :=
 (sQ (rG 0 [mS 0 8 1,bI 1 9 .add 8 1,mS 2 6 9] [2,1,6,0])
 (.block 0 (.loop (some [2,1,6,0]) zaf))) }
def zgr:CC:=(sQ (sQ (rG 0 [mS 0 18 9,bI 1 19 .geq 18 0] [19,9,7,0,8,6])
 (.cond (.s 19) .skip
 (.exit 0)))
 (sQ (.block 1 (rG 0 [mS 0 22 0,mS 1 23 9,mS 2 24 8,mS 3 25 6,⟨4,(some 26),none,.call ⟨false⟩ (.k (.c (.fn 319 [] []))) [(.s 22),(.s 23),(.s 24),(.s 25)]⟩] [9,7,0,8,6]))
 (rG 0 [mS 0 20 9,bI 1 21 .sub 20 1,mS 2 9 21] [9,7,0,8,6])))
def zgq:CC:=(sQ (sQ (rG 0 [mS 0 29 10,bI 1 30 .geq 29 0] [30,10,0,7,6])
 (.cond (.s 30) .skip
 (.exit 2)))
 (sQ (.block 3 (sQ (rG 0 [mS 0 33 0,mS 1 34 6,mS 2 35 0,mS 3 36 6,mS 4 37 10,bS 5 38 .add 36 37,mS 6 39 0,mS 7 40 6,mS 8 41 10,bS 9 42 .add 40 41,iA 10 43 1 39 42,mS 12 45 0,mS 13 46 6,iA 14 47 1 45 46,lF 11 44 43,lF 15 48 47,iA 16 49 1 33 34,o0 17 (.store 1 (.s 49) (.s 44)),iA 18 50 1 35 38,o0 19 (.store 1 (.s 50) (.s 48))] [10,0,7,6])
 (rG 0 [mS 0 51 0,mS 1 52 7,mS 2 53 10,mS 3 54 6,⟨4,(some 55),none,.call ⟨false⟩ (.k (.c (.fn 319 [] []))) [(.s 51),(.s 52),(.s 53),(.s 54)]⟩] [10,0,7,6])))
 (rG 0 [mS 0 31 10,bI 1 32 .sub 31 1,mS 2 10 32] [10,0,7,6])))
def zg7:CFn:={ frz:=true,rnd:=none,nargs:=3,ntmps:=56,res:=[],code :=
 (sQ (rG 0 [mS 0 11 1,mS 1 6 11] [2,1,0,6])
 (sQ (rG 0 [mI 0 7 0] [2,1,7,0,6])
 (sQ (rG 0 [mS 0 12 2,mS 1 13 1,bS 2 14 .sub 12 13,mS 3 8 14] [7,0,8,6])
 (sQ (sQ (rG 0 [mS 0 15 8,bI 1 16 .sub 15 1,bI 2 17 .quo 16 2,mS 3 9 17] [9,7,0,8,6])
 (.block 0 (.loop (some [9,7,0,8,6]) zgr)))
 (sQ (rG 0 [mS 0 27 8,bI 1 28 .sub 27 1,mS 2 10 28] [10,0,7,6])
 (.block 2 (.loop (some [10,0,7,6]) zgq))))))) }
def zfl:CC:=(sQ (sQ (rG 0 [mS 0 26 9,mS 1 27 1,mS 2 28 6,bI 3 29 .quo 28 4,bI 4 30 .mul 29 2,bS 5 31 .add 27 30,bI 6 32 .add 31 1,bS 7 33 .leq 26 32] [33,9,7,8,6,1,0])
 (.cond (.s 33) .skip
 (.exit 0)))
 (sQ (.block 1 (sQ (rG 0 [cA 0 36 298 [(.s 7)],mS 1 37 8,o1 2 38 (.bin .sub (.s 37) (.k (.c (.int .u64 1)))),bS 3 39 .and 36 38,o1 4 40 (.conv .i64 (.s 39)),mS 5 10 40] [10,9,7,8,6,1,0])
 (sQ (sQ (rG 0 [mS 0 41 10,mS 1 42 6,bS 2 43 .geq 41 42] [43,10,9,7,8,6,1,0])
 (.cond (.s 43) (rG 0 [mS 0 44 10,mS 1 45 6,bS 2 46 .sub 44 45,mS 3 10 46] [10,9,7,8,6,1,0])
 .skip))
 (rG 0 [mS 0 47 0,mS 1 48 9,mS 2 49 0,mS 3 50 1,mS 4 51 10,bS 5 52 .add 50 51,mS 6 53 0,mS 7 54 1,mS 8 55 10,bS 9 56 .add 54 55,iA 10 57 1 53 56,mS 12 59 0,mS 13 60 9,iA 14 61 1 59 60,lF 11 58 57,lF 15 62 61,iA 16 63 1 47 48,o0 17 (.store 1 (.s 63) (.s 58)),iA 18 64 1 49 52,o0 19 (.store 1 (.s 64) (.s 62))] [9,7,8,6,1,0]))))
 (rG 0 [mS 0 34 9,bI 1 35 .add 34 1,mS 2 9 35] [9,7,8,6,1,0])))
def zfN:CFn:={ frz:=true,rnd:=none,nargs:=3,ntmps:=65,res:=[],code :=
 (sQ (rG 0 [mS 0 11 2,mS 1 12 1,bS 2 13 .sub 11 12,mS 3 6 13] [6,1,0])
 (sQ (rG 0 [mS 0 14 6,bI 1 15 .geq 14 8] [15,6,1,0])
 (.cond (.s 15) (sQ (rG 1 [mS 0 16 6,o1 1 17 (.conv .u64 (.s 16)),o1 2 7 (.box 0 1 (.k (.a [(.int .u64 0)]))),o0 3 (.store 1 (.s 7) (.s 17))] [7,6,1,0])
 (sQ (rG 0 [mS 0 18 6,cA 1 19 297 [(.s 18)],mS 2 8 19] [7,8,6,1,0])
 (sQ (rG 0 [mS 0 20 1,mS 1 21 6,bI 2 22 .quo 21 4,bI 3 23 .mul 22 2,bS 4 24 .add 20 23,bI 5 25 .sub 24 1,mS 6 9 25] [9,7,8,6,1,0])
 (.block 0 (.loop (some [9,7,8,6,1,0]) zfl)))))
 .skip))) }
def zgs:CFn:={ frz:=true,rnd:=none,nargs:=3,ntmps:=57,res:=[(.slot 6),(.slot 7)],code :=
 (sQ (rG 0 [mI 0 6 0,mI 1 7 0] [2,1,0])
 (sQ (rG 0 [mS 0 13 2,mS 1 14 1,bS 2 15 .sub 13 14,mS 3 8 15] [1,8,0])
 (sQ (rG 1 [o1 0 9 (.box 0 1 (.k (.a [(I 0)])))] [1,8,0,9])
 (sQ (rG 0 [mS 0 16 1,mS 1 17 8,bI 2 18 .quo 17 4,bI 3 19 .mul 18 1,bS 4 20 .add 16 19,mS 5 10 20] [1,8,10,0,9])
 (sQ (rG 0 [mS 0 21 1,mS 1 22 8,bI 2 23 .quo 22 4,bI 3 24 .mul 23 2,bS 4 25 .add 21 24,mS 5 11 25] [1,8,10,11,0,9])
 (sQ (rG 0 [mS 0 26 1,mS 1 27 8,bI 2 28 .quo 27 4,bI 3 29 .mul 28 3,bS 4 30 .add 26 29,mS 5 12 30] [8,10,11,12,0,9])
 (sQ (sQ (rG 0 [mS 0 31 8,bI 1 32 .geq 31 8] [32,8,10,11,12,0,9])
 (.cond (.s 32) (sQ (sQ (rG 0 [mS 0 33 8,bI 1 34 .geq 33 50] [34,10,11,12,0,9])
 (.cond (.s 34) (sQ (rG 0 [mS 0 35 0,mS 1 36 10,⟨2,(some 37),none,.call ⟨false⟩ (.k (.c (.fn 320 [] []))) [(.s 35),(.s 36),(.s 9)]⟩,mS 3 10 37] [11,12,0,10,9])
 (sQ (rG 0 [mS 0 38 0,mS 1 39 11,⟨2,(some 40),none,.call ⟨false⟩ (.k (.c (.fn 320 [] []))) [(.s 38),(.s 39),(.s 9)]⟩,mS 3 11 40] [12,0,10,11,9])
 (rG 0 [mS 0 41 0,mS 1 42 12,⟨2,(some 43),none,.call ⟨false⟩ (.k (.c (.fn 320 [] []))) [(.s 41),(.s 42),(.s 9)]⟩,mS 3 12 43] [0,10,11,12,9])))
 .skip))
 (rG 0 [mS 0 44 0,mS 1 45 10,mS 2 46 11,mS 3 47 12,⟨4,(some 48),none,.call ⟨false⟩ (.k (.c (.fn 321 [] []))) [(.s 44),(.s 45),(.s 46),(.s 47),(.s 9)]⟩,mS 5 11 48] [9,11]))
 .skip))
 (sQ (rG 0 [lF 0 49 9] [49,11])
 (.block 0 (sQ (rG 0 [bI 0 52 .eql 49 0,mS 1 51 52] [51,49,11])
 (.cond (.s 51) (sQ (rG 0 [mS 0 53 11,mS 1 6 53,mI 2 7 1] [6,7])
 .ret)
 (sQ (rG 0 [bI 0 55 .eql 49 12,mS 1 54 55] [54,11])
 (.cond (.s 54) (sQ (rG 0 [mS 0 56 11,mS 1 6 56,mI 2 7 2] [6,7])
 .ret)
 (sQ (rG 0 [mS 0 50 11,mS 1 6 50,mI 2 7 0] [6,7])
 .ret)))))))))))))) }
def zft:CC:=(sQ (sQ (rG 0 [mS 0 11 6,mS 1 12 7,bS 2 13 .lss 11 12] [13,6,7,0])
 (.cond (.s 13) .skip
 (.exit 0)))
 (.block 1 (sQ (rG 0 [mS 0 14 0,mS 1 15 6,mS 2 16 0,mS 3 17 7,mS 4 18 0,mS 5 19 7,iA 6 20 1 18 19,mS 8 22 0,mS 9 23 6,iA 10 24 1 22 23,lF 7 21 20,lF 11 25 24,iA 12 26 1 14 15,o0 13 (.store 1 (.s 26) (.s 21)),iA 14 27 1 16 17,o0 15 (.store 1 (.s 27) (.s 25))] [6,7,0])
 (sQ (rG 0 [mS 0 28 6,bI 1 29 .add 28 1,mS 2 6 29] [7,6,0])
 (rG 0 [mS 0 30 7,bI 1 31 .sub 30 1,mS 2 7 31] [6,7,0])))))
def zf3:CFn:={ frz:=true,rnd:=none,nargs:=3,ntmps:=32,res:=[],code :=
 (sQ (rG 0 [mS 0 8 1,mS 1 6 8] [2,6,0])
 (sQ (rG 0 [mS 0 9 2,bI 1 10 .sub 9 1,mS 2 7 10] [6,7,0])
 (.block 0 (.loop (some [6,7,0]) zft)))) }
def zd8:CC:=(sQ (sQ (rG 0 [mS 0 17 7,mS 1 18 2,bS 2 19 .lss 17 18,mS 3 20 19,oG 4 21 20 true (.mv (.s 0)),oG 5 22 20 true (.mv (.s 7)),oG 6 23 20 true (.iaddr 1 (.s 21) (.s 22)),oG 8 25 20 true (.mv (.s 0)),oG 9 26 20 true (.mv (.s 7)),oG 10 27 20 true (.bin .sub (.s 26) (kI 1)),oG 11 28 20 true (.iaddr 1 (.s 25) (.s 27)),oG 7 24 20 true (.load false 1 (.s 23)),oG 12 29 20 true (.load false 1 (.s 28)),⟨13,(some 30),(some (20,true)),.call ⟨true⟩ (.k (.c (.fn 312 [] []))) [(.s 24),(.s 29)]⟩,oG 14 31 20 true (.un .not (.s 30)),o1 15 32 (.pick (.s 20) (.s 31) (kB false))] [32,7,1,2,0,8])
 (.cond (.s 32) .skip
 (.exit 2)))
 (.block 3 (rG 0 [mS 0 33 7,bI 1 34 .add 33 1,mS 2 7 34] [7,1,2,0,8])))
def zd7:CC:=(sQ (sQ (rG 0 [mS 0 64 9,bI 1 65 .geq 64 1] [65,9,8,7,0,2,1])
 (.cond (.s 65) .skip
 (.exit 4)))
 (sQ (.block 5 (sQ (sQ (rG 0 [mS 0 68 0,mS 1 69 9,iA 2 70 1 68 69,mS 4 72 0,mS 5 73 9,bI 6 74 .sub 73 1,iA 7 75 1 72 74,lF 3 71 70,lF 8 76 75,cA 9 77 312 [(.s 71),(.s 76)],o1 10 78 (.un .not (.s 77))] [78,9,8,7,0,2,1])
 (.cond (.s 78) (.exit 4)
 .skip))
 (rG 0 [mS 0 79 0,mS 1 80 9,mS 2 81 0,mS 3 82 9,bI 4 83 .sub 82 1,mS 5 84 0,mS 6 85 9,bI 7 86 .sub 85 1,iA 8 87 1 84 86,mS 10 89 0,mS 11 90 9,iA 12 91 1 89 90,lF 9 88 87,lF 13 92 91,iA 14 93 1 79 80,o0 15 (.store 1 (.s 93) (.s 88)),iA 16 94 1 81 83,o0 17 (.store 1 (.s 94) (.s 92))] [9,8,7,0,2,1])))
 (rG 0 [mS 0 66 9,bI 1 67 .sub 66 1,mS 2 9 67] [9,8,7,0,2,1])))
def zd6:CC:=(sQ (sQ (rG 0 [mS 0 101 10,mS 1 102 2,bS 2 103 .lss 101 102] [103,10,8,7,0,2,1])
 (.cond (.s 103) .skip
 (.exit 6)))
 (sQ (.block 7 (sQ (sQ (rG 0 [mS 0 106 0,mS 1 107 10,iA 2 108 1 106 107,mS 4 110 0,mS 5 111 10,bI 6 112 .sub 111 1,iA 7 113 1 110 112,lF 3 109 108,lF 8 114 113,cA 9 115 312 [(.s 109),(.s 114)],o1 10 116 (.un .not (.s 115))] [116,10,8,7,0,2,1])
 (.cond (.s 116) (.exit 6)
 .skip))
 (rG 0 [mS 0 117 0,mS 1 118 10,mS 2 119 0,mS 3 120 10,bI 4 121 .sub 120 1,mS 5 122 0,mS 6 123 10,bI 7 124 .sub 123 1,iA 8 125 1 122 124,mS 10 127 0,mS 11 128 10,iA 12 129 1 127 128,lF 9 126 125,lF 13 130 129,iA 14 131 1 117 118,o0 15 (.store 1 (.s 131) (.s 126)),iA 16 132 1 119 121,o0 17 (.store 1 (.s 132) (.s 130))] [10,8,7,0,2,1])))
 (rG 0 [mS 0 104 10,bI 1 105 .add 104 1,mS 2 10 105] [10,8,7,0,2,1])))
def zd5:CC:=(sQ (sQ (rG 0 [mS 0 13 8,bI 1 14 .lss 13 5] [14,7,1,2,0,8])
 (.cond (.s 14) .skip
 (.exit 0)))
 (sQ (.block 1 (sQ (.block 2 (.loop (some [7,1,2,0,8]) zd8))
 (sQ (sQ (rG 0 [mS 0 35 7,mS 1 36 2,bS 2 37 .eql 35 36] [37,8,7,0,2,1])
 (.cond (.s 37) (sQ (rG 0 [mB 0 6 true] [6])
 .ret)
 .skip))
 (sQ (sQ (rG 0 [mS 0 38 2,mS 1 39 1,bS 2 40 .sub 38 39,bI 3 41 .lss 40 50] [41,1,2,0,7,8])
 (.cond (.s 41) (sQ (rG 0 [mB 0 6 false] [6])
 .ret)
 .skip))
 (sQ (rG 0 [mS 0 42 0,mS 1 43 7,mS 2 44 0,mS 3 45 7,bI 4 46 .sub 45 1,mS 5 47 0,mS 6 48 7,bI 7 49 .sub 48 1,iA 8 50 1 47 49,mS 10 52 0,mS 11 53 7,iA 12 54 1 52 53,lF 9 51 50,lF 13 55 54,iA 14 56 1 42 43,o0 15 (.store 1 (.s 56) (.s 51)),iA 16 57 1 44 46,o0 17 (.store 1 (.s 57) (.s 55))] [8,7,0,2,1])
 (sQ (sQ (rG 0 [mS 0 58 7,mS 1 59 1,bS 2 60 .sub 58 59,bI 3 61 .geq 60 2] [61,8,7,0,2,1])
 (.cond (.s 61) (sQ (rG 0 [mS 0 62 7,bI 1 63 .sub 62 1,mS 2 9 63] [9,8,7,0,2,1])
 (.block 4 (.loop (some [9,8,7,0,2,1]) zd7)))
 .skip))
 (sQ (rG 0 [mS 0 95 2,mS 1 96 7,bS 2 97 .sub 95 96,bI 3 98 .geq 97 2] [98,8,7,0,2,1])
 (.cond (.s 98) (sQ (rG 0 [mS 0 99 7,bI 1 100 .add 99 1,mS 2 10 100] [10,8,7,0,2,1])
 (.block 6 (.loop (some [10,8,7,0,2,1]) zd6)))
 .skip))))))))
 (rG 0 [mS 0 15 8,bI 1 16 .add 15 1,mS 2 8 16] [7,0,2,1,8])))
def zeG:CFn:={ frz:=true,rnd:=none,nargs:=3,ntmps:=133,res:=[(.slot 6)],code :=
 (sQ (rG 0 [mB 0 6 false] [0,2,1])
 (sQ (rG 0 [mS 0 11 1,bI 1 12 .add 11 1,mS 2 7 12] [7,0,2,1])
 (sQ (sQ (rG 0 [mI 0 8 0] [7,0,2,1,8])
 (.block 0 (.loop (some [7,0,2,1,8]) zd5)))
 (sQ (rG 0 [mB 0 6 false] [6])
 .ret)))) }
abbrev zoW:Nat:=312
def zg8:CFn:={ frz:=true,rnd:=none,nargs:=2,ntmps:=17,res:=[(.slot 4)],code :=
 (sQ (rG 0 [mB 0 4 false] [0,1])
 (sQ (rG 0 [mS 0 5 0,cA 1 6 242 [(.s 5)],mS 2 7 6,oG 3 8 7 true (.mv (.s 1)),⟨4,(some 9),(some (7,true)),.call ⟨true⟩ (.k (.c (.fn 242 [] []))) [(.s 8)]⟩,oG 5 10 7 true (.un .not (.s 9)),o1 6 11 (.pick (.s 7) (.s 10) (kB false)),mS 7 12 11,oG 8 13 12 false (.mv (.s 0)),oG 9 14 12 false (.mv (.s 1)),oG 10 15 12 false (.bin .lss (.s 13) (.s 14)),o1 11 16 (.pick (.s 12) (kB true) (.s 15)),mS 12 4 16] [4])
 .ret)) }
def ze9:CC:=(sQ (sQ (rG 0 [mS 0 29 9,mS 1 30 10,bS 2 31 .leq 29 30,mS 3 32 31,oG 4 33 32 true (.mv (.s 0)),oG 5 34 32 true (.mv (.s 1)),oG 6 35 32 true (.iaddr 1 (.s 33) (.s 34)),oG 8 37 32 true (.mv (.s 0)),oG 9 38 32 true (.mv (.s 9)),oG 10 39 32 true (.iaddr 1 (.s 37) (.s 38)),oG 7 36 32 true (.load false 1 (.s 35)),oG 11 40 32 true (.load false 1 (.s 39)),⟨12,(some 41),(some (32,true)),.call ⟨true⟩ (.k (.c (.fn 312 [] []))) [(.s 36),(.s 40)]⟩,oG 13 42 32 true (.un .not (.s 41)),o1 14 43 (.pick (.s 32) (.s 42) (kB false))] [43,9,1,0,10])
 (.cond (.s 43) .skip
 (.exit 2)))
 (.block 3 (rG 0 [mS 0 44 9,bI 1 45 .add 44 1,mS 2 9 45] [9,1,0,10])))
def ze8:CC:=(sQ (sQ (rG 0 [mS 0 46 9,mS 1 47 10,bS 2 48 .leq 46 47,mS 3 49 48,oG 4 50 49 true (.mv (.s 0)),oG 5 51 49 true (.mv (.s 1)),oG 6 52 49 true (.iaddr 1 (.s 50) (.s 51)),oG 8 54 49 true (.mv (.s 0)),oG 9 55 49 true (.mv (.s 10)),oG 10 56 49 true (.iaddr 1 (.s 54) (.s 55)),oG 7 53 49 true (.load false 1 (.s 52)),oG 11 57 49 true (.load false 1 (.s 56)),⟨12,(some 58),(some (49,true)),.call ⟨true⟩ (.k (.c (.fn 312 [] []))) [(.s 53),(.s 57)]⟩,o1 13 59 (.pick (.s 49) (.s 58) (kB false))] [59,10,9,0,1])
 (.cond (.s 59) .skip
 (.exit 4)))
 (.block 5 (rG 0 [mS 0 60 10,bI 1 61 .sub 60 1,mS 2 10 61] [10,9,0,1])))
def ze7:CC:=(.block 1 (sQ (.block 2 (.loop (some [9,1,0,10]) ze9))
 (sQ (.block 4 (.loop (some [10,9,0,1]) ze8))
 (sQ (sQ (rG 0 [mS 0 62 9,mS 1 63 10,bS 2 64 .gtr 62 63] [64,1,0,10,9])
 (.cond (.s 64) (.exit 0)
 .skip))
 (sQ (rG 0 [mS 0 65 0,mS 1 66 9,mS 2 67 0,mS 3 68 10,mS 4 69 0,mS 5 70 10,iA 6 71 1 69 70,mS 8 73 0,mS 9 74 9,iA 10 75 1 73 74,lF 7 72 71,lF 11 76 75,iA 12 77 1 65 66,o0 13 (.store 1 (.s 77) (.s 72)),iA 14 78 1 67 68,o0 15 (.store 1 (.s 78) (.s 76))] [9,10,0,1])
 (sQ (rG 0 [mS 0 79 9,bI 1 80 .add 79 1,mS 2 9 80] [10,9,0,1])
 (rG 0 [mS 0 81 10,bI 1 82 .sub 81 1,mS 2 10 82] [9,0,1,10])))))))
def zfB:CFn:={ frz:=true,rnd:=none,nargs:=4,ntmps:=84,res:=[(.slot 8)],code :=
 (sQ (rG 0 [mI 0 8 0] [3,2,0,1])
 (sQ (rG 0 [mS 0 11 0,mS 1 12 1,mS 2 13 0,mS 3 14 3,mS 4 15 0,mS 5 16 3,iA 6 17 1 15 16,mS 8 19 0,mS 9 20 1,iA 10 21 1 19 20,lF 7 18 17,lF 11 22 21,iA 12 23 1 11 12,o0 13 (.store 1 (.s 23) (.s 18)),iA 14 24 1 13 14,o0 15 (.store 1 (.s 24) (.s 22))] [2,0,1])
 (sQ (rG 0 [mS 0 25 1,bI 1 26 .add 25 1,mS 2 27 2,bI 3 28 .sub 27 1,mS 4 9 26,mS 5 10 28] [9,0,1,10])
 (sQ (.block 0 (.loop (some [9,0,1,10]) ze7))
 (sQ (rG 0 [mS 0 83 9,mS 1 8 83] [8])
 .ret))))) }
def zf8:CC:=(sQ (sQ (rG 0 [mS 0 30 10,mS 1 31 11,bS 2 32 .leq 30 31,mS 3 33 32,oG 4 34 33 true (.mv (.s 0)),oG 5 35 33 true (.mv (.s 10)),oG 6 36 33 true (.iaddr 1 (.s 34) (.s 35)),oG 8 38 33 true (.mv (.s 0)),oG 9 39 33 true (.mv (.s 1)),oG 10 40 33 true (.iaddr 1 (.s 38) (.s 39)),oG 7 37 33 true (.load false 1 (.s 36)),oG 11 41 33 true (.load false 1 (.s 40)),⟨12,(some 42),(some (33,true)),.call ⟨true⟩ (.k (.c (.fn 312 [] []))) [(.s 37),(.s 41)]⟩,o1 13 43 (.pick (.s 33) (.s 42) (kB false))] [43,10,1,0,11])
 (.cond (.s 43) .skip
 (.exit 0)))
 (.block 1 (rG 0 [mS 0 44 10,bI 1 45 .add 44 1,mS 2 10 45] [10,1,0,11])))
def zf7:CC:=(sQ (sQ (rG 0 [mS 0 46 10,mS 1 47 11,bS 2 48 .leq 46 47,mS 3 49 48,oG 4 50 49 true (.mv (.s 0)),oG 5 51 49 true (.mv (.s 11)),oG 6 52 49 true (.iaddr 1 (.s 50) (.s 51)),oG 8 54 49 true (.mv (.s 0)),oG 9 55 49 true (.mv (.s 1)),oG 10 56 49 true (.iaddr 1 (.s 54) (.s 55)),oG 7 53 49 true (.load false 1 (.s 52)),oG 11 57 49 true (.load false 1 (.s 56)),⟨12,(some 58),(some (49,true)),.call ⟨true⟩ (.k (.c (.fn 312 [] []))) [(.s 53),(.s 57)]⟩,oG 13 59 49 true (.un .not (.s 58)),o1 14 60 (.pick (.s 49) (.s 59) (kB false))] [60,11,0,1,10])
 (.cond (.s 60) .skip
 (.exit 2)))
 (.block 3 (rG 0 [mS 0 61 11,bI 1 62 .sub 61 1,mS 2 11 62] [11,0,1,10])))
def zf6:CC:=(sQ (sQ (rG 0 [mS 0 99 10,mS 1 100 11,bS 2 101 .leq 99 100,mS 3 102 101,oG 4 103 102 true (.mv (.s 0)),oG 5 104 102 true (.mv (.s 10)),oG 6 105 102 true (.iaddr 1 (.s 103) (.s 104)),oG 8 107 102 true (.mv (.s 0)),oG 9 108 102 true (.mv (.s 1)),oG 10 109 102 true (.iaddr 1 (.s 107) (.s 108)),oG 7 106 102 true (.load false 1 (.s 105)),oG 11 110 102 true (.load false 1 (.s 109)),⟨12,(some 111),(some (102,true)),.call ⟨true⟩ (.k (.c (.fn 312 [] []))) [(.s 106),(.s 110)]⟩,o1 13 112 (.pick (.s 102) (.s 111) (kB false))] [112,10,1,0,11])
 (.cond (.s 112) .skip
 (.exit 6)))
 (.block 7 (rG 0 [mS 0 113 10,bI 1 114 .add 113 1,mS 2 10 114] [10,1,0,11])))
def zf5:CC:=(sQ (sQ (rG 0 [mS 0 115 10,mS 1 116 11,bS 2 117 .leq 115 116,mS 3 118 117,oG 4 119 118 true (.mv (.s 0)),oG 5 120 118 true (.mv (.s 11)),oG 6 121 118 true (.iaddr 1 (.s 119) (.s 120)),oG 8 123 118 true (.mv (.s 0)),oG 9 124 118 true (.mv (.s 1)),oG 10 125 118 true (.iaddr 1 (.s 123) (.s 124)),oG 7 122 118 true (.load false 1 (.s 121)),oG 11 126 118 true (.load false 1 (.s 125)),⟨12,(some 127),(some (118,true)),.call ⟨true⟩ (.k (.c (.fn 312 [] []))) [(.s 122),(.s 126)]⟩,oG 13 128 118 true (.un .not (.s 127)),o1 14 129 (.pick (.s 118) (.s 128) (kB false))] [129,11,0,1,10])
 (.cond (.s 129) .skip
 (.exit 8)))
 (.block 9 (rG 0 [mS 0 130 11,bI 1 131 .sub 130 1,mS 2 11 131] [11,0,1,10])))
def zf4:CC:=(.block 5 (sQ (.block 6 (.loop (some [10,1,0,11]) zf6))
 (sQ (.block 8 (.loop (some [11,0,1,10]) zf5))
 (sQ (sQ (rG 0 [mS 0 132 10,mS 1 133 11,bS 2 134 .gtr 132 133] [134,10,1,0,11])
 (.cond (.s 134) (.exit 4)
 .skip))
 (sQ (rG 0 [mS 0 135 0,mS 1 136 10,mS 2 137 0,mS 3 138 11,mS 4 139 0,mS 5 140 11,iA 6 141 1 139 140,mS 8 143 0,mS 9 144 10,iA 10 145 1 143 144,lF 7 142 141,lF 11 146 145,iA 12 147 1 135 136,o0 13 (.store 1 (.s 147) (.s 142)),iA 14 148 1 137 138,o0 15 (.store 1 (.s 148) (.s 146))] [10,11,1,0])
 (sQ (rG 0 [mS 0 149 10,bI 1 150 .add 149 1,mS 2 10 150] [11,10,1,0])
 (rG 0 [mS 0 151 11,bI 1 152 .sub 151 1,mS 2 11 152] [10,1,0,11])))))))
def zgR:CFn:={ frz:=true,rnd:=none,nargs:=4,ntmps:=168,res:=[(.slot 8),(.slot 9)],code :=
 (sQ (rG 0 [mI 0 8 0,mB 1 9 false] [3,2,1,0])
 (sQ (rG 0 [mS 0 12 0,mS 1 13 1,mS 2 14 0,mS 3 15 3,mS 4 16 0,mS 5 17 3,iA 6 18 1 16 17,mS 8 20 0,mS 9 21 1,iA 10 22 1 20 21,lF 7 19 18,lF 11 23 22,iA 12 24 1 12 13,o0 13 (.store 1 (.s 24) (.s 19)),iA 14 25 1 14 15,o0 15 (.store 1 (.s 25) (.s 23))] [2,1,0])
 (sQ (rG 0 [mS 0 26 1,bI 1 27 .add 26 1,mS 2 28 2,bI 3 29 .sub 28 1,mS 4 10 27,mS 5 11 29] [10,1,0,11])
 (sQ (.block 0 (.loop (some [10,1,0,11]) zf8))
 (sQ (.block 2 (.loop (some [11,0,1,10]) zf7))
 (sQ (sQ (rG 0 [mS 0 63 10,mS 1 64 11,bS 2 65 .gtr 63 64] [65,10,1,0,11])
 (.cond (.s 65) (sQ (rG 0 [mS 0 66 0,mS 1 67 11,mS 2 68 0,mS 3 69 1,mS 4 70 0,mS 5 71 1,iA 6 72 1 70 71,mS 8 74 0,mS 9 75 11,iA 10 76 1 74 75,lF 7 73 72,lF 11 77 76,iA 12 78 1 66 67,o0 13 (.store 1 (.s 78) (.s 73)),iA 14 79 1 68 69,o0 15 (.store 1 (.s 79) (.s 77))] [11])
 (sQ (rG 0 [mS 0 80 11,mS 1 8 80,mB 2 9 true] [8,9])
 .ret))
 .skip))
 (sQ (rG 0 [mS 0 81 0,mS 1 82 10,mS 2 83 0,mS 3 84 11,mS 4 85 0,mS 5 86 11,iA 6 87 1 85 86,mS 8 89 0,mS 9 90 10,iA 10 91 1 89 90,lF 7 88 87,lF 11 92 91,iA 12 93 1 81 82,o0 13 (.store 1 (.s 93) (.s 88)),iA 14 94 1 83 84,o0 15 (.store 1 (.s 94) (.s 92))] [10,11,1,0])
 (sQ (rG 0 [mS 0 95 10,bI 1 96 .add 95 1,mS 2 10 96] [11,10,1,0])
 (sQ (rG 0 [mS 0 97 11,bI 1 98 .sub 97 1,mS 2 11 98] [10,1,0,11])
 (sQ (.block 4 (.loop (some [10,1,0,11]) zf4))
 (sQ (rG 0 [mS 0 153 0,mS 1 154 11,mS 2 155 0,mS 3 156 1,mS 4 157 0,mS 5 158 1,iA 6 159 1 157 158,mS 8 161 0,mS 9 162 11,iA 10 163 1 161 162,lF 7 160 159,lF 11 164 163,iA 12 165 1 153 154,o0 13 (.store 1 (.s 165) (.s 160)),iA 14 166 1 155 156,o0 15 (.store 1 (.s 166) (.s 164))] [11])
 (sQ (rG 0 [mS 0 167 11,mS 1 8 167,mB 2 9 false] [8,9])
 .ret)))))))))))) }
def zbc:CC:=(sQ (sQ (rG 0 [mS 0 18 10,mS 1 19 11,bS 2 20 .neq 18 19] [20,10,0,2,4,11])
 (.cond (.s 20) .skip
 (.exit 0)))
 (.block 1 (sQ (rG 0 [mS 0 21 10,mS 1 22 11,bS 2 23 .gtr 21 22] [23,10,0,2,4,11])
 (.cond (.s 23) (sQ (rG 0 [mS 0 24 0,mS 1 25 2,mS 2 26 10,bS 3 27 .sub 25 26,mS 4 28 2,mS 5 29 11,mS 6 30 4,⟨7,(some 31),none,.call ⟨false⟩ (.k (.c (.fn 322 [] []))) [(.s 24),(.s 27),(.s 28),(.s 29),(.s 30)]⟩] [10,0,2,4,11])
 (rG 0 [mS 0 32 10,mS 1 33 11,bS 2 34 .sub 32 33,mS 3 10 34] [10,0,2,4,11]))
 (sQ (rG 0 [mS 0 35 0,mS 1 36 2,mS 2 37 10,bS 3 38 .sub 36 37,mS 4 39 2,mS 5 40 11,bS 6 41 .add 39 40,mS 7 42 10,bS 8 43 .sub 41 42,mS 9 44 10,mS 10 45 4,⟨11,(some 46),none,.call ⟨false⟩ (.k (.c (.fn 322 [] []))) [(.s 35),(.s 38),(.s 43),(.s 44),(.s 45)]⟩] [11,10,0,2,4])
 (rG 0 [mS 0 47 11,mS 1 48 10,bS 2 49 .sub 47 48,mS 3 11 49] [10,0,2,4,11]))))))
abbrev ze4:Nat:=316
def zdk:CFn:={ frz:=true,rnd:=none,nargs:=5,ntmps:=58,res:=[],code :=
 (sQ (rG 0 [mS 0 12 2,mS 1 13 1,bS 2 14 .sub 12 13,mS 3 10 14] [3,10,0,2,4])
 (sQ (rG 0 [mS 0 15 3,mS 1 16 2,bS 2 17 .sub 15 16,mS 3 11 17] [10,0,2,4,11])
 (sQ (.block 0 (.loop (some [10,0,2,4,11]) zbc))
 (rG 0 [mS 0 50 0,mS 1 51 2,mS 2 52 10,bS 3 53 .sub 51 52,mS 4 54 2,mS 5 55 10,mS 6 56 4,⟨7,(some 57),none,.call ⟨false⟩ (.k (.c (.fn 322 [] []))) [(.s 50),(.s 53),(.s 54),(.s 55),(.s 56)]⟩] [])))) }
def zmW:CC:=(sQ (rG 0 [bS 0 13 .lss 12 11] [13,1,0,11,12,3])
 (sQ (.cond (.s 13) .skip
 (.exit 0))
 (sQ (.block 1 (sQ (rG 0 [mS 0 14 12,mS 1 4 14] [4,1,0,11,12,3])
 (sQ (.region 1 [fA 0 15 0 1,mS 2 17 4,fA 5 20 0 1,mS 7 22 4,bI 8 23 .add 22 1,lF 1 16 15,iA 3 18 2 16 17,lT 4 19 2 18,lF 6 21 20,iA 9 24 2 21 23,lT 10 25 2 24,cA 11 26 291 [(.s 19),(.s 25)],o1 12 5 (.box 0 2 (.k (.a [(I 0),(I 0)]))),o0 13 (.store 2 (.s 5) (.s 26))] [(5,12),(7,12),(8,12),(10,12),(11,12)] (some [4,5,1,0,11,12,3]))
 (sQ (rG 0 [lT 0 28 2 5,lT 1 29 2 5,cA 2 30 293 [(.s 28),(.s 29)],cA 3 31 292 [(.s 30)],mS 4 27 31,eX 5 32 27 0,eX 6 33 27 1,mS 7 6 32,mS 8 7 33] [4,5,1,0,11,12,6,3])
 (sQ (sQ (rG 0 [mS 0 34 0,mS 1 35 4,fA 2 36 0 1,mS 4 38 4,mS 8 42 6,mS 9 43 3,lF 3 37 36,iA 5 39 2 37 38,lT 6 40 2 39,lT 7 41 2 5,o1 10 44 (.build [(I 0),(I 0),(I 0),(I 0),(I 0),(I 0)] [(0,2,(.s 40)),(2,2,(.s 41)),(4,1,(.s 42)),(5,1,(.s 43))]),⟨11,(some 45),none,.call ⟨true⟩ (.s 34) [(.s 35),(.s 44)]⟩,o1 12 46 (.un .not (.s 45))] [46,1,0,11,12,6,3])
 (.cond (.s 46) .ret
 .skip))
 (rG 0 [mS 0 47 3,mS 1 48 6,bS 2 49 .add 47 48,mS 3 3 49] [12,11,0,1,3]))))))
 (rG 0 [bI 0 50 .add 12 1,mS 1 12 50] [11,0,1,12,3]))))
def zo2:CFn:={ frz:=true,rnd:=none,nargs:=2,ntmps:=51,res:=[],code :=
 (sQ (rG 0 [mI 0 3 0] [0,1,3])
 (sQ (rG 0 [fA 0 8 0 1,lF 1 9 8,lN 2 10 9,bI 3 11 .sub 10 1,mI 4 12 0] [11,0,1,12,3])
 (.block 0 (.loop (some [11,0,1,12,3]) zmW)))) }
def zgp:CC:=(.block 1 (sQ (rG 0 [mS 0 11 8,o1 1 12 (.bin .mul (kI 2) (.s 11)),bI 2 13 .add 12 1,mS 3 9 13] [8,0,3,2,9])
 (sQ (sQ (rG 0 [mS 0 14 9,mS 1 15 2,bS 2 16 .geq 14 15] [16,8,0,3,2,9])
 (.cond (.s 16) (.exit 0)
 .skip))
 (sQ (sQ (rG 0 [mS 0 17 9,bI 1 18 .add 17 1,mS 2 19 2,bS 3 20 .lss 18 19,mS 4 21 20,oG 5 22 21 true (.mv (.s 0)),oG 6 23 21 true (.mv (.s 3)),oG 7 24 21 true (.mv (.s 9)),oG 8 25 21 true (.bin .add (.s 23) (.s 24)),oG 9 26 21 true (.iaddr 1 (.s 22) (.s 25)),oG 11 28 21 true (.mv (.s 0)),oG 12 29 21 true (.mv (.s 3)),oG 13 30 21 true (.mv (.s 9)),oG 14 31 21 true (.bin .add (.s 29) (.s 30)),oG 15 32 21 true (.bin .add (.s 31) (kI 1)),oG 16 33 21 true (.iaddr 1 (.s 28) (.s 32)),oG 10 27 21 true (.load false 1 (.s 26)),oG 17 34 21 true (.load false 1 (.s 33)),⟨18,(some 35),(some (21,true)),.call ⟨true⟩ (.k (.c (.fn 312 [] []))) [(.s 27),(.s 34)]⟩,o1 19 36 (.pick (.s 21) (.s 35) (kB false))] [36,9,2,3,0,8])
 (.cond (.s 36) (rG 0 [mS 0 37 9,bI 1 38 .add 37 1,mS 2 9 38] [2,3,0,9,8])
 .skip))
 (sQ (sQ (rG 0 [mS 0 39 0,mS 1 40 3,mS 2 41 8,bS 3 42 .add 40 41,iA 4 43 1 39 42,mS 6 45 0,mS 7 46 3,mS 8 47 9,bS 9 48 .add 46 47,iA 10 49 1 45 48,lF 5 44 43,lF 11 50 49,cA 12 51 312 [(.s 44),(.s 50)],o1 13 52 (.un .not (.s 51))] [52,2,3,0,9,8])
 (.cond (.s 52) .ret
 .skip))
 (sQ (rG 0 [mS 0 53 0,mS 1 54 3,mS 2 55 8,bS 3 56 .add 54 55,mS 4 57 0,mS 5 58 3,mS 6 59 9,bS 7 60 .add 58 59,mS 8 61 0,mS 9 62 3,mS 10 63 9,bS 11 64 .add 62 63,iA 12 65 1 61 64,mS 14 67 0,mS 15 68 3,mS 16 69 8,bS 17 70 .add 68 69,iA 18 71 1 67 70,lF 13 66 65,lF 19 72 71,iA 20 73 1 53 56,o0 21 (.store 1 (.s 73) (.s 66)),iA 22 74 1 57 60,o0 23 (.store 1 (.s 74) (.s 72))] [9,0,3,2])
 (rG 0 [mS 0 75 9,mS 1 8 75] [8,0,3,2])))))))
def zg6:CFn:={ frz:=true,rnd:=none,nargs:=4,ntmps:=76,res:=[],code :=
 (sQ (rG 0 [mS 0 10 1,mS 1 8 10] [8,0,3,2])
 (.block 0 (.loop (some [8,0,3,2]) zgp))) }
def zfC:CFn:={ frz:=true,rnd:=none,nargs:=3,ntmps:=15,res:=[(.slot 6)],code :=
 (sQ (rG 0 [mI 0 6 0] [0,1,2])
 (sQ (rG 0 [mS 0 7 0,mS 1 8 1,bI 2 9 .sub 8 1,mS 3 10 1,mS 4 11 1,bI 5 12 .add 11 1,mS 6 13 2,⟨7,(some 14),none,.call ⟨false⟩ (.k (.c (.fn 321 [] []))) [(.s 7),(.s 9),(.s 10),(.s 12),(.s 13)]⟩,mS 8 6 14] [6])
 .ret)) }
def zhD:CFn:={ frz:=true,rnd:=none,nargs:=5,ntmps:=36,res:=[(.slot 10)],code :=
 (sQ (rG 0 [mI 0 10 0] [1,2,3,0,4])
 (sQ (rG 0 [mS 0 12 0,mS 1 13 1,mS 2 14 2,mS 3 15 4,⟨4,(some 16),none,.call ⟨false⟩ (.k (.c (.fn 323 [] []))) [(.s 12),(.s 13),(.s 14),(.s 15)]⟩,mS 5 11 16,eX 6 17 11 0,eX 7 18 11 1,mS 8 1 17,mS 9 2 18] [2,3,0,1,4])
 (sQ (rG 0 [mS 0 20 0,mS 1 21 2,mS 2 22 3,mS 3 23 4,⟨4,(some 24),none,.call ⟨false⟩ (.k (.c (.fn 323 [] []))) [(.s 20),(.s 21),(.s 22),(.s 23)]⟩,mS 5 19 24,eX 6 25 19 0,eX 7 26 19 1,mS 8 2 25,mS 9 3 26] [0,1,2,4])
 (sQ (rG 0 [mS 0 28 0,mS 1 29 1,mS 2 30 2,mS 3 31 4,⟨4,(some 32),none,.call ⟨false⟩ (.k (.c (.fn 323 [] []))) [(.s 28),(.s 29),(.s 30),(.s 31)]⟩,mS 5 27 32,eX 6 33 27 0,eX 7 34 27 1,mS 8 1 33,mS 9 2 34] [2])
 (sQ (rG 0 [mS 0 35 2,mS 1 10 35] [10])
 .ret))))) }
def zbo:CC:=(sQ (sQ (rG 0 [mS 0 11 10,mS 1 12 3,bS 2 13 .lss 11 12] [13,10,3,2,0,1])
 (.cond (.s 13) .skip
 (.exit 0)))
 (sQ (.block 1 (rG 0 [mS 0 16 0,mS 1 17 1,mS 2 18 10,bS 3 19 .add 17 18,mS 4 20 0,mS 5 21 2,mS 6 22 10,bS 7 23 .add 21 22,mS 8 24 0,mS 9 25 2,mS 10 26 10,bS 11 27 .add 25 26,iA 12 28 6 24 27,mS 14 30 0,mS 15 31 1,mS 16 32 10,bS 17 33 .add 31 32,iA 18 34 6 30 33,lT 13 29 6 28,lT 19 35 6 34,iA 20 36 6 16 19,o0 21 (.store 6 (.s 36) (.s 29)),iA 22 37 6 20 23,o0 23 (.store 6 (.s 37) (.s 35))] [10,3,2,0,1]))
 (rG 0 [mS 0 14 10,bI 1 15 .add 14 1,mS 2 10 15] [10,3,2,0,1])))
abbrev zg5:Nat:=322
def zcH:CFn:={ frz:=true,rnd:=none,nargs:=5,ntmps:=38,res:=[],code :=
 (sQ (rG 0 [mI 0 10 0] [10,3,2,0,1])
 (.block 0 (.loop (some [10,3,2,0,1]) zbo))) }
def zhC:CFn:={ frz:=true,rnd:=none,nargs:=4,ntmps:=28,res:=[(.slot 8),(.slot 9)],code :=
 (sQ (rG 0 [mI 0 8 0,mI 1 9 0] [0,3,2,1])
 (sQ (sQ (rG 0 [mS 0 10 0,mS 1 11 2,iA 2 12 1 10 11,mS 4 14 0,mS 5 15 1,iA 6 16 1 14 15,lF 3 13 12,lF 7 17 16,cA 8 18 312 [(.s 13),(.s 17)]] [18,3,2,1])
 (.cond (.s 18) (sQ (rG 0 [mS 0 19 3,nC 1 20 19,lF 2 21 20,bI 3 22 .add 21 1,nC 4 23 19,o0 5 (.store 1 (.s 23) (.s 22))] [2,1])
 (sQ (rG 0 [mS 0 24 2,mS 1 25 1,mS 2 8 24,mS 3 9 25] [8,9])
 .ret))
 .skip))
 (sQ (rG 0 [mS 0 26 1,mS 1 27 2,mS 2 8 26,mS 3 9 27] [8,9])
 .ret))) }
def Cs:List (Nat×Nat×Nat×Bool):=[(165,0,10663,false),(224,6,48,false)]
def L:List (Nat×CFn):=[(3,zFJ),(11,zFS),(12,zGb),(13,zZ),(14,zdH),(15,zFP),(16,zFK),(17,zaE),(20,zFH),(26,zGh),(29,zeK),(33,zGi),(36,zeJ),(38,zaR),(39,zGa),(47,zFN),(48,zGk),(49,zGK),(50,zGO),(51,zGA),(52,zee),(53,ze2),(54,zdi),(55,zFQ),(60,zai),(62,zaj),(63,zep),(64,zfH),(69,ze0),(73,zdW),(74,zGz),(75,zjY),(81,zen),(82,zc9),(83,ziy),(84,zix),(85,zhI),(86,ziw),(87,zdF),(88,zeI),(103,zF3),(104,zF0),(105,zGB),(106,zGp),(107,zbJ),(108,zbl),(109,ziv),(110,zkM),(111,zeZ),(112,zcT),(120,zeo),(121,zdY),(122,zF),(123,zd0),(124,zbQ),(125,zdX),(126,zcv),(127,zp),(128,zem),(134,zcA),(135,zfm),(136,zGu),(137,zGo),(138,zj0),(139,zkU),(140,zjr),(148,zF2),(149,zGq),(150,zjp),(151,zgJ),(152,ziu),(153,zrD),(154,zis),(155,zeW),(156,zit),(157,zfF),(158,zhE),(159,zel),(160,zed),(161,za9),(162,zcI),(163,zfG),(164,zeH),(166,zjq),(167,zeQ),(168,zbk),(173,zir),(176,zfw),(177,zbq),(178,zb3),(190,zdJ),(192,ze1),(193,zdr),(194,zdI),(195,zbB),(198,zjZ),(199,zkS),(200,zkT),(201,zlt),(202,zmg),(207,zdq),(208,zeY),(209,zmV),(210,zmf),(211,zeX),(212,zmU),(213,zfE),(214,znA),(215,zh5),(216,zgM),(217,zh2),(218,zme),(219,za),(221,zpW),(222,zhF),(223,zb6),(225,zhH),(226,zcd),(227,zhG),(228,zfO),(239,zh4),(242,ze6),(243,zfU),(249,zhf),(253,zgL),(254,zsm),(255,zrC),(256,zjV),(257,zjU),(258,zrG),(259,zf9),(260,zfD),(261,zdl),(270,zog),(271,zof),(272,zc2),(273,zdj),(283,zjo),(290,zuo),(291,zun),(292,zum),(293,znB),(294,zrF),(295,zcS),(297,zjT),(298,zkN),(301,zce),(302,zc),(305,zrE),(306,zbh),(307,zg7),(308,zfN),(309,zgs),(310,zf3),(311,zeG),(312,zg8),(313,zfB),(314,zgR),(316,zdk),(318,zo2),(319,zg6),(320,zfC),(321,zhD),(322,zcH),(323,zhC),(5046,zoh)]
theorem zFY:L.lookup 3=some zFJ:=by kernel_rfl
theorem zGc:L.lookup 11=some zFS:=by kernel_rfl
theorem z7:L.lookup 13=some zZ:=by kernel_rfl
theorem zlD:L.lookup 14=some zdH:=by kernel_rfl
theorem zGD:L.lookup 15=some zFP:=by kernel_rfl
theorem zF5:L.lookup 16=some zFK:=by kernel_rfl
theorem zlB:L.lookup 17=some zaE:=by kernel_rfl
theorem zFV:L.lookup 20=some zFH:=by kernel_rfl
theorem znH:L.lookup 29=some zeK:=by kernel_rfl
theorem zk7:L.lookup 36=some zeJ:=by kernel_rfl
theorem zlA:L.lookup 38=some zaR:=by kernel_rfl
theorem zGT:L.lookup 39=some zGa:=by kernel_rfl
theorem zGf:L.lookup 47=some zFN:=by kernel_rfl
theorem zm4:L.lookup 52=some zee:=by kernel_rfl
theorem zlH:L.lookup 53=some ze2:=by kernel_rfl
theorem zuA:L.lookup 54=some zdi:=by kernel_rfl
theorem zGl:L.lookup 55=some zFQ:=by kernel_rfl
theorem zia:L.lookup 60=some zai:=by kernel_rfl
theorem zk4:L.lookup 62=some zaj:=by kernel_rfl
theorem zkc:L.lookup 63=some zep:=by kernel_rfl
theorem zm3:L.lookup 64=some zfH:=by kernel_rfl
theorem zlC:L.lookup 69=some ze0:=by kernel_rfl
theorem zmr:L.lookup 73=some zdW:=by kernel_rfl
theorem zka:L.lookup 81=some zen:=by kernel_rfl
theorem zj9:L.lookup 82=some zc9:=by kernel_rfl
theorem ziH:L.lookup 87=some zdF:=by kernel_rfl
theorem zk3:L.lookup 88=some zeI:=by kernel_rfl
theorem zGH:L.lookup 103=some zF3:=by kernel_rfl
theorem zss:L.lookup 107=some zbJ:=by kernel_rfl
theorem znF:L.lookup 108=some zbl:=by kernel_rfl
theorem zrZ:L.lookup 109=some ziv:=by kernel_rfl
theorem zuz:L.lookup 110=some zkM:=by kernel_rfl
theorem zly:L.lookup 111=some zeZ:=by kernel_rfl
theorem zhx:L.lookup 112=some zcT:=by kernel_rfl
theorem zkb:L.lookup 120=some zeo:=by kernel_rfl
theorem zmu:L.lookup 121=some zdY:=by kernel_rfl
theorem ziG:L.lookup 122=some zF:=by kernel_rfl
theorem zjy:L.lookup 123=some zd0:=by kernel_rfl
theorem zk2:L.lookup 124=some zbQ:=by kernel_rfl
theorem zms:L.lookup 125=some zdX:=by kernel_rfl
theorem zfz:L.lookup 126=some zcv:=by kernel_rfl
theorem zcr:L.lookup 127=some zp:=by kernel_rfl
theorem zj7:L.lookup 128=some zem:=by kernel_rfl
theorem zlz:L.lookup 134=some zcA:=by kernel_rfl
theorem zmt:L.lookup 135=some zfm:=by kernel_rfl
theorem zsu:L.lookup 150=some zjp:=by kernel_rfl
theorem zrT:L.lookup 151=some zgJ:=by kernel_rfl
theorem zrY:L.lookup 152=some ziu:=by kernel_rfl
theorem zrW:L.lookup 154=some zis:=by kernel_rfl
theorem zlu:L.lookup 155=some zeW:=by kernel_rfl
theorem zrX:L.lookup 156=some zit:=by kernel_rfl
theorem zm0:L.lookup 157=some zfF:=by kernel_rfl
theorem zp3:L.lookup 158=some zhE:=by kernel_rfl
theorem zj6:L.lookup 159=some zel:=by kernel_rfl
theorem zm2:L.lookup 160=some zed:=by kernel_rfl
theorem zlx:L.lookup 161=some za9:=by kernel_rfl
theorem zeL:L.lookup 162=some zcI:=by kernel_rfl
theorem zm1:L.lookup 163=some zfG:=by kernel_rfl
theorem ziF:L.lookup 164=some zeH:=by kernel_rfl
theorem zsv:L.lookup 166=some zjq:=by kernel_rfl
theorem zsx:L.lookup 167=some zeQ:=by kernel_rfl
theorem zcq:L.lookup 168=some zbk:=by kernel_rfl
theorem zrV:L.lookup 173=some zir:=by kernel_rfl
theorem zow:L.lookup 176=some zfw:=by kernel_rfl
theorem zhS:L.lookup 177=some zbq:=by kernel_rfl
theorem zja:L.lookup 178=some zb3:=by kernel_rfl
theorem zlF:L.lookup 190=some zdJ:=by kernel_rfl
theorem zlG:L.lookup 192=some ze1:=by kernel_rfl
theorem zk6:L.lookup 193=some zdr:=by kernel_rfl
theorem zlE:L.lookup 194=some zdI:=by kernel_rfl
theorem zj8:L.lookup 195=some zbB:=by kernel_rfl
theorem zk5:L.lookup 207=some zdq:=by kernel_rfl
end Go.TrRun
