/- This text lists functions of this seat's program, compiled for the evaluator; no condition. -/
import Derived.Test.YtammkplkmigccaaGreatEg3
import Derived.KernelRfl
set_option linter.unusedVariables false
namespace Go.TrRun
open Go Go.Eng
instance : GlobP := ⟨fun g => none⟩
def an : Ann := anOf [78,153,193,195,210,212,236,237,238,239,240,241,242,243,259,269,274,277,278,282,283,284,285,286,287,288,289,290,291,293,294,295,296,297,298,299,300,301,302,303,304,305,306,308,309,310,311,312,313,314,315] [74,195,210,283]
abbrev f_kerbstonelaw05_TrackFinds : Nat := 4
def c_kerbstonelaw05_TrackFinds : CFn := { frz := true,rnd := none,nargs := 4,ntmps := 47,res := [(.slot 8)],code :=
  (sQ (rG 0 [mB 0 8 false] [3,2,1,0])
  (sQ (sQ (rG 0 [mS 0 10 1,lN 1 11 10,bI 2 12 .gtr 11 20,mS 3 13 12,oG 4 14 13 false (.mv (.s 2)),oG 5 15 13 false (.len (.s 14)),oG 6 16 13 false (.bin .gtr (.s 15) (kI 8)),o1 7 17 (.pick (.s 13) (kB true) (.s 16)),mS 8 18 17,oG 9 19 18 false (.mv (.s 3)),oG 10 20 18 false (.len (.s 19)),oG 11 21 18 false (.bin .gtr (.s 20) (kI 8)),o1 12 22 (.pick (.s 18) (kB true) (.s 21))] [22,3,2,1,0])
  (.cond (.s 22) (sQ (rG 0 [cA 0 23 11 [],mS 1 8 23] [8])
  .ret)
  .skip))
  (sQ (rG 1 [mS 0 24 0,cA 1 25 12 [(.s 24)],o1 2 9 (.box 0 5 (.k (.a [(I 0),.nilslice,.nilslice,.nilslice,.nilslice]))),o0 3 (.store 5 (.s 9) (.s 25))] [1,2,3,9])
  (sQ (.region 0 [mS 1 27 1,mS 4 30 1,lT 0 26 5 9,lT 3 29 5 9,cA 2 28 23 [(.s 26),(.s 27)],cA 5 31 24 [(.s 29),(.s 30)],cA 6 32 22 [(.s 28),(.s 31)],mS 7 33 32,oG 9 35 33 true (.mv (.s 2)),oG 10 36 33 true (.mv (.s 3)),oG 13 39 33 true (.mv (.s 2)),oG 14 40 33 true (.mv (.s 3)),oG 8 34 33 true (.load true 5 (.s 9)),oG 12 38 33 true (.load true 5 (.s 9)),⟨11,(some 37),(some (33,true)),.call ⟨true⟩ (.k (.c (.fn 26 [] []))) [(.s 34),(.s 35),(.s 36)]⟩,⟨15,(some 41),(some (33,true)),.call ⟨true⟩ (.k (.c (.fn 27 [] []))) [(.s 38),(.s 39),(.s 40)]⟩,⟨16,(some 42),(some (33,true)),.call ⟨true⟩ (.k (.c (.fn 25 [] []))) [(.s 37),(.s 41)]⟩,o1 17 43 (.pick (.s 33) (.s 42) (kB false)),mS 18 44 43,⟨19,(some 45),(some (44,true)),.call ⟨true⟩ (.k (.c (.fn 11 [] []))) []⟩,o1 20 46 (.pick (.s 44) (.s 45) (kB false)),mS 21 8 46] [(3,4),(13,14)] (some [8]))
  .ret)))) }
abbrev f_kerbstonelaw05_awake : Nat := 11
def c_kerbstonelaw05_awake : CFn := { frz := true,rnd := none,nargs := 0,ntmps := 31,res := [(.slot 0)],code :=
  (sQ (rG 0 [mB 0 0 false] [])
  (sQ (rG 1 [o1 0 4 (.build [(I 0),(I 0),(I 0),(I 0),(I 0),(I 0)] [(1,1,(kI 5)),(2,1,(kI 9))]),o1 1 5 (.build [(I 0),(I 0),(I 0),(I 0),(I 0),(I 0)] [(2,1,(kI 4))]),o1 2 6 (.build [(I 0),(I 0),(I 0),(I 0),(I 0),(I 0)] [(1,1,(kI 11)),(2,1,(kI 12))]),o1 3 7 (.build [(I 0),(I 0),(I 0),(I 0),(I 0),(I 0)] [(1,1,(kI 20)),(2,1,(kI 19))]),o1 4 8 (.lit 0 6 [[(I 0),(I 0),(I 0),(I 0),(I 0),(I 0)],[(I 0),(I 0),(I 0),(I 0),(I 0),(I 0)],[(I 0),(I 0),(I 0),(I 0),(I 0),(I 0)],[(I 0),(I 0),(I 0),(I 0),(I 0),(I 0)]] [(0,(.s 4)),(1,(.s 5)),(2,(.s 6)),(3,(.s 7))]),cA 5 9 52 [(.s 8)],mS 6 1 9] [1])
  (sQ (rG 1 [cA 0 10 53 [],o1 1 2 (.box 0 5 (.k (.a [(I 0),.nilslice,.nilslice,.nilslice,.nilslice]))),o0 2 (.store 5 (.s 2) (.s 10))] [2,1])
  (sQ (.region 2 [lT 0 11 5 2,lT 2 13 5 2,cA 3 14 55 [],cA 4 15 54 [(.s 13),(kI 0),(.s 14)],o1 1 12 (.lit 0 1 [[(I 0)]] [(0,(kI 0))]),cA 5 16 49 [(.s 11),(.s 12),(kI 4000),(.s 15)],o1 6 3 (.box 1 6 (.k (.a [(I 0),.nilslice,(I 0),(I 0),(I 0),(I 0)]))),o0 7 (.store 6 (.s 3) (.s 16))] [(0,2),(0,3),(0,4),(0,6),(1,2),(1,4),(1,6),(2,4),(2,6),(3,4),(3,6),(4,6),(5,6)] (some [1,3]))
  (sQ (rG 2 [mS 0 17 1,o1 1 18 (.build [(I 0),(I 0),(I 0),(I 0),(I 0),(I 0)] [(2,1,(kI 9))]),o1 2 19 (.build [(I 0),(I 0),(I 0),(I 0),(I 0),(I 0)] [(1,1,(kI 11)),(2,1,(kI 12))]),o1 3 20 (.lit 0 6 [[(I 0),(I 0),(I 0),(I 0),(I 0),(I 0)],[(I 0),(I 0),(I 0),(I 0),(I 0),(I 0)]] [(0,(.s 18)),(1,(.s 19))]),cA 4 21 51 [(.s 17),(.s 20)],mS 5 22 21,oG 6 23 22 true (.faddr 1 (.s 3)),oG 7 24 22 true (.load false 1 (.s 23)),oG 8 25 22 true (.build [(I 0),(I 0),(I 0),(I 0),(I 0),(I 0)] [(2,1,(kI 6009)),(4,1,(kI 2000))]),oG 9 26 22 true (.build [(I 0),(I 0),(I 0),(I 0),(I 0),(I 0)] [(1,1,(kI 10001)),(2,1,(kI 100000)),(4,1,(kI 2000))]),oG 10 27 22 true (.build [(I 0),(I 0),(I 0),(I 0),(I 0),(I 0)] [(0,1,(kI 1)),(2,1,(kI 100000)),(4,1,(kI 2000))]),oG 11 28 22 true (.lit 1 6 [[(I 0),(I 0),(I 0),(I 0),(I 0),(I 0)],[(I 0),(I 0),(I 0),(I 0),(I 0),(I 0)],[(I 0),(I 0),(I 0),(I 0),(I 0),(I 0)]] [(0,(.s 25)),(1,(.s 26)),(2,(.s 27))]),⟨12,(some 29),(some (22,true)),.call ⟨true⟩ (.k (.c (.fn 51 [] []))) [(.s 24),(.s 28)]⟩,o1 13 30 (.pick (.s 22) (.s 29) (kB false)),mS 14 0 30] [0])
  .ret))))) }
abbrev f_kerbstonekit_Map : Nat := 12
def c_kerbstonekit_Map : CFn := { frz := true,rnd := none,nargs := 1,ntmps := 179,res := [(.cell 2 true 5)],code :=
  (sQ (rG 1 [o1 0 2 (.box 0 5 (.k (.a [(I 0),.nilslice,.nilslice,.nilslice,.nilslice])))] [0,2])
  (sQ (rG 0 [mS 0 5 0,cA 1 6 56 [(.s 5),(kI 16777216)],mS 2 0 6] [0,2])
  (sQ (rG 1 [o1 0 7 (.lit 0 1 [[(I 0)],[(I 0)],[(I 0)],[(I 0)]] [(0,(kI 1500)),(1,(kI 600)),(2,(kI 1000)),(3,(kI 300))]),mS 1 8 0,bI 2 9 .quo 8 7,bI 3 10 .rem 9 4,iA 4 11 1 7 10,lF 5 12 11,mS 6 3 12] [3,0,2])
  (sQ (rG 1 [o1 0 4 (.box 0 5 (.k (.a [(I 0),.nilslice,.nilslice,.nilslice,.nilslice])))] [3,0,4,2])
  (sQ (sQ (rG 0 [mS 0 13 0,bI 1 14 .rem 13 7] [14,3,0,4,2])
  (.block 0 (sQ (rG 0 [bI 0 16 .eql 14 0,mS 1 15 16] [15,14,3,0,4,2])
  (.cond (.s 15) (rG 2 [mS 0 17 3,o1 1 18 (.lit 0 1 [[(I 0)],[(I 0)],[(I 0)],[(I 0)]] [(0,(kI 0)),(1,(kI 0)),(2,(kI 60000)),(3,(kI 0))]),cA 2 19 57 [(kI 1),(.s 17),(.k (.c .nilslice)),(.s 18)],o1 3 20 (.lit 1 5 [[(I 0),.nilslice,(I 0),(I 0),.nilslice]] [(0,(.s 19))]),fA 4 21 1 4,o0 5 (.store 1 (.s 21) (.s 20))] [0,4,2])
  (sQ (sQ (rG 0 [bI 0 23 .eql 14 1,mS 1 22 23] [22,14,3,0,4,2])
  (.cond (.s 22) .skip
  (rG 0 [bI 0 24 .eql 14 2,mS 1 22 24] [22,14,3,0,4,2])))
  (.cond (.s 22) (sQ (rG 3 [mS 0 25 3,o1 1 26 (.lit 0 1 [[(I 0)],[(I 0)],[(I 0)],[(I 0)]] [(0,(kI 0)),(1,(kI 0)),(2,(kI 50000)),(3,(kI 0))]),cA 2 27 57 [(kI 1),(.s 25),(.k (.c .nilslice)),(.s 26)],o1 3 28 (.lit 1 1 [[(I 0)],[(I 0)],[(I 0)],[(I 0)]] [(0,(kI 30000)),(1,(kI (-20000))),(2,(kI 30000)),(3,(kI 20000))]),cA 4 29 57 [(kI 1),(kI 1500),(.k (.c .nilslice)),(.s 28)],o1 5 30 (.lit 2 5 [[(I 0),.nilslice,(I 0),(I 0),.nilslice],[(I 0),.nilslice,(I 0),(I 0),.nilslice]] [(0,(.s 27)),(1,(.s 29))]),fA 6 31 1 4,o0 7 (.store 1 (.s 31) (.s 30))] [0,4,2])
  (sQ (rG 2 [mS 0 32 0,bI 1 33 .quo 32 28,bI 2 34 .rem 33 2,o1 3 35 (.build [(I 0),(I 0),(I 0),(I 0)] [(0,1,(kI 0)),(1,1,(kI 28000)),(2,1,(kI 32000)),(3,1,(.s 34))]),mS 4 36 0,bI 5 37 .quo 36 28,bI 6 38 .rem 37 2,o1 7 39 (.bin .mul (kI 2) (.s 38)),o1 8 40 (.bin .sub (kI 2) (.s 39)),o1 9 41 (.build [(I 0),(I 0),(I 0),(I 0)] [(0,1,(kI 1)),(1,1,(kI 18000)),(2,1,(kI 22000)),(3,1,(.s 40))]),o1 10 42 (.lit 0 4 [[(I 0),(I 0),(I 0),(I 0)],[(I 0),(I 0),(I 0),(I 0)]] [(0,(.s 35)),(1,(.s 41))]),o1 11 43 (.build [.nilslice,(I 0)] [(0,1,(.s 42))]),o1 12 44 (.lit 1 2 [[.nilslice,(I 0)]] [(0,(.s 43))]),fA 13 45 2 4,o0 14 (.store 1 (.s 45) (.s 44))] [0,4,2])
  (sQ (rG 0 [mS 0 46 0,bI 1 47 .rem 46 7,bI 2 48 .eql 47 2] [48,0,4,2])
  (.cond (.s 48) (sQ (rG 0 [fA 0 49 2 4,lF 1 50 49,o1 2 51 (.iaddr 2 (.s 50) (kI 0)),fA 3 52 1 51,o0 4 (.store 1 (.s 52) (kI 1))] [0,4,2])
  (rG 1 [mS 0 53 0,bI 1 54 .quo 53 28,bI 2 55 .rem 54 31,cA 3 56 58 [(.s 55),(kI 0),(kI 1)],o1 4 57 (.lit 0 2 [[(I 0),.nilslice]] [(0,(.s 56))]),fA 5 58 3 4,o0 6 (.store 1 (.s 58) (.s 57))] [0,4,2]))
  .skip))))
  (sQ (rG 0 [bI 0 60 .eql 14 3,mS 1 59 60] [59,14,3,0,4,2])
  (.cond (.s 59) (rG 5 [mS 0 61 3,o1 1 62 (.lit 0 1 [[(I 0)],[(I 0)]] [(0,(kI 1)),(1,(kI 2))]),o1 2 63 (.lit 1 1 [[(I 0)],[(I 0)],[(I 0)],[(I 0)]] [(0,(kI 0)),(1,(kI 0)),(2,(kI 30000)),(3,(kI 0))]),cA 3 64 57 [(kI 1),(.s 61),(.s 62),(.s 63)],o1 4 65 (.lit 2 1 [[(I 0)],[(I 0)],[(I 0)],[(I 0)]] [(0,(kI 30000)),(1,(kI 0)),(2,(kI 60000)),(3,(kI 0))]),cA 5 66 57 [(kI 1),(kI 1500),(.k (.c .nilslice)),(.s 65)],o1 6 67 (.lit 3 1 [[(I 0)],[(I 0)],[(I 0)],[(I 0)]] [(0,(kI 30000)),(1,(kI 0)),(2,(kI 54000)),(3,(kI 10000))]),cA 7 68 57 [(kI 1),(kI 800),(.k (.c .nilslice)),(.s 67)],o1 8 69 (.lit 4 5 [[(I 0),.nilslice,(I 0),(I 0),.nilslice],[(I 0),.nilslice,(I 0),(I 0),.nilslice],[(I 0),.nilslice,(I 0),(I 0),.nilslice]] [(0,(.s 64)),(1,(.s 66)),(2,(.s 68))]),fA 9 70 1 4,o0 10 (.store 1 (.s 70) (.s 69))] [0,4,2])
  (sQ (rG 0 [bI 0 72 .eql 14 4,mS 1 71 72] [71,14,3,0,4,2])
  (.cond (.s 71) (sQ (rG 6 [mS 0 73 3,o1 1 74 (.lit 0 1 [[(I 0)]] [(0,(kI 2))]),o1 2 75 (.lit 1 1 [[(I 0)],[(I 0)],[(I 0)],[(I 0)]] [(0,(kI 0)),(1,(kI 0)),(2,(kI 30000)),(3,(kI 0))]),cA 3 76 57 [(kI 1),(.s 73),(.s 74),(.s 75)],o1 4 77 (.lit 2 1 [[(I 0)]] [(0,(kI 2))]),o1 5 78 (.lit 3 1 [[(I 0)],[(I 0)],[(I 0)],[(I 0)]] [(0,(kI 6000)),(1,(kI (-10000))),(2,(kI 30000)),(3,(kI 0))]),cA 6 79 57 [(kI 1),(kI 1500),(.s 77),(.s 78)],o1 7 80 (.lit 4 1 [[(I 0)],[(I 0)],[(I 0)],[(I 0)]] [(0,(kI 30000)),(1,(kI 0)),(2,(kI 60000)),(3,(kI 0))]),cA 8 81 57 [(kI 1),(kI 1500),(.k (.c .nilslice)),(.s 80)],o1 9 82 (.lit 5 5 [[(I 0),.nilslice,(I 0),(I 0),.nilslice],[(I 0),.nilslice,(I 0),(I 0),.nilslice],[(I 0),.nilslice,(I 0),(I 0),.nilslice]] [(0,(.s 76)),(1,(.s 79)),(2,(.s 81))]),fA 10 83 1 4,o0 11 (.store 1 (.s 83) (.s 82))] [0,4,2])
  (rG 2 [o1 0 84 (.build [(I 0),(I 0),(I 0),(I 0)] [(0,1,(kI 0)),(1,1,(kI 25000)),(2,1,(kI 30000)),(3,1,(kI 1))]),o1 1 85 (.build [(I 0),(I 0),(I 0),(I 0)] [(0,1,(kI 1)),(1,1,(kI 20000)),(2,1,(kI 26000))]),o1 2 86 (.build [(I 0),(I 0),(I 0),(I 0)] [(0,1,(kI 2)),(2,1,(kI 5000))]),o1 3 87 (.lit 0 4 [[(I 0),(I 0),(I 0),(I 0)],[(I 0),(I 0),(I 0),(I 0)],[(I 0),(I 0),(I 0),(I 0)]] [(0,(.s 84)),(1,(.s 85)),(2,(.s 86))]),o1 4 88 (.build [.nilslice,(I 0)] [(0,1,(.s 87))]),o1 5 89 (.lit 1 2 [[.nilslice,(I 0)]] [(0,(.s 88))]),fA 6 90 2 4,o0 7 (.store 1 (.s 90) (.s 89))] [0,4,2]))
  (sQ (rG 0 [bI 0 92 .eql 14 5,mS 1 91 92] [91,14,3,0,4,2])
  (.cond (.s 91) (sQ (rG 5 [mS 0 93 3,o1 1 94 (.lit 0 1 [[(I 0)]] [(0,(kI 1))]),o1 2 95 (.lit 1 1 [[(I 0)],[(I 0)],[(I 0)],[(I 0)]] [(0,(kI 0)),(1,(kI 0)),(2,(kI 20000)),(3,(kI 0))]),cA 3 96 57 [(kI 1),(.s 93),(.s 94),(.s 95)],mS 4 97 3,o1 5 98 (.lit 2 1 [[(I 0)],[(I 0)],[(I 0)],[(I 0)]] [(0,(kI 20000)),(1,(kI 0)),(2,(kI 50000)),(3,(kI 0))]),cA 6 99 57 [(kI 1),(.s 97),(.k (.c .nilslice)),(.s 98)],o1 7 100 (.lit 3 1 [[(I 0)],[(I 0)],[(I 0)],[(I 0)]] [(0,(kI 35000)),(1,(kI (-8000))),(2,(kI 35000)),(3,(kI 8000))]),cA 8 101 57 [(kI 3),(kI 200),(.k (.c .nilslice)),(.s 100)],o1 9 102 (.lit 4 5 [[(I 0),.nilslice,(I 0),(I 0),.nilslice],[(I 0),.nilslice,(I 0),(I 0),.nilslice],[(I 0),.nilslice,(I 0),(I 0),.nilslice]] [(0,(.s 96)),(1,(.s 99)),(2,(.s 101))]),fA 10 103 1 4,o0 11 (.store 1 (.s 103) (.s 102))] [0,4,2])
  (rG 2 [o1 0 104 (.build [(I 0),(I 0),(I 0),(I 0)] [(0,1,(kI 1)),(1,1,(kI 14000)),(2,1,(kI 16000))]),o1 1 105 (.build [(I 0),(I 0),(I 0),(I 0)] [(0,1,(kI 2)),(1,1,(kI 6000)),(2,1,(kI 10000)),(3,1,(kI 3))]),o1 2 106 (.lit 0 4 [[(I 0),(I 0),(I 0),(I 0)],[(I 0),(I 0),(I 0),(I 0)]] [(0,(.s 104)),(1,(.s 105))]),o1 3 107 (.build [.nilslice,(I 0)] [(0,1,(.s 106))]),o1 4 108 (.lit 1 2 [[.nilslice,(I 0)]] [(0,(.s 107))]),fA 5 109 2 4,o0 6 (.store 1 (.s 109) (.s 108))] [0,4,2]))
  (sQ (rG 0 [bI 0 111 .eql 14 6,mS 1 110 111] [110,3,0,4,2])
  (.cond (.s 110) (sQ (rG 6 [mS 0 112 3,o1 1 113 (.lit 0 1 [[(I 0)],[(I 0)]] [(0,(kI 1)),(1,(kI 2))]),o1 2 114 (.lit 1 1 [[(I 0)],[(I 0)],[(I 0)],[(I 0)]] [(0,(kI 0)),(1,(kI 0)),(2,(kI 20000)),(3,(kI 0))]),cA 3 115 57 [(kI 1),(.s 112),(.s 113),(.s 114)],o1 4 116 (.lit 2 1 [[(I 0)],[(I 0)],[(I 0)],[(I 0)]] [(0,(kI 20000)),(1,(kI 0)),(2,(kI 50000)),(3,(kI 0))]),cA 5 117 57 [(kI 1),(kI 1500),(.k (.c .nilslice)),(.s 116)],o1 6 118 (.lit 3 1 [[(I 0)],[(I 0)],[(I 0)],[(I 0)]] [(0,(kI 20000)),(1,(kI 0)),(2,(kI 44000)),(3,(kI 10000))]),cA 7 119 57 [(kI 1),(kI 1000),(.k (.c .nilslice)),(.s 118)],o1 8 120 (.lit 4 1 [[(I 0)],[(I 0)],[(I 0)],[(I 0)]] [(0,(kI 36000)),(1,(kI (-12000))),(2,(kI 36000)),(3,(kI 18000))]),cA 9 121 57 [(kI 2),(kI 700),(.k (.c .nilslice)),(.s 120)],o1 10 122 (.lit 5 5 [[(I 0),.nilslice,(I 0),(I 0),.nilslice],[(I 0),.nilslice,(I 0),(I 0),.nilslice],[(I 0),.nilslice,(I 0),(I 0),.nilslice],[(I 0),.nilslice,(I 0),(I 0),.nilslice]] [(0,(.s 115)),(1,(.s 117)),(2,(.s 119)),(3,(.s 121))]),fA 11 123 1 4,o0 12 (.store 1 (.s 123) (.s 122))] [0,4,2])
  (sQ (rG 3 [o1 0 124 (.build [(I 0),(I 0),(I 0),(I 0)] [(0,1,(kI 1)),(1,1,(kI 14000)),(2,1,(kI 18000)),(3,1,(kI 1))]),o1 1 125 (.build [(I 0),(I 0),(I 0),(I 0)] [(0,1,(kI 3)),(1,1,(kI 10000)),(2,1,(kI 14000))]),o1 2 126 (.lit 0 4 [[(I 0),(I 0),(I 0),(I 0)],[(I 0),(I 0),(I 0),(I 0)]] [(0,(.s 124)),(1,(.s 125))]),o1 3 127 (.build [.nilslice,(I 0)] [(0,1,(.s 126))]),o1 4 128 (.build [(I 0),(I 0),(I 0),(I 0)] [(0,1,(kI 2)),(1,1,(kI 14000)),(2,1,(kI 21000)),(3,1,(kI 1))]),o1 5 129 (.build [(I 0),(I 0),(I 0),(I 0)] [(0,1,(kI 3)),(1,1,(kI 14500)),(2,1,(kI 23000))]),o1 6 130 (.lit 1 4 [[(I 0),(I 0),(I 0),(I 0)],[(I 0),(I 0),(I 0),(I 0)]] [(0,(.s 128)),(1,(.s 129))]),o1 7 131 (.build [.nilslice,(I 0)] [(0,1,(.s 130))]),o1 8 132 (.lit 2 2 [[.nilslice,(I 0)],[.nilslice,(I 0)]] [(0,(.s 127)),(1,(.s 131))]),fA 9 133 2 4,o0 10 (.store 1 (.s 133) (.s 132))] [0,4,2])
  (sQ (rG 0 [mS 0 134 0,bI 1 135 .quo 134 28,bI 2 136 .rem 135 2,bI 3 137 .eql 136 1] [137,0,4,2])
  (.cond (.s 137) (sQ (.region 0 [fA 0 138 2 4,fA 2 140 2 4,lF 1 139 138,o1 4 142 (.iaddr 2 (.s 139) (kI 0)),fA 5 143 1 142,lF 3 141 140,o0 6 (.store 1 (.s 143) (kI 1)),o1 7 144 (.iaddr 2 (.s 141) (kI 1)),fA 8 145 1 144,o0 9 (.store 1 (.s 145) (kI 2))] [(5,6)] (some [0,4,2]))
  (rG 1 [mS 0 146 0,bI 1 147 .quo 146 56,bI 2 148 .rem 147 31,cA 3 149 58 [(.s 148),(kI 1),(kI 3)],mS 4 150 0,bI 5 151 .quo 150 56,bI 6 152 .rem 151 17,cA 7 153 58 [(.s 152),(kI 2),(kI 3)],o1 8 154 (.lit 0 2 [[(I 0),.nilslice],[(I 0),.nilslice]] [(0,(.s 149)),(1,(.s 153))]),fA 9 155 3 4,o0 10 (.store 1 (.s 155) (.s 154))] [0,4,2]))
  .skip))))
  .skip))))))))))))))
  (sQ (rG 0 [mS 0 156 0,bI 1 157 .quo 156 28,bI 2 158 .rem 157 5,fA 3 159 0 4,o0 4 (.store 1 (.s 159) (.s 158))] [0,4,2])
  (sQ (sQ (rG 0 [mS 0 160 0,bI 1 161 .quo 160 1736,bI 2 162 .rem 161 3,bI 3 163 .eql 162 1] [163,0,4,2])
  (.cond (.s 163) (rG 1 [mS 0 164 0,bI 1 165 .quo 164 5208,bI 2 166 .rem 165 40,mS 3 167 0,bI 4 168 .quo 167 5208,bI 5 169 .rem 168 40,bI 6 170 .add 169 20,mS 7 171 0,bI 8 172 .quo 171 208320,bI 9 173 .rem 172 3,bI 10 174 .mul 173 200,o1 11 175 (.build [(I 0),(I 0),(I 0),(I 0),(I 0),(I 0)] [(0,1,(kI 0)),(1,1,(kI 10000)),(2,1,(kI 15000)),(3,1,(.s 166)),(4,1,(.s 170)),(5,1,(.s 174))]),o1 12 176 (.lit 0 6 [[(I 0),(I 0),(I 0),(I 0),(I 0),(I 0)]] [(0,(.s 175))]),fA 13 177 4 4,o0 14 (.store 1 (.s 177) (.s 176))] [4,2])
  .skip))
  (sQ (rG 0 [lT 0 178 5 4,o0 1 (.store 5 (.s 2) (.s 178))] [2])
  .ret)))))))) }
def c_track_Copy : CFn := { frz := true,rnd := none,nargs := 1,ntmps := 8,res := [(.cell 2 true 6)],code :=
  (sQ (rG 2 [o1 0 1 (.box 0 6 (.s 0)),o1 1 2 (.box 1 6 (.k (.a [(I 0),.nilslice,(I 0),(I 0),(I 0),(I 0)])))] [1,2])
  (sQ (rG 0 [fA 0 3 1 1,lF 1 4 3,cA 2 5 74 [(.s 4)],fA 3 6 1 1,o0 4 (.store 1 (.s 6) (.s 5))] [1,2])
  (sQ (rG 0 [lT 0 7 6 1,o0 1 (.store 6 (.s 2) (.s 7))] [2])
  .ret))) }
def c_kerbstonekit_SameFound_l1 : CC := (sQ (sQ (rG 0 [mS 0 6 5,mS 1 7 0,lN 2 8 7,bS 3 9 .lss 6 8,mS 4 10 9,oG 5 11 10 true (.mv (.s 5)),oG 6 12 10 true (.mv (.s 1)),oG 7 13 10 true (.len (.s 12)),oG 8 14 10 true (.bin .lss (.s 11) (.s 13)),o1 9 15 (.pick (.s 10) (.s 14) (kB false))] [15,1,0,5])
  (.cond (.s 15) .skip
  (.exit 0)))
  (sQ (.block 1 (sQ (rG 0 [mS 0 18 0,mS 1 19 5,iA 2 20 5 18 19,mS 4 22 1,mS 5 23 5,iA 6 24 5 22 23,lT 3 21 5 20,lT 7 25 5 24,o1 8 26 (.eqa true [false,false,false,false,false] (.s 21) (.s 25))] [26,1,0,5])
  (.cond (.s 26) (sQ (rG 0 [mB 0 4 false] [4])
  .ret)
  .skip)))
  (rG 0 [mS 0 16 5,bI 1 17 .add 16 1,mS 2 5 17] [0,1,5])))
abbrev f_kerbstonekit_SameFound : Nat := 22
def c_kerbstonekit_SameFound : CFn := { frz := true,rnd := none,nargs := 2,ntmps := 32,res := [(.slot 4)],code :=
  (sQ (rG 0 [mB 0 4 false] [0,1])
  (sQ (sQ (rG 0 [mI 0 5 0] [0,1,5])
  (.block 0 (.loop (some [0,1,5]) c_kerbstonekit_SameFound_l1)))
  (sQ (rG 0 [mS 0 27 0,lN 1 28 27,mS 2 29 1,lN 3 30 29,bS 4 31 .eql 28 30,mS 5 4 31] [4])
  .ret))) }
def c_track_Found_l1 : CC := (sQ (rG 0 [bS 0 28 .lss 27 26] [28,7,27,26,5,21,20,1,25,2,6])
  (sQ (.cond (.s 28) .skip
  (.exit 2))
  (sQ (.block 3 (sQ (rG 1 [iA 0 29 3 25 27,lT 1 30 3 29,o1 2 9 (.box 0 3 (.k (.a [(I 0),(I 0),(I 0)]))),o0 3 (.store 3 (.s 9) (.s 30))] [7,9,27,26,5,21,20,1,25,2,6])
  (rG 0 [mS 0 31 7,lT 1 32 5 2,mS 2 33 6,lT 3 34 3 9,cA 4 35 77 [(.s 32),(.s 33),(.s 34)],o1 5 36 (.append 5 40 (.s 31) (.s 35)),mS 6 7 36] [27,7,26,5,21,20,1,25,2,6])))
  (rG 0 [bI 0 37 .add 27 1,mS 1 27 37] [7,27,26,5,21,20,1,25,2,6]))))
def c_track_Found_l2 : CC := (sQ (rG 0 [bS 0 45 .lss 44 43] [45,44,43,2,1,20,21,42,10,5])
  (sQ (.cond (.s 45) .skip
  (.exit 4))
  (sQ (.block 5 (sQ (rG 1 [iA 0 46 5 42 44,lT 1 47 5 46,o1 2 12 (.box 0 5 (.k (.a [(I 0),(I 0),(I 0),(I 0),(I 0)]))),o0 3 (.store 5 (.s 12) (.s 47))] [12,44,43,2,1,20,21,42,10,5])
  (sQ (sQ (rG 0 [mS 0 48 5,lN 1 49 48,bI 2 50 .sub 49 1,mS 3 13 50] [13,12,44,43,2,1,20,21,42,10,5])
  (sQ (rG 0 [mS 0 51 13,mS 1 52 10,bS 2 53 .geq 51 52,mS 3 54 53,oG 4 55 54 true (.faddr 1 (.s 12)),oG 6 57 54 true (.mv (.s 5)),oG 7 58 54 true (.mv (.s 13)),oG 8 59 54 true (.iaddr 5 (.s 57) (.s 58)),oG 9 60 54 true (.faddr 2 (.s 59)),oG 5 56 54 true (.load false 1 (.s 55)),oG 10 61 54 true (.load false 1 (.s 60)),oG 11 62 54 true (.bin .sub (.s 56) (.s 61)),oG 12 63 54 true (.bin .leq (.s 62) (kI 500)),o1 13 64 (.pick (.s 54) (.s 63) (kB false))] [64,13,12,44,43,2,1,20,21,42,10,5])
  (.cond (.s 64) (sQ (rG 0 [mS 0 65 5,mS 1 66 13,iA 2 67 5 65 66,mS 3 14 67] [14,12,44,43,2,1,20,21,42,10,5])
  (sQ (.region 0 [mS 0 68 14,mS 1 69 14,mS 2 70 14,mS 3 71 14,nC 4 72 71,fA 5 73 2 72,fA 7 75 2 12,mS 10 78 14,nC 11 79 78,fA 12 80 3 79,fA 14 82 3 12,mS 17 85 14,nC 18 86 85,fA 19 87 4 86,fA 21 89 4 12,lF 6 74 73,lF 8 76 75,lF 13 81 80,lF 15 83 82,lF 20 88 87,lF 22 90 89,o1 9 77 (.minmax true [(.s 74),(.s 76)]),nC 24 92 68,fA 25 93 2 92,o1 16 84 (.minmax false [(.s 81),(.s 83)]),o1 23 91 (.minmax true [(.s 88),(.s 90)]),o0 26 (.store 1 (.s 93) (.s 77)),nC 27 94 69,fA 28 95 3 94,o0 29 (.store 1 (.s 95) (.s 84)),nC 30 96 70,fA 31 97 4 96,o0 32 (.store 1 (.s 97) (.s 91))] [(18,26),(20,26),(20,29)] (some [44,43,2,1,20,21,42,10,5]))
  (.exit 5)))
  .skip)))
  (rG 1 [mS 0 98 5,lT 1 99 5 12,o1 2 100 (.lit 0 5 [[(I 0),(I 0),(I 0),(I 0),(I 0)]] [(0,(.s 99))]),o1 3 101 (.append 5 40 (.s 98) (.s 100)),mS 4 5 101] [44,43,2,1,20,21,42,10,5]))))
  (rG 0 [bI 0 102 .add 44 1,mS 1 44 102] [44,43,2,1,20,21,42,10,5]))))
def c_track_Found_l3 : CC := (sQ (rG 0 [bS 0 22 .lss 21 20] [22,5,21,20,1,2])
  (sQ (.cond (.s 22) .skip
  (.exit 0))
  (sQ (.block 1 (sQ (rG 0 [mS 0 23 21,mS 1 6 23] [5,21,20,1,2,6])
  (sQ (rG 1 [o1 0 7 (.newsl 0 5)] [7,5,21,20,1,2,6])
  (sQ (sQ (rG 0 [mS 0 24 1,cA 1 25 76 [(.s 24)],lN 2 26 25,mI 3 27 0] [7,27,26,5,21,20,1,25,2,6])
  (.block 2 (.loop (some [7,27,26,5,21,20,1,25,2,6]) c_track_Found_l1)))
  (sQ (rG 0 [mS 0 38 7,⟨1,(some 39),none,.call ⟨false⟩ (.k (.c (.fn 78 [] []))) [(.s 38),(.k (.c (.fn 79 [] [])))]⟩] [7,2,1,20,21,5])
  (sQ (rG 0 [mS 0 40 5,lN 1 41 40,mS 2 10 41] [7,2,1,20,21,10,5])
  (sQ (rG 0 [mS 0 42 7,lN 1 43 42,mI 2 44 0] [44,43,2,1,20,21,42,10,5])
  (.block 4 (.loop (some [44,43,2,1,20,21,42,10,5]) c_track_Found_l2)))))))))
  (rG 0 [bI 0 103 .add 21 1,mS 1 21 103] [5,21,20,1,2]))))
abbrev f_track_Found : Nat := 23
def c_track_Found : CFn := { frz := true,rnd := none,nargs := 2,ntmps := 105,res := [(.slot 4)],code :=
  (sQ (rG 2 [o1 0 2 (.box 0 5 (.s 0)),o1 1 4 (.newsl 1 5)] [2,1])
  (sQ (sQ (rG 0 [lT 0 15 5 2,cA 1 16 75 [(.s 15)],bI 2 17 .neq 16 0] [17,2,1])
  (.cond (.s 17) (sQ (rG 1 [o1 0 4 (.newsl 0 5)] [4])
  .ret)
  .skip))
  (sQ (rG 1 [o1 0 5 (.newsl 0 5)] [5,1,2])
  (sQ (sQ (rG 0 [fA 0 18 1 2,lF 1 19 18,lN 2 20 19,mI 3 21 0] [5,21,20,1,2])
  (.block 0 (.loop (some [5,21,20,1,2]) c_track_Found_l3)))
  (sQ (rG 0 [mS 0 104 5,mS 1 4 104] [4])
  .ret))))) }
def c_kerbstoneref05_Found_l1 : CC := (sQ (sQ (rG 0 [mS 0 53 13,bI 1 54 .gtr 53 0,mS 2 55 54,oG 3 56 55 true (.mv (.s 11)),oG 4 57 55 true (.mv (.s 12)),oG 5 58 55 true (.iaddr 5 (.s 56) (.s 57)),oG 6 59 55 true (.faddr 1 (.s 58)),oG 8 61 55 true (.mv (.s 9)),oG 9 62 55 true (.mv (.s 13)),oG 10 63 55 true (.bin .sub (.s 62) (kI 1)),oG 11 64 55 true (.iaddr 5 (.s 61) (.s 63)),oG 12 65 55 true (.faddr 1 (.s 64)),oG 7 60 55 true (.load false 1 (.s 59)),oG 13 66 55 true (.load false 1 (.s 65)),oG 14 67 55 true (.bin .lss (.s 60) (.s 66)),o1 15 68 (.pick (.s 55) (.s 67) (kB false))] [68,13,11,10,7,5,8,6,2,12,9])
  (.cond (.s 68) .skip
  (.exit 6)))
  (.block 7 (rG 0 [mS 0 69 13,bI 1 70 .sub 69 1,mS 2 13 70] [13,11,10,7,5,8,6,2,12,9])))
def c_kerbstoneref05_Found_l2 : CC := (sQ (sQ (rG 0 [mS 0 45 12,mS 1 46 11,lN 2 47 46,bS 3 48 .lss 45 47] [48,11,10,7,5,8,6,2,12,9])
  (.cond (.s 48) .skip
  (.exit 4)))
  (sQ (.block 5 (sQ (rG 0 [mS 0 51 9,lN 1 52 51,mS 2 13 52] [13,11,10,7,5,8,6,2,12,9])
  (sQ (.block 6 (.loop (some [13,11,10,7,5,8,6,2,12,9]) c_kerbstoneref05_Found_l1))
  (.region 2 [mS 1 72 9,mS 2 73 13,o1 3 74 (.slice 5 (.s 72) none (some (.s 73)) none),mS 5 76 11,mS 6 77 12,iA 7 78 5 76 77,mS 11 82 9,mS 12 83 13,o1 13 84 (.slice 5 (.s 82) (some (.s 83)) none none),lT 8 79 5 78,o1 0 71 (.lit 0 5 [] []),o1 4 75 (.append 5 40 (.s 71) (.s 74)),o1 9 80 (.lit 1 5 [[(I 0),(I 0),(I 0),(I 0),(I 0)]] [(0,(.s 79))]),o1 10 81 (.append 5 40 (.s 75) (.s 80)),o1 14 85 (.append 5 40 (.s 81) (.s 84)),mS 15 9 85] [(9,10),(9,11),(10,12),(11,12)] (some [12,2,6,8,5,7,10,11,9])))))
  (rG 0 [mS 0 49 12,bI 1 50 .add 49 1,mS 2 12 50] [2,6,8,5,7,10,11,12,9])))
def c_kerbstoneref05_Found_l3 : CC := (sQ (sQ (rG 0 [mS 0 32 10,mS 1 33 6,lN 2 34 33,bS 3 35 .lss 32 34] [35,2,6,8,5,7,10,9])
  (.cond (.s 35) .skip
  (.exit 2)))
  (sQ (.block 3 (sQ (rG 0 [mS 1 39 8,mS 2 40 6,mS 3 41 10,iA 4 42 3 40 41,lT 0 38 5 2,lT 5 43 3 42,cA 6 44 83 [(.s 38),(.s 39),(.s 43)],mS 7 11 44] [2,6,8,5,7,10,11,9])
  (sQ (rG 0 [mI 0 12 0] [2,6,8,5,7,10,11,12,9])
  (.block 4 (.loop (some [2,6,8,5,7,10,11,12,9]) c_kerbstoneref05_Found_l2)))))
  (rG 0 [mS 0 36 10,bI 1 37 .add 36 1,mS 2 10 37] [7,5,8,6,2,10,9])))
def c_kerbstoneref05_Found_l4 : CC := (sQ (sQ (rG 0 [mS 0 86 14,mS 1 87 9,lN 2 88 87,bS 3 89 .lss 86 88] [89,5,14,2,6,7,8,9])
  (.cond (.s 89) .skip
  (.exit 8)))
  (sQ (.block 9 (sQ (rG 0 [mS 0 92 5,lN 1 93 92,bI 2 94 .sub 93 1,mS 3 15 94] [15,5,14,2,6,7,8,9])
  (sQ (sQ (rG 0 [mS 0 95 15,bI 1 96 .lss 95 0,mS 2 97 96,oG 3 98 97 false (.mv (.s 5)),oG 4 99 97 false (.mv (.s 15)),oG 5 100 97 false (.iaddr 5 (.s 98) (.s 99)),oG 6 101 97 false (.faddr 0 (.s 100)),oG 8 103 97 false (.mv (.s 8)),oG 7 102 97 false (.load false 1 (.s 101)),oG 9 104 97 false (.bin .neq (.s 102) (.s 103)),o1 10 105 (.pick (.s 97) (kB true) (.s 104)),mS 11 106 105,oG 12 107 106 false (.mv (.s 9)),oG 13 108 106 false (.mv (.s 14)),oG 14 109 106 false (.iaddr 5 (.s 107) (.s 108)),oG 15 110 106 false (.faddr 1 (.s 109)),oG 17 112 106 false (.mv (.s 5)),oG 18 113 106 false (.mv (.s 15)),oG 19 114 106 false (.iaddr 5 (.s 112) (.s 113)),oG 20 115 106 false (.faddr 2 (.s 114)),oG 16 111 106 false (.load false 1 (.s 110)),oG 21 116 106 false (.load false 1 (.s 115)),oG 22 117 106 false (.bin .sub (.s 111) (.s 116)),oG 23 118 106 false (.bin .gtr (.s 117) (kI 500)),o1 24 119 (.pick (.s 106) (kB true) (.s 118))] [119,15,5,14,2,6,7,8,9])
  (.cond (.s 119) (sQ (rG 1 [mS 0 120 5,mS 1 121 9,mS 2 122 14,iA 3 123 5 121 122,lT 4 124 5 123,o1 5 125 (.lit 0 5 [[(I 0),(I 0),(I 0),(I 0),(I 0)]] [(0,(.s 124))]),o1 6 126 (.append 5 40 (.s 120) (.s 125)),mS 7 5 126] [14,5,2,6,7,8,9])
  (.exit 9))
  .skip))
  (sQ (rG 1 [mS 0 127 5,mS 1 128 15,iA 2 129 5 127 128,lT 3 130 5 129,o1 4 16 (.box 0 5 (.k (.a [(I 0),(I 0),(I 0),(I 0),(I 0)]))),o0 5 (.store 5 (.s 16) (.s 130))] [15,16,14,5,2,6,7,8,9])
  (rG 0 [mS 0 131 5,mS 1 132 15,mS 2 133 8,fA 3 134 1 16,fA 5 136 2 16,mS 7 138 9,mS 8 139 14,iA 9 140 5 138 139,fA 10 141 2 140,fA 13 144 3 16,mS 15 146 9,mS 16 147 14,iA 17 148 5 146 147,fA 18 149 3 148,fA 21 152 4 16,mS 23 154 9,mS 24 155 14,iA 25 156 5 154 155,fA 26 157 4 156,lF 4 135 134,lF 6 137 136,lF 11 142 141,lF 14 145 144,lF 19 150 149,lF 22 153 152,lF 27 158 157,o1 12 143 (.minmax true [(.s 137),(.s 142)]),o1 20 151 (.minmax false [(.s 145),(.s 150)]),o1 28 159 (.minmax true [(.s 153),(.s 158)]),o1 29 160 (.build [(I 0),(I 0),(I 0),(I 0),(I 0)] [(0,1,(.s 133)),(1,1,(.s 135)),(2,1,(.s 143)),(3,1,(.s 151)),(4,1,(.s 159))]),iA 30 161 5 131 132,o0 31 (.store 5 (.s 161) (.s 160))] [14,5,2,6,7,8,9])))))
  (rG 0 [mS 0 90 14,bI 1 91 .add 90 1,mS 2 14 91] [5,14,2,6,7,8,9])))
def c_kerbstoneref05_Found_l5 : CC := (sQ (sQ (rG 0 [mS 0 22 8,fA 1 23 1 2,lF 2 24 23,lN 3 25 24,bS 4 26 .lss 22 25,mS 5 27 26,oG 6 28 27 true (.mv (.s 7)),o1 7 29 (.pick (.s 27) (.s 28) (kB false))] [29,7,5,8,6,2])
  (.cond (.s 29) .skip
  (.exit 0)))
  (sQ (.block 1 (sQ (rG 1 [o1 0 9 (.newsl 0 5)] [7,5,8,6,2,9])
  (sQ (sQ (rG 0 [mI 0 10 0] [7,5,8,6,2,10,9])
  (.block 2 (.loop (some [7,5,8,6,2,10,9]) c_kerbstoneref05_Found_l3)))
  (sQ (rG 0 [mI 0 14 0] [5,14,2,6,7,8,9])
  (.block 8 (.loop (some [5,14,2,6,7,8,9]) c_kerbstoneref05_Found_l4))))))
  (rG 0 [mS 0 30 8,bI 1 31 .add 30 1,mS 2 8 31] [7,5,8,6,2])))
abbrev f_kerbstoneref05_Found : Nat := 24
def c_kerbstoneref05_Found : CFn := { frz := true,rnd := none,nargs := 2,ntmps := 163,res := [(.slot 4)],code :=
  (sQ (rG 2 [o1 0 2 (.box 0 5 (.s 0)),o1 1 4 (.newsl 1 5)] [1,2])
  (sQ (rG 1 [o1 0 5 (.newsl 0 5)] [1,5,2])
  (sQ (rG 0 [mS 0 17 1,cA 1 18 81 [(.s 17)],mS 2 6 18] [5,6,2])
  (sQ (rG 0 [lT 0 19 5 2,cA 1 20 82 [(.s 19)],bI 2 21 .eql 20 0,mS 3 7 21] [7,5,6,2])
  (sQ (sQ (rG 0 [mI 0 8 0] [7,5,8,6,2])
  (.block 0 (.loop (some [7,5,8,6,2]) c_kerbstoneref05_Found_l5)))
  (sQ (rG 0 [mS 0 162 5,mS 1 4 162] [4])
  .ret)))))) }
def c_kerbstonekit_SameSpans_l1 : CC := (sQ (sQ (rG 0 [mS 0 6 5,mS 1 7 0,lN 2 8 7,bS 3 9 .lss 6 8,mS 4 10 9,oG 5 11 10 true (.mv (.s 5)),oG 6 12 10 true (.mv (.s 1)),oG 7 13 10 true (.len (.s 12)),oG 8 14 10 true (.bin .lss (.s 11) (.s 13)),o1 9 15 (.pick (.s 10) (.s 14) (kB false))] [15,1,0,5])
  (.cond (.s 15) .skip
  (.exit 0)))
  (sQ (.block 1 (sQ (rG 0 [mS 0 18 0,mS 1 19 5,iA 2 20 3 18 19,mS 4 22 1,mS 5 23 5,iA 6 24 3 22 23,lT 3 21 3 20,lT 7 25 3 24,o1 8 26 (.eqa true [false,false,false] (.s 21) (.s 25))] [26,1,0,5])
  (.cond (.s 26) (sQ (rG 0 [mB 0 4 false] [4])
  .ret)
  .skip)))
  (rG 0 [mS 0 16 5,bI 1 17 .add 16 1,mS 2 5 17] [0,1,5])))
abbrev f_kerbstonekit_SameSpans : Nat := 25
def c_kerbstonekit_SameSpans : CFn := { frz := true,rnd := none,nargs := 2,ntmps := 32,res := [(.slot 4)],code :=
  (sQ (rG 0 [mB 0 4 false] [0,1])
  (sQ (sQ (rG 0 [mI 0 5 0] [0,1,5])
  (.block 0 (.loop (some [0,1,5]) c_kerbstonekit_SameSpans_l1)))
  (sQ (rG 0 [mS 0 27 0,lN 1 28 27,mS 2 29 1,lN 3 30 29,bS 4 31 .eql 28 30,mS 5 4 31] [4])
  .ret))) }
def c_track_Free_l1 : CC := (sQ (rG 0 [bS 0 20 .lss 19 18] [20,7,19,18,17,3])
  (sQ (.cond (.s 20) .skip
  (.exit 0))
  (sQ (.block 1 (sQ (rG 1 [iA 0 21 5 17 19,lT 1 22 5 21,o1 2 9 (.box 0 5 (.k (.a [(I 0),(I 0),(I 0),(I 0),(I 0)]))),o0 3 (.store 5 (.s 9) (.s 22))] [9,7,19,18,17,3])
  (sQ (rG 1 [fA 0 23 0 9,lF 1 24 23,fA 2 25 1 9,lF 3 26 25,fA 4 27 2 9,lF 5 28 27,o1 6 29 (.build [(I 0),(I 0),(I 0)] [(0,1,(.s 24)),(1,1,(.s 26)),(2,1,(.s 28))]),o1 7 10 (.box 0 3 (.k (.a [(I 0),(I 0),(I 0)]))),o0 8 (.store 3 (.s 10) (.s 29))] [7,10,19,18,17,3])
  (sQ (rG 0 [lT 0 30 5 3,lT 1 31 3 10,cA 2 32 85 [(.s 30),(.s 31)]] [32,7,10,19,18,17,3])
  (.cond (.s 32) (rG 0 [mS 0 33 7,lT 1 34 3 10,cA 2 35 86 [(.s 33),(.s 34)],mS 3 7 35] [19,7,18,17,3])
  .skip)))))
  (rG 0 [bI 0 36 .add 19 1,mS 1 19 36] [7,19,18,17,3]))))
abbrev f_track_Free : Nat := 26
def c_track_Free : CFn := { frz := true,rnd := none,nargs := 3,ntmps := 38,res := [(.slot 6)],code :=
  (sQ (rG 2 [o1 0 3 (.box 0 5 (.s 0)),o1 1 6 (.newsl 1 3)] [3,2,1])
  (sQ (sQ (rG 0 [lT 0 11 5 3,cA 1 12 75 [(.s 11)],bI 2 13 .neq 12 0] [13,3,2,1])
  (.cond (.s 13) (sQ (rG 1 [o1 0 6 (.newsl 0 3)] [6])
  .ret)
  .skip))
  (sQ (rG 0 [lT 0 14 5 3,mS 1 15 1,cA 2 16 84 [(.s 14),(.s 15)],mS 3 7 16] [2,7,3])
  (sQ (sQ (rG 0 [mS 0 17 2,lN 1 18 17,mI 2 19 0] [7,19,18,17,3])
  (.block 0 (.loop (some [7,19,18,17,3]) c_track_Free_l1)))
  (sQ (rG 0 [mS 0 37 7,mS 1 6 37] [6])
  .ret))))) }
def c_kerbstoneref05_Free_l1 : CC := (sQ (sQ (rG 0 [mS 0 20 9,mS 1 21 8,lN 2 22 21,bS 3 23 .lss 20 22] [23,7,9,3,2,8])
  (.cond (.s 23) .skip
  (.exit 0)))
  (sQ (.block 1 (rG 1 [mS 0 26 7,mS 1 27 8,mS 2 28 9,iA 3 29 3 27 28,fA 4 30 0 29,mS 6 32 8,mS 7 33 9,iA 8 34 3 32 33,fA 9 35 1 34,mS 11 37 8,mS 12 38 9,iA 13 39 3 37 38,fA 14 40 2 39,lF 5 31 30,lF 10 36 35,lF 15 41 40,o1 16 42 (.build [(I 0),(I 0),(I 0),(I 0),(I 0),(I 0)] [(0,1,(.s 31)),(1,1,(.s 36)),(2,1,(.s 41))]),o1 17 43 (.lit 0 6 [[(I 0),(I 0),(I 0),(I 0),(I 0),(I 0)]] [(0,(.s 42))]),o1 18 44 (.append 6 48 (.s 26) (.s 43)),mS 19 7 44] [9,7,3,2,8]))
  (rG 0 [mS 0 24 9,bI 1 25 .add 24 1,mS 2 9 25] [7,9,3,2,8])))
def c_kerbstoneref05_Free_l2 : CC := (sQ (sQ (rG 0 [mS 0 45 10,mS 1 46 2,lN 2 47 46,bS 3 48 .lss 45 47] [48,7,10,2,3])
  (.cond (.s 48) .skip
  (.exit 2)))
  (sQ (.block 3 (sQ (.region 1 [mS 0 51 2,mS 1 52 10,iA 2 53 5 51 52,fA 3 54 0 53,mS 5 56 2,mS 6 57 10,iA 7 58 5 56 57,fA 8 59 1 58,mS 10 61 2,mS 11 62 10,iA 12 63 5 61 62,fA 13 64 2 63,lF 4 55 54,lF 9 60 59,lF 14 65 64,o1 15 66 (.build [(I 0),(I 0),(I 0)] [(0,1,(.s 55)),(1,1,(.s 60)),(2,1,(.s 65))]),o1 16 11 (.box 0 3 (.k (.a [(I 0),(I 0),(I 0)]))),o0 17 (.store 3 (.s 11) (.s 66))] [(12,16),(13,16),(14,16)] (some [7,11,10,2,3]))
  (sQ (rG 0 [lT 0 67 5 3,lT 1 68 3 11,cA 2 69 88 [(.s 67),(.s 68)]] [69,7,11,10,2,3])
  (.cond (.s 69) (rG 0 [mS 0 70 7,lT 1 71 3 11,cA 2 72 89 [(.s 70),(.s 71)],mS 3 7 72] [10,7,2,3])
  .skip))))
  (rG 0 [mS 0 49 10,bI 1 50 .add 49 1,mS 2 10 50] [7,10,2,3])))
def c_kerbstoneref05_Free_l3 : CC := (sQ (sQ (rG 0 [mS 0 73 13,mS 1 74 7,lN 2 75 74,bS 3 76 .lss 73 75] [76,12,13,7])
  (.cond (.s 76) .skip
  (.exit 4)))
  (sQ (.block 5 (rG 1 [mS 0 79 12,mS 1 80 7,mS 2 81 13,iA 3 82 6 80 81,fA 4 83 0 82,mS 6 85 7,mS 7 86 13,iA 8 87 6 85 86,fA 9 88 1 87,mS 11 90 7,mS 12 91 13,iA 13 92 6 90 91,fA 14 93 2 92,lF 5 84 83,lF 10 89 88,lF 15 94 93,o1 16 95 (.build [(I 0),(I 0),(I 0)] [(0,1,(.s 84)),(1,1,(.s 89)),(2,1,(.s 94))]),o1 17 96 (.lit 0 3 [[(I 0),(I 0),(I 0)]] [(0,(.s 95))]),o1 18 97 (.append 3 24 (.s 79) (.s 96)),mS 19 12 97] [13,12,7]))
  (rG 0 [mS 0 77 13,bI 1 78 .add 77 1,mS 2 13 78] [12,13,7])))
abbrev f_kerbstoneref05_Free : Nat := 27
def c_kerbstoneref05_Free : CFn := { frz := true,rnd := none,nargs := 3,ntmps := 99,res := [(.slot 6)],code :=
  (sQ (rG 2 [o1 0 3 (.box 0 5 (.s 0)),o1 1 6 (.newsl 1 3)] [2,3,1])
  (sQ (sQ (rG 0 [lT 0 14 5 3,cA 1 15 82 [(.s 14)],bI 2 16 .neq 15 0] [16,2,3,1])
  (.cond (.s 16) (sQ (rG 1 [o1 0 6 (.newsl 0 3)] [6])
  .ret)
  .skip))
  (sQ (rG 1 [o1 0 7 (.newsl 0 6)] [1,7,3,2])
  (sQ (rG 0 [lT 0 17 5 3,mS 1 18 1,cA 2 19 87 [(.s 17),(.s 18)],mS 3 8 19] [7,3,2,8])
  (sQ (sQ (rG 0 [mI 0 9 0] [7,9,3,2,8])
  (.block 0 (.loop (some [7,9,3,2,8]) c_kerbstoneref05_Free_l1)))
  (sQ (sQ (rG 0 [mI 0 10 0] [7,10,2,3])
  (.block 2 (.loop (some [7,10,2,3]) c_kerbstoneref05_Free_l2)))
  (sQ (rG 1 [o1 0 12 (.newsl 0 3)] [12,7])
  (sQ (sQ (rG 0 [mI 0 13 0] [12,13,7])
  (.block 4 (.loop (some [12,13,7]) c_kerbstoneref05_Free_l3)))
  (sQ (rG 0 [mS 0 98 12,mS 1 6 98] [6])
  .ret))))))))) }
def c_track_Own : CFn := { frz := true,rnd := none,nargs := 4,ntmps := 36,res := [(.cell 8 true 6)],code :=
  (sQ (rG 3 [o1 0 4 (.box 0 5 (.s 0)),o1 1 7 (.box 1 6 (.s 3)),o1 2 8 (.box 2 6 (.k (.a [(I 0),.nilslice,(I 0),(I 0),(I 0),(I 0)])))] [1,2,4,7,8])
  (sQ (rG 0 [lT 0 9 6 7,cA 1 10 21 [(.s 9)],o0 2 (.store 6 (.s 7) (.s 10))] [1,2,4,7,8])
  (sQ (sQ (rG 0 [lT 0 11 5 4,lT 1 12 6 7,cA 2 13 50 [(.s 11),(.s 12)],bI 3 14 .eql 13 0,mS 4 15 14,oG 5 16 15 true (.load true 5 (.s 4)),oG 6 17 15 true (.mv (.s 1)),⟨7,(some 18),(some (15,true)),.call ⟨true⟩ (.k (.c (.fn 111 [] []))) [(.s 16),(.s 17)]⟩,oG 8 19 15 true (.bin .eql (.s 18) (kI 0)),o1 9 20 (.pick (.s 15) (.s 19) (kB false)),mS 10 21 20,oG 11 22 21 true (.mv (.s 2)),⟨12,(some 23),(some (21,true)),.call ⟨true⟩ (.k (.c (.fn 113 [] []))) [(.s 22)]⟩,o1 13 24 (.pick (.s 21) (.s 23) (kB false))] [24,1,2,4,7,8])
  (.cond (.s 24) (.region 0 [mS 1 26 1,mS 2 27 2,fA 4 29 1 7,fA 6 31 2 7,lT 0 25 5 4,lF 5 30 29,lT 7 32 4 31,cA 3 28 112 [(.s 25),(.s 26),(.s 27)],cA 8 33 128 [(.s 28),(.s 30),(.s 32)],fA 9 34 1 7,o0 10 (.store 1 (.s 34) (.s 33))] [(5,7),(6,7)] (some [7,8]))
  .skip))
  (sQ (rG 0 [lT 0 35 6 7,o0 1 (.store 6 (.s 8) (.s 35))] [8])
  .ret)))) }
def c_track_Check_l1 : CC := (sQ (rG 0 [bS 0 64 .lss 63 62] [64,2,7,61,62,63])
  (sQ (.cond (.s 64) .skip
  (.exit 0))
  (sQ (.block 1 (sQ (rG 1 [iA 0 65 6 61 63,lT 1 66 6 65,o1 2 9 (.box 0 6 (.k (.a [(I 0),(I 0),(I 0),(I 0),(I 0),(I 0)]))),o0 3 (.store 6 (.s 9) (.s 66))] [2,7,61,62,63,9])
  (sQ (sQ (rG 0 [fA 0 67 0 9,lF 1 68 67,bI 2 69 .lss 68 0,mS 3 70 69,oG 4 71 70 false (.faddr 0 (.s 9)),oG 5 72 70 false (.load false 1 (.s 71)),oG 6 73 70 false (.faddr 1 (.s 2)),oG 7 74 70 false (.load false 1 (.s 73)),oG 8 75 70 false (.len (.s 74)),oG 9 76 70 false (.bin .geq (.s 72) (.s 75)),o1 10 77 (.pick (.s 70) (kB true) (.s 76))] [77,2,7,61,62,63,9])
  (.cond (.s 77) (sQ (rG 0 [mI 0 4 7] [4])
  .ret)
  .skip))
  (sQ (rG 0 [lT 0 78 5 2,fA 1 79 0 9,lF 2 80 79,cA 3 81 129 [(.s 78),(.s 80)],mS 4 10 81] [10,9,63,62,61,7,2])
  (sQ (rG 0 [fA 0 83 1 2,lF 1 84 83,fA 2 85 0 9,lF 3 86 85,iA 4 87 5 84 86,fA 5 88 0 87,lF 6 89 88,cA 7 90 130 [(.s 89)],mS 8 82 90,eX 9 91 82 0,eX 10 92 82 1,eX 11 93 82 2,mS 12 11 91,mS 13 12 92,mS 14 13 93] [11,10,9,63,62,61,7,2])
  (sQ (sQ (rG 0 [fA 0 94 1 9,lF 1 95 94,bI 2 96 .lss 95 0,mS 3 97 96,oG 4 98 97 false (.faddr 1 (.s 9)),oG 5 99 97 false (.load false 1 (.s 98)),oG 6 100 97 false (.faddr 2 (.s 9)),oG 7 101 97 false (.load false 1 (.s 100)),oG 8 102 97 false (.bin .gtr (.s 99) (.s 101)),o1 9 103 (.pick (.s 97) (kB true) (.s 102)),mS 10 104 103,oG 11 105 104 false (.faddr 2 (.s 9)),oG 12 106 104 false (.load false 1 (.s 105)),oG 13 107 104 false (.mv (.s 10)),oG 14 108 104 false (.bin .gtr (.s 106) (.s 107)),o1 15 109 (.pick (.s 104) (kB true) (.s 108)),mS 16 110 109,oG 17 111 110 false (.faddr 3 (.s 9)),oG 18 112 110 false (.load false 1 (.s 111)),oG 19 113 110 false (.bin .lss (.s 112) (kI 0)),o1 20 114 (.pick (.s 110) (kB true) (.s 113)),mS 21 115 114,oG 22 116 115 false (.faddr 3 (.s 9)),oG 23 117 115 false (.load false 1 (.s 116)),oG 24 118 115 false (.faddr 4 (.s 9)),oG 25 119 115 false (.load false 1 (.s 118)),oG 26 120 115 false (.bin .gtr (.s 117) (.s 119)),o1 27 121 (.pick (.s 115) (kB true) (.s 120)),mS 28 122 121,oG 29 123 122 false (.faddr 4 (.s 9)),oG 30 124 122 false (.load false 1 (.s 123)),oG 31 125 122 false (.mv (.s 11)),oG 32 126 122 false (.bin .gtr (.s 124) (.s 125)),o1 33 127 (.pick (.s 122) (kB true) (.s 126)),mS 34 128 127,oG 35 129 128 false (.faddr 5 (.s 9)),oG 36 130 128 false (.load false 1 (.s 129)),oG 37 131 128 false (.mv (.s 10)),⟨38,(some 132),(some (128,false)),.call ⟨true⟩ (.k (.c (.fn 62 [] []))) [(.s 130),(kI 0),(.s 131)]⟩,oG 39 133 128 false (.un .not (.s 132)),o1 40 134 (.pick (.s 128) (kB true) (.s 133))] [134,9,63,62,61,7,2])
  (.cond (.s 134) (sQ (rG 0 [mI 0 4 2] [4])
  .ret)
  .skip))
  (sQ (sQ (rG 0 [fA 0 135 0 9,lF 1 136 135,fA 2 137 0 7,lF 3 138 137,bS 4 139 .lss 136 138,mS 5 140 139,oG 6 141 140 false (.faddr 0 (.s 9)),oG 7 142 140 false (.load false 1 (.s 141)),oG 8 143 140 false (.faddr 0 (.s 7)),oG 9 144 140 false (.load false 1 (.s 143)),oG 10 145 140 false (.bin .eql (.s 142) (.s 144)),oG 11 146 140 false (.mv (.s 145)),oG 12 147 146 true (.faddr 1 (.s 9)),oG 13 148 146 true (.load false 1 (.s 147)),oG 14 149 146 true (.faddr 2 (.s 7)),oG 15 150 146 true (.load false 1 (.s 149)),oG 16 151 146 true (.bin .add (.s 150) (kI 1)),oG 17 152 146 true (.bin .leq (.s 148) (.s 151)),oG 18 153 140 false (.pick (.s 146) (.s 152) (kB false)),o1 19 154 (.pick (.s 140) (kB true) (.s 153))] [154,2,7,61,62,63,9])
  (.cond (.s 154) (sQ (rG 0 [mI 0 4 11] [4])
  .ret)
  .skip))
  (rG 0 [lT 0 155 6 9,o0 1 (.store 6 (.s 7) (.s 155))] [63,62,61,7,2]))))))))
  (rG 0 [bI 0 156 .add 63 1,mS 1 63 156] [62,61,7,2,63]))))
def c_track_Check : CFn := { frz := true,rnd := none,nargs := 2,ntmps := 157,res := [(.slot 4)],code :=
  (sQ (rG 2 [o1 0 2 (.box 0 5 (.s 0)),o1 1 3 (.box 1 6 (.s 1)),mI 2 4 0] [3,2])
  (sQ (sQ (rG 0 [lT 0 14 5 2,cA 1 15 75 [(.s 14)],mS 2 5 15] [3,2,5])
  (sQ (rG 0 [mS 0 16 5,bI 1 17 .neq 16 0] [17,3,2,5])
  (.cond (.s 17) (sQ (rG 0 [mS 0 18 5,mS 1 4 18] [4])
  .ret)
  .skip)))
  (sQ (rG 1 [fA 0 19 2 3,lT 1 20 4 19,o1 2 6 (.box 0 4 (.k (.a [(I 0),(I 0),(I 0),(I 0)]))),o0 3 (.store 4 (.s 6) (.s 20))] [6,2,3])
  (sQ (sQ (rG 0 [fA 0 21 0 3,lF 1 22 21,cA 2 23 62 [(.s 22),(kI 0),(kI 1099511627776)],o1 3 24 (.un .not (.s 23)),mS 4 25 24,oG 5 26 25 false (.faddr 0 (.s 6)),oG 6 27 25 false (.load false 1 (.s 26)),oG 7 28 25 false (.bin .lss (.s 27) (kI 0)),o1 8 29 (.pick (.s 25) (kB true) (.s 28)),mS 9 30 29,oG 10 31 30 false (.faddr 0 (.s 6)),oG 11 32 30 false (.load false 1 (.s 31)),oG 12 33 30 false (.faddr 1 (.s 6)),oG 13 34 30 false (.load false 1 (.s 33)),oG 14 35 30 false (.bin .gtr (.s 32) (.s 34)),o1 15 36 (.pick (.s 30) (kB true) (.s 35)),mS 16 37 36,oG 17 38 37 false (.faddr 1 (.s 6)),oG 18 39 37 false (.load false 1 (.s 38)),oG 19 40 37 false (.bin .gtr (.s 39) (kI 1099511627776)),o1 20 41 (.pick (.s 37) (kB true) (.s 40)),mS 21 42 41,oG 22 43 42 false (.faddr 2 (.s 6)),oG 23 44 42 false (.load false 1 (.s 43)),oG 24 45 42 false (.bin .lss (.s 44) (kI 0)),o1 25 46 (.pick (.s 42) (kB true) (.s 45)),mS 26 47 46,oG 27 48 47 false (.faddr 2 (.s 6)),oG 28 49 47 false (.load false 1 (.s 48)),oG 29 50 47 false (.faddr 3 (.s 6)),oG 30 51 47 false (.load false 1 (.s 50)),oG 31 52 47 false (.bin .gtr (.s 49) (.s 51)),o1 32 53 (.pick (.s 47) (kB true) (.s 52)),mS 33 54 53,oG 34 55 54 false (.faddr 3 (.s 6)),oG 35 56 54 false (.load false 1 (.s 55)),oG 36 57 54 false (.bin .gtr (.s 56) (kI 2000)),o1 37 58 (.pick (.s 54) (kB true) (.s 57))] [58,2,3])
  (.cond (.s 58) (sQ (rG 0 [mI 0 4 2] [4])
  .ret)
  .skip))
  (sQ (rG 1 [o1 0 59 (.build [(I 0),(I 0),(I 0),(I 0),(I 0),(I 0)] [(0,1,(kI (-1)))]),o1 1 7 (.box 0 6 (.k (.a [(I 0),(I 0),(I 0),(I 0),(I 0),(I 0)]))),o0 2 (.store 6 (.s 7) (.s 59))] [3,7,2])
  (sQ (sQ (rG 0 [fA 0 60 1 3,lF 1 61 60,lN 2 62 61,mI 3 63 0] [62,61,7,2,63])
  (.block 0 (.loop (some [62,61,7,2,63]) c_track_Check_l1)))
  (sQ (rG 0 [mI 0 4 0] [4])
  .ret))))))) }
def c_kerbstonekit_SameBlobs_l1 : CC := (sQ (sQ (rG 0 [mS 0 6 5,mS 1 7 0,lN 2 8 7,bS 3 9 .lss 6 8,mS 4 10 9,oG 5 11 10 true (.mv (.s 5)),oG 6 12 10 true (.mv (.s 1)),oG 7 13 10 true (.len (.s 12)),oG 8 14 10 true (.bin .lss (.s 11) (.s 13)),o1 9 15 (.pick (.s 10) (.s 14) (kB false))] [15,1,0,5])
  (.cond (.s 15) .skip
  (.exit 0)))
  (sQ (.block 1 (sQ (rG 0 [mS 0 18 0,mS 1 19 5,iA 2 20 6 18 19,mS 4 22 1,mS 5 23 5,iA 6 24 6 22 23,lT 3 21 6 20,lT 7 25 6 24,o1 8 26 (.eqa true [false,false,false,false,false,false] (.s 21) (.s 25))] [26,1,0,5])
  (.cond (.s 26) (sQ (rG 0 [mB 0 4 false] [4])
  .ret)
  .skip)))
  (rG 0 [mS 0 16 5,bI 1 17 .add 16 1,mS 2 5 17] [0,1,5])))
def c_kerbstonekit_SameBlobs : CFn := { frz := true,rnd := none,nargs := 2,ntmps := 32,res := [(.slot 4)],code :=
  (sQ (rG 0 [mB 0 4 false] [0,1])
  (sQ (sQ (rG 0 [mI 0 5 0] [0,1,5])
  (.block 0 (.loop (some [0,1,5]) c_kerbstonekit_SameBlobs_l1)))
  (sQ (rG 0 [mS 0 27 0,lN 1 28 27,mS 2 29 1,lN 3 30 29,bS 4 31 .eql 28 30,mS 5 4 31] [4])
  .ret))) }
abbrev f_track_Join : Nat := 52
def c_track_Join : CFn := { frz := true,rnd := none,nargs := 1,ntmps := 5,res := [(.slot 2)],code :=
  (sQ (rG 1 [o1 0 2 (.newsl 0 6)] [0])
  (sQ (rG 0 [mS 0 3 0,cA 1 4 131 [(.s 3)],mS 2 2 4] [2])
  .ret)) }
def c_kerbstonekit_Cross : CFn := { frz := true,rnd := none,nargs := 0,ntmps := 12,res := [(.cell 0 true 5)],code :=
  (sQ (rG 1 [o1 0 0 (.box 0 5 (.k (.a [(I 0),.nilslice,.nilslice,.nilslice,.nilslice])))] [0])
  (sQ (rG 5 [o1 0 1 (.lit 0 1 [[(I 0)],[(I 0)],[(I 0)],[(I 0)]] [(0,(kI 0)),(1,(kI 0)),(2,(kI 100000)),(3,(kI 0))]),cA 1 2 57 [(kI 1),(kI 1500),(.k (.c .nilslice)),(.s 1)],o1 2 3 (.lit 1 1 [[(I 0)],[(I 0)],[(I 0)],[(I 0)]] [(0,(kI 50000)),(1,(kI (-50000))),(2,(kI 50000)),(3,(kI 50000))]),cA 3 4 57 [(kI 1),(kI 1500),(.k (.c .nilslice)),(.s 3)],o1 4 5 (.lit 2 5 [[(I 0),.nilslice,(I 0),(I 0),.nilslice],[(I 0),.nilslice,(I 0),(I 0),.nilslice]] [(0,(.s 2)),(1,(.s 4))]),o1 5 6 (.build [(I 0),(I 0),(I 0),(I 0)] [(0,1,(kI 0)),(1,1,(kI 48000)),(2,1,(kI 52000)),(3,1,(kI 1))]),o1 6 7 (.build [(I 0),(I 0),(I 0),(I 0)] [(0,1,(kI 1)),(1,1,(kI 48000)),(2,1,(kI 52000))]),o1 7 8 (.lit 3 4 [[(I 0),(I 0),(I 0),(I 0)],[(I 0),(I 0),(I 0),(I 0)]] [(0,(.s 6)),(1,(.s 7))]),o1 8 9 (.build [.nilslice,(I 0)] [(0,1,(.s 8))]),o1 9 10 (.lit 4 2 [[.nilslice,(I 0)]] [(0,(.s 9))]),o1 10 11 (.build [(I 0),.nilslice,.nilslice,.nilslice,.nilslice] [(1,1,(.s 5)),(2,1,(.s 10))]),o0 11 (.store 5 (.s 0) (.s 11))] [0])
  .ret)) }
def c_track_All_l1 : CC := (sQ (rG 0 [bS 0 24 .lss 23 22] [24,23,22,6,21,3,7])
  (sQ (.cond (.s 24) .skip
  (.exit 0))
  (sQ (.block 1 (sQ (rG 1 [mS 0 25 23,iA 1 26 5 21 23,lT 2 27 5 26,o1 3 9 (.box 0 5 (.k (.a [(I 0),.nilslice,(I 0),(I 0),.nilslice]))),mS 4 8 25,o0 5 (.store 5 (.s 9) (.s 27))] [9,8,23,22,6,21,3,7])
  (sQ (rG 0 [fA 0 29 0 9,lF 1 30 29,cA 2 31 130 [(.s 30)],mS 3 28 31,eX 4 32 28 0,eX 5 33 28 1,eX 6 34 28 2,mS 7 10 32,mS 8 11 33,mS 9 12 34] [8,10,23,22,6,21,3,7])
  (.region 1 [fA 0 35 1 7,mS 2 37 8,mS 4 39 8,mS 6 41 10,lF 1 36 35,lT 3 38 5 3,cA 5 40 129 [(.s 38),(.s 39)],o1 7 42 (.build [(I 0),(I 0),(I 0),(I 0),(I 0),(I 0)] [(0,1,(.s 37)),(2,1,(.s 40)),(4,1,(.s 41))]),o1 8 43 (.lit 0 6 [[(I 0),(I 0),(I 0),(I 0),(I 0),(I 0)]] [(0,(.s 42))]),o1 9 44 (.append 6 48 (.s 36) (.s 43)),fA 10 45 1 7,o0 11 (.store 1 (.s 45) (.s 44))] [(4,6),(4,8)] (some [23,22,6,21,3,7])))))
  (rG 0 [bI 0 46 .add 23 1,mS 1 23 46] [23,22,6,21,3,7]))))
def c_track_All : CFn := { frz := true,rnd := none,nargs := 3,ntmps := 48,res := [(.cell 6 true 6)],code :=
  (sQ (rG 3 [o1 0 3 (.box 0 5 (.s 0)),o1 1 5 (.box 1 4 (.s 2)),o1 2 6 (.box 2 6 (.k (.a [(I 0),.nilslice,(I 0),(I 0),(I 0),(I 0)])))] [1,5,3,6])
  (sQ (rG 1 [mS 0 13 1,lT 1 14 4 5,o1 2 15 (.build [(I 0),.nilslice,(I 0),(I 0),(I 0),(I 0)] [(0,1,(.s 13)),(2,4,(.s 14))]),o1 3 7 (.box 0 6 (.k (.a [(I 0),.nilslice,(I 0),(I 0),(I 0),(I 0)]))),o0 4 (.store 6 (.s 7) (.s 15))] [3,7,6])
  (sQ (sQ (rG 0 [lT 0 16 5 3,cA 1 17 75 [(.s 16)],bI 2 18 .neq 17 0] [18,3,7,6])
  (.cond (.s 18) (sQ (rG 0 [lT 0 19 6 7,o0 1 (.store 6 (.s 6) (.s 19))] [6])
  .ret)
  .skip))
  (sQ (sQ (rG 0 [fA 0 20 1 3,lF 1 21 20,lN 2 22 21,mI 3 23 0] [23,22,6,21,3,7])
  (.block 0 (.loop (some [23,22,6,21,3,7]) c_track_All_l1)))
  (sQ (rG 0 [lT 0 47 6 7,o0 1 (.store 6 (.s 6) (.s 47))] [6])
  .ret))))) }
def c_kerbstonelaw05_start : CFn := { frz := true,rnd := none,nargs := 0,ntmps := 2,res := [(.cell 0 true 4)],code :=
  (sQ (rG 1 [o1 0 0 (.box 0 4 (.k (.a [(I 0),(I 0),(I 0),(I 0)])))] [0])
  (sQ (rG 0 [o1 0 1 (.build [(I 0),(I 0),(I 0),(I 0)] [(0,1,(kI 10000)),(1,1,(kI 10010))]),o0 1 (.store 4 (.s 0) (.s 1))] [0])
  .ret)) }
abbrev f_kerbstonekit_Mod : Nat := 56
def c_kerbstonekit_Mod : CFn := { frz := true,rnd := none,nargs := 2,ntmps := 14,res := [(.slot 4)],code :=
  (sQ (rG 0 [mI 0 4 0] [0,1])
  (sQ (rG 0 [mS 0 5 0,mS 1 6 1,bS 2 7 .rem 5 6,mS 3 0 7] [0,1])
  (sQ (sQ (rG 0 [mS 0 8 0,bI 1 9 .lss 8 0] [9,0,1])
  (.cond (.s 9) (rG 0 [mS 0 10 0,mS 1 11 1,bS 2 12 .add 10 11,mS 3 0 12] [0])
  .skip))
  (sQ (rG 0 [mS 0 13 0,mS 1 4 13] [4])
  .ret)))) }
def c_kerbstonekit_road_l1 : CC := (sQ (sQ (rG 0 [mS 0 15 10,bI 1 16 .add 15 1,mS 2 17 3,lN 3 18 17,bS 4 19 .lss 16 18] [19,10,8,0,3,9])
  (.cond (.s 19) .skip
  (.exit 0)))
  (sQ (.block 1 (.region 1 [fA 0 22 1 9,fA 1 23 0 22,mS 3 25 3,mS 4 26 10,iA 5 27 1 25 26,mS 7 29 3,mS 8 30 10,bI 9 31 .add 30 1,iA 10 32 1 29 31,lF 2 24 23,lF 6 28 27,lF 11 33 32,o1 12 34 (.build [(I 0),(I 0)] [(0,1,(.s 28)),(1,1,(.s 33))]),o1 13 35 (.lit 0 2 [[(I 0),(I 0)]] [(0,(.s 34))]),o1 14 36 (.append 2 16 (.s 24) (.s 35)),fA 15 37 1 9,fA 16 38 0 37,o0 17 (.store 1 (.s 38) (.s 36))] [(9,13)] (some [10,8,0,3,9])))
  (rG 0 [mS 0 20 10,bI 1 21 .add 20 2,mS 2 10 21] [10,8,0,3,9])))
abbrev f_kerbstonekit_road : Nat := 57
def c_kerbstonekit_road : CFn := { frz := true,rnd := none,nargs := 4,ntmps := 43,res := [(.cell 8 true 5)],code :=
  (sQ (rG 1 [o1 0 8 (.box 0 5 (.k (.a [(I 0),.nilslice,(I 0),(I 0),.nilslice])))] [1,2,8,0,3])
  (sQ (rG 1 [mS 0 11 0,mS 1 12 1,mS 2 13 2,o1 3 14 (.build [(I 0),.nilslice,(I 0),(I 0),.nilslice] [(0,1,(.s 11)),(2,1,(kI 1500)),(3,1,(.s 12)),(4,1,(.s 13))]),o1 4 9 (.box 0 5 (.k (.a [(I 0),.nilslice,(I 0),(I 0),.nilslice]))),o0 5 (.store 5 (.s 9) (.s 14))] [8,0,3,9])
  (sQ (sQ (rG 0 [mI 0 10 0] [10,8,0,3,9])
  (.block 0 (.loop (some [10,8,0,3,9]) c_kerbstonekit_road_l1)))
  (sQ (sQ (rG 0 [mS 0 39 0,bI 1 40 .eql 39 3] [40,9,8])
  (.cond (.s 40) (rG 0 [fA 0 41 2 9,o0 1 (.store 1 (.s 41) (kI 500))] [9,8])
  .skip))
  (sQ (rG 0 [lT 0 42 5 9,o0 1 (.store 5 (.s 8) (.s 42))] [8])
  .ret))))) }
abbrev f_kerbstonekit_signal : Nat := 58
def c_kerbstonekit_signal : CFn := { frz := true,rnd := none,nargs := 3,ntmps := 18,res := [(.cell 6 true 2)],code :=
  (sQ (rG 1 [o1 0 6 (.box 0 2 (.k (.a [(I 0),.nilslice])))] [0,1,2,6])
  (sQ (rG 3 [mS 0 7 0,mS 1 8 1,o1 2 9 (.lit 0 1 [[(I 0)]] [(0,(.s 8))]),o1 3 10 (.build [(I 0),.nilslice] [(0,1,(kI 12)),(1,1,(.s 9))]),o1 4 11 (.build [(I 0),.nilslice] [(0,1,(kI 5))]),mS 5 12 2,o1 6 13 (.lit 1 1 [[(I 0)]] [(0,(.s 12))]),o1 7 14 (.build [(I 0),.nilslice] [(0,1,(kI 9)),(1,1,(.s 13))]),o1 8 15 (.build [(I 0),.nilslice] [(0,1,(kI 4))]),o1 9 16 (.lit 2 2 [[(I 0),.nilslice],[(I 0),.nilslice],[(I 0),.nilslice],[(I 0),.nilslice]] [(0,(.s 10)),(1,(.s 11)),(2,(.s 14)),(3,(.s 15))]),o1 10 17 (.build [(I 0),.nilslice] [(0,1,(.s 7)),(1,1,(.s 16))]),o0 11 (.store 2 (.s 6) (.s 17))] [6])
  .ret)) }
abbrev f_track_within : Nat := 62
def c_track_within : CFn := { frz := true,rnd := none,nargs := 3,ntmps := 15,res := [(.slot 6)],code :=
  (sQ (rG 0 [mB 0 6 false] [1,0,2])
  (sQ (rG 0 [mS 0 7 1,mS 1 8 0,bS 2 9 .leq 7 8,mS 3 10 9,oG 4 11 10 true (.mv (.s 0)),oG 5 12 10 true (.mv (.s 2)),oG 6 13 10 true (.bin .leq (.s 11) (.s 12)),o1 7 14 (.pick (.s 10) (.s 13) (kB false)),mS 8 6 14] [6])
  .ret)) }
abbrev f_slices_Clone_Blob : Nat := 74
def c_roads_Check_l1 : CC := (sQ (rG 0 [bS 0 9 .lss 8 7] [9,1,6,7,8])
  (sQ (.cond (.s 9) .skip
  (.exit 0))
  (sQ (.block 1 (sQ (rG 0 [iA 0 10 1 6 8,lF 1 11 10,mS 2 4 11] [4,1,6,7,8])
  (sQ (rG 0 [mS 0 12 4,lT 1 13 5 1,o1 2 14 (.build [(I 0),.nilslice,.nilslice,.nilslice,.nilslice] [(0,5,(.s 13))]),⟨3,(some 15),none,.call ⟨true⟩ (.s 12) [(.s 14)]⟩,mS 4 5 15] [1,6,7,8,5])
  (sQ (rG 0 [mS 0 16 5,bI 1 17 .neq 16 0] [17,1,6,7,8,5])
  (.cond (.s 17) (sQ (rG 0 [mS 0 18 5,mS 1 2 18] [2])
  .ret)
  .skip)))))
  (rG 0 [bI 0 19 .add 8 1,mS 1 8 19] [7,6,1,8]))))
abbrev f_roads_Check : Nat := 75
def c_roads_Check : CFn := { frz := true,rnd := none,nargs := 1,ntmps := 20,res := [(.slot 2)],code :=
  (sQ (rG 1 [o1 0 1 (.box 0 5 (.s 0)),mI 1 2 0] [1])
  (sQ (sQ (rG 1 [o1 0 6 (.mlay .litf 0 [(.k (.c (.fn 146 [] []))),(.k (.c (.fn 147 [] []))),(.k (.c (.fn 148 [] []))),(.k (.c (.fn 149 [] []))),(.k (.c (.fn 150 [] []))),(.k (.c (.fn 151 [] [])))]),lN 1 7 6,mI 2 8 0] [7,6,1,8])
  (.block 0 (.loop (some [7,6,1,8]) c_roads_Check_l1)))
  (sQ (rG 0 [mI 0 2 0] [2])
  .ret))) }
def c_track_counted_l1 : CC := (sQ (rG 0 [bS 0 13 .lss 12 11] [13,3,12,11,10])
  (sQ (.cond (.s 13) .skip
  (.exit 0))
  (sQ (.block 1 (sQ (rG 1 [iA 0 14 3 10 12,lT 1 15 3 14,o1 2 5 (.box 0 3 (.k (.a [(I 0),(I 0),(I 0)]))),o0 3 (.store 3 (.s 5) (.s 15))] [3,5,12,11,10])
  (sQ (rG 0 [fA 0 16 2 5,lF 1 17 16,cA 2 18 62 [(.s 17),(kI (-5)),(kI 2005)]] [18,3,5,12,11,10])
  (.cond (.s 18) (rG 1 [mS 0 19 3,lT 1 20 3 5,o1 2 21 (.lit 0 3 [[(I 0),(I 0),(I 0)]] [(0,(.s 20))]),o1 3 22 (.append 3 24 (.s 19) (.s 21)),mS 4 3 22] [12,3,11,10])
  .skip))))
  (rG 0 [bI 0 23 .add 12 1,mS 1 12 23] [3,12,11,10]))))
abbrev f_track_counted : Nat := 76
def c_track_counted : CFn := { frz := true,rnd := none,nargs := 1,ntmps := 25,res := [(.slot 2)],code :=
  (sQ (rG 1 [o1 0 2 (.newsl 0 3)] [0])
  (sQ (rG 1 [o1 0 3 (.newsl 0 3)] [0,3])
  (sQ (sQ (rG 0 [mS 0 6 0,mS 1 7 0,lN 2 8 7,o1 3 9 (.minmax false [(.s 8),(kI 1000)]),o1 4 10 (.slice 3 (.s 6) none (some (.s 9)) none),lN 5 11 10,mI 6 12 0] [3,12,11,10])
  (.block 0 (.loop (some [3,12,11,10]) c_track_counted_l1)))
  (sQ (rG 0 [mS 0 24 3,mS 1 2 24] [2])
  .ret)))) }
def c_track_feet_l1 : CC := (sQ (rG 0 [bS 0 24 .lss 23 22] [24,7,23,22,21,1,5,3])
  (sQ (.cond (.s 24) .skip
  (.exit 0))
  (sQ (.block 1 (sQ (rG 0 [iA 0 25 1 21 23,lF 1 26 25,mS 2 9 26] [7,9,23,22,21,1,5,3])
  (.region 1 [mS 0 27 7,mS 1 28 1,mS 2 29 9,bI 3 30 .sub 29 100,mS 5 32 9,bI 6 33 .add 32 100,mS 8 35 1,fA 11 38 2 5,fA 15 42 2 5,lT 7 34 5 3,lF 12 39 38,bI 13 40 .sub 39 5,lF 16 43 42,bI 17 44 .add 43 5,o1 4 31 (.minmax true [(kI 0),(.s 30)]),cA 9 36 129 [(.s 34),(.s 35)],o1 10 37 (.minmax false [(.s 33),(.s 36)]),o1 14 41 (.minmax true [(kI 0),(.s 40)]),o1 18 45 (.build [(I 0),(I 0),(I 0),(I 0),(I 0)] [(0,1,(.s 28)),(1,1,(.s 31)),(2,1,(.s 37)),(3,1,(.s 41)),(4,1,(.s 44))]),o1 19 46 (.lit 0 5 [[(I 0),(I 0),(I 0),(I 0),(I 0)]] [(0,(.s 45))]),o1 20 47 (.append 5 40 (.s 27) (.s 46)),mS 21 7 47] [(10,15),(12,15)] (some [23,7,22,21,1,5,3]))))
  (rG 0 [bI 0 48 .add 23 1,mS 1 23 48] [7,23,22,21,1,5,3]))))
abbrev f_track_feet : Nat := 77
def c_track_feet : CFn := { frz := true,rnd := none,nargs := 3,ntmps := 50,res := [(.slot 6)],code :=
  (sQ (rG 3 [o1 0 3 (.box 0 5 (.s 0)),o1 1 5 (.box 1 3 (.s 2)),o1 2 6 (.newsl 2 5)] [1,5,3])
  (sQ (rG 1 [o1 0 7 (.newsl 0 5)] [7,1,5,3])
  (sQ (sQ (rG 0 [fA 0 10 1 3,mS 2 12 1,fA 6 16 0 5,fA 8 18 1 5,mI 13 23 0,lF 1 11 10,iA 3 13 5 11 12,fA 4 14 1 13,lT 5 15 1 14,lF 7 17 16,lF 9 19 18,o1 10 20 (.build [(I 0),(I 0)] [(0,1,(.s 17)),(1,1,(.s 19))]),cA 11 21 152 [(.s 15),(.s 20),(kI 100)],lN 12 22 21] [7,23,22,21,1,5,3])
  (.block 0 (.loop (some [7,23,22,21,1,5,3]) c_track_feet_l1)))
  (sQ (rG 0 [mS 0 49 7,mS 1 6 49] [6])
  .ret)))) }
abbrev f_slices_SortFunc_Found : Nat := 78
abbrev f_track_Found_1 : Nat := 79
def c_track_Found_1 : CFn := { frz := true,rnd := none,nargs := 2,ntmps := 10,res := [(.slot 4)],code :=
  (sQ (rG 2 [o1 0 2 (.box 0 5 (.s 0)),o1 1 3 (.box 1 5 (.s 1)),mI 2 4 0] [2,3])
  (sQ (rG 0 [fA 0 5 1 2,lF 1 6 5,fA 2 7 1 3,lF 3 8 7,cA 4 9 80 [(.s 6),(.s 8)],mS 5 4 9] [4])
  .ret)) }
abbrev f_cmp_Compare_int64 : Nat := 80
def c_cmp_Compare_int64 : CFn := { frz := true,rnd := none,nargs := 2,ntmps := 20,res := [(.slot 4)],code :=
  (sQ (rG 0 [mI 0 4 0] [1,0])
  (sQ (rG 0 [mS 0 7 0,cA 1 8 155 [(.s 7)],mS 2 5 8] [5,1,0])
  (sQ (rG 0 [mS 0 9 1,cA 1 10 155 [(.s 9)],mS 2 6 10] [5,1,0,6])
  (sQ (sQ (rG 0 [mS 0 11 5] [11,1,0,6])
  (.cond (.s 11) (sQ (sQ (rG 0 [mS 0 12 6] [12])
  (.cond (.s 12) (sQ (rG 0 [mI 0 4 0] [4])
  .ret)
  .skip))
  (sQ (rG 0 [mI 0 4 (-1)] [4])
  .ret))
  .skip))
  (sQ (sQ (rG 0 [mS 0 13 6] [13,0,1])
  (.cond (.s 13) (sQ (rG 0 [mI 0 4 1] [4])
  .ret)
  .skip))
  (sQ (sQ (rG 0 [mS 0 14 0,mS 1 15 1,bS 2 16 .lss 14 15] [16,1,0])
  (.cond (.s 16) (sQ (rG 0 [mI 0 4 (-1)] [4])
  .ret)
  .skip))
  (sQ (sQ (rG 0 [mS 0 17 0,mS 1 18 1,bS 2 19 .gtr 17 18] [19])
  (.cond (.s 19) (sQ (rG 0 [mI 0 4 1] [4])
  .ret)
  .skip))
  (sQ (rG 0 [mI 0 4 0] [4])
  .ret)))))))) }
def c_kerbstoneref05_counted_l1 : CC := (sQ (sQ (rG 0 [mS 0 5 4,mS 1 6 0,lN 2 7 6,bS 3 8 .lss 5 7,mS 4 9 8,oG 5 10 9 true (.mv (.s 4)),oG 6 11 9 true (.bin .lss (.s 10) (kI 1000)),o1 7 12 (.pick (.s 9) (.s 11) (kB false))] [12,3,4,0])
  (.cond (.s 12) .skip
  (.exit 0)))
  (sQ (.block 1 (sQ (rG 0 [mS 0 15 0,mS 1 16 4,iA 2 17 3 15 16,fA 3 18 2 17,lF 4 19 18,bI 5 20 .geq 19 (-5),mS 6 21 20,oG 7 22 21 true (.mv (.s 0)),oG 8 23 21 true (.mv (.s 4)),oG 9 24 21 true (.iaddr 3 (.s 22) (.s 23)),oG 10 25 21 true (.faddr 2 (.s 24)),oG 11 26 21 true (.load false 1 (.s 25)),oG 12 27 21 true (.bin .leq (.s 26) (kI 2005)),o1 13 28 (.pick (.s 21) (.s 27) (kB false))] [28,3,4,0])
  (.cond (.s 28) (rG 1 [mS 0 29 3,mS 1 30 0,mS 2 31 4,iA 3 32 3 30 31,lT 4 33 3 32,o1 5 34 (.lit 0 3 [[(I 0),(I 0),(I 0)]] [(0,(.s 33))]),o1 6 35 (.append 3 24 (.s 29) (.s 34)),mS 7 3 35] [4,3,0])
  .skip)))
  (rG 0 [mS 0 13 4,bI 1 14 .add 13 1,mS 2 4 14] [3,4,0])))
abbrev f_kerbstoneref05_counted : Nat := 81
def c_kerbstoneref05_counted : CFn := { frz := true,rnd := none,nargs := 1,ntmps := 37,res := [(.slot 2)],code :=
  (sQ (rG 1 [o1 0 2 (.newsl 0 3)] [0])
  (sQ (rG 1 [o1 0 3 (.newsl 0 3)] [3,0])
  (sQ (sQ (rG 0 [mI 0 4 0] [3,4,0])
  (.block 0 (.loop (some [3,4,0]) c_kerbstoneref05_counted_l1)))
  (sQ (rG 0 [mS 0 36 3,mS 1 2 36] [2])
  .ret)))) }
def c_kerbstoneref03_Check_l1 : CC := (sQ (sQ (rG 0 [mS 0 39 3,fA 1 40 1 1,lF 2 41 40,lN 3 42 41,bS 4 43 .lss 39 42] [43,1,3])
  (.cond (.s 43) .skip
  (.exit 0)))
  (sQ (.block 1 (sQ (rG 0 [lT 0 46 5 1,mS 1 47 3,cA 2 48 157 [(.s 46),(.s 47)],mS 3 4 48] [1,3,4])
  (sQ (rG 0 [mS 0 49 4,bI 1 50 .neq 49 0] [50,1,3,4])
  (.cond (.s 50) (sQ (rG 0 [mS 0 51 4,mS 1 2 51] [2])
  .ret)
  .skip))))
  (rG 0 [mS 0 44 3,bI 1 45 .add 44 1,mS 2 3 45] [1,3])))
def c_kerbstoneref03_Check_l2 : CC := (sQ (sQ (rG 0 [mS 0 54 6,fA 1 55 3 1,lF 2 56 55,lN 3 57 56,bS 4 58 .lss 54 57,mS 5 59 58,oG 6 60 59 true (.mv (.s 5)),oG 7 61 59 true (.bin .eql (.s 60) (kI 0)),o1 8 62 (.pick (.s 59) (.s 61) (kB false))] [62,5,6,1])
  (.cond (.s 62) .skip
  (.exit 2)))
  (sQ (.block 3 (rG 0 [fA 1 66 3 1,mS 3 68 6,lT 0 65 5 1,lF 2 67 66,iA 4 69 2 67 68,lT 5 70 2 69,cA 6 71 159 [(.s 65),(.s 70)],mS 7 5 71] [6,5,1]))
  (rG 0 [mS 0 63 6,bI 1 64 .add 63 1,mS 2 6 64] [5,6,1])))
def c_kerbstoneref03_Check_l3 : CC := (sQ (sQ (rG 0 [mS 0 72 7,fA 1 73 2 1,lF 2 74 73,lN 3 75 74,bS 4 76 .lss 72 75,mS 5 77 76,oG 6 78 77 true (.mv (.s 5)),oG 7 79 77 true (.bin .eql (.s 78) (kI 0)),o1 8 80 (.pick (.s 77) (.s 79) (kB false))] [80,5,7,1])
  (.cond (.s 80) .skip
  (.exit 4)))
  (sQ (.block 5 (rG 0 [fA 1 84 2 1,mS 3 86 7,lT 0 83 5 1,lF 2 85 84,iA 4 87 2 85 86,lT 5 88 2 87,cA 6 89 160 [(.s 83),(.s 88)],mS 7 5 89] [7,5,1]))
  (rG 0 [mS 0 81 7,bI 1 82 .add 81 1,mS 2 7 82] [5,7,1])))
def c_kerbstoneref03_Check_l4 : CC := (sQ (sQ (rG 0 [mS 0 90 8,fA 1 91 4 1,lF 2 92 91,lN 3 93 92,bS 4 94 .lss 90 93,mS 5 95 94,oG 6 96 95 true (.mv (.s 5)),oG 7 97 95 true (.bin .eql (.s 96) (kI 0)),o1 8 98 (.pick (.s 95) (.s 97) (kB false))] [98,5,8,1])
  (.cond (.s 98) .skip
  (.exit 6)))
  (sQ (.block 7 (rG 0 [fA 1 102 4 1,mS 3 104 8,lT 0 101 5 1,lF 2 103 102,iA 4 105 6 103 104,lT 5 106 6 105,cA 6 107 161 [(.s 101),(.s 106)],mS 7 5 107] [8,5,1]))
  (rG 0 [mS 0 99 8,bI 1 100 .add 99 1,mS 2 8 100] [5,8,1])))
abbrev f_kerbstoneref03_Check : Nat := 82
def c_kerbstoneref03_Check : CFn := { frz := true,rnd := none,nargs := 1,ntmps := 109,res := [(.slot 2)],code :=
  (sQ (rG 1 [o1 0 1 (.box 0 5 (.s 0)),mI 1 2 0] [1])
  (sQ (sQ (rG 0 [fA 0 9 0 1,lF 1 10 9,cA 2 11 156 [(.s 10),(kI 0),(kI 1099511627776)],o1 3 12 (.un .not (.s 11))] [12,1])
  (.cond (.s 12) (sQ (rG 0 [mI 0 2 2] [2])
  .ret)
  .skip))
  (sQ (sQ (rG 0 [fA 0 13 1 1,lF 1 14 13,lN 2 15 14,bI 3 16 .eql 15 0] [16,1])
  (.cond (.s 16) (sQ (rG 0 [mI 0 2 6] [2])
  .ret)
  .skip))
  (sQ (sQ (rG 0 [fA 0 17 1 1,lF 1 18 17,lN 2 19 18,bI 3 20 .gtr 19 12,mS 4 21 20,oG 5 22 21 false (.faddr 2 (.s 1)),oG 6 23 21 false (.load false 1 (.s 22)),oG 7 24 21 false (.len (.s 23)),oG 8 25 21 false (.bin .gtr (.s 24) (kI 12)),o1 9 26 (.pick (.s 21) (kB true) (.s 25)),mS 10 27 26,oG 11 28 27 false (.faddr 3 (.s 1)),oG 12 29 27 false (.load false 1 (.s 28)),oG 13 30 27 false (.len (.s 29)),oG 14 31 27 false (.bin .gtr (.s 30) (kI 4)),o1 15 32 (.pick (.s 27) (kB true) (.s 31)),mS 16 33 32,oG 17 34 33 false (.faddr 4 (.s 1)),oG 18 35 33 false (.load false 1 (.s 34)),oG 19 36 33 false (.len (.s 35)),oG 20 37 33 false (.bin .gtr (.s 36) (kI 8)),o1 21 38 (.pick (.s 33) (kB true) (.s 37))] [38,1])
  (.cond (.s 38) (sQ (rG 0 [mI 0 2 8] [2])
  .ret)
  .skip))
  (sQ (sQ (rG 0 [mI 0 3 0] [1,3])
  (.block 0 (.loop (some [1,3]) c_kerbstoneref03_Check_l1)))
  (sQ (rG 0 [lT 0 52 5 1,cA 1 53 158 [(.s 52)],mS 2 5 53] [5,1])
  (sQ (sQ (rG 0 [mI 0 6 0] [5,6,1])
  (.block 2 (.loop (some [5,6,1]) c_kerbstoneref03_Check_l2)))
  (sQ (sQ (rG 0 [mI 0 7 0] [5,7,1])
  (.block 4 (.loop (some [5,7,1]) c_kerbstoneref03_Check_l3)))
  (sQ (sQ (rG 0 [mI 0 8 0] [5,8,1])
  (.block 6 (.loop (some [5,8,1]) c_kerbstoneref03_Check_l4)))
  (sQ (rG 0 [mS 0 108 5,mS 1 2 108] [2])
  .ret)))))))))) }
def c_kerbstoneref05_feet_l1 : CC := (sQ (sQ (rG 0 [mS 0 26 10,mS 1 27 9,lN 2 28 27,bS 3 29 .lss 26 28] [29,7,10,1,8,9,5])
  (.cond (.s 29) .skip
  (.exit 0)))
  (sQ (.block 1 (rG 1 [mS 0 32 7,mS 1 33 1,mS 2 34 9,mS 3 35 10,iA 4 36 1 34 35,mS 8 40 8,mS 9 41 9,mS 10 42 10,iA 11 43 1 41 42,fA 15 47 2 5,fA 19 51 2 5,lF 5 37 36,bI 6 38 .sub 37 100,lF 12 44 43,bI 13 45 .add 44 100,lF 16 48 47,bI 17 49 .sub 48 5,lF 20 52 51,bI 21 53 .add 52 5,o1 7 39 (.minmax true [(kI 0),(.s 38)]),o1 14 46 (.minmax false [(.s 40),(.s 45)]),o1 18 50 (.minmax true [(kI 0),(.s 49)]),o1 22 54 (.build [(I 0),(I 0),(I 0),(I 0),(I 0)] [(0,1,(.s 33)),(1,1,(.s 39)),(2,1,(.s 46)),(3,1,(.s 50)),(4,1,(.s 53))]),o1 23 55 (.lit 0 5 [[(I 0),(I 0),(I 0),(I 0),(I 0)]] [(0,(.s 54))]),o1 24 56 (.append 5 40 (.s 32) (.s 55)),mS 25 7 56] [10,7,1,8,9,5]))
  (rG 0 [mS 0 30 10,bI 1 31 .add 30 1,mS 2 10 31] [7,10,1,8,9,5])))
abbrev f_kerbstoneref05_feet : Nat := 83
def c_kerbstoneref05_feet : CFn := { frz := true,rnd := none,nargs := 3,ntmps := 58,res := [(.slot 6)],code :=
  (sQ (rG 3 [o1 0 3 (.box 0 5 (.s 0)),o1 1 5 (.box 1 3 (.s 2)),o1 2 6 (.newsl 2 5)] [3,1,5])
  (sQ (rG 1 [o1 0 7 (.newsl 0 5)] [3,7,1,5])
  (sQ (rG 0 [lT 0 11 5 3,mS 1 12 1,cA 2 13 162 [(.s 11),(.s 12)],mS 3 8 13] [3,7,1,8,5])
  (sQ (rG 0 [fA 0 14 1 3,mS 2 16 1,fA 6 20 0 5,fA 8 22 1 5,lF 1 15 14,iA 3 17 5 15 16,fA 4 18 1 17,lT 5 19 1 18,lF 7 21 20,lF 9 23 22,o1 10 24 (.build [(I 0),(I 0)] [(0,1,(.s 21)),(1,1,(.s 23))]),cA 11 25 163 [(.s 19),(.s 24),(kI 100)],mS 12 9 25] [7,1,8,9,5])
  (sQ (sQ (rG 0 [mI 0 10 0] [7,10,1,8,9,5])
  (.block 0 (.loop (some [7,10,1,8,9,5]) c_kerbstoneref05_feet_l1)))
  (sQ (rG 0 [mS 0 57 7,mS 1 6 57] [6])
  .ret)))))) }
def c_track_whole_l1 : CC := (sQ (rG 0 [bS 0 14 .lss 13 12] [14,5,13,12,11,2])
  (sQ (.cond (.s 14) .skip
  (.exit 0))
  (sQ (.block 1 (sQ (rG 1 [iA 0 15 3 11 13,lT 1 16 3 15,o1 2 7 (.box 0 3 (.k (.a [(I 0),(I 0),(I 0)]))),o0 3 (.store 3 (.s 7) (.s 16))] [5,7,13,12,11,2])
  (sQ (rG 0 [lT 0 17 5 2,lT 1 18 3 7,cA 2 19 85 [(.s 17),(.s 18)]] [19,5,7,13,12,11,2])
  (.cond (.s 19) (rG 1 [mS 0 20 5,fA 1 21 0 7,lF 2 22 21,fA 3 23 1 7,lF 4 24 23,fA 5 25 2 7,lF 6 26 25,o1 7 27 (.build [(I 0),(I 0),(I 0),(I 0),(I 0),(I 0)] [(0,1,(.s 22)),(1,1,(.s 24)),(2,1,(.s 26))]),o1 8 28 (.lit 0 6 [[(I 0),(I 0),(I 0),(I 0),(I 0),(I 0)]] [(0,(.s 27))]),o1 9 29 (.append 6 48 (.s 20) (.s 28)),mS 10 5 29] [13,5,12,11,2])
  .skip))))
  (rG 0 [bI 0 30 .add 13 1,mS 1 13 30] [5,13,12,11,2]))))
def c_track_whole_l2 : CC := (sQ (rG 0 [bS 0 35 .lss 34 33] [35,8,34,33,32])
  (sQ (.cond (.s 35) .skip
  (.exit 2))
  (sQ (.block 3 (sQ (rG 1 [iA 0 36 6 32 34,lT 1 37 6 36,o1 2 10 (.box 0 6 (.k (.a [(I 0),(I 0),(I 0),(I 0),(I 0),(I 0)]))),o0 3 (.store 6 (.s 10) (.s 37))] [8,10,34,33,32])
  (rG 1 [mS 0 38 8,fA 1 39 0 10,lF 2 40 39,fA 3 41 1 10,lF 4 42 41,fA 5 43 2 10,lF 6 44 43,o1 7 45 (.build [(I 0),(I 0),(I 0)] [(0,1,(.s 40)),(1,1,(.s 42)),(2,1,(.s 44))]),o1 8 46 (.lit 0 3 [[(I 0),(I 0),(I 0)]] [(0,(.s 45))]),o1 9 47 (.append 3 24 (.s 38) (.s 46)),mS 10 8 47] [34,8,33,32])))
  (rG 0 [bI 0 48 .add 34 1,mS 1 34 48] [8,34,33,32]))))
abbrev f_track_whole : Nat := 84
def c_track_whole : CFn := { frz := true,rnd := none,nargs := 2,ntmps := 50,res := [(.slot 4)],code :=
  (sQ (rG 2 [o1 0 2 (.box 0 5 (.s 0)),o1 1 4 (.newsl 1 3)] [1,2])
  (sQ (rG 1 [o1 0 5 (.newsl 0 6)] [1,5,2])
  (sQ (sQ (rG 0 [mS 0 11 1,lN 1 12 11,mI 2 13 0] [5,13,12,11,2])
  (.block 0 (.loop (some [5,13,12,11,2]) c_track_whole_l1)))
  (sQ (rG 1 [o1 0 8 (.newsl 0 3)] [5,8])
  (sQ (sQ (rG 0 [mS 0 31 5,cA 1 32 52 [(.s 31)],lN 2 33 32,mI 3 34 0] [8,34,33,32])
  (.block 2 (.loop (some [8,34,33,32]) c_track_whole_l2)))
  (sQ (rG 0 [mS 0 49 8,mS 1 4 49] [4])
  .ret)))))) }
abbrev f_track_on : Nat := 85
def c_track_on : CFn := { frz := true,rnd := none,nargs := 2,ntmps := 37,res := [(.slot 4)],code :=
  (sQ (rG 2 [o1 0 2 (.box 0 5 (.s 0)),o1 1 3 (.box 1 3 (.s 1)),mB 2 4 false] [3,2])
  (sQ (.region 0 [fA 0 5 0 3,lF 1 6 5,bI 2 7 .geq 6 0,mS 3 8 7,oG 4 9 8 true (.faddr 0 (.s 3)),oG 6 11 8 true (.faddr 1 (.s 2)),oG 5 10 8 true (.load false 1 (.s 9)),oG 7 12 8 true (.load false 1 (.s 11)),oG 8 13 8 true (.len (.s 12)),oG 9 14 8 true (.bin .lss (.s 10) (.s 13)),o1 10 15 (.pick (.s 8) (.s 14) (kB false)),mS 11 16 15,oG 12 17 16 true (.faddr 1 (.s 3)),oG 13 18 16 true (.load false 1 (.s 17)),oG 14 19 16 true (.bin .leq (kI 0) (.s 18)),o1 15 20 (.pick (.s 16) (.s 19) (kB false)),mS 16 21 20,oG 17 22 21 true (.faddr 1 (.s 3)),oG 19 24 21 true (.faddr 2 (.s 3)),oG 18 23 21 true (.load false 1 (.s 22)),oG 20 25 21 true (.load false 1 (.s 24)),oG 21 26 21 true (.bin .leq (.s 23) (.s 25)),o1 22 27 (.pick (.s 21) (.s 26) (kB false)),mS 23 28 27,oG 24 29 28 true (.faddr 2 (.s 3)),oG 27 32 28 true (.faddr 0 (.s 3)),oG 25 30 28 true (.load false 1 (.s 29)),oG 26 31 28 true (.load true 5 (.s 2)),oG 28 33 28 true (.load false 1 (.s 32)),⟨29,(some 34),(some (28,true)),.call ⟨true⟩ (.k (.c (.fn 129 [] []))) [(.s 31),(.s 33)]⟩,oG 30 35 28 true (.bin .leq (.s 30) (.s 34)),o1 31 36 (.pick (.s 28) (.s 35) (kB false)),mS 32 4 36] [(26,29)] (some [4]))
  .ret)) }
def c_motion_Cut_Span_l1 : CC := (sQ (rG 0 [bS 0 22 .lss 21 20] [22,5,21,20,19,3])
  (sQ (.cond (.s 22) .skip
  (.exit 0))
  (sQ (.block 1 (sQ (rG 1 [iA 0 23 3 19 21,lT 1 24 3 23,o1 2 7 (.box 0 3 (.k (.a [(I 0),(I 0),(I 0)]))),o0 3 (.store 3 (.s 7) (.s 24))] [5,7,21,20,19,3])
  (sQ (rG 2 [lT 0 25 3 7,lT 1 26 3 7,o1 2 8 (.box 0 3 (.k (.a [(I 0),(I 0),(I 0)]))),o1 3 9 (.box 1 3 (.k (.a [(I 0),(I 0),(I 0)]))),o0 4 (.store 3 (.s 8) (.s 25)),o0 5 (.store 3 (.s 9) (.s 26))] [9,8,5,7,21,20,19,3])
  (sQ (rG 0 [cA 0 28 164 [(.s 7)],mS 1 27 28,eX 2 29 27 0,eX 3 30 27 1,eX 4 31 27 2,mS 5 10 29,mS 6 11 30,mS 7 12 31] [10,9,12,8,11,5,7,21,20,19,3])
  (sQ (sQ (rG 0 [mS 0 32 10,fA 1 33 0 3,lF 2 34 33,bS 3 35 .neq 32 34,mS 4 36 35,oG 5 37 36 false (.faddr 1 (.s 3)),oG 7 39 36 false (.faddr 2 (.s 3)),oG 6 38 36 false (.load false 1 (.s 37)),oG 8 40 36 false (.load false 1 (.s 39)),oG 9 41 36 false (.bin .gtr (.s 38) (.s 40)),o1 10 42 (.pick (.s 36) (kB true) (.s 41)),mS 11 43 42,oG 12 44 43 false (.faddr 1 (.s 3)),oG 14 46 43 false (.mv (.s 12)),oG 15 47 43 false (.nilck (.s 46)),oG 13 45 43 false (.load false 1 (.s 44)),oG 16 48 43 false (.load false 1 (.s 47)),oG 17 49 43 false (.bin .gtr (.s 45) (.s 48)),o1 18 50 (.pick (.s 43) (kB true) (.s 49)),mS 19 51 50,oG 20 52 51 false (.faddr 2 (.s 3)),oG 22 54 51 false (.mv (.s 11)),oG 23 55 51 false (.nilck (.s 54)),oG 21 53 51 false (.load false 1 (.s 52)),oG 24 56 51 false (.load false 1 (.s 55)),oG 25 57 51 false (.bin .lss (.s 53) (.s 56)),o1 26 58 (.pick (.s 51) (kB true) (.s 57))] [58,9,12,8,11,5,7,21,20,19,3])
  (.cond (.s 58) (sQ (rG 1 [mS 0 59 5,lT 1 60 3 7,o1 2 61 (.lit 0 3 [[(I 0),(I 0),(I 0)]] [(0,(.s 60))]),o1 3 62 (.append 3 24 (.s 59) (.s 61)),mS 4 5 62] [21,5,20,19,3])
  (.exit 1))
  .skip))
  (sQ (sQ (rG 0 [fA 0 63 1 3,mS 2 65 11,nC 3 66 65,lF 1 64 63,lF 4 67 66,bS 5 68 .gtr 64 67] [68,5,8,12,9,21,20,19,3])
  (.cond (.s 68) (sQ (rG 0 [cA 0 70 164 [(.s 8)],mS 1 69 70,eX 2 71 69 0,eX 3 72 69 1,eX 4 73 69 2,mS 5 13 71,mS 6 14 72,mS 7 15 73] [15,5,8,12,9,21,20,19,3])
  (sQ (rG 0 [mS 0 74 15,fA 1 75 1 3,lF 2 76 75,bI 3 77 .sub 76 1,nC 4 78 74,o0 5 (.store 1 (.s 78) (.s 77))] [5,8,12,9,21,20,19,3])
  (rG 1 [mS 0 79 5,lT 1 80 3 8,o1 2 81 (.lit 0 3 [[(I 0),(I 0),(I 0)]] [(0,(.s 80))]),o1 3 82 (.append 3 24 (.s 79) (.s 81)),mS 4 5 82] [12,5,9,21,20,19,3])))
  .skip))
  (sQ (rG 0 [fA 0 83 2 3,mS 2 85 12,nC 3 86 85,lF 1 84 83,lF 4 87 86,bS 5 88 .lss 84 87] [88,5,9,21,20,19,3])
  (.cond (.s 88) (sQ (rG 0 [cA 0 90 164 [(.s 9)],mS 1 89 90,eX 2 91 89 0,eX 3 92 89 1,eX 4 93 89 2,mS 5 16 91,mS 6 17 92,mS 7 18 93] [17,5,9,21,20,19,3])
  (sQ (rG 0 [mS 0 94 17,fA 1 95 2 3,lF 2 96 95,bI 3 97 .add 96 1,nC 4 98 94,o0 5 (.store 1 (.s 98) (.s 97))] [5,9,21,20,19,3])
  (rG 1 [mS 0 99 5,lT 1 100 3 9,o1 2 101 (.lit 0 3 [[(I 0),(I 0),(I 0)]] [(0,(.s 100))]),o1 3 102 (.append 3 24 (.s 99) (.s 101)),mS 4 5 102] [21,5,20,19,3])))
  .skip))))))))
  (rG 0 [bI 0 103 .add 21 1,mS 1 21 103] [5,21,20,19,3]))))
abbrev f_motion_Cut_Span : Nat := 86
def c_motion_Cut_Span : CFn := { frz := true,rnd := none,nargs := 2,ntmps := 105,res := [(.slot 4)],code :=
  (sQ (rG 2 [o1 0 3 (.box 0 3 (.s 1)),o1 1 4 (.newsl 1 3)] [0,3])
  (sQ (rG 1 [o1 0 5 (.newsl 0 3)] [0,5,3])
  (sQ (sQ (rG 0 [mS 0 19 0,lN 1 20 19,mI 2 21 0] [5,21,20,19,3])
  (.block 0 (.loop (some [5,21,20,19,3]) c_motion_Cut_Span_l1)))
  (sQ (rG 0 [mS 0 104 5,mS 1 4 104] [4])
  .ret)))) }
def c_kerbstoneref05_whole_l1 : CC := (sQ (sQ (rG 0 [mS 0 9 6,mS 1 10 1,lN 2 11 10,bS 3 12 .lss 9 11] [12,5,6,2,1])
  (.cond (.s 12) .skip
  (.exit 0)))
  (sQ (.block 1 (sQ (rG 0 [mS 1 16 1,mS 2 17 6,iA 3 18 3 16 17,lT 0 15 5 2,lT 4 19 3 18,cA 5 20 88 [(.s 15),(.s 19)]] [20,5,6,2,1])
  (.cond (.s 20) (rG 1 [mS 0 21 5,mS 1 22 1,mS 2 23 6,iA 3 24 3 22 23,fA 4 25 0 24,mS 6 27 1,mS 7 28 6,iA 8 29 3 27 28,fA 9 30 1 29,mS 11 32 1,mS 12 33 6,iA 13 34 3 32 33,fA 14 35 2 34,lF 5 26 25,lF 10 31 30,lF 15 36 35,o1 16 37 (.build [(I 0),(I 0),(I 0),(I 0),(I 0),(I 0)] [(0,1,(.s 26)),(1,1,(.s 31)),(2,1,(.s 36))]),o1 17 38 (.lit 0 6 [[(I 0),(I 0),(I 0),(I 0),(I 0),(I 0)]] [(0,(.s 37))]),o1 18 39 (.append 6 48 (.s 21) (.s 38)),mS 19 5 39] [6,5,2,1])
  .skip)))
  (rG 0 [mS 0 13 6,bI 1 14 .add 13 1,mS 2 6 14] [5,6,2,1])))
def c_kerbstoneref05_whole_l2 : CC := (sQ (sQ (rG 0 [mS 0 42 8,mS 1 43 5,lN 2 44 43,bS 3 45 .lss 42 44] [45,7,8,5])
  (.cond (.s 45) .skip
  (.exit 2)))
  (sQ (.block 3 (rG 1 [mS 0 48 7,mS 1 49 5,mS 2 50 8,iA 3 51 6 49 50,fA 4 52 0 51,mS 6 54 5,mS 7 55 8,iA 8 56 6 54 55,fA 9 57 1 56,mS 11 59 5,mS 12 60 8,iA 13 61 6 59 60,fA 14 62 2 61,lF 5 53 52,lF 10 58 57,lF 15 63 62,o1 16 64 (.build [(I 0),(I 0),(I 0)] [(0,1,(.s 53)),(1,1,(.s 58)),(2,1,(.s 63))]),o1 17 65 (.lit 0 3 [[(I 0),(I 0),(I 0)]] [(0,(.s 64))]),o1 18 66 (.append 3 24 (.s 48) (.s 65)),mS 19 7 66] [8,7,5]))
  (rG 0 [mS 0 46 8,bI 1 47 .add 46 1,mS 2 8 47] [7,8,5])))
abbrev f_kerbstoneref05_whole : Nat := 87
def c_kerbstoneref05_whole : CFn := { frz := true,rnd := none,nargs := 2,ntmps := 68,res := [(.slot 4)],code :=
  (sQ (rG 2 [o1 0 2 (.box 0 5 (.s 0)),o1 1 4 (.newsl 1 3)] [2,1])
  (sQ (rG 1 [o1 0 5 (.newsl 0 6)] [5,2,1])
  (sQ (sQ (rG 0 [mI 0 6 0] [5,6,2,1])
  (.block 0 (.loop (some [5,6,2,1]) c_kerbstoneref05_whole_l1)))
  (sQ (rG 1 [o1 0 7 (.newsl 0 3)] [5,7])
  (sQ (rG 0 [mS 0 40 5,cA 1 41 91 [(.s 40)],mS 2 5 41] [7,5])
  (sQ (sQ (rG 0 [mI 0 8 0] [7,8,5])
  (.block 2 (.loop (some [7,8,5]) c_kerbstoneref05_whole_l2)))
  (sQ (rG 0 [mS 0 67 7,mS 1 4 67] [4])
  .ret))))))) }
abbrev f_kerbstoneref05_valid : Nat := 88
def c_kerbstoneref05_valid : CFn := { frz := true,rnd := none,nargs := 2,ntmps := 37,res := [(.slot 4)],code :=
  (sQ (rG 2 [o1 0 2 (.box 0 5 (.s 0)),o1 1 3 (.box 1 3 (.s 1)),mB 2 4 false] [3,2])
  (sQ (.region 0 [fA 0 5 0 3,lF 1 6 5,bI 2 7 .geq 6 0,mS 3 8 7,oG 4 9 8 true (.faddr 0 (.s 3)),oG 6 11 8 true (.faddr 1 (.s 2)),oG 5 10 8 true (.load false 1 (.s 9)),oG 7 12 8 true (.load false 1 (.s 11)),oG 8 13 8 true (.len (.s 12)),oG 9 14 8 true (.bin .lss (.s 10) (.s 13)),o1 10 15 (.pick (.s 8) (.s 14) (kB false)),mS 11 16 15,oG 12 17 16 true (.faddr 1 (.s 3)),oG 13 18 16 true (.load false 1 (.s 17)),oG 14 19 16 true (.bin .geq (.s 18) (kI 0)),o1 15 20 (.pick (.s 16) (.s 19) (kB false)),mS 16 21 20,oG 17 22 21 true (.faddr 1 (.s 3)),oG 19 24 21 true (.faddr 2 (.s 3)),oG 18 23 21 true (.load false 1 (.s 22)),oG 20 25 21 true (.load false 1 (.s 24)),oG 21 26 21 true (.bin .leq (.s 23) (.s 25)),o1 22 27 (.pick (.s 21) (.s 26) (kB false)),mS 23 28 27,oG 24 29 28 true (.faddr 2 (.s 3)),oG 27 32 28 true (.faddr 0 (.s 3)),oG 25 30 28 true (.load false 1 (.s 29)),oG 26 31 28 true (.load true 5 (.s 2)),oG 28 33 28 true (.load false 1 (.s 32)),⟨29,(some 34),(some (28,true)),.call ⟨true⟩ (.k (.c (.fn 162 [] []))) [(.s 31),(.s 33)]⟩,oG 30 35 28 true (.bin .leq (.s 30) (.s 34)),o1 31 36 (.pick (.s 28) (.s 35) (kB false)),mS 32 4 36] [(26,29)] (some [4]))
  .ret)) }
def c_kerbstoneref05_cut_l1 : CC := (sQ (sQ (rG 0 [mS 0 10 6,mS 1 11 0,lN 2 12 11,bS 3 13 .lss 10 12] [13,5,6,0,3])
  (.cond (.s 13) .skip
  (.exit 0)))
  (sQ (.block 1 (sQ (rG 1 [mS 0 16 0,mS 1 17 6,iA 2 18 6 16 17,lT 3 19 6 18,o1 4 7 (.box 0 6 (.k (.a [(I 0),(I 0),(I 0),(I 0),(I 0),(I 0)]))),o0 5 (.store 6 (.s 7) (.s 19))] [5,7,6,0,3])
  (sQ (sQ (rG 0 [fA 0 20 0 7,lF 1 21 20,fA 2 22 0 3,lF 3 23 22,bS 4 24 .neq 21 23,mS 5 25 24,oG 6 26 25 false (.faddr 1 (.s 3)),oG 7 27 25 false (.load false 1 (.s 26)),oG 8 28 25 false (.faddr 2 (.s 7)),oG 9 29 25 false (.load false 1 (.s 28)),oG 10 30 25 false (.bin .gtr (.s 27) (.s 29)),o1 11 31 (.pick (.s 25) (kB true) (.s 30)),mS 12 32 31,oG 13 33 32 false (.faddr 2 (.s 3)),oG 14 34 32 false (.load false 1 (.s 33)),oG 15 35 32 false (.faddr 1 (.s 7)),oG 16 36 32 false (.load false 1 (.s 35)),oG 17 37 32 false (.bin .lss (.s 34) (.s 36)),o1 18 38 (.pick (.s 32) (kB true) (.s 37)),mS 19 39 38,oG 20 40 39 false (.faddr 1 (.s 3)),oG 21 41 39 false (.load false 1 (.s 40)),oG 22 42 39 false (.faddr 2 (.s 3)),oG 23 43 39 false (.load false 1 (.s 42)),oG 24 44 39 false (.bin .gtr (.s 41) (.s 43)),o1 25 45 (.pick (.s 39) (kB true) (.s 44))] [45,5,7,6,0,3])
  (.cond (.s 45) (sQ (rG 1 [mS 0 46 5,lT 1 47 6 7,o1 2 48 (.lit 0 6 [[(I 0),(I 0),(I 0),(I 0),(I 0),(I 0)]] [(0,(.s 47))]),o1 3 49 (.append 6 48 (.s 46) (.s 48)),mS 4 5 49] [6,5,0,3])
  (.exit 1))
  .skip))
  (sQ (.region 2 [lT 0 50 6 7,lT 1 51 6 7,o1 2 8 (.box 0 6 (.k (.a [(I 0),(I 0),(I 0),(I 0),(I 0),(I 0)]))),o1 3 9 (.box 1 6 (.k (.a [(I 0),(I 0),(I 0),(I 0),(I 0),(I 0)]))),o0 4 (.store 6 (.s 8) (.s 50)),o0 5 (.store 6 (.s 9) (.s 51))] [(0,2),(0,3),(1,2),(1,3),(1,4),(2,3)] (some [5,8,9,6,0,3]))
  (sQ (.region 0 [fA 0 52 1 3,fA 3 55 2 3,lF 1 53 52,bI 2 54 .sub 53 1,fA 6 58 2 8,lF 4 56 55,bI 5 57 .add 56 1,o0 7 (.store 1 (.s 58) (.s 54)),fA 8 59 1 9,o0 9 (.store 1 (.s 59) (.s 57))] [(5,7)] (some [5,8,9,6,0,3]))
  (sQ (sQ (rG 0 [fA 0 60 1 8,lF 1 61 60,fA 2 62 2 8,lF 3 63 62,bS 4 64 .leq 61 63] [64,5,8,9,6,0,3])
  (.cond (.s 64) (rG 1 [mS 0 65 5,lT 1 66 6 8,o1 2 67 (.lit 0 6 [[(I 0),(I 0),(I 0),(I 0),(I 0),(I 0)]] [(0,(.s 66))]),o1 3 68 (.append 6 48 (.s 65) (.s 67)),mS 4 5 68] [5,9,6,0,3])
  .skip))
  (sQ (rG 0 [fA 0 69 1 9,lF 1 70 69,fA 2 71 2 9,lF 3 72 71,bS 4 73 .leq 70 72] [73,5,9,6,0,3])
  (.cond (.s 73) (rG 1 [mS 0 74 5,lT 1 75 6 9,o1 2 76 (.lit 0 6 [[(I 0),(I 0),(I 0),(I 0),(I 0),(I 0)]] [(0,(.s 75))]),o1 3 77 (.append 6 48 (.s 74) (.s 76)),mS 4 5 77] [6,5,0,3])
  .skip))))))))
  (rG 0 [mS 0 14 6,bI 1 15 .add 14 1,mS 2 6 15] [5,6,0,3])))
abbrev f_kerbstoneref05_cut : Nat := 89
def c_kerbstoneref05_cut : CFn := { frz := true,rnd := none,nargs := 2,ntmps := 79,res := [(.slot 4)],code :=
  (sQ (rG 2 [o1 0 3 (.box 0 3 (.s 1)),o1 1 4 (.newsl 1 6)] [0,3])
  (sQ (rG 1 [o1 0 5 (.newsl 0 6)] [5,0,3])
  (sQ (sQ (rG 0 [mI 0 6 0] [5,6,0,3])
  (.block 0 (.loop (some [5,6,0,3]) c_kerbstoneref05_cut_l1)))
  (sQ (rG 0 [mS 0 78 5,mS 1 4 78] [4])
  .ret)))) }
def c_kerbstoneref05_Join_l1 : CC := (sQ (sQ (rG 0 [mS 0 31 5,bI 1 32 .gtr 31 0,mS 2 33 32,oG 3 34 33 true (.mv (.s 0)),oG 4 35 33 true (.mv (.s 4)),oG 5 36 33 true (.iaddr 6 (.s 34) (.s 35)),oG 7 38 33 true (.mv (.s 3)),oG 8 39 33 true (.mv (.s 5)),oG 9 40 33 true (.bin .sub (.s 39) (kI 1)),oG 10 41 33 true (.iaddr 6 (.s 38) (.s 40)),oG 6 37 33 true (.load true 6 (.s 36)),oG 11 42 33 true (.load true 6 (.s 41)),⟨12,(some 43),(some (33,true)),.call ⟨true⟩ (.k (.c (.fn 166 [] []))) [(.s 37),(.s 42)]⟩,o1 13 44 (.pick (.s 33) (.s 43) (kB false))] [44,5,0,4,3])
  (.cond (.s 44) .skip
  (.exit 2)))
  (.block 3 (rG 0 [mS 0 45 5,bI 1 46 .sub 45 1,mS 2 5 46] [5,0,4,3])))
def c_kerbstoneref05_Join_l2 : CC := (sQ (sQ (rG 0 [mS 0 12 4,mS 1 13 0,lN 2 14 13,bS 3 15 .lss 12 14] [15,4,0,3])
  (.cond (.s 15) .skip
  (.exit 0)))
  (sQ (.block 1 (sQ (sQ (rG 0 [mS 0 18 0,mS 1 19 4,iA 2 20 6 18 19,fA 3 21 1 20,mS 5 23 0,mS 6 24 4,iA 7 25 6 23 24,fA 8 26 2 25,lF 4 22 21,lF 9 27 26,bS 10 28 .gtr 22 27] [28,4,0,3])
  (.cond (.s 28) (.exit 1)
  .skip))
  (sQ (rG 0 [mS 0 29 3,lN 1 30 29,mS 2 5 30] [5,0,4,3])
  (sQ (.block 2 (.loop (some [5,0,4,3]) c_kerbstoneref05_Join_l1))
  (.region 2 [mS 1 48 3,mS 2 49 5,o1 3 50 (.slice 6 (.s 48) none (some (.s 49)) none),mS 5 52 0,mS 6 53 4,iA 7 54 6 52 53,mS 11 58 3,mS 12 59 5,o1 13 60 (.slice 6 (.s 58) (some (.s 59)) none none),lT 8 55 6 54,o1 0 47 (.lit 0 6 [] []),o1 4 51 (.append 6 48 (.s 47) (.s 50)),o1 9 56 (.lit 1 6 [[(I 0),(I 0),(I 0),(I 0),(I 0),(I 0)]] [(0,(.s 55))]),o1 10 57 (.append 6 48 (.s 51) (.s 56)),o1 14 61 (.append 6 48 (.s 57) (.s 60)),mS 15 3 61] [(9,10),(9,11),(10,12),(11,12)] (some [4,0,3]))))))
  (rG 0 [mS 0 16 4,bI 1 17 .add 16 1,mS 2 4 17] [4,0,3])))
def c_kerbstoneref05_Join_l3 : CC := (sQ (sQ (rG 0 [mS 0 62 7,mS 1 63 3,lN 2 64 63,bS 3 65 .lss 62 64] [65,6,7,3])
  (.cond (.s 65) .skip
  (.exit 4)))
  (sQ (.block 5 (sQ (rG 1 [mS 0 68 3,mS 1 69 7,iA 2 70 6 68 69,lT 3 71 6 70,mS 4 72 6,lN 5 73 72,bI 6 74 .sub 73 1,o1 7 8 (.box 0 6 (.k (.a [(I 0),(I 0),(I 0),(I 0),(I 0),(I 0)]))),o0 8 (.store 6 (.s 8) (.s 71)),mS 9 9 74] [9,6,8,7,3])
  (sQ (sQ (rG 0 [mS 0 75 9,bI 1 76 .lss 75 0,mS 2 77 76,oG 3 78 77 false (.mv (.s 6)),oG 4 79 77 false (.mv (.s 9)),oG 5 80 77 false (.iaddr 6 (.s 78) (.s 79)),oG 6 81 77 false (.faddr 0 (.s 80)),oG 8 83 77 false (.faddr 0 (.s 8)),oG 7 82 77 false (.load false 1 (.s 81)),oG 9 84 77 false (.load false 1 (.s 83)),oG 10 85 77 false (.bin .neq (.s 82) (.s 84)),o1 11 86 (.pick (.s 77) (kB true) (.s 85)),mS 12 87 86,oG 13 88 87 false (.faddr 1 (.s 8)),oG 15 90 87 false (.mv (.s 6)),oG 16 91 87 false (.mv (.s 9)),oG 17 92 87 false (.iaddr 6 (.s 90) (.s 91)),oG 18 93 87 false (.faddr 2 (.s 92)),oG 14 89 87 false (.load false 1 (.s 88)),oG 19 94 87 false (.load false 1 (.s 93)),oG 20 95 87 false (.bin .gtr (.s 89) (.s 94)),oG 21 96 87 false (.mv (.s 95)),oG 22 97 96 true (.faddr 1 (.s 8)),oG 25 100 96 true (.mv (.s 6)),oG 26 101 96 true (.mv (.s 9)),oG 27 102 96 true (.iaddr 6 (.s 100) (.s 101)),oG 28 103 96 true (.faddr 2 (.s 102)),oG 23 98 96 true (.load false 1 (.s 97)),oG 24 99 96 true (.bin .sub (.s 98) (kI 1)),oG 29 104 96 true (.load false 1 (.s 103)),oG 30 105 96 true (.bin .gtr (.s 99) (.s 104)),oG 31 106 87 false (.pick (.s 96) (.s 105) (kB false)),o1 32 107 (.pick (.s 87) (kB true) (.s 106))] [107,9,6,8,7,3])
  (.cond (.s 107) (sQ (rG 1 [mS 0 108 6,lT 1 109 6 8,o1 2 110 (.lit 0 6 [[(I 0),(I 0),(I 0),(I 0),(I 0),(I 0)]] [(0,(.s 109))]),o1 3 111 (.append 6 48 (.s 108) (.s 110)),mS 4 6 111] [7,6,3])
  (.exit 5))
  .skip))
  (sQ (rG 1 [mS 0 112 6,mS 1 113 9,iA 2 114 6 112 113,lT 3 115 6 114,o1 4 10 (.box 0 6 (.k (.a [(I 0),(I 0),(I 0),(I 0),(I 0),(I 0)]))),o0 5 (.store 6 (.s 10) (.s 115))] [9,10,8,7,6,3])
  (sQ (rG 0 [fA 0 116 5 10,lF 1 117 116,fA 2 118 5 8,lF 3 119 118,o1 4 120 (.minmax true [(.s 117),(.s 119)]),mS 5 11 120] [11,9,10,8,7,6,3])
  (sQ (sQ (rG 0 [fA 0 121 5 10,lF 1 122 121,bI 2 123 .eql 122 0,mS 3 124 123,oG 4 125 124 false (.faddr 5 (.s 8)),oG 5 126 124 false (.load false 1 (.s 125)),oG 6 127 124 false (.bin .eql (.s 126) (kI 0)),o1 7 128 (.pick (.s 124) (kB true) (.s 127))] [128,11,9,10,8,7,6,3])
  (.cond (.s 128) (rG 0 [mI 0 11 0] [9,10,8,11,7,6,3])
  .skip))
  (rG 0 [mS 0 129 6,mS 1 130 9,fA 2 131 0 8,lF 3 132 131,fA 4 133 1 10,lF 5 134 133,fA 6 135 2 10,lF 7 136 135,fA 8 137 2 8,lF 9 138 137,o1 10 139 (.minmax true [(.s 136),(.s 138)]),fA 11 140 3 10,lF 12 141 140,fA 13 142 3 8,lF 14 143 142,o1 15 144 (.minmax false [(.s 141),(.s 143)]),fA 16 145 4 10,lF 17 146 145,fA 18 147 4 8,lF 19 148 147,o1 20 149 (.minmax true [(.s 146),(.s 148)]),mS 21 150 11,o1 22 151 (.build [(I 0),(I 0),(I 0),(I 0),(I 0),(I 0)] [(0,1,(.s 132)),(1,1,(.s 134)),(2,1,(.s 139)),(3,1,(.s 144)),(4,1,(.s 149)),(5,1,(.s 150))]),iA 23 152 6 129 130,o0 24 (.store 6 (.s 152) (.s 151))] [7,6,3])))))))
  (rG 0 [mS 0 66 7,bI 1 67 .add 66 1,mS 2 7 67] [6,7,3])))
abbrev f_kerbstoneref05_Join : Nat := 91
def c_kerbstoneref05_Join : CFn := { frz := true,rnd := none,nargs := 1,ntmps := 154,res := [(.slot 2)],code :=
  (sQ (rG 1 [o1 0 2 (.newsl 0 6)] [0])
  (sQ (rG 1 [o1 0 3 (.newsl 0 6)] [0,3])
  (sQ (sQ (rG 0 [mI 0 4 0] [4,0,3])
  (.block 0 (.loop (some [4,0,3]) c_kerbstoneref05_Join_l2)))
  (sQ (rG 1 [o1 0 6 (.newsl 0 6)] [6,3])
  (sQ (sQ (rG 0 [mI 0 7 0] [6,7,3])
  (.block 4 (.loop (some [6,7,3]) c_kerbstoneref05_Join_l3)))
  (sQ (rG 0 [mS 0 153 6,mS 1 2 153] [2])
  .ret)))))) }
abbrev f_kerbstoneref03_Bounds : Nat := 94
def c_kerbstoneref03_Bounds : CFn := { frz := true,rnd := none,nargs := 1,ntmps := 12,res := [(.slot 2),(.slot 3),(.slot 4)],code :=
  (sQ (rG 0 [mI 0 2 0,mI 1 3 0,mI 2 4 0] [0])
  (sQ (sQ (rG 0 [mS 0 5 0] [5])
  (.block 0 (sQ (rG 0 [bI 0 7 .eql 5 1,mS 1 6 7] [6,5])
  (.cond (.s 6) (sQ (rG 0 [mI 0 2 2000,mI 1 3 30,mI 2 4 90] [2,3,4])
  .ret)
  (sQ (rG 0 [bI 0 9 .eql 5 2,mS 1 8 9] [8,5])
  (.cond (.s 8) (sQ (rG 0 [mI 0 2 1000,mI 1 3 20,mI 2 4 60] [2,3,4])
  .ret)
  (sQ (rG 0 [bI 0 11 .eql 5 3,mS 1 10 11] [10])
  (.cond (.s 10) (sQ (rG 0 [mI 0 2 300,mI 1 3 100,mI 2 4 300] [2,3,4])
  .ret)
  .skip))))))))
  (sQ (rG 0 [mI 0 2 0,mI 1 3 0,mI 2 4 0] [2,3,4])
  .ret))) }
def c_motion_Cut_Blob_l1 : CC := (sQ (rG 0 [bS 0 22 .lss 21 20] [22,5,21,20,19,3])
  (sQ (.cond (.s 22) .skip
  (.exit 0))
  (sQ (.block 1 (sQ (rG 1 [iA 0 23 6 19 21,lT 1 24 6 23,o1 2 7 (.box 0 6 (.k (.a [(I 0),(I 0),(I 0),(I 0),(I 0),(I 0)]))),o0 3 (.store 6 (.s 7) (.s 24))] [5,7,21,20,19,3])
  (sQ (rG 2 [lT 0 25 6 7,lT 1 26 6 7,o1 2 8 (.box 0 6 (.k (.a [(I 0),(I 0),(I 0),(I 0),(I 0),(I 0)]))),o1 3 9 (.box 1 6 (.k (.a [(I 0),(I 0),(I 0),(I 0),(I 0),(I 0)]))),o0 4 (.store 6 (.s 8) (.s 25)),o0 5 (.store 6 (.s 9) (.s 26))] [9,8,5,7,21,20,19,3])
  (sQ (rG 0 [cA 0 28 170 [(.s 7)],mS 1 27 28,eX 2 29 27 0,eX 3 30 27 1,eX 4 31 27 2,mS 5 10 29,mS 6 11 30,mS 7 12 31] [10,9,12,8,11,5,7,21,20,19,3])
  (sQ (sQ (rG 0 [mS 0 32 10,fA 1 33 0 3,lF 2 34 33,bS 3 35 .neq 32 34,mS 4 36 35,oG 5 37 36 false (.faddr 1 (.s 3)),oG 7 39 36 false (.faddr 2 (.s 3)),oG 6 38 36 false (.load false 1 (.s 37)),oG 8 40 36 false (.load false 1 (.s 39)),oG 9 41 36 false (.bin .gtr (.s 38) (.s 40)),o1 10 42 (.pick (.s 36) (kB true) (.s 41)),mS 11 43 42,oG 12 44 43 false (.faddr 1 (.s 3)),oG 14 46 43 false (.mv (.s 12)),oG 15 47 43 false (.nilck (.s 46)),oG 13 45 43 false (.load false 1 (.s 44)),oG 16 48 43 false (.load false 1 (.s 47)),oG 17 49 43 false (.bin .gtr (.s 45) (.s 48)),o1 18 50 (.pick (.s 43) (kB true) (.s 49)),mS 19 51 50,oG 20 52 51 false (.faddr 2 (.s 3)),oG 22 54 51 false (.mv (.s 11)),oG 23 55 51 false (.nilck (.s 54)),oG 21 53 51 false (.load false 1 (.s 52)),oG 24 56 51 false (.load false 1 (.s 55)),oG 25 57 51 false (.bin .lss (.s 53) (.s 56)),o1 26 58 (.pick (.s 51) (kB true) (.s 57))] [58,9,12,8,11,5,7,21,20,19,3])
  (.cond (.s 58) (sQ (rG 1 [mS 0 59 5,lT 1 60 6 7,o1 2 61 (.lit 0 6 [[(I 0),(I 0),(I 0),(I 0),(I 0),(I 0)]] [(0,(.s 60))]),o1 3 62 (.append 6 48 (.s 59) (.s 61)),mS 4 5 62] [21,5,20,19,3])
  (.exit 1))
  .skip))
  (sQ (sQ (rG 0 [fA 0 63 1 3,mS 2 65 11,nC 3 66 65,lF 1 64 63,lF 4 67 66,bS 5 68 .gtr 64 67] [68,5,8,12,9,21,20,19,3])
  (.cond (.s 68) (sQ (rG 0 [cA 0 70 170 [(.s 8)],mS 1 69 70,eX 2 71 69 0,eX 3 72 69 1,eX 4 73 69 2,mS 5 13 71,mS 6 14 72,mS 7 15 73] [15,5,8,12,9,21,20,19,3])
  (sQ (rG 0 [mS 0 74 15,fA 1 75 1 3,lF 2 76 75,bI 3 77 .sub 76 1,nC 4 78 74,o0 5 (.store 1 (.s 78) (.s 77))] [5,8,12,9,21,20,19,3])
  (rG 1 [mS 0 79 5,lT 1 80 6 8,o1 2 81 (.lit 0 6 [[(I 0),(I 0),(I 0),(I 0),(I 0),(I 0)]] [(0,(.s 80))]),o1 3 82 (.append 6 48 (.s 79) (.s 81)),mS 4 5 82] [12,5,9,21,20,19,3])))
  .skip))
  (sQ (rG 0 [fA 0 83 2 3,mS 2 85 12,nC 3 86 85,lF 1 84 83,lF 4 87 86,bS 5 88 .lss 84 87] [88,5,9,21,20,19,3])
  (.cond (.s 88) (sQ (rG 0 [cA 0 90 170 [(.s 9)],mS 1 89 90,eX 2 91 89 0,eX 3 92 89 1,eX 4 93 89 2,mS 5 16 91,mS 6 17 92,mS 7 18 93] [17,5,9,21,20,19,3])
  (sQ (rG 0 [mS 0 94 17,fA 1 95 2 3,lF 2 96 95,bI 3 97 .add 96 1,nC 4 98 94,o0 5 (.store 1 (.s 98) (.s 97))] [5,9,21,20,19,3])
  (rG 1 [mS 0 99 5,lT 1 100 6 9,o1 2 101 (.lit 0 6 [[(I 0),(I 0),(I 0),(I 0),(I 0),(I 0)]] [(0,(.s 100))]),o1 3 102 (.append 6 48 (.s 99) (.s 101)),mS 4 5 102] [21,5,20,19,3])))
  .skip))))))))
  (rG 0 [bI 0 103 .add 21 1,mS 1 21 103] [5,21,20,19,3]))))
def c_motion_Cut_Blob : CFn := { frz := true,rnd := none,nargs := 2,ntmps := 105,res := [(.slot 4)],code :=
  (sQ (rG 2 [o1 0 3 (.box 0 3 (.s 1)),o1 1 4 (.newsl 1 6)] [0,3])
  (sQ (rG 1 [o1 0 5 (.newsl 0 6)] [0,5,3])
  (sQ (sQ (rG 0 [mS 0 19 0,lN 1 20 19,mI 2 21 0] [5,21,20,19,3])
  (.block 0 (.loop (some [5,21,20,19,3]) c_motion_Cut_Blob_l1)))
  (sQ (rG 0 [mS 0 104 5,mS 1 4 104] [4])
  .ret)))) }
def c_roads_CheckRoute_l1 : CC := (sQ (rG 0 [bS 0 53 .lss 52 51] [53,6,2,50,51,52])
  (sQ (.cond (.s 53) .skip
  (.exit 0))
  (sQ (.block 1 (sQ (rG 0 [iA 0 54 1 50 52,lF 1 55 54,mS 2 8 55] [6,2,50,51,52,8])
  (sQ (sQ (rG 0 [fA 0 56 1 2,lF 1 57 56,mS 2 58 6,iA 3 59 5 57 58,fA 4 60 4 59,lF 5 61 60,mS 6 62 8,cA 7 63 185 [(.s 61),(.s 62)],o1 8 64 (.un .not (.s 63))] [64,2,50,51,52,8])
  (.cond (.s 64) (sQ (rG 0 [mI 0 4 13] [4])
  .ret)
  .skip))
  (rG 0 [mS 0 65 8,mS 1 6 65] [52,6,51,50,2]))))
  (rG 0 [bI 0 66 .add 52 1,mS 1 52 66] [6,51,50,2,52]))))
def c_roads_CheckRoute : CFn := { frz := true,rnd := none,nargs := 2,ntmps := 67,res := [(.slot 4)],code :=
  (sQ (rG 1 [o1 0 2 (.box 0 5 (.s 0)),mI 1 4 0] [1,2])
  (sQ (sQ (rG 0 [lT 0 9 5 2,cA 1 10 75 [(.s 9)],mS 2 5 10] [1,2,5])
  (sQ (rG 0 [mS 0 11 5,bI 1 12 .neq 11 0] [12,1,2,5])
  (.cond (.s 12) (sQ (rG 0 [mS 0 13 5,mS 1 4 13] [4])
  .ret)
  .skip)))
  (sQ (sQ (rG 0 [mS 0 14 1,lN 1 15 14,bI 2 16 .eql 15 0,mS 3 17 16,oG 4 18 17 false (.mv (.s 1)),oG 5 19 17 false (.len (.s 18)),oG 6 20 17 false (.bin .gtr (.s 19) (kI 8)),o1 7 21 (.pick (.s 17) (kB true) (.s 20)),mS 8 22 21,oG 9 23 22 false (.mv (.s 1)),oG 10 24 22 false (.iaddr 1 (.s 23) (kI 0)),oG 11 25 22 false (.load false 1 (.s 24)),oG 12 26 22 false (.bin .lss (.s 25) (kI 0)),o1 13 27 (.pick (.s 22) (kB true) (.s 26)),mS 14 28 27,oG 15 29 28 false (.mv (.s 1)),oG 16 30 28 false (.iaddr 1 (.s 29) (kI 0)),oG 18 32 28 false (.faddr 1 (.s 2)),oG 17 31 28 false (.load false 1 (.s 30)),oG 19 33 28 false (.load false 1 (.s 32)),oG 20 34 28 false (.len (.s 33)),oG 21 35 28 false (.bin .geq (.s 31) (.s 34)),o1 22 36 (.pick (.s 28) (kB true) (.s 35)),mS 23 37 36,oG 25 39 37 false (.mv (.s 1)),oG 26 40 37 false (.iaddr 1 (.s 39) (kI 0)),oG 24 38 37 false (.load true 5 (.s 2)),oG 27 41 37 false (.load false 1 (.s 40)),⟨28,(some 42),(some (37,false)),.call ⟨true⟩ (.k (.c (.fn 184 [] []))) [(.s 38),(.s 41)]⟩,oG 29 43 37 false (.len (.s 42)),oG 30 44 37 false (.bin .gtr (.s 43) (kI 0)),o1 31 45 (.pick (.s 37) (kB true) (.s 44))] [45,2,1])
  (.cond (.s 45) (sQ (rG 0 [mI 0 4 13] [4])
  .ret)
  .skip))
  (sQ (rG 0 [mS 0 46 1,o1 1 47 (.iaddr 1 (.s 46) (kI 0)),lF 2 48 47,mS 3 6 48] [1,6,2])
  (sQ (sQ (rG 0 [mS 0 49 1,o1 1 50 (.slice 1 (.s 49) (some (kI 1)) none none),lN 2 51 50,mI 3 52 0] [6,51,50,2,52])
  (.block 0 (.loop (some [6,51,50,2,52]) c_roads_CheckRoute_l1)))
  (sQ (rG 0 [mI 0 4 0] [4])
  .ret)))))) }
def c_motion_Along_l1 : CC := (sQ (rG 0 [bS 0 29 .lss 28 27] [29,28,27,6,3,7])
  (sQ (.cond (.s 29) .skip
  (.exit 0))
  (sQ (.block 1 (sQ (rG 0 [mS 0 30 28,mS 1 8 30] [8,28,27,6,3,7])
  (.region 1 [fA 0 31 9 7,mS 3 34 8,lF 1 32 31,lT 2 33 5 3,cA 4 35 129 [(.s 33),(.s 34)],o1 5 36 (.lit 0 1 [[(I 0)]] [(0,(.s 35))]),o1 6 37 (.append 1 8 (.s 32) (.s 36)),fA 7 38 9 7,o0 8 (.store 1 (.s 38) (.s 37))] [(2,4),(2,5)] (some [28,27,6,3,7]))))
  (rG 0 [bI 0 39 .add 28 1,mS 1 28 39] [28,27,6,3,7]))))
def c_motion_Along_l2 : CC := (sQ (rG 0 [bS 0 44 .lss 43 42] [44,43,42,6,41,7])
  (sQ (.cond (.s 44) .skip
  (.exit 2))
  (sQ (.block 3 (sQ (rG 0 [iA 0 45 1 41 43,lF 1 46 45,mS 2 10 46] [10,43,42,6,41,7])
  (rG 0 [fA 0 47 10 7,lF 1 48 47,mS 2 49 10,iA 3 50 1 48 49,o0 4 (.store 1 (.s 50) (kB true))] [43,42,6,41,7])))
  (rG 0 [bI 0 51 .add 43 1,mS 1 43 51] [43,42,6,41,7]))))
def c_motion_Along : CFn := { frz := true,rnd := none,nargs := 3,ntmps := 53,res := [(.cell 6 true 11)],code :=
  (sQ (rG 2 [o1 0 3 (.box 0 5 (.s 0)),o1 1 6 (.box 1 11 (.k (.a [(I 0),.nilslice,.nilslice,.nilslice,.nilslice,.nilslice,.nilslice,(I 0),(I 0),.nilslice,.nilslice])))] [1,2,6,3])
  (sQ (.region 2 [mS 1 12 1,mS 3 14 1,mS 6 17 1,mS 8 19 2,fA 9 20 1 3,lT 0 11 5 3,lT 2 13 5 3,lT 5 16 5 3,lF 10 21 20,cA 4 15 137 [(.s 13),(.s 14)],cA 7 18 186 [(.s 16),(.s 17)],lN 11 22 21,o1 12 23 (.mkslice 0 1 1 [(.bool false)] (.s 22) (.s 22)),o1 13 24 (.build [(I 0),.nilslice,.nilslice,.nilslice,.nilslice,.nilslice,.nilslice,(I 0),(I 0),.nilslice,.nilslice] [(0,5,(.s 11)),(5,1,(.s 12)),(6,1,(.s 15)),(7,1,(.s 18)),(8,1,(.s 19)),(10,1,(.s 23))]),o1 14 7 (.box 1 11 (.k (.a [(I 0),.nilslice,.nilslice,.nilslice,.nilslice,.nilslice,.nilslice,(I 0),(I 0),.nilslice,.nilslice]))),o0 15 (.store 11 (.s 7) (.s 24))] [(5,9),(5,10),(5,12),(5,14),(6,12),(6,14),(7,9),(7,12),(7,14),(8,9),(8,10),(8,14),(9,12),(9,14),(10,12),(10,14),(12,14)] (some [6,3,7]))
  (sQ (sQ (rG 0 [fA 0 25 1 3,lF 1 26 25,lN 2 27 26,mI 3 28 0] [28,27,6,3,7])
  (.block 0 (.loop (some [28,27,6,3,7]) c_motion_Along_l1)))
  (sQ (sQ (rG 0 [lT 0 40 5 3,cA 1 41 187 [(.s 40)],lN 2 42 41,mI 3 43 0] [43,42,6,41,7])
  (.block 2 (.loop (some [43,42,6,41,7]) c_motion_Along_l2)))
  (sQ (rG 0 [lT 0 52 11 7,o0 1 (.store 11 (.s 6) (.s 52))] [6])
  .ret))))) }
def c_track_able : CFn := { frz := true,rnd := none,nargs := 1,ntmps := 5,res := [(.slot 2)],code :=
  (sQ (rG 0 [mB 0 2 false] [0])
  (sQ (rG 0 [mS 0 3 0,cA 1 4 62 [(.s 3),(kI 300),(kI 20000)],mS 2 2 4] [2])
  .ret)) }
def c_motion_Course_Own_l1 : CC := (sQ (rG 0 [bS 0 18 .lss 17 16] [18,1,17,16,15,5,3])
  (sQ (.cond (.s 18) .skip
  (.exit 0))
  (sQ (.block 1 (sQ (rG 0 [mS 0 19 17,iA 1 20 1 15 17,lF 2 21 20,mS 3 7 19,mS 4 8 21] [1,8,7,17,16,15,5,3])
  (rG 0 [mS 0 22 1,mS 1 23 8,fA 2 24 1 5,fA 4 26 8 3,fA 7 29 6 3,mS 9 31 7,fA 13 35 0 5,fA 15 37 6 3,mS 17 39 7,lF 3 25 24,lF 5 27 26,bS 6 28 .sub 25 27,lF 8 30 29,iA 10 32 1 30 31,lF 11 33 32,bS 12 34 .sub 28 33,lF 14 36 35,lF 16 38 37,iA 18 40 1 38 39,lF 19 41 40,bS 20 42 .sub 36 41,o1 21 43 (.build [(I 0),(I 0),(I 0)] [(0,1,(.s 23)),(1,1,(.s 34)),(2,1,(.s 42))]),cA 22 44 96 [(.s 22),(.s 43)],mS 23 1 44] [17,1,16,15,5,3])))
  (rG 0 [bI 0 45 .add 17 1,mS 1 17 45] [1,17,16,15,5,3]))))
def c_motion_Course_Own : CFn := { frz := true,rnd := none,nargs := 3,ntmps := 47,res := [(.slot 6)],code :=
  (sQ (rG 3 [o1 0 3 (.box 0 11 (.s 0)),o1 1 5 (.box 1 4 (.s 2)),o1 2 6 (.newsl 2 6)] [3,5,1])
  (sQ (sQ (rG 0 [lT 0 9 11 3,lT 1 10 4 5,cA 2 11 191 [(.s 9),(.s 10)],o1 3 12 (.un .not (.s 11))] [12,3,5,1])
  (.cond (.s 12) (sQ (rG 0 [mS 0 13 1,mS 1 6 13] [6])
  .ret)
  .skip))
  (sQ (sQ (rG 0 [fA 0 14 5 3,lF 1 15 14,lN 2 16 15,mI 3 17 0] [1,17,16,15,5,3])
  (.block 0 (.loop (some [1,17,16,15,5,3]) c_motion_Course_Own_l1)))
  (sQ (rG 0 [mS 0 46 1,mS 1 6 46] [6])
  .ret)))) }
abbrev f_roads_Length : Nat := 129
def c_roads_Length : CFn := { frz := true,rnd := none,nargs := 2,ntmps := 12,res := [(.slot 4)],code :=
  (sQ (rG 1 [o1 0 2 (.box 0 5 (.s 0)),mI 1 4 0] [1,2])
  (sQ (sQ (rG 0 [lT 0 5 5 2,mS 1 6 1,cA 2 7 208 [(.s 5),(.s 6)],o1 3 8 (.un .not (.s 7))] [8,1,2])
  (.cond (.s 8) (sQ (rG 0 [mI 0 4 0] [4])
  .ret)
  .skip))
  (sQ (rG 0 [lT 0 9 5 2,mS 1 10 1,cA 2 11 209 [(.s 9),(.s 10)],mS 3 4 11] [4])
  .ret))) }
abbrev f_roads_Bounds : Nat := 130
def c_roads_Bounds : CFn := { frz := true,rnd := none,nargs := 1,ntmps := 26,res := [(.slot 2),(.slot 3),(.slot 4)],code :=
  (sQ (rG 0 [mI 0 2 0,mI 1 3 0,mI 2 4 0] [0])
  (sQ (rG 1 [o1 0 7 (.build [(I 0),(I 0),(I 0)] [(0,1,(kI 2000)),(1,1,(kI 30)),(2,1,(kI 90))]),o1 1 8 (.build [(I 0),(I 0),(I 0)] [(0,1,(kI 1000)),(1,1,(kI 20)),(2,1,(kI 60))]),o1 2 9 (.build [(I 0),(I 0),(I 0)] [(0,1,(kI 300)),(1,1,(kI 100)),(2,1,(kI 300))]),o1 3 10 (.build [(I 0),(I 0),(I 0),(I 0),(I 0),(I 0),(I 0),(I 0),(I 0),(I 0),(I 0),(I 0)] [(3,3,(.s 7)),(6,3,(.s 8)),(9,3,(.s 9))]),o1 4 5 (.box 0 12 (.k (.a [(I 0),(I 0),(I 0),(I 0),(I 0),(I 0),(I 0),(I 0),(I 0),(I 0),(I 0),(I 0)]))),o0 5 (.store 12 (.s 5) (.s 10))] [5,0])
  (sQ (sQ (rG 0 [mS 0 11 0,bI 1 12 .lss 11 0,mS 2 13 12,oG 3 14 13 false (.mv (.s 0)),oG 4 15 13 false (.bin .geq (.s 14) (kI 4)),o1 5 16 (.pick (.s 13) (kB true) (.s 15))] [16,5,0])
  (.cond (.s 16) (sQ (rG 0 [mI 0 2 0,mI 1 3 0,mI 2 4 0] [2,3,4])
  .ret)
  .skip))
  (sQ (rG 1 [mS 0 17 0,o1 1 18 (.aaddr 4 3 (.s 5) (.s 17)),lT 2 19 3 18,o1 3 6 (.box 0 3 (.k (.a [(I 0),(I 0),(I 0)]))),o0 4 (.store 3 (.s 6) (.s 19))] [6])
  (sQ (rG 0 [o1 0 20 (.aaddr 3 1 (.s 6) (kI 0)),o1 2 22 (.aaddr 3 1 (.s 6) (kI 1)),o1 4 24 (.aaddr 3 1 (.s 6) (kI 2)),lF 1 21 20,mS 6 2 21,lF 3 23 22,mS 7 3 23,lF 5 25 24,mS 8 4 25] [2,3,4])
  .ret))))) }
def c_motion_Join_l1 : CC := (sQ (rG 0 [bS 0 16 .lss 15 14] [16,15,14,13,4])
  (sQ (.cond (.s 16) .skip
  (.exit 0))
  (sQ (.block 1 (sQ (rG 1 [iA 0 17 6 13 15,lT 1 18 6 17,o1 2 6 (.box 0 6 (.k (.a [(I 0),(I 0),(I 0),(I 0),(I 0),(I 0)]))),o0 3 (.store 6 (.s 6) (.s 18))] [6,15,14,13,4])
  (sQ (rG 0 [mS 0 19 4,lN 1 20 19,mS 2 7 20] [7,6,15,14,13,4])
  (sQ (rG 0 [mS 0 21 7,bI 1 22 .gtr 21 0,mS 2 23 22,oG 3 24 23 true (.mv (.s 4)),oG 4 25 23 true (.mv (.s 7)),oG 5 26 23 true (.bin .sub (.s 25) (kI 1)),oG 6 27 23 true (.iaddr 6 (.s 24) (.s 26)),oG 7 28 23 true (.faddr 0 (.s 27)),oG 9 30 23 true (.faddr 0 (.s 6)),oG 8 29 23 true (.load false 1 (.s 28)),oG 10 31 23 true (.load false 1 (.s 30)),oG 11 32 23 true (.bin .eql (.s 29) (.s 31)),o1 12 33 (.pick (.s 23) (.s 32) (kB false)),mS 13 34 33,oG 14 35 34 true (.faddr 1 (.s 6)),oG 16 37 34 true (.mv (.s 4)),oG 17 38 34 true (.mv (.s 7)),oG 18 39 34 true (.bin .sub (.s 38) (kI 1)),oG 19 40 34 true (.iaddr 6 (.s 37) (.s 39)),oG 20 41 34 true (.faddr 2 (.s 40)),oG 15 36 34 true (.load false 1 (.s 35)),oG 21 42 34 true (.load false 1 (.s 41)),oG 22 43 34 true (.bin .leq (.s 36) (.s 42)),oG 23 44 34 true (.mv (.s 43)),oG 24 45 44 false (.faddr 1 (.s 6)),oG 27 48 44 false (.mv (.s 4)),oG 28 49 44 false (.mv (.s 7)),oG 29 50 44 false (.bin .sub (.s 49) (kI 1)),oG 30 51 44 false (.iaddr 6 (.s 48) (.s 50)),oG 31 52 44 false (.faddr 2 (.s 51)),oG 25 46 44 false (.load false 1 (.s 45)),oG 26 47 44 false (.bin .sub (.s 46) (kI 1)),oG 32 53 44 false (.load false 1 (.s 52)),oG 33 54 44 false (.bin .eql (.s 47) (.s 53)),oG 34 55 34 true (.pick (.s 44) (kB true) (.s 54)),o1 35 56 (.pick (.s 34) (.s 55) (kB false))] [56,7,6,15,14,13,4])
  (.cond (.s 56) (rG 0 [mS 0 57 4,mS 1 58 7,bI 2 59 .sub 58 1,mS 3 60 4,mS 4 61 7,bI 5 62 .sub 61 1,iA 6 63 6 60 62,lT 7 64 6 63,lT 8 65 6 6,cA 9 66 216 [(.s 64),(.s 65)],iA 10 67 6 57 59,o0 11 (.store 6 (.s 67) (.s 66))] [15,14,13,4])
  (rG 1 [mS 0 68 4,lT 1 69 6 6,o1 2 70 (.lit 0 6 [[(I 0),(I 0),(I 0),(I 0),(I 0),(I 0)]] [(0,(.s 69))]),o1 3 71 (.append 6 48 (.s 68) (.s 70)),mS 4 4 71] [15,14,13,4]))))))
  (rG 0 [bI 0 72 .add 15 1,mS 1 15 72] [15,14,13,4]))))
abbrev f_motion_Join : Nat := 131
def c_motion_Join : CFn := { frz := true,rnd := none,nargs := 1,ntmps := 74,res := [(.slot 2)],code :=
  (sQ (rG 1 [o1 0 2 (.newsl 0 6)] [0])
  (sQ (rG 0 [mS 0 8 0,cA 1 9 74 [(.s 8)],⟨2,(some 10),none,.call ⟨false⟩ (.k (.c (.fn 210 [] []))) [(.s 9),(.k (.c (.fn 211 [] [])))]⟩,mS 3 3 10] [3])
  (sQ (rG 0 [mS 0 11 3,⟨1,(some 12),none,.call ⟨false⟩ (.k (.c (.fn 212 [] []))) [(.s 11),(.k (.c (.fn 213 [] [])))]⟩] [3])
  (sQ (rG 1 [o1 0 4 (.newsl 0 6)] [3,4])
  (sQ (sQ (rG 0 [mS 0 13 3,lN 1 14 13,mI 2 15 0] [15,14,13,4])
  (.block 0 (.loop (some [15,14,13,4]) c_motion_Join_l1)))
  (sQ (rG 0 [mS 0 73 4,mS 1 2 73] [2])
  .ret)))))) }
def c_roads_Starts : CFn := { frz := true,rnd := none,nargs := 2,ntmps := 9,res := [(.slot 4)],code :=
  (sQ (rG 2 [o1 0 2 (.box 0 5 (.s 0)),o1 1 4 (.newsl 1 1)] [2,1])
  (sQ (rG 0 [lT 0 5 5 2,mS 1 6 1,cA 2 7 220 [(.s 5),(.s 6)],o1 3 8 (.field false 6 1 (.s 7)),mS 4 4 8] [4])
  .ret)) }
def c_slices_IndexFunc_Blob_l1 : CC := (sQ (rG 0 [bS 0 9 .lss 8 7] [9,0,1,7,8])
  (sQ (.cond (.s 9) .skip
  (.exit 0))
  (sQ (.block 1 (sQ (rG 0 [mS 0 10 8,mS 1 5 10] [0,1,7,8,5])
  (sQ (rG 0 [mS 0 11 1,mS 1 12 0,mS 2 13 5,iA 3 14 6 12 13,lT 4 15 6 14,⟨5,(some 16),none,.call ⟨true⟩ (.s 11) [(.s 15)]⟩] [16,0,1,7,8,5])
  (.cond (.s 16) (sQ (rG 0 [mS 0 17 5,mS 1 4 17] [4])
  .ret)
  .skip))))
  (rG 0 [bI 0 18 .add 8 1,mS 1 8 18] [7,1,0,8]))))
abbrev f_slices_IndexFunc_Blob : Nat := 142
def c_slices_IndexFunc_Blob : CFn := { frz := true,rnd := none,nargs := 2,ntmps := 19,res := [(.slot 4)],code :=
  (sQ (rG 0 [mI 0 4 0] [1,0])
  (sQ (sQ (rG 0 [mS 0 6 0,lN 1 7 6,mI 2 8 0] [7,1,0,8])
  (.block 0 (.loop (some [7,1,0,8]) c_slices_IndexFunc_Blob_l1)))
  (sQ (rG 0 [mI 0 4 (-1)] [4])
  .ret))) }
abbrev f_roads_check_numbers : Nat := 146
def c_roads_check_numbers : CFn := { frz := true,rnd := none,nargs := 1,ntmps := 42,res := [(.slot 2)],code :=
  (sQ (rG 1 [o1 0 1 (.box 0 5 (.s 0)),mI 1 2 0] [1])
  (sQ (.block 0 (sQ (rG 0 [fA 0 4 0 1,fA 1 5 0 4,lF 2 6 5,cA 3 7 223 [(.s 6),(kI 0),(kI 1099511627776)],o1 4 8 (.un .not (.s 7)),mS 5 3 8] [3,1])
  (.cond (.s 3) (sQ (rG 0 [mI 0 2 2] [2])
  .ret)
  (sQ (rG 0 [fA 0 10 0 1,fA 1 11 1 10,lF 2 12 11,lN 3 13 12,bI 4 14 .eql 13 0,mS 5 9 14] [9,1])
  (.cond (.s 9) (sQ (rG 0 [mI 0 2 6] [2])
  .ret)
  (sQ (rG 0 [fA 0 16 0 1,fA 1 17 1 16,lF 2 18 17,lN 3 19 18,bI 4 20 .gtr 19 12,mS 5 21 20,oG 6 22 21 false (.faddr 0 (.s 1)),oG 7 23 21 false (.faddr 2 (.s 22)),oG 8 24 21 false (.load false 1 (.s 23)),oG 9 25 21 false (.len (.s 24)),oG 10 26 21 false (.bin .gtr (.s 25) (kI 12)),o1 11 27 (.pick (.s 21) (kB true) (.s 26)),mS 12 28 27,oG 13 29 28 false (.faddr 0 (.s 1)),oG 14 30 28 false (.faddr 3 (.s 29)),oG 15 31 28 false (.load false 1 (.s 30)),oG 16 32 28 false (.len (.s 31)),oG 17 33 28 false (.bin .gtr (.s 32) (kI 4)),o1 18 34 (.pick (.s 28) (kB true) (.s 33)),mS 19 35 34,oG 20 36 35 false (.faddr 0 (.s 1)),oG 21 37 35 false (.faddr 4 (.s 36)),oG 22 38 35 false (.load false 1 (.s 37)),oG 23 39 35 false (.len (.s 38)),oG 24 40 35 false (.bin .gtr (.s 39) (kI 8)),o1 25 41 (.pick (.s 35) (kB true) (.s 40)),mS 26 15 41] [15])
  (.cond (.s 15) (sQ (rG 0 [mI 0 2 8] [2])
  .ret)
  .skip)))))))
  (sQ (rG 0 [mI 0 2 0] [2])
  .ret))) }
def c_roads_check_lanes_l1 : CC := (sQ (rG 0 [bS 0 14 .lss 13 12] [14,1,11,12,13])
  (sQ (.cond (.s 14) .skip
  (.exit 0))
  (sQ (.block 1 (sQ (rG 1 [mS 0 15 13,iA 1 16 5 11 13,lT 2 17 5 16,o1 3 4 (.box 0 5 (.k (.a [(I 0),.nilslice,(I 0),(I 0),.nilslice]))),mS 4 3 15,o0 5 (.store 5 (.s 4) (.s 17))] [4,3,1,11,12,13])
  (sQ (rG 0 [fA 0 19 0 4,lF 1 20 19,cA 2 21 130 [(.s 20)],mS 3 18 21,eX 4 22 18 0,eX 5 23 18 1,eX 6 24 18 2,mS 7 5 22,mS 8 6 23,mS 9 7 24] [5,4,3,1,11,12,13])
  (sQ (sQ (rG 0 [mS 0 25 5,bI 1 26 .eql 25 0] [26,5,4,3,1,11,12,13])
  (.cond (.s 26) (sQ (rG 0 [mI 0 2 4] [2])
  .ret)
  .skip))
  (sQ (sQ (rG 0 [fA 0 27 1 4,lT 1 28 1 27,cA 2 29 224 [(.s 28)],mS 3 8 29] [13,12,11,1,3,4,5,8])
  (sQ (rG 0 [mS 0 30 8,bI 1 31 .neq 30 0] [31,13,12,11,1,3,4,5,8])
  (.cond (.s 31) (sQ (rG 0 [mS 0 32 8,mS 1 2 32] [2])
  .ret)
  .skip)))
  (.block 2 (sQ (rG 0 [fA 0 34 2 4,lF 1 35 34,cA 2 36 223 [(.s 35),(kI 200),(kI 4000)],o1 3 37 (.un .not (.s 36)),mS 4 38 37,oG 5 39 38 false (.faddr 3 (.s 4)),oG 6 40 38 false (.load false 1 (.s 39)),oG 7 41 38 false (.mv (.s 5)),⟨8,(some 42),(some (38,false)),.call ⟨true⟩ (.k (.c (.fn 223 [] []))) [(.s 40),(kI 1),(.s 41)]⟩,oG 9 43 38 false (.un .not (.s 42)),o1 10 44 (.pick (.s 38) (kB true) (.s 43)),mS 11 33 44] [33,4,3,1,11,12,13])
  (.cond (.s 33) (sQ (rG 0 [mI 0 2 2] [2])
  .ret)
  (sQ (rG 0 [fA 0 46 4 4,lF 1 47 46,lN 2 48 47,bI 3 49 .gtr 48 3,mS 4 45 49] [45,13,12,11,1,3,4])
  (.cond (.s 45) (sQ (rG 0 [mI 0 2 8] [2])
  .ret)
  (sQ (rG 0 [fA 0 51 4 4,lF 1 52 51,mS 2 53 3,bI 3 54 .add 53 1,fA 4 55 0 1,fA 5 56 1 55,lF 6 57 56,lN 7 58 57,cA 8 59 225 [(.s 52),(.s 54),(.s 58)],o1 9 60 (.un .not (.s 59)),mS 10 50 60] [50,1,11,12,13])
  (.cond (.s 50) (sQ (rG 0 [mI 0 2 11] [2])
  .ret)
  .skip))))))))))))
  (rG 0 [bI 0 61 .add 13 1,mS 1 13 61] [12,11,1,13]))))
abbrev f_roads_check_lanes : Nat := 147
def c_roads_check_lanes : CFn := { frz := true,rnd := none,nargs := 1,ntmps := 62,res := [(.slot 2)],code :=
  (sQ (rG 1 [o1 0 1 (.box 0 5 (.s 0)),mI 1 2 0] [1])
  (sQ (sQ (rG 0 [fA 0 9 0 1,fA 1 10 1 9,lF 2 11 10,lN 3 12 11,mI 4 13 0] [12,11,1,13])
  (.block 0 (.loop (some [12,11,1,13]) c_roads_check_lanes_l1)))
  (sQ (rG 0 [mI 0 2 0] [2])
  .ret))) }
def c_roads_check_joints_l1 : CC := (sQ (rG 0 [bS 0 30 .lss 29 28] [30,29,28,10,11,12,27,4,5,1])
  (sQ (.cond (.s 30) .skip
  (.exit 2))
  (sQ (.block 3 (sQ (rG 0 [iA 0 31 1 27 29,lF 1 32 31,mS 2 7 32] [29,28,10,11,12,27,4,5,1,7])
  (sQ (sQ (rG 0 [fA 0 33 0 1,fA 1 34 1 33,mS 3 36 7,fA 7 40 0 4,lF 2 35 34,iA 4 37 5 35 36,fA 5 38 0 37,lF 6 39 38,lF 8 41 40,bS 9 42 .neq 39 41] [42,29,28,10,11,12,27,4,5,1,7])
  (.cond (.s 42) (sQ (rG 0 [mI 0 2 4] [2])
  .ret)
  .skip))
  (sQ (rG 0 [fA 0 43 0 1,fA 1 44 1 43,mS 3 46 7,lF 2 45 44,iA 4 47 5 45 46,fA 5 48 1 47,fA 6 49 0 48,lF 7 50 49,o1 8 51 (.iaddr 2 (.s 50) (kI 0)),lT 9 52 2 51,lT 10 53 2 5,o1 11 54 (.eqa true [false,false] (.s 52) (.s 53))] [54,1,5,4,27,12,11,10,28,29])
  (.cond (.s 54) (sQ (rG 0 [mI 0 2 3] [2])
  .ret)
  .skip)))))
  (rG 0 [bI 0 55 .add 29 1,mS 1 29 55] [29,28,10,11,12,27,4,5,1]))))
def c_roads_check_joints_l2 : CC := (sQ (rG 0 [bS 0 13 .lss 12 11] [13,10,11,12,1])
  (sQ (.cond (.s 13) .skip
  (.exit 0))
  (sQ (.block 1 (sQ (rG 1 [iA 0 14 5 10 12,lT 1 15 5 14,o1 2 4 (.box 0 5 (.k (.a [(I 0),.nilslice,(I 0),(I 0),.nilslice]))),o0 3 (.store 5 (.s 4) (.s 15))] [10,11,12,4,1])
  (sQ (rG 1 [fA 0 16 1 4,fA 1 17 0 16,lF 2 18 17,fA 3 19 1 4,fA 4 20 0 19,lF 5 21 20,lN 6 22 21,bI 7 23 .sub 22 1,iA 8 24 2 18 23,lT 9 25 2 24,o1 10 5 (.box 0 2 (.k (.a [(I 0),(I 0)]))),o0 11 (.store 2 (.s 5) (.s 25))] [10,11,12,4,5,1])
  (sQ (rG 0 [fA 0 26 4 4,lF 1 27 26,lN 2 28 27,mI 3 29 0] [29,28,10,11,12,27,4,5,1])
  (.block 2 (.loop (some [29,28,10,11,12,27,4,5,1]) c_roads_check_joints_l1))))))
  (rG 0 [bI 0 56 .add 12 1,mS 1 12 56] [11,10,12,1]))))
abbrev f_roads_check_joints : Nat := 148
def c_roads_check_joints : CFn := { frz := true,rnd := none,nargs := 1,ntmps := 57,res := [(.slot 2)],code :=
  (sQ (rG 1 [o1 0 1 (.box 0 5 (.s 0)),mI 1 2 0] [1])
  (sQ (sQ (rG 0 [fA 0 8 0 1,fA 1 9 1 8,lF 2 10 9,lN 3 11 10,mI 4 12 0] [11,10,12,1])
  (.block 0 (.loop (some [11,10,12,1]) c_roads_check_joints_l2)))
  (sQ (rG 0 [mI 0 2 0] [2])
  .ret))) }
def c_roads_check_signals_l1 : CC := (sQ (rG 0 [bS 0 11 .lss 10 9] [11,1,8,9,10])
  (sQ (.cond (.s 11) .skip
  (.exit 0))
  (sQ (.block 1 (sQ (rG 1 [iA 0 12 2 8 10,lT 1 13 2 12,o1 2 4 (.box 0 2 (.k (.a [(I 0),.nilslice]))),o0 3 (.store 2 (.s 4) (.s 13))] [4,1,8,9,10])
  (sQ (rG 0 [fA 0 14 1 4,lF 1 15 14,lN 2 16 15,mS 3 5 16] [4,1,8,9,10,5])
  (.block 2 (sQ (rG 0 [mS 0 18 5,bI 1 19 .eql 18 0,mS 2 17 19] [17,4,1,8,9,10,5])
  (.cond (.s 17) (sQ (rG 0 [mI 0 2 6] [2])
  .ret)
  (sQ (rG 0 [mS 0 21 5,bI 1 22 .gtr 21 6,mS 2 20 22] [20,10,9,8,1,4])
  (.cond (.s 20) (sQ (rG 0 [mI 0 2 8] [2])
  .ret)
  (sQ (rG 0 [fA 0 24 0 4,lF 1 25 24,cA 2 26 223 [(.s 25),(kI 0),(kI 1099511627776)],o1 3 27 (.un .not (.s 26)),mS 4 23 27] [23,4,1,8,9,10])
  (.cond (.s 23) (sQ (rG 0 [mI 0 2 2] [2])
  .ret)
  (sQ (rG 0 [fA 0 29 1 4,lF 1 30 29,⟨2,(some 31),none,.call ⟨true⟩ (.k (.c (.fn 226 [] []))) [(.s 30),(.k (.c (.fn 227 [] [])))]⟩,mS 3 28 31] [28,10,9,8,1,4])
  (.cond (.s 28) (sQ (rG 0 [mI 0 2 2] [2])
  .ret)
  (sQ (rG 0 [fA 0 33 1 4,lF 1 34 33,o1 2 35 (.mkfn 228 [] [(.s 1)]),cA 3 36 226 [(.s 34),(.s 35)],mS 4 32 36] [32,1,8,9,10])
  (.cond (.s 32) (sQ (rG 0 [mI 0 2 11] [2])
  .ret)
  .skip))))))))))))))
  (rG 0 [bI 0 37 .add 10 1,mS 1 10 37] [9,8,1,10]))))
abbrev f_roads_check_signals : Nat := 149
def c_roads_check_signals : CFn := { frz := true,rnd := none,nargs := 1,ntmps := 38,res := [(.slot 2)],code :=
  (sQ (rG 1 [o1 0 1 (.box 0 5 (.s 0)),mI 1 2 0] [1])
  (sQ (sQ (rG 0 [fA 0 6 0 1,fA 1 7 3 6,lF 2 8 7,lN 3 9 8,mI 4 10 0] [9,8,1,10])
  (.block 0 (.loop (some [9,8,1,10]) c_roads_check_signals_l1)))
  (sQ (rG 0 [mI 0 2 0] [2])
  .ret))) }
def c_roads_check_zones_l1 : CC := (sQ (rG 0 [bS 0 45 .lss 44 43] [45,6,44,43,4,13,14,15,1,42])
  (sQ (.cond (.s 45) .skip
  (.exit 3))
  (sQ (.block 4 (sQ (rG 1 [iA 0 46 4 42 44,lT 1 47 4 46,o1 2 8 (.box 0 4 (.k (.a [(I 0),(I 0),(I 0),(I 0)]))),o0 3 (.store 4 (.s 8) (.s 47))] [6,8,44,43,4,13,14,15,1,42])
  (rG 1 [mS 0 48 6,fA 1 49 0 8,lF 2 50 49,o1 3 51 (.lit 0 1 [[(I 0)]] [(0,(.s 50))]),o1 4 52 (.append 1 8 (.s 48) (.s 51)),mS 5 6 52] [44,6,43,4,13,14,15,1,42])))
  (rG 0 [bI 0 53 .add 44 1,mS 1 44 53] [6,44,43,4,13,14,15,1,42]))))
def c_roads_check_zones_l2 : CC := (sQ (rG 0 [bS 0 65 .lss 64 63] [65,1,62,15,14,13,63,64])
  (sQ (.cond (.s 65) .skip
  (.exit 5))
  (sQ (.block 6 (sQ (rG 1 [iA 0 66 4 62 64,lT 1 67 4 66,o1 2 10 (.box 0 4 (.k (.a [(I 0),(I 0),(I 0),(I 0)]))),o0 3 (.store 4 (.s 10) (.s 67))] [10,1,62,15,14,13,63,64])
  (sQ (.region 0 [fA 0 68 1 10,lF 1 69 68,bI 2 70 .lss 69 0,mS 3 71 70,oG 4 72 71 false (.faddr 1 (.s 10)),oG 6 74 71 false (.faddr 2 (.s 10)),oG 5 73 71 false (.load false 1 (.s 72)),oG 7 75 71 false (.load false 1 (.s 74)),oG 8 76 71 false (.bin .geq (.s 73) (.s 75)),o1 9 77 (.pick (.s 71) (kB true) (.s 76)),mS 10 78 77,oG 11 79 78 false (.faddr 2 (.s 10)),oG 13 81 78 false (.faddr 0 (.s 1)),oG 15 83 78 false (.faddr 0 (.s 10)),oG 12 80 78 false (.load false 1 (.s 79)),oG 14 82 78 false (.load true 5 (.s 81)),oG 16 84 78 false (.load false 1 (.s 83)),⟨17,(some 85),(some (78,false)),.call ⟨true⟩ (.k (.c (.fn 209 [] []))) [(.s 82),(.s 84)]⟩,oG 18 86 78 false (.bin .gtr (.s 80) (.s 85)),o1 19 87 (.pick (.s 78) (kB true) (.s 86)),mS 20 88 87,oG 21 89 88 false (.faddr 3 (.s 10)),oG 22 90 88 false (.load false 1 (.s 89)),oG 23 91 88 false (.bin .lss (.s 90) (kI 0)),o1 24 92 (.pick (.s 88) (kB true) (.s 91)),mS 25 93 92,oG 26 94 93 false (.faddr 3 (.s 10)),oG 27 95 93 false (.load false 1 (.s 94)),oG 28 96 93 false (.bin .gtr (.s 95) (kI 100)),o1 29 97 (.pick (.s 93) (kB true) (.s 96))] [(14,17)] (some [97,1,62,15,14,13,63,64]))
  (.cond (.s 97) (sQ (rG 0 [mI 0 2 2] [2])
  .ret)
  .skip))))
  (rG 0 [bI 0 98 .add 64 1,mS 1 64 98] [63,13,14,15,62,1,64]))))
def c_roads_check_zones_l3 : CC := (sQ (rG 0 [bS 0 16 .lss 15 14] [16,1,15,14,13])
  (sQ (.cond (.s 16) .skip
  (.exit 0))
  (sQ (.block 1 (sQ (rG 1 [iA 0 17 2 13 15,lT 1 18 2 17,o1 2 4 (.box 0 2 (.k (.a [.nilslice,(I 0)]))),o0 3 (.store 2 (.s 4) (.s 18))] [1,15,14,13,4])
  (sQ (sQ (rG 0 [fA 0 19 0 4,lF 1 20 19,lN 2 21 20,mS 3 5 21] [1,15,14,13,4,5])
  (.block 2 (sQ (rG 0 [mS 0 23 5,bI 1 24 .lss 23 2,mS 2 22 24] [22,1,15,14,13,4,5])
  (.cond (.s 22) (sQ (rG 0 [mI 0 2 6] [2])
  .ret)
  (sQ (rG 0 [mS 0 26 5,bI 1 27 .gtr 26 6,mS 2 25 27] [25,4,13,14,15,1])
  (.cond (.s 25) (sQ (rG 0 [mI 0 2 8] [2])
  .ret)
  (sQ (rG 0 [fA 0 29 1 4,lF 1 30 29,bI 2 31 .lss 30 0,mS 3 32 31,oG 4 33 32 false (.faddr 1 (.s 4)),oG 5 34 32 false (.load false 1 (.s 33)),oG 6 35 32 false (.faddr 0 (.s 1)),oG 7 36 32 false (.faddr 3 (.s 35)),oG 8 37 32 false (.load false 1 (.s 36)),oG 9 38 32 false (.len (.s 37)),oG 10 39 32 false (.bin .gtr (.s 34) (.s 38)),o1 11 40 (.pick (.s 32) (kB true) (.s 39)),mS 12 28 40] [28,1,15,14,13,4])
  (.cond (.s 28) (sQ (rG 0 [mI 0 2 2] [2])
  .ret)
  .skip))))))))
  (sQ (rG 1 [o1 0 6 (.newsl 0 1)] [6,4,13,14,15,1])
  (sQ (sQ (rG 0 [fA 0 41 0 4,lF 1 42 41,lN 2 43 42,mI 3 44 0] [6,44,43,4,13,14,15,1,42])
  (.block 3 (.loop (some [6,44,43,4,13,14,15,1,42]) c_roads_check_zones_l1)))
  (sQ (sQ (rG 0 [mS 0 54 6,fA 1 55 0 1,fA 2 56 1 55,lF 3 57 56,lN 4 58 57,cA 5 59 225 [(.s 54),(kI 0),(.s 58)],o1 6 60 (.un .not (.s 59))] [60,1,15,14,13,4])
  (.cond (.s 60) (sQ (rG 0 [mI 0 2 11] [2])
  .ret)
  .skip))
  (sQ (rG 0 [fA 0 61 0 4,lF 1 62 61,lN 2 63 62,mI 3 64 0] [63,13,14,15,62,1,64])
  (.block 5 (.loop (some [63,13,14,15,62,1,64]) c_roads_check_zones_l2)))))))))
  (rG 0 [bI 0 99 .add 15 1,mS 1 15 99] [1,15,14,13]))))
abbrev f_roads_check_zones : Nat := 150
def c_roads_check_zones : CFn := { frz := true,rnd := none,nargs := 1,ntmps := 100,res := [(.slot 2)],code :=
  (sQ (rG 1 [o1 0 1 (.box 0 5 (.s 0)),mI 1 2 0] [1])
  (sQ (sQ (rG 0 [fA 0 11 0 1,fA 1 12 2 11,lF 2 13 12,lN 3 14 13,mI 4 15 0] [1,15,14,13])
  (.block 0 (.loop (some [1,15,14,13]) c_roads_check_zones_l3)))
  (sQ (rG 0 [mI 0 2 0] [2])
  .ret))) }
def c_roads_check_works_l1 : CC := (sQ (rG 0 [bS 0 13 .lss 12 11] [13,12,11,10,1])
  (sQ (.cond (.s 13) .skip
  (.exit 0))
  (sQ (.block 1 (sQ (rG 1 [iA 0 14 6 10 12,lT 1 15 6 14,o1 2 4 (.box 0 6 (.k (.a [(I 0),(I 0),(I 0),(I 0),(I 0),(I 0)]))),o0 3 (.store 6 (.s 4) (.s 15))] [12,11,10,1,4])
  (sQ (sQ (rG 0 [fA 0 16 0 4,lF 1 17 16,bI 2 18 .lss 17 0,mS 3 19 18,oG 4 20 19 false (.faddr 0 (.s 4)),oG 5 21 19 false (.load false 1 (.s 20)),oG 6 22 19 false (.faddr 0 (.s 1)),oG 7 23 19 false (.faddr 1 (.s 22)),oG 8 24 19 false (.load false 1 (.s 23)),oG 9 25 19 false (.len (.s 24)),oG 10 26 19 false (.bin .geq (.s 21) (.s 25)),o1 11 27 (.pick (.s 19) (kB true) (.s 26))] [27,12,11,10,1,4])
  (.cond (.s 27) (sQ (rG 0 [mI 0 2 7] [2])
  .ret)
  .skip))
  (sQ (rG 0 [fA 0 29 0 1,fA 1 30 1 29,lF 2 31 30,fA 3 32 0 4,lF 4 33 32,iA 5 34 5 31 33,fA 6 35 0 34,lF 7 36 35,cA 8 37 130 [(.s 36)],mS 9 28 37,eX 10 38 28 0,eX 11 39 28 1,eX 12 40 28 2,mS 13 5 38,mS 14 6 39,mS 15 7 40] [4,5,1,10,11,12])
  (sQ (.region 0 [fA 0 41 1 4,lF 1 42 41,bI 2 43 .lss 42 0,mS 3 44 43,oG 4 45 44 false (.faddr 1 (.s 4)),oG 6 47 44 false (.faddr 2 (.s 4)),oG 5 46 44 false (.load false 1 (.s 45)),oG 7 48 44 false (.load false 1 (.s 47)),oG 8 49 44 false (.bin .gtr (.s 46) (.s 48)),o1 9 50 (.pick (.s 44) (kB true) (.s 49)),mS 10 51 50,oG 11 52 51 false (.faddr 2 (.s 4)),oG 13 54 51 false (.faddr 0 (.s 1)),oG 15 56 51 false (.faddr 0 (.s 4)),oG 12 53 51 false (.load false 1 (.s 52)),oG 14 55 51 false (.load true 5 (.s 54)),oG 16 57 51 false (.load false 1 (.s 56)),⟨17,(some 58),(some (51,false)),.call ⟨true⟩ (.k (.c (.fn 209 [] []))) [(.s 55),(.s 57)]⟩,oG 18 59 51 false (.bin .gtr (.s 53) (.s 58)),o1 19 60 (.pick (.s 51) (kB true) (.s 59)),mS 20 61 60,oG 21 62 61 false (.faddr 3 (.s 4)),oG 22 63 61 false (.load false 1 (.s 62)),oG 23 64 61 false (.bin .lss (.s 63) (kI 0)),o1 24 65 (.pick (.s 61) (kB true) (.s 64)),mS 25 66 65,oG 26 67 66 false (.faddr 3 (.s 4)),oG 28 69 66 false (.faddr 4 (.s 4)),oG 27 68 66 false (.load false 1 (.s 67)),oG 29 70 66 false (.load false 1 (.s 69)),oG 30 71 66 false (.bin .geq (.s 68) (.s 70)),o1 31 72 (.pick (.s 66) (kB true) (.s 71)),mS 32 73 72,oG 33 74 73 false (.faddr 4 (.s 4)),oG 34 75 73 false (.load false 1 (.s 74)),oG 35 76 73 false (.bin .gtr (.s 75) (kI 1099511627776)),o1 36 77 (.pick (.s 73) (kB true) (.s 76)),mS 37 78 77,oG 38 79 78 false (.faddr 5 (.s 4)),oG 40 81 78 false (.mv (.s 5)),oG 39 80 78 false (.load false 1 (.s 79)),⟨41,(some 82),(some (78,false)),.call ⟨true⟩ (.k (.c (.fn 223 [] []))) [(.s 80),(kI 0),(.s 81)]⟩,oG 42 83 78 false (.un .not (.s 82)),o1 43 84 (.pick (.s 78) (kB true) (.s 83))] [(14,17)] (some [84,1,10,11,12]))
  (.cond (.s 84) (sQ (rG 0 [mI 0 2 2] [2])
  .ret)
  .skip))))))
  (rG 0 [bI 0 85 .add 12 1,mS 1 12 85] [12,11,10,1]))))
abbrev f_roads_check_works : Nat := 151
def c_roads_check_works : CFn := { frz := true,rnd := none,nargs := 1,ntmps := 86,res := [(.slot 2)],code :=
  (sQ (rG 1 [o1 0 1 (.box 0 5 (.s 0)),mI 1 2 0] [1])
  (sQ (sQ (rG 0 [fA 0 8 0 1,fA 1 9 4 8,lF 2 10 9,lN 3 11 10,mI 4 12 0] [12,11,10,1])
  (.block 0 (.loop (some [12,11,10,1]) c_roads_check_works_l1)))
  (sQ (rG 0 [mI 0 2 0] [2])
  .ret))) }
abbrev f_curve_Near : Nat := 152
def c_curve_Near : CFn := { frz := true,rnd := none,nargs := 3,ntmps := 86,res := [(.slot 6)],code :=
  (sQ (rG 4 [o1 0 3 (.box 0 1 (.s 0)),o1 1 4 (.box 1 2 (.s 1)),o1 2 5 (.box 2 1 (.s 2)),o1 3 6 (.newsl 3 1)] [4,5,6,3])
  (sQ (sQ (rG 1 [lT 0 12 1 3,cA 1 13 224 [(.s 12)],bI 2 14 .neq 13 0,mS 3 15 14,oG 4 16 15 false (.load true 2 (.s 4)),oG 5 17 15 false (.lit 0 2 [[(I 0),(I 0)]] [(0,(.s 16))]),⟨6,(some 18),(some (15,false)),.call ⟨true⟩ (.k (.c (.fn 229 [] []))) [(.s 17)]⟩,oG 7 19 15 false (.un .not (.s 18)),o1 8 20 (.pick (.s 15) (kB true) (.s 19)),mS 9 21 20,oG 10 22 21 false (.load false 1 (.s 5)),oG 11 23 21 false (.bin .lss (.s 22) (kI 0)),o1 12 24 (.pick (.s 21) (kB true) (.s 23)),mS 13 25 24,oG 14 26 25 false (.load false 1 (.s 5)),oG 15 27 25 false (.bin .gtr (.s 26) (kI 16777216)),o1 16 28 (.pick (.s 25) (kB true) (.s 27))] [28,4,5,6,3])
  (.cond (.s 28) (sQ (rG 1 [o1 0 6 (.newsl 0 1)] [6])
  .ret)
  .skip))
  (sQ (rG 1 [o1 0 7 (.box 0 1 (.k (.a [.nilslice])))] [3,6,5,4,7])
  (sQ (sQ (rG 0 [lT 0 29 1 3,cA 1 30 230 [(.s 29)]] [6,30,5,4,7])
  (.block 0 (.rng (.s 30) 2766 [4,5,7])))
  (sQ (rG 0 [lF 0 85 7,mS 1 6 85] [6])
  .ret))))) }
abbrev f_curve_Near_r1 : Nat := 2766
def c_curve_Near_r1 : CFn := { frz := false,rnd := (some ([31,32],(rG 1 [o1 0 9 (.box 0 6 (.k (.a [(I 0),(I 0),(I 0),(I 0),(I 0),(I 0)]))),o0 1 (.store 6 (.s 9) (.s 32))] [4,5,7,9]))),nargs := 3,ntmps := 86,res := [],code :=
  (.block 1 (sQ (rG 1 [fA 0 33 0 9,lT 1 34 2 33,lT 2 35 2 4,cA 3 36 231 [(.s 34),(.s 35)],o1 4 10 (.box 0 2 (.k (.a [(I 0),(I 0)]))),o0 5 (.store 2 (.s 10) (.s 36))] [10,5,7,9])
  (sQ (rG 0 [fA 0 37 2 9,lT 1 38 2 37,lT 2 39 2 10,cA 3 40 232 [(.s 38),(.s 39)],mS 4 11 40] [10,5,7,9,11])
  (sQ (sQ (.region 0 [fA 0 41 2 9,fA 6 47 4 9,lT 1 42 2 41,lT 2 43 2 10,lF 5 46 5,lF 7 48 47,bS 8 49 .mul 46 48,cA 3 44 234 [(.s 42),(.s 43)],cA 4 45 233 [(.s 44)],bS 9 50 .gtr 45 49,mS 10 51 50,oG 11 52 51 false (.mv (.s 11)),oG 14 55 51 false (.faddr 4 (.s 9)),oG 12 53 51 false (.load false 1 (.s 5)),oG 13 54 51 false (.un .neg (.s 53)),oG 15 56 51 false (.load false 1 (.s 55)),oG 16 57 51 false (.bin .mul (.s 54) (.s 56)),oG 17 58 51 false (.bin .lss (.s 52) (.s 57)),o1 18 59 (.pick (.s 51) (kB true) (.s 58)),mS 19 60 59,oG 20 61 60 false (.mv (.s 11)),oG 21 62 60 false (.faddr 4 (.s 9)),oG 25 66 60 false (.faddr 4 (.s 9)),oG 22 63 60 false (.load false 1 (.s 62)),oG 23 64 60 false (.load false 1 (.s 5)),oG 24 65 60 false (.bin .add (.s 63) (.s 64)),oG 26 67 60 false (.load false 1 (.s 66)),oG 27 68 60 false (.bin .mul (.s 65) (.s 67)),oG 28 69 60 false (.bin .gtr (.s 61) (.s 68)),o1 29 70 (.pick (.s 60) (kB true) (.s 69))] [(4,7),(4,8),(5,7),(5,8)] (some [70,7,9,11]))
  (.cond (.s 70) (.exit 1)
  .skip))
  (.region 1 [fA 1 72 5 9,mS 3 74 11,fA 4 75 4 9,fA 7 78 4 9,lF 0 71 7,lF 2 73 72,lF 5 76 75,lF 8 79 78,cA 6 77 235 [(.s 74),(.s 76)],o1 9 80 (.minmax false [(.s 77),(.s 79)]),o1 10 81 (.minmax true [(kI 0),(.s 80)]),bS 11 82 .add 73 81,o1 12 83 (.lit 0 1 [[(I 0)]] [(0,(.s 82))]),o1 13 84 (.append 1 8 (.s 71) (.s 83)),o0 14 (.store 1 (.s 7) (.s 84))] [(4,8),(4,12),(5,8),(7,8)] (some [])))))) }
abbrev f_cmp_isNaN_int64 : Nat := 155
def c_cmp_isNaN_int64 : CFn := { frz := true,rnd := none,nargs := 1,ntmps := 6,res := [(.slot 2)],code :=
  (sQ (rG 0 [mB 0 2 false] [0])
  (sQ (rG 0 [mS 0 3 0,mS 1 4 0,bS 2 5 .neq 3 4,mS 3 2 5] [2])
  .ret)) }
abbrev f_kerbstoneref03_within : Nat := 156
def c_kerbstoneref03_within : CFn := { frz := true,rnd := none,nargs := 3,ntmps := 15,res := [(.slot 6)],code :=
  (sQ (rG 0 [mB 0 6 false] [1,0,2])
  (sQ (rG 0 [mS 0 7 0,mS 1 8 1,bS 2 9 .geq 7 8,mS 3 10 9,oG 4 11 10 true (.mv (.s 0)),oG 5 12 10 true (.mv (.s 2)),oG 6 13 10 true (.bin .leq (.s 11) (.s 12)),o1 7 14 (.pick (.s 10) (.s 13) (kB false)),mS 8 6 14] [6])
  .ret)) }
abbrev f_kerbstoneref03_checkLane : Nat := 157
def c_kerbstoneref03_checkLane : CFn := { frz := true,rnd := none,nargs := 2,ntmps := 60,res := [(.slot 4)],code :=
  (sQ (rG 1 [o1 0 2 (.box 0 5 (.s 0)),mI 1 4 0] [1,2])
  (sQ (rG 1 [fA 0 10 1 2,lF 1 11 10,mS 2 12 1,iA 3 13 5 11 12,lT 4 14 5 13,o1 5 5 (.box 0 5 (.k (.a [(I 0),.nilslice,(I 0),(I 0),.nilslice]))),o0 6 (.store 5 (.s 5) (.s 14))] [5,1,2])
  (sQ (sQ (rG 0 [fA 0 15 0 5,lF 1 16 15,bI 2 17 .lss 16 1,mS 3 18 17,oG 4 19 18 false (.faddr 0 (.s 5)),oG 5 20 18 false (.load false 1 (.s 19)),oG 6 21 18 false (.bin .gtr (.s 20) (kI 3)),o1 7 22 (.pick (.s 18) (kB true) (.s 21))] [22,5,1,2])
  (.cond (.s 22) (sQ (rG 0 [mI 0 4 4] [4])
  .ret)
  .skip))
  (sQ (rG 0 [fA 0 23 1 5,lT 1 24 1 23,cA 2 25 246 [(.s 24)],mS 3 6 25] [2,1,5,6])
  (sQ (sQ (rG 0 [mS 0 26 6,bI 1 27 .neq 26 0] [27,2,1,5,6])
  (.cond (.s 27) (sQ (rG 0 [mS 0 28 6,mS 1 4 28] [4])
  .ret)
  .skip))
  (sQ (rG 0 [fA 0 30 0 5,lF 1 31 30,cA 2 32 94 [(.s 31)],mS 3 29 32,eX 4 33 29 0,eX 5 34 29 1,eX 6 35 29 2,mS 7 7 33,mS 8 8 34,mS 9 9 35] [7,5,1,2])
  (sQ (sQ (rG 0 [fA 0 36 2 5,lF 1 37 36,cA 2 38 156 [(.s 37),(kI 200),(kI 4000)],o1 3 39 (.un .not (.s 38)),mS 4 40 39,oG 5 41 40 false (.faddr 3 (.s 5)),oG 6 42 40 false (.load false 1 (.s 41)),oG 7 43 40 false (.mv (.s 7)),⟨8,(some 44),(some (40,false)),.call ⟨true⟩ (.k (.c (.fn 156 [] []))) [(.s 42),(kI 1),(.s 43)]⟩,oG 9 45 40 false (.un .not (.s 44)),o1 10 46 (.pick (.s 40) (kB true) (.s 45))] [46,5,1,2])
  (.cond (.s 46) (sQ (rG 0 [mI 0 4 2] [4])
  .ret)
  .skip))
  (sQ (sQ (rG 0 [fA 0 47 4 5,lF 1 48 47,lN 2 49 48,bI 3 50 .gtr 49 3] [50,2,1,5])
  (.cond (.s 50) (sQ (rG 0 [mI 0 4 8] [4])
  .ret)
  .skip))
  (sQ (sQ (rG 0 [fA 0 51 4 5,lF 1 52 51,mS 2 53 1,bI 3 54 .add 53 1,fA 4 55 1 2,lF 5 56 55,lN 6 57 56,cA 7 58 247 [(.s 52),(.s 54),(.s 57)],o1 8 59 (.un .not (.s 58))] [59])
  (.cond (.s 59) (sQ (rG 0 [mI 0 4 11] [4])
  .ret)
  .skip))
  (sQ (rG 0 [mI 0 4 0] [4])
  .ret)))))))))) }
def c_kerbstoneref03_checkNext_l1 : CC := (sQ (sQ (rG 0 [mS 0 19 5,fA 1 20 4 4,lF 2 21 20,lN 3 22 21,bS 4 23 .lss 19 22] [23,5,3,1,4])
  (.cond (.s 23) .skip
  (.exit 2)))
  (sQ (.block 3 (sQ (.region 1 [fA 0 26 1 1,fA 2 28 4 4,mS 4 30 5,lF 1 27 26,lF 3 29 28,iA 5 31 1 29 30,lF 6 32 31,iA 7 33 5 27 32,lT 8 34 5 33,o1 9 6 (.box 0 5 (.k (.a [(I 0),.nilslice,(I 0),(I 0),.nilslice]))),o0 10 (.store 5 (.s 6) (.s 34))] [(3,9),(4,9),(6,9),(8,9)] (some [5,3,1,4,6]))
  (sQ (sQ (rG 0 [fA 0 35 0 6,lF 1 36 35,fA 2 37 0 4,lF 3 38 37,bS 4 39 .neq 36 38] [39,5,3,1,4,6])
  (.cond (.s 39) (sQ (rG 0 [mI 0 2 4] [2])
  .ret)
  .skip))
  (sQ (rG 0 [fA 0 40 1 6,fA 1 41 0 40,fA 5 45 1 4,fA 6 46 0 45,fA 8 48 1 4,fA 9 49 0 48,lF 2 42 41,o1 3 43 (.iaddr 2 (.s 42) (kI 0)),lT 4 44 2 43,lF 7 47 46,lF 10 50 49,lN 11 51 50,bI 12 52 .sub 51 1,iA 13 53 2 47 52,lT 14 54 2 53,o1 15 55 (.eqa true [false,false] (.s 44) (.s 54))] [55,4,1,3,5])
  (.cond (.s 55) (sQ (rG 0 [mI 0 2 3] [2])
  .ret)
  .skip)))))
  (rG 0 [mS 0 24 5,bI 1 25 .add 24 1,mS 2 5 25] [5,3,1,4])))
def c_kerbstoneref03_checkNext_l2 : CC := (sQ (sQ (rG 0 [mS 0 7 3,fA 1 8 1 1,lF 2 9 8,lN 3 10 9,bS 4 11 .lss 7 10] [11,3,1])
  (.cond (.s 11) .skip
  (.exit 0)))
  (sQ (.block 1 (sQ (rG 1 [fA 0 14 1 1,lF 1 15 14,mS 2 16 3,iA 3 17 5 15 16,lT 4 18 5 17,o1 5 4 (.box 0 5 (.k (.a [(I 0),.nilslice,(I 0),(I 0),.nilslice]))),o0 6 (.store 5 (.s 4) (.s 18))] [3,1,4])
  (sQ (rG 0 [mI 0 5 0] [5,3,1,4])
  (.block 2 (.loop (some [5,3,1,4]) c_kerbstoneref03_checkNext_l1)))))
  (rG 0 [mS 0 12 3,bI 1 13 .add 12 1,mS 2 3 13] [3,1])))
abbrev f_kerbstoneref03_checkNext : Nat := 158
def c_kerbstoneref03_checkNext : CFn := { frz := true,rnd := none,nargs := 1,ntmps := 56,res := [(.slot 2)],code :=
  (sQ (rG 1 [o1 0 1 (.box 0 5 (.s 0)),mI 1 2 0] [1])
  (sQ (sQ (rG 0 [mI 0 3 0] [3,1])
  (.block 0 (.loop (some [3,1]) c_kerbstoneref03_checkNext_l2)))
  (sQ (rG 0 [mI 0 2 0] [2])
  .ret))) }
def c_kerbstoneref03_checkSignal_l1 : CC := (sQ (sQ (rG 0 [mS 0 19 6,fA 1 20 1 3,lF 2 21 20,lN 3 22 21,bS 4 23 .lss 19 22] [23,5,6,2,3])
  (.cond (.s 23) .skip
  (.exit 0)))
  (sQ (.block 1 (rG 0 [mS 0 26 5,mS 1 27 26,oG 2 28 27 true (.faddr 1 (.s 3)),oG 3 29 27 true (.load false 1 (.s 28)),oG 4 30 27 true (.mv (.s 6)),oG 5 31 27 true (.iaddr 2 (.s 29) (.s 30)),oG 6 32 27 true (.faddr 0 (.s 31)),oG 7 33 27 true (.load false 1 (.s 32)),⟨8,(some 34),(some (27,true)),.call ⟨true⟩ (.k (.c (.fn 156 [] []))) [(.s 33),(kI 1),(kI 10000)]⟩,o1 9 35 (.pick (.s 27) (.s 34) (kB false)),mS 10 5 35] [6,5,2,3]))
  (rG 0 [mS 0 24 6,bI 1 25 .add 24 1,mS 2 6 25] [5,6,2,3])))
def c_kerbstoneref03_checkSignal_l2 : CC := (sQ (sQ (rG 0 [mS 0 38 7,fA 1 39 1 3,lF 2 40 39,lN 3 41 40,bS 4 42 .lss 38 41] [42,2,3,7])
  (.cond (.s 42) .skip
  (.exit 2)))
  (sQ (.block 3 (sQ (rG 0 [fA 0 45 1 3,mS 2 47 7,fA 6 51 1 2,lF 1 46 45,iA 3 48 2 46 47,fA 4 49 1 48,lF 5 50 49,lF 7 52 51,lN 8 53 52,cA 9 54 247 [(.s 50),(kI 0),(.s 53)],o1 10 55 (.un .not (.s 54))] [55,2,3,7])
  (.cond (.s 55) (sQ (rG 0 [mI 0 4 11] [4])
  .ret)
  .skip)))
  (rG 0 [mS 0 43 7,bI 1 44 .add 43 1,mS 2 7 44] [3,2,7])))
abbrev f_kerbstoneref03_checkSignal : Nat := 159
def c_kerbstoneref03_checkSignal : CFn := { frz := true,rnd := none,nargs := 2,ntmps := 56,res := [(.slot 4)],code :=
  (sQ (rG 2 [o1 0 2 (.box 0 5 (.s 0)),o1 1 3 (.box 1 2 (.s 1)),mI 2 4 0] [2,3])
  (sQ (sQ (rG 0 [fA 0 8 1 3,lF 1 9 8,lN 2 10 9,bI 3 11 .eql 10 0] [11,2,3])
  (.cond (.s 11) (sQ (rG 0 [mI 0 4 6] [4])
  .ret)
  .skip))
  (sQ (sQ (rG 0 [fA 0 12 1 3,lF 1 13 12,lN 2 14 13,bI 3 15 .gtr 14 6] [15,3,2])
  (.cond (.s 15) (sQ (rG 0 [mI 0 4 8] [4])
  .ret)
  .skip))
  (sQ (rG 0 [fA 0 16 0 3,lF 1 17 16,cA 2 18 156 [(.s 17),(kI 0),(kI 1099511627776)],mS 3 5 18] [5,2,3])
  (sQ (sQ (rG 0 [mI 0 6 0] [5,6,2,3])
  (.block 0 (.loop (some [5,6,2,3]) c_kerbstoneref03_checkSignal_l1)))
  (sQ (sQ (rG 0 [mS 0 36 5,o1 1 37 (.un .not (.s 36))] [37,2,3])
  (.cond (.s 37) (sQ (rG 0 [mI 0 4 2] [4])
  .ret)
  .skip))
  (sQ (sQ (rG 0 [mI 0 7 0] [3,2,7])
  (.block 2 (.loop (some [3,2,7]) c_kerbstoneref03_checkSignal_l2)))
  (sQ (rG 0 [mI 0 4 0] [4])
  .ret)))))))) }
def c_kerbstoneref03_checkZone_l1 : CC := (sQ (sQ (rG 0 [mS 0 28 6,fA 1 29 0 3,lF 2 30 29,lN 3 31 30,bS 4 32 .lss 28 31] [32,5,6,2,3])
  (.cond (.s 32) .skip
  (.exit 0)))
  (sQ (.block 1 (rG 1 [mS 0 35 5,fA 1 36 0 3,lF 2 37 36,mS 3 38 6,iA 4 39 4 37 38,fA 5 40 0 39,lF 6 41 40,o1 7 42 (.lit 0 1 [[(I 0)]] [(0,(.s 41))]),o1 8 43 (.append 1 8 (.s 35) (.s 42)),mS 9 5 43] [6,5,2,3]))
  (rG 0 [mS 0 33 6,bI 1 34 .add 33 1,mS 2 6 34] [5,6,2,3])))
def c_kerbstoneref03_checkZone_l2 : CC := (sQ (sQ (rG 0 [mS 0 50 7,fA 1 51 0 3,lF 2 52 51,lN 3 53 52,bS 4 54 .lss 50 53] [54,2,3,7])
  (.cond (.s 54) .skip
  (.exit 2)))
  (sQ (.block 3 (sQ (rG 1 [fA 0 57 0 3,lF 1 58 57,mS 2 59 7,iA 3 60 4 58 59,lT 4 61 4 60,o1 5 8 (.box 0 4 (.k (.a [(I 0),(I 0),(I 0),(I 0)]))),o0 6 (.store 4 (.s 8) (.s 61))] [8,2,3,7])
  (sQ (.region 0 [fA 0 62 1 8,lF 1 63 62,bI 2 64 .lss 63 0,mS 3 65 64,oG 4 66 65 false (.faddr 1 (.s 8)),oG 6 68 65 false (.faddr 2 (.s 8)),oG 5 67 65 false (.load false 1 (.s 66)),oG 7 69 65 false (.load false 1 (.s 68)),oG 8 70 65 false (.bin .geq (.s 67) (.s 69)),o1 9 71 (.pick (.s 65) (kB true) (.s 70)),mS 10 72 71,oG 11 73 72 false (.faddr 2 (.s 8)),oG 13 75 72 false (.faddr 1 (.s 2)),oG 15 77 72 false (.faddr 0 (.s 8)),oG 12 74 72 false (.load false 1 (.s 73)),oG 14 76 72 false (.load false 1 (.s 75)),oG 16 78 72 false (.load false 1 (.s 77)),oG 17 79 72 false (.iaddr 5 (.s 76) (.s 78)),oG 18 80 72 false (.faddr 1 (.s 79)),oG 19 81 72 false (.load true 1 (.s 80)),⟨20,(some 82),(some (72,false)),.call ⟨true⟩ (.k (.c (.fn 248 [] []))) [(.s 81)]⟩,oG 21 83 72 false (.bin .gtr (.s 74) (.s 82)),o1 22 84 (.pick (.s 72) (kB true) (.s 83)),mS 23 85 84,oG 24 86 85 false (.faddr 3 (.s 8)),oG 25 87 85 false (.load false 1 (.s 86)),oG 26 88 85 false (.bin .lss (.s 87) (kI 0)),o1 27 89 (.pick (.s 85) (kB true) (.s 88)),mS 28 90 89,oG 29 91 90 false (.faddr 3 (.s 8)),oG 30 92 90 false (.load false 1 (.s 91)),oG 31 93 90 false (.bin .gtr (.s 92) (kI 100)),o1 32 94 (.pick (.s 90) (kB true) (.s 93))] [(14,20)] (some [94,2,3,7]))
  (.cond (.s 94) (sQ (rG 0 [mI 0 4 2] [4])
  .ret)
  .skip))))
  (rG 0 [mS 0 55 7,bI 1 56 .add 55 1,mS 2 7 56] [3,2,7])))
abbrev f_kerbstoneref03_checkZone : Nat := 160
def c_kerbstoneref03_checkZone : CFn := { frz := true,rnd := none,nargs := 2,ntmps := 95,res := [(.slot 4)],code :=
  (sQ (rG 2 [o1 0 2 (.box 0 5 (.s 0)),o1 1 3 (.box 1 2 (.s 1)),mI 2 4 0] [3,2])
  (sQ (sQ (rG 0 [fA 0 9 0 3,lF 1 10 9,lN 2 11 10,bI 3 12 .lss 11 2] [12,3,2])
  (.cond (.s 12) (sQ (rG 0 [mI 0 4 6] [4])
  .ret)
  .skip))
  (sQ (sQ (rG 0 [fA 0 13 0 3,lF 1 14 13,lN 2 15 14,bI 3 16 .gtr 15 6] [16,2,3])
  (.cond (.s 16) (sQ (rG 0 [mI 0 4 8] [4])
  .ret)
  .skip))
  (sQ (sQ (rG 0 [fA 0 17 1 3,lF 1 18 17,bI 2 19 .lss 18 0,mS 3 20 19,oG 4 21 20 false (.faddr 1 (.s 3)),oG 5 22 20 false (.load false 1 (.s 21)),oG 6 23 20 false (.faddr 3 (.s 2)),oG 7 24 20 false (.load false 1 (.s 23)),oG 8 25 20 false (.len (.s 24)),oG 9 26 20 false (.bin .gtr (.s 22) (.s 25)),o1 10 27 (.pick (.s 20) (kB true) (.s 26))] [27,3,2])
  (.cond (.s 27) (sQ (rG 0 [mI 0 4 2] [4])
  .ret)
  .skip))
  (sQ (rG 1 [o1 0 5 (.newsl 0 1)] [5,2,3])
  (sQ (sQ (rG 0 [mI 0 6 0] [5,6,2,3])
  (.block 0 (.loop (some [5,6,2,3]) c_kerbstoneref03_checkZone_l1)))
  (sQ (sQ (rG 0 [mS 0 44 5,fA 1 45 1 2,lF 2 46 45,lN 3 47 46,cA 4 48 247 [(.s 44),(kI 0),(.s 47)],o1 5 49 (.un .not (.s 48))] [49,2,3])
  (.cond (.s 49) (sQ (rG 0 [mI 0 4 11] [4])
  .ret)
  .skip))
  (sQ (sQ (rG 0 [mI 0 7 0] [3,2,7])
  (.block 2 (.loop (some [3,2,7]) c_kerbstoneref03_checkZone_l2)))
  (sQ (rG 0 [mI 0 4 0] [4])
  .ret))))))))) }
abbrev f_kerbstoneref03_checkWork : Nat := 161
def c_kerbstoneref03_checkWork : CFn := { frz := true,rnd := none,nargs := 2,ntmps := 75,res := [(.slot 4)],code :=
  (sQ (rG 2 [o1 0 2 (.box 0 5 (.s 0)),o1 1 3 (.box 1 6 (.s 1)),mI 2 4 0] [3,2])
  (sQ (sQ (rG 0 [fA 0 9 0 3,lF 1 10 9,bI 2 11 .lss 10 0,mS 3 12 11,oG 4 13 12 false (.faddr 0 (.s 3)),oG 5 14 12 false (.load false 1 (.s 13)),oG 6 15 12 false (.faddr 1 (.s 2)),oG 7 16 12 false (.load false 1 (.s 15)),oG 8 17 12 false (.len (.s 16)),oG 9 18 12 false (.bin .geq (.s 14) (.s 17)),o1 10 19 (.pick (.s 12) (kB true) (.s 18))] [19,3,2])
  (.cond (.s 19) (sQ (rG 0 [mI 0 4 7] [4])
  .ret)
  .skip))
  (sQ (rG 1 [fA 0 20 1 2,lF 1 21 20,fA 2 22 0 3,lF 3 23 22,iA 4 24 5 21 23,lT 5 25 5 24,o1 6 5 (.box 0 5 (.k (.a [(I 0),.nilslice,(I 0),(I 0),.nilslice]))),o0 7 (.store 5 (.s 5) (.s 25))] [5,3])
  (sQ (rG 0 [fA 0 27 0 5,lF 1 28 27,cA 2 29 94 [(.s 28)],mS 3 26 29,eX 4 30 26 0,eX 5 31 26 1,eX 6 32 26 2,mS 7 6 30,mS 8 7 31,mS 9 8 32] [5,3,6])
  (sQ (sQ (.region 0 [fA 0 33 1 3,lF 1 34 33,bI 2 35 .lss 34 0,mS 3 36 35,oG 4 37 36 false (.faddr 1 (.s 3)),oG 6 39 36 false (.faddr 2 (.s 3)),oG 5 38 36 false (.load false 1 (.s 37)),oG 7 40 36 false (.load false 1 (.s 39)),oG 8 41 36 false (.bin .gtr (.s 38) (.s 40)),o1 9 42 (.pick (.s 36) (kB true) (.s 41)),mS 10 43 42,oG 11 44 43 false (.faddr 2 (.s 3)),oG 13 46 43 false (.faddr 1 (.s 5)),oG 12 45 43 false (.load false 1 (.s 44)),oG 14 47 43 false (.load true 1 (.s 46)),⟨15,(some 48),(some (43,false)),.call ⟨true⟩ (.k (.c (.fn 248 [] []))) [(.s 47)]⟩,oG 16 49 43 false (.bin .gtr (.s 45) (.s 48)),o1 17 50 (.pick (.s 43) (kB true) (.s 49)),mS 18 51 50,oG 19 52 51 false (.faddr 3 (.s 3)),oG 20 53 51 false (.load false 1 (.s 52)),oG 21 54 51 false (.bin .lss (.s 53) (kI 0)),o1 22 55 (.pick (.s 51) (kB true) (.s 54)),mS 23 56 55,oG 24 57 56 false (.faddr 3 (.s 3)),oG 26 59 56 false (.faddr 4 (.s 3)),oG 25 58 56 false (.load false 1 (.s 57)),oG 27 60 56 false (.load false 1 (.s 59)),oG 28 61 56 false (.bin .geq (.s 58) (.s 60)),o1 29 62 (.pick (.s 56) (kB true) (.s 61)),mS 30 63 62,oG 31 64 63 false (.faddr 4 (.s 3)),oG 32 65 63 false (.load false 1 (.s 64)),oG 33 66 63 false (.bin .gtr (.s 65) (kI 1099511627776)),o1 34 67 (.pick (.s 63) (kB true) (.s 66)),mS 35 68 67,oG 36 69 68 false (.faddr 5 (.s 3)),oG 38 71 68 false (.mv (.s 6)),oG 37 70 68 false (.load false 1 (.s 69)),⟨39,(some 72),(some (68,false)),.call ⟨true⟩ (.k (.c (.fn 156 [] []))) [(.s 70),(kI 0),(.s 71)]⟩,oG 40 73 68 false (.un .not (.s 72)),o1 41 74 (.pick (.s 68) (kB true) (.s 73))] [(13,15)] (some [74]))
  (.cond (.s 74) (sQ (rG 0 [mI 0 4 2] [4])
  .ret)
  .skip))
  (sQ (rG 0 [mI 0 4 0] [4])
  .ret)))))) }
abbrev f_kerbstoneref03_Long : Nat := 162
def c_kerbstoneref03_Long : CFn := { frz := true,rnd := none,nargs := 2,ntmps := 8,res := [(.slot 4)],code :=
  (sQ (rG 1 [o1 0 2 (.box 0 5 (.s 0)),mI 1 4 0] [2,1])
  (sQ (rG 0 [lT 0 5 5 2,mS 1 6 1,cA 2 7 169 [(.s 5),(.s 6)],mS 3 4 7] [4])
  .ret)) }
def c_kerbstoneref01_Near_l1 : CC := (sQ (sQ (rG 0 [mS 0 28 10,mS 1 29 8,lN 2 30 29,bS 3 31 .lss 28 30] [31,7,9,10,3,4,2,8])
  (.cond (.s 31) .skip
  (.exit 0)))
  (sQ (.block 1 (sQ (.region 2 [fA 0 34 0 3,mS 2 36 10,bI 3 37 .add 36 1,fA 6 40 0 3,mS 8 42 10,fA 13 47 0 3,mS 15 49 10,lF 1 35 34,iA 4 38 2 35 37,lT 5 39 2 38,lF 7 41 40,iA 9 43 2 41 42,lT 10 44 2 43,lT 12 46 2 4,lF 14 48 47,iA 16 50 2 48 49,lT 17 51 2 50,cA 11 45 181 [(.s 39),(.s 44)],cA 18 52 181 [(.s 46),(.s 51)],o1 19 11 (.box 0 2 (.k (.a [(I 0),(I 0)]))),o1 20 12 (.box 1 2 (.k (.a [(I 0),(I 0)]))),o0 21 (.store 2 (.s 11) (.s 45)),o0 22 (.store 2 (.s 12) (.s 52))] [(7,19),(7,20),(9,19),(9,20),(10,19),(10,20),(12,19),(12,20),(13,17),(13,19),(13,20),(14,17),(14,19),(14,20),(16,17),(16,19),(16,20),(17,19),(17,20),(18,19),(18,20),(19,20)] (some [11,12,7,9,10,3,4,2,8]))
  (sQ (.region 0 [lT 0 53 2 12,lT 1 54 2 11,lT 3 56 2 11,lT 4 57 2 12,cA 2 55 250 [(.s 53),(.s 54)],cA 5 58 251 [(.s 56),(.s 57)],mS 6 13 55,mS 7 14 58] [(2,4),(3,4)] (some [14,7,13,9,10,3,4,2,8]))
  (sQ (sQ (rG 0 [mS 0 59 14,mS 1 60 2,mS 2 61 8,mS 3 62 10,iA 4 63 1 61 62,lF 5 64 63,bS 6 65 .mul 60 64,bS 7 66 .leq 59 65,mS 8 67 66,oG 9 68 67 true (.mv (.s 14)),oG 10 69 67 true (.mv (.s 2)),oG 11 70 67 true (.un .neg (.s 69)),oG 12 71 67 true (.mv (.s 8)),oG 13 72 67 true (.mv (.s 10)),oG 14 73 67 true (.iaddr 1 (.s 71) (.s 72)),oG 15 74 67 true (.load false 1 (.s 73)),oG 16 75 67 true (.bin .mul (.s 70) (.s 74)),oG 17 76 67 true (.bin .geq (.s 68) (.s 75)),o1 18 77 (.pick (.s 67) (.s 76) (kB false)),mS 19 78 77,oG 20 79 78 true (.mv (.s 13)),oG 21 80 78 true (.mv (.s 2)),oG 22 81 78 true (.un .neg (.s 80)),oG 23 82 78 true (.mv (.s 8)),oG 24 83 78 true (.mv (.s 10)),oG 25 84 78 true (.iaddr 1 (.s 82) (.s 83)),oG 26 85 78 true (.load false 1 (.s 84)),oG 27 86 78 true (.bin .mul (.s 81) (.s 85)),oG 28 87 78 true (.bin .geq (.s 79) (.s 86)),o1 29 88 (.pick (.s 78) (.s 87) (kB false)),mS 30 89 88,oG 31 90 89 true (.mv (.s 13)),oG 32 91 89 true (.mv (.s 8)),oG 33 92 89 true (.mv (.s 10)),oG 34 93 89 true (.iaddr 1 (.s 91) (.s 92)),oG 36 95 89 true (.mv (.s 2)),oG 38 97 89 true (.mv (.s 8)),oG 39 98 89 true (.mv (.s 10)),oG 40 99 89 true (.iaddr 1 (.s 97) (.s 98)),oG 35 94 89 true (.load false 1 (.s 93)),oG 37 96 89 true (.bin .add (.s 94) (.s 95)),oG 41 100 89 true (.load false 1 (.s 99)),oG 42 101 89 true (.bin .mul (.s 96) (.s 100)),oG 43 102 89 true (.bin .leq (.s 90) (.s 101)),o1 44 103 (.pick (.s 89) (.s 102) (kB false))] [103,7,13,9,10,3,4,2,8])
  (.cond (.s 103) (.region 1 [mS 0 104 7,mS 1 105 9,mS 2 106 13,mS 3 107 8,mS 4 108 10,iA 5 109 1 107 108,mS 8 112 8,mS 9 113 10,iA 10 114 1 112 113,lF 6 110 109,lF 11 115 114,cA 7 111 182 [(.s 106),(.s 110)],o1 12 116 (.minmax false [(.s 111),(.s 115)]),o1 13 117 (.minmax true [(kI 0),(.s 116)]),bS 14 118 .add 105 117,o1 15 119 (.lit 0 1 [[(I 0)]] [(0,(.s 118))]),o1 16 120 (.append 1 8 (.s 104) (.s 119)),mS 17 7 120] [(10,11)] (some [9,10,7,3,4,2,8]))
  .skip))
  (rG 0 [mS 0 121 9,mS 1 122 8,mS 2 123 10,iA 3 124 1 122 123,lF 4 125 124,bS 5 126 .add 121 125,mS 6 9 126] [10,7,9,3,4,2,8])))))
  (rG 0 [mS 0 32 10,bI 1 33 .add 32 1,mS 2 10 33] [7,9,10,3,4,2,8])))
abbrev f_kerbstoneref01_Near : Nat := 163
def c_kerbstoneref01_Near : CFn := { frz := true,rnd := none,nargs := 3,ntmps := 128,res := [(.slot 6)],code :=
  (sQ (rG 3 [o1 0 3 (.box 0 1 (.s 0)),o1 1 4 (.box 1 2 (.s 1)),o1 2 6 (.newsl 2 1)] [2,4,3])
  (sQ (sQ (rG 0 [lT 0 15 2 4,cA 1 16 249 [(.s 15)],o1 2 17 (.un .not (.s 16)),mS 3 18 17,oG 4 19 18 false (.mv (.s 2)),oG 5 20 18 false (.bin .lss (.s 19) (kI 0)),o1 6 21 (.pick (.s 18) (kB true) (.s 20)),mS 7 22 21,oG 8 23 22 false (.mv (.s 2)),oG 9 24 22 false (.bin .gtr (.s 23) (kI 16777216)),o1 10 25 (.pick (.s 22) (kB true) (.s 24))] [25,2,4,3])
  (.cond (.s 25) (sQ (rG 1 [o1 0 6 (.newsl 0 1)] [6])
  .ret)
  .skip))
  (sQ (rG 1 [o1 0 7 (.newsl 0 1)] [7,3,4,2])
  (sQ (rG 0 [lT 0 26 1 3,cA 1 27 179 [(.s 26)],mS 2 8 27] [7,3,4,2,8])
  (sQ (rG 0 [mI 0 9 0] [7,9,3,4,2,8])
  (sQ (sQ (rG 0 [mI 0 10 0] [7,9,10,3,4,2,8])
  (.block 0 (.loop (some [7,9,10,3,4,2,8]) c_kerbstoneref01_Near_l1)))
  (sQ (rG 0 [mS 0 127 7,mS 1 6 127] [6])
  .ret))))))) }
abbrev f_motion_ends_Span : Nat := 164
def c_motion_ends_Span : CFn := { frz := true,rnd := none,nargs := 1,ntmps := 35,res := [(.slot 2),(.slot 3),(.slot 4)],code :=
  (sQ (rG 0 [mI 0 2 0,o1 1 3 (.mv (.k (.c .nilptr))),o1 2 4 (.mv (.k (.c .nilptr)))] [0])
  (sQ (sQ (rG 0 [mS 0 7 0,o1 1 8 (.p1 (.mkif 230) (.s 7))] [8])
  (.block 0 (sQ (rG 0 [o1 0 9 (.p1 (.tass true 154 (.c .nilptr)) (.s 8)),eX 1 10 9 1,eX 2 11 9 0] [10,8,11])
  (.cond (.s 10) (sQ (rG 0 [mS 0 5 11] [5])
  (sQ (rG 0 [mS 0 12 5,nC 1 13 12,fA 2 14 0 13,mS 4 16 5,nC 5 17 16,fA 6 18 1 17,mS 7 19 5,nC 8 20 19,fA 9 21 2 20,lF 3 15 14,mS 10 2 15,mS 11 3 18,mS 12 4 21] [2,3,4])
  .ret))
  (sQ (rG 0 [o1 0 22 (.p1 (.tass true 230 (.c .nilptr)) (.s 8)),eX 1 23 22 1,eX 2 24 22 0] [23,24])
  (.cond (.s 23) (sQ (rG 0 [mS 0 6 24] [6])
  (sQ (rG 0 [mS 0 25 6,nC 1 26 25,fA 2 27 0 26,mS 4 29 6,nC 5 30 29,fA 6 31 1 30,mS 7 32 6,nC 8 33 32,fA 9 34 2 33,lF 3 28 27,mS 10 2 28,mS 11 3 31,mS 12 4 34] [2,3,4])
  .ret))
  .skip))))))
  (sQ (rG 0 [mI 0 2 0,o1 1 3 (.mv (.k (.c .nilptr))),o1 2 4 (.mv (.k (.c .nilptr)))] [2,3,4])
  .ret))) }
abbrev f_kerbstoneref05_less : Nat := 166
def c_kerbstoneref05_less : CFn := { frz := true,rnd := none,nargs := 2,ntmps := 24,res := [(.slot 4)],code :=
  (sQ (rG 2 [o1 0 2 (.box 0 6 (.s 0)),o1 1 3 (.box 1 6 (.s 1)),mB 2 4 false] [2,3])
  (sQ (rG 0 [fA 0 5 0 2,lF 1 6 5,fA 2 7 0 3,lF 3 8 7,bS 4 9 .lss 6 8,mS 5 10 9,oG 6 11 10 false (.faddr 0 (.s 2)),oG 7 12 10 false (.load false 1 (.s 11)),oG 8 13 10 false (.faddr 0 (.s 3)),oG 9 14 10 false (.load false 1 (.s 13)),oG 10 15 10 false (.bin .eql (.s 12) (.s 14)),oG 11 16 10 false (.mv (.s 15)),oG 12 17 16 true (.faddr 1 (.s 2)),oG 13 18 16 true (.load false 1 (.s 17)),oG 14 19 16 true (.faddr 1 (.s 3)),oG 15 20 16 true (.load false 1 (.s 19)),oG 16 21 16 true (.bin .lss (.s 18) (.s 20)),oG 17 22 10 false (.pick (.s 16) (.s 21) (kB false)),o1 18 23 (.pick (.s 10) (kB true) (.s 22)),mS 19 4 23] [4])
  .ret)) }
abbrev f_kerbstoneref03_length : Nat := 169
def c_kerbstoneref03_length : CFn := { frz := true,rnd := none,nargs := 2,ntmps := 12,res := [(.slot 4)],code :=
  (sQ (rG 1 [o1 0 2 (.box 0 5 (.s 0)),mI 1 4 0] [2,1])
  (sQ (rG 0 [fA 0 5 1 2,lF 1 6 5,mS 2 7 1,iA 3 8 5 6 7,fA 4 9 1 8,lT 5 10 1 9,cA 6 11 248 [(.s 10)],mS 7 4 11] [4])
  .ret)) }
def c_motion_ends_Blob : CFn := { frz := true,rnd := none,nargs := 1,ntmps := 35,res := [(.slot 2),(.slot 3),(.slot 4)],code :=
  (sQ (rG 0 [mI 0 2 0,o1 1 3 (.mv (.k (.c .nilptr))),o1 2 4 (.mv (.k (.c .nilptr)))] [0])
  (sQ (sQ (rG 0 [mS 0 7 0,o1 1 8 (.p1 (.mkif 154) (.s 7))] [8])
  (.block 0 (sQ (rG 0 [o1 0 9 (.p1 (.tass true 154 (.c .nilptr)) (.s 8)),eX 1 10 9 1,eX 2 11 9 0] [10,8,11])
  (.cond (.s 10) (sQ (rG 0 [mS 0 5 11] [5])
  (sQ (rG 0 [mS 0 12 5,nC 1 13 12,fA 2 14 0 13,mS 4 16 5,nC 5 17 16,fA 6 18 1 17,mS 7 19 5,nC 8 20 19,fA 9 21 2 20,lF 3 15 14,mS 10 2 15,mS 11 3 18,mS 12 4 21] [2,3,4])
  .ret))
  (sQ (rG 0 [o1 0 22 (.p1 (.tass true 230 (.c .nilptr)) (.s 8)),eX 1 23 22 1,eX 2 24 22 0] [23,24])
  (.cond (.s 23) (sQ (rG 0 [mS 0 6 24] [6])
  (sQ (rG 0 [mS 0 25 6,nC 1 26 25,fA 2 27 0 26,mS 4 29 6,nC 5 30 29,fA 6 31 1 30,mS 7 32 6,nC 8 33 32,fA 9 34 2 33,lF 3 28 27,mS 10 2 28,mS 11 3 31,mS 12 4 34] [2,3,4])
  .ret))
  .skip))))))
  (sQ (rG 0 [mI 0 2 0,o1 1 3 (.mv (.k (.c .nilptr))),o1 2 4 (.mv (.k (.c .nilptr)))] [2,3,4])
  .ret))) }
def c_kerbstoneref01_Pieces_l1 : CC := (sQ (sQ (rG 0 [mS 0 9 4,bI 1 10 .add 9 1,fA 2 11 0 1,lF 3 12 11,lN 4 13 12,bS 5 14 .lss 10 13] [14,3,4,1])
  (.cond (.s 14) .skip
  (.exit 0)))
  (sQ (.block 1 (sQ (.region 1 [fA 0 17 0 1,mS 2 19 4,bI 3 20 .add 19 1,fA 6 23 0 1,mS 8 25 4,lF 1 18 17,iA 4 21 2 18 20,lT 5 22 2 21,lF 7 24 23,iA 9 26 2 24 25,lT 10 27 2 26,cA 11 28 181 [(.s 22),(.s 27)],o1 12 5 (.box 0 2 (.k (.a [(I 0),(I 0)]))),o0 13 (.store 2 (.s 5) (.s 28))] [(5,12),(7,12),(8,12),(10,12),(11,12)] (some [3,5,4,1]))
  (rG 1 [mS 0 29 3,lT 1 30 2 5,lT 2 31 2 5,cA 3 32 250 [(.s 30),(.s 31)],cA 4 33 255 [(.s 32)],o1 5 34 (.lit 0 1 [[(I 0)]] [(0,(.s 33))]),o1 6 35 (.append 1 8 (.s 29) (.s 34)),mS 7 3 35] [4,3,1])))
  (rG 0 [mS 0 15 4,bI 1 16 .add 15 1,mS 2 4 16] [3,4,1])))
abbrev f_kerbstoneref01_Pieces : Nat := 179
def c_kerbstoneref01_Pieces : CFn := { frz := true,rnd := none,nargs := 1,ntmps := 37,res := [(.slot 2)],code :=
  (sQ (rG 2 [o1 0 1 (.box 0 1 (.s 0)),o1 1 2 (.newsl 1 1)] [1])
  (sQ (sQ (rG 0 [lT 0 6 1 1,cA 1 7 246 [(.s 6)],bI 2 8 .neq 7 0] [8,1])
  (.cond (.s 8) (sQ (rG 1 [o1 0 2 (.newsl 0 1)] [2])
  .ret)
  .skip))
  (sQ (rG 1 [o1 0 3 (.newsl 0 1)] [3,1])
  (sQ (sQ (rG 0 [mI 0 4 0] [3,4,1])
  (.block 0 (.loop (some [3,4,1]) c_kerbstoneref01_Pieces_l1)))
  (sQ (rG 0 [mS 0 36 3,mS 1 2 36] [2])
  .ret))))) }
abbrev f_kerbstoneref01_Minus : Nat := 181
def c_kerbstoneref01_Minus : CFn := { frz := true,rnd := none,nargs := 2,ntmps := 16,res := [(.cell 4 true 2)],code :=
  (sQ (rG 3 [o1 0 2 (.box 0 2 (.s 0)),o1 1 3 (.box 1 2 (.s 1)),o1 2 4 (.box 2 2 (.k (.a [(I 0),(I 0)])))] [2,3,4])
  (sQ (rG 0 [fA 0 5 0 2,lF 1 6 5,fA 2 7 0 3,lF 3 8 7,bS 4 9 .sub 6 8,fA 5 10 1 2,lF 6 11 10,fA 7 12 1 3,lF 8 13 12,bS 9 14 .sub 11 13,o1 10 15 (.build [(I 0),(I 0)] [(0,1,(.s 9)),(1,1,(.s 14))]),o0 11 (.store 2 (.s 4) (.s 15))] [4])
  .ret)) }
abbrev f_kerbstoneref01_floor : Nat := 182
def c_kerbstoneref01_floor : CFn := { frz := true,rnd := none,nargs := 2,ntmps := 16,res := [(.slot 4)],code :=
  (sQ (rG 0 [mI 0 4 0] [0,1])
  (sQ (rG 0 [mS 0 6 0,mS 1 7 1,bS 2 8 .quo 6 7,mS 3 5 8] [0,1,5])
  (sQ (sQ (rG 0 [mS 0 9 0,mS 1 10 1,bS 2 11 .rem 9 10,bI 3 12 .lss 11 0] [12,5])
  (.cond (.s 12) (rG 0 [mS 0 13 5,bI 1 14 .sub 13 1,mS 2 5 14] [5])
  .skip))
  (sQ (rG 0 [mS 0 15 5,mS 1 4 15] [4])
  .ret)))) }
def c_roads_before_l1 : CC := (sQ (rG 0 [bS 0 12 .lss 11 10] [12,5,11,10,9,1])
  (sQ (.cond (.s 12) .skip
  (.exit 0))
  (sQ (.block 1 (sQ (rG 1 [mS 0 13 11,iA 1 14 5 9 11,lT 2 15 5 14,o1 3 7 (.box 0 5 (.k (.a [(I 0),.nilslice,(I 0),(I 0),.nilslice]))),mS 4 6 13,o0 5 (.store 5 (.s 7) (.s 15))] [7,5,6,11,10,9,1])
  (sQ (rG 0 [fA 0 16 4 7,lF 1 17 16,mS 2 18 1,cA 3 19 185 [(.s 17),(.s 18)]] [19,5,6,11,10,9,1])
  (.cond (.s 19) (rG 1 [mS 0 20 5,mS 1 21 6,o1 2 22 (.lit 0 1 [[(I 0)]] [(0,(.s 21))]),o1 3 23 (.append 1 8 (.s 20) (.s 22)),mS 4 5 23] [11,5,10,9,1])
  .skip))))
  (rG 0 [bI 0 24 .add 11 1,mS 1 11 24] [5,11,10,9,1]))))
def c_roads_before : CFn := { frz := true,rnd := none,nargs := 2,ntmps := 26,res := [(.slot 4)],code :=
  (sQ (rG 2 [o1 0 2 (.box 0 5 (.s 0)),o1 1 4 (.newsl 1 1)] [2,1])
  (sQ (rG 1 [o1 0 5 (.newsl 0 1)] [2,5,1])
  (sQ (sQ (rG 0 [fA 0 8 1 2,lF 1 9 8,lN 2 10 9,mI 3 11 0] [5,11,10,9,1])
  (.block 0 (.loop (some [5,11,10,9,1]) c_roads_before_l1)))
  (sQ (rG 0 [mS 0 25 5,mS 1 4 25] [4])
  .ret)))) }
def c_slices_Contains_int : CFn := { frz := true,rnd := none,nargs := 2,ntmps := 9,res := [(.slot 4)],code :=
  (sQ (rG 0 [mB 0 4 false] [0,1])
  (sQ (rG 0 [mS 0 5 0,mS 1 6 1,cA 2 7 190 [(.s 5),(.s 6)],bI 3 8 .geq 7 0,mS 4 4 8] [4])
  .ret)) }
def c_roads_RouteLength : CFn := { frz := true,rnd := none,nargs := 2,ntmps := 9,res := [(.slot 4)],code :=
  (sQ (rG 1 [o1 0 2 (.box 0 5 (.s 0)),mI 1 4 0] [2,1])
  (sQ (rG 0 [lT 0 5 5 2,mS 1 6 1,cA 2 7 220 [(.s 5),(.s 6)],o1 3 8 (.field false 7 1 (.s 7)),mS 4 4 8] [4])
  .ret)) }
def c_roads_Sources_l1 : CC := (sQ (rG 0 [bS 0 12 .lss 11 10] [12,3,11,10,1])
  (sQ (.cond (.s 12) .skip
  (.exit 0))
  (sQ (.block 1 (sQ (rG 0 [mS 0 13 11,mS 1 4 13] [3,4,11,10,1])
  (sQ (rG 0 [lT 0 14 5 1,mS 1 15 4,cA 2 16 184 [(.s 14),(.s 15)],lN 3 17 16,bI 4 18 .eql 17 0] [18,3,4,11,10,1])
  (.cond (.s 18) (rG 1 [mS 0 19 3,mS 1 20 4,o1 2 21 (.lit 0 1 [[(I 0)]] [(0,(.s 20))]),o1 3 22 (.append 1 8 (.s 19) (.s 21)),mS 4 3 22] [11,3,10,1])
  .skip))))
  (rG 0 [bI 0 23 .add 11 1,mS 1 11 23] [3,11,10,1]))))
def c_roads_Sources : CFn := { frz := true,rnd := none,nargs := 1,ntmps := 25,res := [(.slot 2)],code :=
  (sQ (rG 2 [o1 0 1 (.box 0 5 (.s 0)),o1 1 2 (.newsl 1 1)] [1])
  (sQ (sQ (rG 0 [lT 0 5 5 1,cA 1 6 75 [(.s 5)],bI 2 7 .neq 6 0] [7,1])
  (.cond (.s 7) (sQ (rG 1 [o1 0 2 (.newsl 0 1)] [2])
  .ret)
  .skip))
  (sQ (rG 1 [o1 0 3 (.newsl 0 1)] [3,1])
  (sQ (sQ (rG 0 [fA 0 8 1 1,lF 1 9 8,lN 2 10 9,mI 3 11 0] [3,11,10,1])
  (.block 0 (.loop (some [3,11,10,1]) c_roads_Sources_l1)))
  (sQ (rG 0 [mS 0 24 3,mS 1 2 24] [2])
  .ret))))) }
def c_slices_Index_int_l1 : CC := (sQ (rG 0 [bS 0 9 .lss 8 7] [9,0,1,7,8])
  (sQ (.cond (.s 9) .skip
  (.exit 0))
  (sQ (.block 1 (sQ (rG 0 [mS 0 10 8,mS 1 5 10] [0,1,7,8,5])
  (sQ (rG 0 [mS 0 11 1,mS 1 12 0,mS 2 13 5,iA 3 14 1 12 13,lF 4 15 14,bS 5 16 .eql 11 15] [16,0,1,7,8,5])
  (.cond (.s 16) (sQ (rG 0 [mS 0 17 5,mS 1 4 17] [4])
  .ret)
  .skip))))
  (rG 0 [bI 0 18 .add 8 1,mS 1 8 18] [7,1,0,8]))))
def c_slices_Index_int : CFn := { frz := true,rnd := none,nargs := 2,ntmps := 19,res := [(.slot 4)],code :=
  (sQ (rG 0 [mI 0 4 0] [1,0])
  (sQ (sQ (rG 0 [mS 0 6 0,lN 1 7 6,mI 2 8 0] [7,1,0,8])
  (.block 0 (.loop (some [7,1,0,8]) c_slices_Index_int_l1)))
  (sQ (rG 0 [mI 0 4 (-1)] [4])
  .ret))) }
def c_motion_Course_gap : CFn := { frz := true,rnd := none,nargs := 2,ntmps := 13,res := [(.slot 4)],code :=
  (sQ (rG 2 [o1 0 2 (.box 0 11 (.s 0)),o1 1 3 (.box 1 4 (.s 1)),mB 2 4 false] [2,3])
  (sQ (rG 0 [fA 0 5 1 3,lF 1 6 5,fA 2 7 8 2,lF 3 8 7,bS 4 9 .sub 6 8,fA 5 10 0 3,lF 6 11 10,bS 7 12 .leq 9 11,mS 8 4 12] [4])
  .ret)) }
abbrev f_roads_is : Nat := 208
def c_roads_is : CFn := { frz := true,rnd := none,nargs := 2,ntmps := 19,res := [(.slot 4)],code :=
  (sQ (rG 1 [o1 0 2 (.box 0 5 (.s 0)),mB 1 4 false] [1,2])
  (sQ (rG 0 [mS 0 5 1,bI 1 6 .geq 5 0,mS 2 7 6,oG 3 8 7 true (.mv (.s 1)),oG 4 9 7 true (.faddr 1 (.s 2)),oG 5 10 7 true (.load false 1 (.s 9)),oG 6 11 7 true (.len (.s 10)),oG 7 12 7 true (.bin .lss (.s 8) (.s 11)),o1 8 13 (.pick (.s 7) (.s 12) (kB false)),mS 9 14 13,oG 10 15 14 true (.load true 5 (.s 2)),⟨11,(some 16),(some (14,true)),.call ⟨true⟩ (.k (.c (.fn 75 [] []))) [(.s 15)]⟩,oG 12 17 14 true (.bin .eql (.s 16) (kI 0)),o1 13 18 (.pick (.s 14) (.s 17) (kB false)),mS 14 4 18] [4])
  .ret)) }
abbrev f_roads_long : Nat := 209
def c_roads_long : CFn := { frz := true,rnd := none,nargs := 2,ntmps := 12,res := [(.slot 4)],code :=
  (sQ (rG 1 [o1 0 2 (.box 0 5 (.s 0)),mI 1 4 0] [2,1])
  (sQ (rG 0 [fA 0 5 1 2,lF 1 6 5,mS 2 7 1,iA 3 8 5 6 7,fA 4 9 1 8,lT 5 10 1 9,cA 6 11 268 [(.s 10)],mS 7 4 11] [4])
  .ret)) }
def c_slices_DeleteFunc_Blob_l1 : CC := (sQ (sQ (rG 0 [mS 0 16 6,mS 1 17 0,lN 2 18 17,bS 3 19 .lss 16 18] [19,5,6,1,0])
  (.cond (.s 19) .skip
  (.exit 0)))
  (sQ (.block 1 (sQ (rG 1 [mS 0 22 0,mS 1 23 6,iA 2 24 6 22 23,lT 3 25 6 24,o1 4 7 (.box 0 6 (.k (.a [(I 0),(I 0),(I 0),(I 0),(I 0),(I 0)]))),o0 5 (.store 6 (.s 7) (.s 25))] [7,5,6,1,0])
  (sQ (rG 0 [mS 0 26 1,lT 1 27 6 7,⟨2,(some 28),none,.call ⟨true⟩ (.s 26) [(.s 27)]⟩,o1 3 29 (.un .not (.s 28))] [29,7,5,6,1,0])
  (.cond (.s 29) (sQ (rG 0 [mS 0 30 0,mS 1 31 5,lT 2 32 6 7,iA 3 33 6 30 31,o0 4 (.store 6 (.s 33) (.s 32))] [5,6,1,0])
  (rG 0 [mS 0 34 5,bI 1 35 .add 34 1,mS 2 5 35] [6,5,1,0]))
  .skip))))
  (rG 0 [mS 0 20 6,bI 1 21 .add 20 1,mS 2 6 21] [5,6,1,0])))
abbrev f_slices_DeleteFunc_Blob : Nat := 210
def c_slices_DeleteFunc_Blob : CFn := { frz := false,rnd := none,nargs := 2,ntmps := 42,res := [(.slot 4)],code :=
  (sQ (rG 1 [o1 0 4 (.newsl 0 6)] [1,0])
  (sQ (rG 0 [mS 0 8 0,mS 1 9 1,cA 2 10 142 [(.s 8),(.s 9)],mS 3 5 10] [1,5,0])
  (sQ (sQ (rG 0 [mS 0 11 5,bI 1 12 .eql 11 (-1)] [12,1,5,0])
  (.cond (.s 12) (sQ (rG 0 [mS 0 13 0,mS 1 4 13] [4])
  .ret)
  .skip))
  (sQ (sQ (rG 0 [mS 0 14 5,bI 1 15 .add 14 1,mS 2 6 15] [5,6,1,0])
  (.block 0 (.loop (some [5,6,1,0]) c_slices_DeleteFunc_Blob_l1)))
  (sQ (rG 0 [mS 0 36 0,mS 1 37 5,o1 2 38 (.slice 6 (.s 36) (some (.s 37)) none none),o0 3 (.clear [(I 0),(I 0),(I 0),(I 0),(I 0),(I 0)] (.s 38))] [0,5])
  (sQ (rG 0 [mS 0 39 0,mS 1 40 5,o1 2 41 (.slice 6 (.s 39) none (some (.s 40)) none),mS 3 4 41] [4])
  .ret)))))) }
abbrev f_motion_Join_1 : Nat := 211
def c_motion_Join_1 : CFn := { frz := true,rnd := none,nargs := 1,ntmps := 8,res := [(.slot 2)],code :=
  (sQ (rG 1 [o1 0 1 (.box 0 6 (.s 0)),mB 1 2 false] [1])
  (sQ (rG 0 [fA 0 3 1 1,lF 1 4 3,fA 2 5 2 1,lF 3 6 5,bS 4 7 .gtr 4 6,mS 5 2 7] [2])
  .ret)) }
abbrev f_slices_SortStableFunc_Blob : Nat := 212
def c_slices_SortStableFunc_Blob : CFn := { frz := true,rnd := none,nargs := 2,ntmps := 9,res := [],code :=
  (rG 0 [mS 0 4 0,mS 1 5 0,lN 2 6 5,mS 3 7 1,⟨4,(some 8),none,.call ⟨false⟩ (.k (.c (.fn 269 [] []))) [(.s 4),(.s 6),(.s 7)]⟩] []) }
abbrev f_motion_Join_2 : Nat := 213
def c_motion_Join_2 : CFn := { frz := true,rnd := none,nargs := 2,ntmps := 17,res := [(.slot 4)],code :=
  (sQ (rG 2 [o1 0 2 (.box 0 6 (.s 0)),o1 1 3 (.box 1 6 (.s 1)),mI 2 4 0] [2,3])
  (sQ (.region 1 [fA 0 5 0 2,fA 2 7 0 3,fA 5 10 1 2,fA 7 12 1 3,lF 1 6 5,lF 3 8 7,lF 6 11 10,lF 8 13 12,cA 4 9 215 [(.s 6),(.s 8)],cA 9 14 80 [(.s 11),(.s 13)],o1 10 15 (.lit 0 1 [[(I 0)],[(I 0)]] [(0,(.s 9)),(1,(.s 14))]),cA 11 16 214 [(.s 15)],mS 12 4 16] [(6,8),(7,8)] (some [4]))
  .ret)) }
def c_cmp_Or_int_l1 : CC := (sQ (rG 0 [bS 0 9 .lss 8 7] [9,3,6,7,8])
  (sQ (.cond (.s 9) .skip
  (.exit 0))
  (sQ (.block 1 (sQ (rG 0 [iA 0 10 1 6 8,lF 1 11 10,mS 2 5 11] [3,6,7,8,5])
  (sQ (rG 0 [mS 0 12 5,mS 1 13 3,bS 2 14 .neq 12 13] [14,3,6,7,8,5])
  (.cond (.s 14) (sQ (rG 0 [mS 0 15 5,mS 1 2 15] [2])
  .ret)
  .skip))))
  (rG 0 [bI 0 16 .add 8 1,mS 1 8 16] [7,6,3,8]))))
abbrev f_cmp_Or_int : Nat := 214
def c_cmp_Or_int : CFn := { frz := true,rnd := none,nargs := 1,ntmps := 18,res := [(.slot 2)],code :=
  (sQ (rG 0 [mI 0 2 0] [0])
  (sQ (rG 0 [mI 0 3 0] [0,3])
  (sQ (sQ (rG 0 [mS 0 6 0,lN 1 7 6,mI 2 8 0] [7,6,3,8])
  (.block 0 (.loop (some [7,6,3,8]) c_cmp_Or_int_l1)))
  (sQ (rG 0 [mS 0 17 3,mS 1 2 17] [2])
  .ret)))) }
abbrev f_cmp_Compare_int : Nat := 215
def c_cmp_Compare_int : CFn := { frz := true,rnd := none,nargs := 2,ntmps := 20,res := [(.slot 4)],code :=
  (sQ (rG 0 [mI 0 4 0] [1,0])
  (sQ (rG 0 [mS 0 7 0,cA 1 8 270 [(.s 7)],mS 2 5 8] [5,1,0])
  (sQ (rG 0 [mS 0 9 1,cA 1 10 270 [(.s 9)],mS 2 6 10] [5,1,0,6])
  (sQ (sQ (rG 0 [mS 0 11 5] [11,1,0,6])
  (.cond (.s 11) (sQ (sQ (rG 0 [mS 0 12 6] [12])
  (.cond (.s 12) (sQ (rG 0 [mI 0 4 0] [4])
  .ret)
  .skip))
  (sQ (rG 0 [mI 0 4 (-1)] [4])
  .ret))
  .skip))
  (sQ (sQ (rG 0 [mS 0 13 6] [13,0,1])
  (.cond (.s 13) (sQ (rG 0 [mI 0 4 1] [4])
  .ret)
  .skip))
  (sQ (sQ (rG 0 [mS 0 14 0,mS 1 15 1,bS 2 16 .lss 14 15] [16,1,0])
  (.cond (.s 16) (sQ (rG 0 [mI 0 4 (-1)] [4])
  .ret)
  .skip))
  (sQ (sQ (rG 0 [mS 0 17 0,mS 1 18 1,bS 2 19 .gtr 17 18] [19])
  (.cond (.s 19) (sQ (rG 0 [mI 0 4 1] [4])
  .ret)
  .skip))
  (sQ (rG 0 [mI 0 4 0] [4])
  .ret)))))))) }
abbrev f_motion_hull : Nat := 216
def c_motion_hull : CFn := { frz := true,rnd := none,nargs := 2,ntmps := 48,res := [(.cell 4 true 6)],code :=
  (sQ (rG 3 [o1 0 2 (.box 0 6 (.s 0)),o1 1 3 (.box 1 6 (.s 1)),o1 2 4 (.box 2 6 (.k (.a [(I 0),(I 0),(I 0),(I 0),(I 0),(I 0)])))] [3,2,4])
  (sQ (.region 0 [fA 0 5 1 2,fA 2 7 1 3,fA 5 10 2 2,fA 7 12 2 3,fA 10 15 3 2,fA 12 17 3 3,fA 15 20 4 2,fA 17 22 4 3,lF 1 6 5,lF 3 8 7,lF 6 11 10,lF 8 13 12,lF 11 16 15,lF 13 18 17,lF 16 21 20,lF 18 23 22,o1 4 9 (.minmax false [(.s 6),(.s 8)]),fA 20 25 1 2,o1 9 14 (.minmax true [(.s 11),(.s 13)]),o1 14 19 (.minmax false [(.s 16),(.s 18)]),o1 19 24 (.minmax true [(.s 21),(.s 23)]),o0 21 (.store 1 (.s 25) (.s 9)),fA 22 26 2 2,o0 23 (.store 1 (.s 26) (.s 14)),fA 24 27 3 2,o0 25 (.store 1 (.s 27) (.s 19)),fA 26 28 4 2,o0 27 (.store 1 (.s 28) (.s 24))] [(11,21),(13,21),(13,23),(15,21),(15,23),(15,25)] (some [3,2,4]))
  (sQ (sQ (rG 0 [fA 0 29 5 2,lF 1 30 29,bI 2 31 .eql 30 0,mS 3 32 31,oG 4 33 32 false (.faddr 5 (.s 3)),oG 5 34 32 false (.load false 1 (.s 33)),oG 6 35 32 false (.bin .eql (.s 34) (kI 0)),o1 7 36 (.pick (.s 32) (kB true) (.s 35))] [36,3,2,4])
  (.cond (.s 36) (rG 0 [fA 0 37 5 2,o0 1 (.store 1 (.s 37) (kI 0))] [3,2,4])
  .skip))
  (sQ (sQ (rG 0 [fA 0 38 5 2,lF 1 39 38,bI 2 40 .neq 39 0] [40,3,2,4])
  (.cond (.s 40) (rG 0 [fA 0 41 5 2,lF 1 42 41,fA 2 43 5 3,lF 3 44 43,o1 4 45 (.minmax true [(.s 42),(.s 44)]),fA 5 46 5 2,o0 6 (.store 1 (.s 46) (.s 45))] [2,4])
  .skip))
  (sQ (rG 0 [lT 0 47 6 2,o0 1 (.store 6 (.s 4) (.s 47))] [4])
  .ret))))) }
def c_roads_follow_l1 : CC := (sQ (rG 0 [bS 0 19 .lss 18 17] [19,18,17,4,16,2,5])
  (sQ (.cond (.s 19) .skip
  (.exit 0))
  (sQ (.block 1 (sQ (rG 0 [iA 0 20 1 16 18,lF 1 21 20,mS 2 7 21] [7,18,17,4,16,2,5])
  (sQ (rG 1 [fA 0 22 6 5,lF 1 23 22,fA 2 24 7 5,lF 3 25 24,o1 4 26 (.lit 0 1 [[(I 0)]] [(0,(.s 25))]),o1 5 27 (.append 1 8 (.s 23) (.s 26)),fA 6 28 6 5,o0 7 (.store 1 (.s 28) (.s 27))] [7,18,17,4,16,2,5])
  (.region 0 [fA 0 29 7 5,mS 3 32 7,lF 1 30 29,lT 2 31 5 2,cA 4 33 209 [(.s 31),(.s 32)],bS 5 34 .add 30 33,fA 6 35 7 5,o0 7 (.store 1 (.s 35) (.s 34))] [(2,4)] (some [18,17,4,16,2,5])))))
  (rG 0 [bI 0 36 .add 18 1,mS 1 18 36] [18,17,4,16,2,5]))))
def c_roads_follow : CFn := { frz := true,rnd := none,nargs := 2,ntmps := 38,res := [(.cell 4 true 8)],code :=
  (sQ (rG 2 [o1 0 2 (.box 0 5 (.s 0)),o1 1 4 (.box 1 8 (.k (.a [(I 0),.nilslice,.nilslice,.nilslice,.nilslice,.nilslice,.nilslice,(I 0)])))] [2,1,4])
  (sQ (sQ (rG 0 [lT 0 8 5 2,mS 1 9 1,cA 2 10 111 [(.s 8),(.s 9)],bI 3 11 .neq 10 0] [11,2,1,4])
  (.cond (.s 11) (sQ (rG 0 [o1 0 12 (.build [(I 0),.nilslice,.nilslice,.nilslice,.nilslice,.nilslice,.nilslice,(I 0)] []),o0 1 (.store 8 (.s 4) (.s 12))] [4])
  .ret)
  .skip))
  (sQ (rG 1 [lT 0 13 5 2,mS 1 14 1,o1 2 15 (.build [(I 0),.nilslice,.nilslice,.nilslice,.nilslice,.nilslice,.nilslice,(I 0)] [(0,5,(.s 13)),(5,1,(.s 14))]),o1 3 5 (.box 0 8 (.k (.a [(I 0),.nilslice,.nilslice,.nilslice,.nilslice,.nilslice,.nilslice,(I 0)]))),o0 4 (.store 8 (.s 5) (.s 15))] [1,4,2,5])
  (sQ (sQ (rG 0 [mS 0 16 1,lN 1 17 16,mI 2 18 0] [18,17,4,16,2,5])
  (.block 0 (.loop (some [18,17,4,16,2,5]) c_roads_follow_l1)))
  (sQ (rG 0 [lT 0 37 8 5,o0 1 (.store 8 (.s 4) (.s 37))] [4])
  .ret))))) }
abbrev f_roads_within : Nat := 223
def c_roads_within : CFn := { frz := true,rnd := none,nargs := 3,ntmps := 15,res := [(.slot 6)],code :=
  (sQ (rG 0 [mB 0 6 false] [1,0,2])
  (sQ (rG 0 [mS 0 7 1,mS 1 8 0,bS 2 9 .leq 7 8,mS 3 10 9,oG 4 11 10 true (.mv (.s 0)),oG 5 12 10 true (.mv (.s 2)),oG 6 13 10 true (.bin .leq (.s 11) (.s 12)),o1 7 14 (.pick (.s 10) (.s 13) (kB false)),mS 8 6 14] [6])
  .ret)) }
def c_curve_Check_l1 : CC := (sQ (rG 0 [bS 0 28 .lss 27 26] [28,3,1,26,27])
  (sQ (.cond (.s 28) .skip
  (.exit 1))
  (sQ (.block 2 (sQ (rG 0 [mS 0 29 27,mS 1 4 29] [4,3,1,26,27])
  (sQ (.region 1 [fA 0 30 0 1,mS 2 32 4,fA 5 35 0 1,mS 7 37 4,bI 8 38 .add 37 1,lF 1 31 30,iA 3 33 2 31 32,lT 4 34 2 33,lF 6 36 35,iA 9 39 2 36 38,lT 10 40 2 39,cA 11 41 231 [(.s 34),(.s 40)],o1 12 5 (.box 0 2 (.k (.a [(I 0),(I 0)]))),o0 13 (.store 2 (.s 5) (.s 41))] [(5,12),(7,12),(8,12),(10,12),(11,12)] (some [4,3,1,26,27,5]))
  (sQ (rG 0 [lT 0 43 2 5,lT 1 44 2 5,cA 2 45 232 [(.s 43),(.s 44)],cA 3 46 271 [(.s 45)],mS 4 42 46,eX 5 47 42 0,eX 6 48 42 1,mS 7 6 47,mS 8 7 48] [7,4,3,1,26,27,5,6])
  (sQ (.block 3 (sQ (rG 0 [mS 0 50 7,o1 1 51 (.un .not (.s 50)),mS 2 49 51] [49,4,3,1,26,27,5,6])
  (.cond (.s 49) (sQ (rG 0 [mI 0 2 3] [2])
  .ret)
  (sQ (rG 0 [mS 0 53 6,bI 1 54 .lss 53 1000,mS 2 55 54,oG 3 56 55 false (.mv (.s 6)),oG 4 57 55 false (.bin .gtr (.s 56) (kI 1048576)),o1 5 58 (.pick (.s 55) (kB true) (.s 57)),mS 6 52 58] [52,5,27,26,1,3,4])
  (.cond (.s 52) (sQ (rG 0 [mI 0 2 2] [2])
  .ret)
  (sQ (rG 0 [mS 0 60 4,bI 1 61 .gtr 60 0,mS 2 62 61,oG 3 63 62 true (.load true 2 (.s 3)),oG 4 64 62 true (.load true 2 (.s 5)),⟨5,(some 65),(some (62,true)),.call ⟨true⟩ (.k (.c (.fn 232 [] []))) [(.s 63),(.s 64)]⟩,oG 6 66 62 true (.bin .leq (.s 65) (kI 0)),o1 7 67 (.pick (.s 62) (.s 66) (kB false)),mS 8 59 67] [59,3,1,26,27,5])
  (.cond (.s 59) (sQ (rG 0 [mI 0 2 12] [2])
  .ret)
  .skip)))))))
  (rG 0 [lT 0 68 2 5,o0 1 (.store 2 (.s 3) (.s 68))] [27,26,1,3]))))))
  (rG 0 [bI 0 69 .add 27 1,mS 1 27 69] [26,1,3,27]))))
abbrev f_curve_Check : Nat := 224
def c_curve_Check : CFn := { frz := true,rnd := none,nargs := 1,ntmps := 70,res := [(.slot 2)],code :=
  (sQ (rG 1 [o1 0 1 (.box 0 1 (.s 0)),mI 1 2 0] [1])
  (sQ (.block 0 (sQ (rG 0 [fA 0 9 0 1,lF 1 10 9,lN 2 11 10,bI 3 12 .lss 11 2,mS 4 8 12] [8,1])
  (.cond (.s 8) (sQ (rG 0 [mI 0 2 6] [2])
  .ret)
  (sQ (rG 0 [fA 0 14 0 1,lF 1 15 14,lN 2 16 15,bI 3 17 .gtr 16 16,mS 4 13 17] [13,1])
  (.cond (.s 13) (sQ (rG 0 [mI 0 2 5] [2])
  .ret)
  (sQ (rG 0 [fA 0 19 0 1,lF 1 20 19,cA 2 21 229 [(.s 20)],o1 3 22 (.un .not (.s 21)),mS 4 18 22] [18,1])
  (.cond (.s 18) (sQ (rG 0 [mI 0 2 2] [2])
  .ret)
  .skip)))))))
  (sQ (rG 1 [o1 0 3 (.box 0 2 (.k (.a [(I 0),(I 0)])))] [1,3])
  (sQ (sQ (rG 0 [fA 0 23 0 1,lF 1 24 23,lN 2 25 24,bI 3 26 .sub 25 1,mI 4 27 0] [26,1,3,27])
  (.block 1 (.loop (some [26,1,3,27]) c_curve_Check_l1)))
  (sQ (rG 0 [mI 0 2 0] [2])
  .ret))))) }
def c_roads_rising_l1 : CC := (sQ (rG 0 [bS 0 12 .lss 11 10] [12,1,2,9,10,11])
  (sQ (.cond (.s 12) .skip
  (.exit 0))
  (sQ (.block 1 (sQ (rG 0 [iA 0 13 1 9 11,lF 1 14 13,mS 2 8 14] [1,2,9,10,11,8])
  (sQ (sQ (rG 0 [mS 0 15 8,mS 1 16 1,bS 2 17 .lss 15 16,mS 3 18 17,oG 4 19 18 false (.mv (.s 8)),oG 5 20 18 false (.mv (.s 2)),oG 6 21 18 false (.bin .geq (.s 19) (.s 20)),o1 7 22 (.pick (.s 18) (kB true) (.s 21))] [22,2,9,10,11,8])
  (.cond (.s 22) (sQ (rG 0 [mB 0 6 false] [6])
  .ret)
  .skip))
  (rG 0 [mS 0 23 8,bI 1 24 .add 23 1,mS 2 1 24] [11,1,10,9,2]))))
  (rG 0 [bI 0 25 .add 11 1,mS 1 11 25] [1,10,9,2,11]))))
def c_roads_rising : CFn := { frz := true,rnd := none,nargs := 3,ntmps := 26,res := [(.slot 6)],code :=
  (sQ (rG 0 [mB 0 6 false] [0,1,2])
  (sQ (sQ (rG 0 [mS 0 9 0,lN 1 10 9,mI 2 11 0] [1,10,9,2,11])
  (.block 0 (.loop (some [1,10,9,2,11]) c_roads_rising_l1)))
  (sQ (rG 0 [mB 0 6 true] [6])
  .ret))) }
abbrev f_slices_ContainsFunc_Phase : Nat := 226
def c_slices_ContainsFunc_Phase : CFn := { frz := true,rnd := none,nargs := 2,ntmps := 9,res := [(.slot 4)],code :=
  (sQ (rG 0 [mB 0 4 false] [0,1])
  (sQ (rG 0 [mS 0 5 0,mS 1 6 1,cA 2 7 272 [(.s 5),(.s 6)],bI 3 8 .geq 7 0,mS 4 4 8] [4])
  .ret)) }
abbrev f_roads_check_signals_1 : Nat := 227
def c_roads_check_signals_1 : CFn := { frz := true,rnd := none,nargs := 1,ntmps := 7,res := [(.slot 2)],code :=
  (sQ (rG 1 [o1 0 1 (.box 0 2 (.s 0)),mB 1 2 false] [1])
  (sQ (rG 0 [fA 0 3 0 1,lF 1 4 3,cA 2 5 223 [(.s 4),(kI 1),(kI 10000)],o1 3 6 (.un .not (.s 5)),mS 4 2 6] [2])
  .ret)) }
abbrev f_roads_check_signals_2 : Nat := 228
def c_roads_check_signals_2 : CFn := { frz := true,rnd := none,nargs := 2,ntmps := 12,res := [(.slot 3)],code :=
  (sQ (rG 1 [o1 0 2 (.box 0 2 (.s 0)),mB 1 3 false] [2,1])
  (sQ (rG 0 [fA 0 4 1 2,lF 1 5 4,fA 2 6 0 1,fA 3 7 1 6,lF 4 8 7,lN 5 9 8,cA 6 10 225 [(.s 5),(kI 0),(.s 9)],o1 7 11 (.un .not (.s 10)),mS 8 3 11] [3])
  .ret)) }
def c_curve_fair_l1 : CC := (sQ (rG 0 [bS 0 8 .lss 7 6] [8,5,6,7])
  (sQ (.cond (.s 8) .skip
  (.exit 0))
  (sQ (.block 1 (sQ (rG 1 [iA 0 9 2 5 7,lT 1 10 2 9,o1 2 4 (.box 0 2 (.k (.a [(I 0),(I 0)]))),o0 3 (.store 2 (.s 4) (.s 10))] [4,5,6,7])
  (sQ (rG 0 [fA 0 11 0 4,lF 1 12 11,fA 2 13 1 4,lF 3 14 13,o1 4 15 (.minmax false [(.s 12),(.s 14)]),bI 5 16 .lss 15 (-16777216),mS 6 17 16,oG 7 18 17 false (.faddr 0 (.s 4)),oG 8 19 17 false (.load false 1 (.s 18)),oG 9 20 17 false (.faddr 1 (.s 4)),oG 10 21 17 false (.load false 1 (.s 20)),oG 11 22 17 false (.minmax true [(.s 19),(.s 21)]),oG 12 23 17 false (.bin .gtr (.s 22) (kI 16777216)),o1 13 24 (.pick (.s 17) (kB true) (.s 23))] [24,5,6,7])
  (.cond (.s 24) (sQ (rG 0 [mB 0 2 false] [2])
  .ret)
  .skip))))
  (rG 0 [bI 0 25 .add 7 1,mS 1 7 25] [6,5,7]))))
abbrev f_curve_fair : Nat := 229
def c_curve_fair : CFn := { frz := true,rnd := none,nargs := 1,ntmps := 26,res := [(.slot 2)],code :=
  (sQ (rG 0 [mB 0 2 false] [0])
  (sQ (sQ (rG 0 [mS 0 5 0,lN 1 6 5,mI 2 7 0] [6,5,7])
  (.block 0 (.loop (some [6,5,7]) c_curve_fair_l1)))
  (sQ (rG 0 [mB 0 2 true] [2])
  .ret))) }
abbrev f_curve_pieces : Nat := 230
def c_curve_pieces : CFn := { frz := true,rnd := none,nargs := 1,ntmps := 4,res := [(.slot 2)],code :=
  (sQ (rG 1 [o1 0 1 (.box 0 1 (.s 0)),o1 1 2 (.mv (.k (.c .nilfn)))] [1])
  (sQ (rG 0 [o1 0 3 (.mkfn 273 [] [(.s 1)]),mS 1 2 3] [2])
  .ret)) }
abbrev f_curve_from : Nat := 231
def c_curve_from : CFn := { frz := true,rnd := none,nargs := 2,ntmps := 16,res := [(.cell 4 true 2)],code :=
  (sQ (rG 3 [o1 0 2 (.box 0 2 (.s 0)),o1 1 3 (.box 1 2 (.s 1)),o1 2 4 (.box 2 2 (.k (.a [(I 0),(I 0)])))] [3,2,4])
  (sQ (rG 0 [fA 0 5 0 3,lF 1 6 5,fA 2 7 0 2,lF 3 8 7,bS 4 9 .sub 6 8,fA 5 10 1 3,lF 6 11 10,fA 7 12 1 2,lF 8 13 12,bS 9 14 .sub 11 13,o1 10 15 (.build [(I 0),(I 0)] [(0,1,(.s 9)),(1,1,(.s 14))]),o0 11 (.store 2 (.s 4) (.s 15))] [4])
  .ret)) }
abbrev f_curve_vector_dot : Nat := 232
def c_curve_vector_dot : CFn := { frz := true,rnd := none,nargs := 2,ntmps := 16,res := [(.slot 4)],code :=
  (sQ (rG 2 [o1 0 2 (.box 0 2 (.s 0)),o1 1 3 (.box 1 2 (.s 1)),mI 2 4 0] [2,3])
  (sQ (rG 0 [fA 0 5 0 2,lF 1 6 5,fA 2 7 0 3,lF 3 8 7,bS 4 9 .mul 6 8,fA 5 10 1 2,lF 6 11 10,fA 7 12 1 3,lF 8 13 12,bS 9 14 .mul 11 13,bS 10 15 .add 9 14,mS 11 4 15] [4])
  .ret)) }
abbrev f_curve_abs : Nat := 233
def c_curve_abs : CFn := { frz := true,rnd := none,nargs := 1,ntmps := 7,res := [(.slot 2)],code :=
  (sQ (rG 0 [mI 0 2 0] [0])
  (sQ (rG 0 [mS 0 3 0,mS 1 4 0,o1 2 5 (.un .neg (.s 4)),o1 3 6 (.minmax true [(.s 3),(.s 5)]),mS 4 2 6] [2])
  .ret)) }
abbrev f_curve_vector_cross : Nat := 234
def c_curve_vector_cross : CFn := { frz := true,rnd := none,nargs := 2,ntmps := 16,res := [(.slot 4)],code :=
  (sQ (rG 2 [o1 0 2 (.box 0 2 (.s 0)),o1 1 3 (.box 1 2 (.s 1)),mI 2 4 0] [2,3])
  (sQ (rG 0 [fA 0 5 0 2,lF 1 6 5,fA 2 7 1 3,lF 3 8 7,bS 4 9 .mul 6 8,fA 5 10 1 2,lF 6 11 10,fA 7 12 0 3,lF 8 13 12,bS 9 14 .mul 11 13,bS 10 15 .sub 9 14,mS 11 4 15] [4])
  .ret)) }
abbrev f_curve_floor : Nat := 235
def c_curve_floor : CFn := { frz := true,rnd := none,nargs := 2,ntmps := 16,res := [(.slot 4)],code :=
  (sQ (rG 0 [mI 0 4 0] [0,1])
  (sQ (rG 0 [mS 0 6 0,mS 1 7 1,bS 2 8 .quo 6 7,mS 3 5 8] [0,1,5])
  (sQ (sQ (rG 0 [mS 0 9 0,mS 1 10 1,bS 2 11 .rem 9 10,bI 3 12 .lss 11 0] [12,5])
  (.cond (.s 12) (rG 0 [mS 0 13 5,bI 1 14 .sub 13 1,mS 2 5 14] [5])
  .skip))
  (sQ (rG 0 [mS 0 15 5,mS 1 4 15] [4])
  .ret)))) }
def c_kerbstoneref01_Check_l1 : CC := (sQ (sQ (rG 0 [mS 0 15 3,fA 1 16 0 1,lF 2 17 16,lN 3 18 17,bS 4 19 .lss 15 18] [19,1,3])
  (.cond (.s 19) .skip
  (.exit 0)))
  (sQ (.block 1 (sQ (rG 0 [fA 0 22 0 1,lF 1 23 22,mS 2 24 3,iA 3 25 2 23 24,lT 4 26 2 25,cA 5 27 249 [(.s 26)],o1 6 28 (.un .not (.s 27))] [28,1,3])
  (.cond (.s 28) (sQ (rG 0 [mI 0 2 2] [2])
  .ret)
  .skip)))
  (rG 0 [mS 0 20 3,bI 1 21 .add 20 1,mS 2 3 21] [1,3])))
def c_kerbstoneref01_Check_l2 : CC := (sQ (sQ (rG 0 [mS 0 29 4,bI 1 30 .add 29 1,fA 2 31 0 1,lF 3 32 31,lN 4 33 32,bS 5 34 .lss 30 33] [34,1,4])
  (.cond (.s 34) .skip
  (.exit 2)))
  (sQ (.block 3 (sQ (.region 1 [fA 0 37 0 1,mS 2 39 4,bI 3 40 .add 39 1,fA 6 43 0 1,mS 8 45 4,lF 1 38 37,iA 4 41 2 38 40,lT 5 42 2 41,lF 7 44 43,iA 9 46 2 44 45,lT 10 47 2 46,cA 11 48 181 [(.s 42),(.s 47)],o1 12 5 (.box 0 2 (.k (.a [(I 0),(I 0)]))),o0 13 (.store 2 (.s 5) (.s 48))] [(5,12),(7,12),(8,12),(10,12),(11,12)] (some [5,1,4]))
  (sQ (rG 0 [lT 0 49 2 5,lT 1 50 2 5,cA 2 51 250 [(.s 49),(.s 50)],cA 3 52 255 [(.s 51)],mS 4 6 52] [5,1,4,6])
  (sQ (sQ (rG 0 [mS 0 53 6,mS 1 54 6,bS 2 55 .mul 53 54,lT 3 56 2 5,lT 4 57 2 5,cA 5 58 250 [(.s 56),(.s 57)],bS 6 59 .neq 55 58] [59,5,1,4,6])
  (.cond (.s 59) (sQ (rG 0 [mI 0 2 3] [2])
  .ret)
  .skip))
  (sQ (sQ (rG 0 [mS 0 60 6,bI 1 61 .lss 60 1000,mS 2 62 61,oG 3 63 62 false (.mv (.s 6)),oG 4 64 62 false (.bin .gtr (.s 63) (kI 1048576)),o1 5 65 (.pick (.s 62) (kB true) (.s 64))] [65,4,1,5])
  (.cond (.s 65) (sQ (rG 0 [mI 0 2 2] [2])
  .ret)
  .skip))
  (sQ (.region 0 [mS 0 66 4,bI 1 67 .gtr 66 0,mS 2 68 67,oG 4 70 68 true (.faddr 0 (.s 1)),oG 6 72 68 true (.mv (.s 4)),oG 9 75 68 true (.faddr 0 (.s 1)),oG 11 77 68 true (.mv (.s 4)),oG 12 78 68 true (.bin .sub (.s 77) (kI 1)),oG 3 69 68 true (.load true 2 (.s 5)),oG 5 71 68 true (.load false 1 (.s 70)),oG 7 73 68 true (.iaddr 2 (.s 71) (.s 72)),oG 8 74 68 true (.load true 2 (.s 73)),oG 10 76 68 true (.load false 1 (.s 75)),oG 13 79 68 true (.iaddr 2 (.s 76) (.s 78)),oG 14 80 68 true (.load true 2 (.s 79)),⟨15,(some 81),(some (68,true)),.call ⟨true⟩ (.k (.c (.fn 181 [] []))) [(.s 74),(.s 80)]⟩,⟨16,(some 82),(some (68,true)),.call ⟨true⟩ (.k (.c (.fn 250 [] []))) [(.s 69),(.s 81)]⟩,oG 17 83 68 true (.bin .leq (.s 82) (kI 0)),o1 18 84 (.pick (.s 68) (.s 83) (kB false))] [(8,15)] (some [84,1,4]))
  (.cond (.s 84) (sQ (rG 0 [mI 0 2 12] [2])
  .ret)
  .skip)))))))
  (rG 0 [mS 0 35 4,bI 1 36 .add 35 1,mS 2 4 36] [1,4])))
abbrev f_kerbstoneref01_Check : Nat := 246
def c_kerbstoneref01_Check : CFn := { frz := true,rnd := none,nargs := 1,ntmps := 85,res := [(.slot 2)],code :=
  (sQ (rG 1 [o1 0 1 (.box 0 1 (.s 0)),mI 1 2 0] [1])
  (sQ (sQ (rG 0 [fA 0 7 0 1,lF 1 8 7,lN 2 9 8,bI 3 10 .lss 9 2] [10,1])
  (.cond (.s 10) (sQ (rG 0 [mI 0 2 6] [2])
  .ret)
  .skip))
  (sQ (sQ (rG 0 [fA 0 11 0 1,lF 1 12 11,lN 2 13 12,bI 3 14 .gtr 13 16] [14,1])
  (.cond (.s 14) (sQ (rG 0 [mI 0 2 5] [2])
  .ret)
  .skip))
  (sQ (sQ (rG 0 [mI 0 3 0] [1,3])
  (.block 0 (.loop (some [1,3]) c_kerbstoneref01_Check_l1)))
  (sQ (sQ (rG 0 [mI 0 4 0] [1,4])
  (.block 2 (.loop (some [1,4]) c_kerbstoneref01_Check_l2)))
  (sQ (rG 0 [mI 0 2 0] [2])
  .ret)))))) }
def c_kerbstoneref03_ordered_l1 : CC := (sQ (sQ (rG 0 [mS 0 8 7,mS 1 9 0,lN 2 10 9,bS 3 11 .lss 8 10] [11,0,2,1,7])
  (.cond (.s 11) .skip
  (.exit 0)))
  (sQ (.block 1 (sQ (rG 0 [mS 0 14 0,mS 1 15 7,iA 2 16 1 14 15,mS 4 18 1,lF 3 17 16,bS 5 19 .lss 17 18,mS 6 20 19,oG 7 21 20 false (.mv (.s 0)),oG 8 22 20 false (.mv (.s 7)),oG 9 23 20 false (.iaddr 1 (.s 21) (.s 22)),oG 11 25 20 false (.mv (.s 2)),oG 10 24 20 false (.load false 1 (.s 23)),oG 12 26 20 false (.bin .geq (.s 24) (.s 25)),o1 13 27 (.pick (.s 20) (kB true) (.s 26)),mS 14 28 27,oG 15 29 28 false (.mv (.s 7)),oG 16 30 28 false (.bin .gtr (.s 29) (kI 0)),oG 17 31 28 false (.mv (.s 30)),oG 18 32 31 true (.mv (.s 0)),oG 19 33 31 true (.mv (.s 7)),oG 20 34 31 true (.iaddr 1 (.s 32) (.s 33)),oG 22 36 31 true (.mv (.s 0)),oG 23 37 31 true (.mv (.s 7)),oG 24 38 31 true (.bin .sub (.s 37) (kI 1)),oG 25 39 31 true (.iaddr 1 (.s 36) (.s 38)),oG 21 35 31 true (.load false 1 (.s 34)),oG 26 40 31 true (.load false 1 (.s 39)),oG 27 41 31 true (.bin .leq (.s 35) (.s 40)),oG 28 42 28 false (.pick (.s 31) (.s 41) (kB false)),o1 29 43 (.pick (.s 28) (kB true) (.s 42))] [43,0,2,1,7])
  (.cond (.s 43) (sQ (rG 0 [mB 0 6 false] [6])
  .ret)
  .skip)))
  (rG 0 [mS 0 12 7,bI 1 13 .add 12 1,mS 2 7 13] [1,2,0,7])))
def c_kerbstoneref03_ordered : CFn := { frz := true,rnd := none,nargs := 3,ntmps := 44,res := [(.slot 6)],code :=
  (sQ (rG 0 [mB 0 6 false] [1,2,0])
  (sQ (sQ (rG 0 [mI 0 7 0] [1,2,0,7])
  (.block 0 (.loop (some [1,2,0,7]) c_kerbstoneref03_ordered_l1)))
  (sQ (rG 0 [mB 0 6 true] [6])
  .ret))) }
def c_kerbstoneref01_Length_l1 : CC := (sQ (sQ (rG 0 [mS 0 8 5,mS 1 9 4,lN 2 10 9,bS 3 11 .lss 8 10] [11,3,5,4])
  (.cond (.s 11) .skip
  (.exit 0)))
  (sQ (.block 1 (rG 0 [mS 0 14 3,mS 1 15 4,mS 2 16 5,iA 3 17 1 15 16,lF 4 18 17,bS 5 19 .add 14 18,mS 6 3 19] [5,3,4]))
  (rG 0 [mS 0 12 5,bI 1 13 .add 12 1,mS 2 5 13] [3,5,4])))
abbrev f_kerbstoneref01_Length : Nat := 248
def c_kerbstoneref01_Length : CFn := { frz := true,rnd := none,nargs := 1,ntmps := 21,res := [(.slot 2)],code :=
  (sQ (rG 1 [o1 0 1 (.box 0 1 (.s 0)),mI 1 2 0] [1])
  (sQ (rG 0 [mI 0 3 0] [1,3])
  (sQ (rG 0 [lT 0 6 1 1,cA 1 7 179 [(.s 6)],mS 2 4 7] [3,4])
  (sQ (sQ (rG 0 [mI 0 5 0] [3,5,4])
  (.block 0 (.loop (some [3,5,4]) c_kerbstoneref01_Length_l1)))
  (sQ (rG 0 [mS 0 20 3,mS 1 2 20] [2])
  .ret))))) }
abbrev f_kerbstoneref01_Valid : Nat := 249
def c_kerbstoneref01_Valid : CFn := { frz := true,rnd := none,nargs := 1,ntmps := 21,res := [(.slot 2)],code :=
  (sQ (rG 1 [o1 0 1 (.box 0 2 (.s 0)),mB 1 2 false] [1])
  (sQ (rG 0 [fA 0 3 0 1,lF 1 4 3,bI 2 5 .geq 4 (-16777216),mS 3 6 5,oG 4 7 6 true (.faddr 0 (.s 1)),oG 5 8 6 true (.load false 1 (.s 7)),oG 6 9 6 true (.bin .leq (.s 8) (kI 16777216)),o1 7 10 (.pick (.s 6) (.s 9) (kB false)),mS 8 11 10,oG 9 12 11 true (.faddr 1 (.s 1)),oG 10 13 11 true (.load false 1 (.s 12)),oG 11 14 11 true (.bin .geq (.s 13) (kI (-16777216))),o1 12 15 (.pick (.s 11) (.s 14) (kB false)),mS 13 16 15,oG 14 17 16 true (.faddr 1 (.s 1)),oG 15 18 16 true (.load false 1 (.s 17)),oG 16 19 16 true (.bin .leq (.s 18) (kI 16777216)),o1 17 20 (.pick (.s 16) (.s 19) (kB false)),mS 18 2 20] [2])
  .ret)) }
abbrev f_kerbstoneref01_Dot : Nat := 250
def c_kerbstoneref01_Dot : CFn := { frz := true,rnd := none,nargs := 2,ntmps := 16,res := [(.slot 4)],code :=
  (sQ (rG 2 [o1 0 2 (.box 0 2 (.s 0)),o1 1 3 (.box 1 2 (.s 1)),mI 2 4 0] [2,3])
  (sQ (rG 0 [fA 0 5 0 2,lF 1 6 5,fA 2 7 0 3,lF 3 8 7,bS 4 9 .mul 6 8,fA 5 10 1 2,lF 6 11 10,fA 7 12 1 3,lF 8 13 12,bS 9 14 .mul 11 13,bS 10 15 .add 9 14,mS 11 4 15] [4])
  .ret)) }
abbrev f_kerbstoneref01_Cross : Nat := 251
def c_kerbstoneref01_Cross : CFn := { frz := true,rnd := none,nargs := 2,ntmps := 16,res := [(.slot 4)],code :=
  (sQ (rG 2 [o1 0 2 (.box 0 2 (.s 0)),o1 1 3 (.box 1 2 (.s 1)),mI 2 4 0] [2,3])
  (sQ (rG 0 [fA 0 5 0 2,lF 1 6 5,fA 2 7 1 3,lF 3 8 7,bS 4 9 .mul 6 8,fA 5 10 1 2,lF 6 11 10,fA 7 12 0 3,lF 8 13 12,bS 9 14 .mul 11 13,bS 10 15 .sub 9 14,mS 11 4 15] [4])
  .ret)) }
def c_kerbstoneref01_root_l1 : CC := (sQ (sQ (rG 0 [mS 0 5 4,bI 1 6 .gtr 5 0] [6,3,4,0])
  (.cond (.s 6) .skip
  (.exit 0)))
  (sQ (.block 1 (sQ (rG 0 [mS 0 9 3,mS 1 10 4,bS 2 11 .add 9 10,mS 3 12 3,mS 4 13 4,bS 5 14 .add 12 13,bS 6 15 .mul 11 14,mS 7 16 0,bS 8 17 .leq 15 16] [17,3,4,0])
  (.cond (.s 17) (rG 0 [mS 0 18 3,mS 1 19 4,bS 2 20 .add 18 19,mS 3 3 20] [4,3,0])
  .skip)))
  (rG 0 [mS 0 7 4,bI 1 8 .quo 7 2,mS 2 4 8] [3,4,0])))
abbrev f_kerbstoneref01_root : Nat := 255
def c_kerbstoneref01_root : CFn := { frz := true,rnd := none,nargs := 1,ntmps := 22,res := [(.slot 2)],code :=
  (sQ (rG 0 [mI 0 2 0] [0])
  (sQ (rG 0 [mI 0 3 0] [3,0])
  (sQ (sQ (rG 0 [mI 0 4 67108864] [3,4,0])
  (.block 0 (.loop (some [3,4,0]) c_kerbstoneref01_root_l1)))
  (sQ (rG 0 [mS 0 21 3,mS 1 2 21] [2])
  .ret)))) }
def c_curve_Length_l1 : CC := (sQ (rG 0 [bS 0 10 .lss 9 8] [10,3,9,8,7])
  (sQ (.cond (.s 10) .skip
  (.exit 0))
  (sQ (.block 1 (sQ (rG 0 [iA 0 11 1 7 9,lF 1 12 11,mS 2 5 12] [3,5,9,8,7])
  (rG 0 [mS 0 13 3,mS 1 14 5,bS 2 15 .add 13 14,mS 3 3 15] [9,3,8,7])))
  (rG 0 [bI 0 16 .add 9 1,mS 1 9 16] [3,9,8,7]))))
abbrev f_curve_Length : Nat := 268
def c_curve_Length : CFn := { frz := true,rnd := none,nargs := 1,ntmps := 18,res := [(.slot 2)],code :=
  (sQ (rG 1 [o1 0 1 (.box 0 1 (.s 0)),mI 1 2 0] [1])
  (sQ (rG 0 [mI 0 3 0] [1,3])
  (sQ (sQ (rG 0 [lT 0 6 1 1,cA 1 7 292 [(.s 6)],lN 2 8 7,mI 3 9 0] [3,9,8,7])
  (.block 0 (.loop (some [3,9,8,7]) c_curve_Length_l1)))
  (sQ (rG 0 [mS 0 17 3,mS 1 2 17] [2])
  .ret)))) }
def c_slices_stableCmpFunc_Blob_l1 : CC := (sQ (sQ (rG 0 [mS 0 11 8,mS 1 12 1,bS 2 13 .leq 11 12] [13,7,8,1,0,2,6])
  (.cond (.s 13) .skip
  (.exit 0)))
  (.block 1 (sQ (rG 0 [mS 0 14 0,mS 1 15 7,mS 2 16 8,mS 3 17 2,⟨4,(some 18),none,.call ⟨false⟩ (.k (.c (.fn 293 [] []))) [(.s 14),(.s 15),(.s 16),(.s 17)]⟩] [8,1,0,2,6])
  (sQ (rG 0 [mS 0 19 8,mS 1 7 19] [8,7,1,0,2,6])
  (rG 0 [mS 0 20 8,mS 1 21 6,bS 2 22 .add 20 21,mS 3 8 22] [7,8,1,0,2,6])))))
def c_slices_stableCmpFunc_Blob_l2 : CC := (sQ (sQ (rG 0 [mS 0 33 8,mS 1 34 1,bS 2 35 .leq 33 34] [35,7,8,1,0,2,6])
  (.cond (.s 35) .skip
  (.exit 4)))
  (.block 5 (sQ (rG 0 [mS 0 36 0,mS 1 37 7,mS 2 38 7,mS 3 39 6,bS 4 40 .add 38 39,mS 5 41 8,mS 6 42 2,⟨7,(some 43),none,.call ⟨false⟩ (.k (.c (.fn 294 [] []))) [(.s 36),(.s 37),(.s 40),(.s 41),(.s 42)]⟩] [8,1,0,2,6])
  (sQ (rG 0 [mS 0 44 8,mS 1 7 44] [8,7,1,0,2,6])
  (rG 0 [mS 0 45 8,mS 1 46 6,o1 2 47 (.bin .mul (kI 2) (.s 46)),bS 3 48 .add 45 47,mS 4 8 48] [7,8,1,0,2,6])))))
def c_slices_stableCmpFunc_Blob_l3 : CC := (sQ (sQ (rG 0 [mS 0 28 6,mS 1 29 1,bS 2 30 .lss 28 29] [30,1,0,2,6])
  (.cond (.s 30) .skip
  (.exit 2)))
  (.block 3 (sQ (rG 0 [mS 0 31 6,o1 1 32 (.bin .mul (kI 2) (.s 31)),mI 2 7 0,mS 3 8 32] [7,8,1,0,2,6])
  (sQ (.block 4 (.loop (some [7,8,1,0,2,6]) c_slices_stableCmpFunc_Blob_l2))
  (sQ (sQ (rG 0 [mS 0 49 7,mS 1 50 6,bS 2 51 .add 49 50,mS 3 9 51] [7,9,6,1,0,2])
  (sQ (rG 0 [mS 0 52 9,mS 1 53 1,bS 2 54 .lss 52 53] [54,7,9,6,1,0,2])
  (.cond (.s 54) (rG 0 [mS 0 55 0,mS 1 56 7,mS 2 57 9,mS 3 58 1,mS 4 59 2,⟨5,(some 60),none,.call ⟨false⟩ (.k (.c (.fn 294 [] []))) [(.s 55),(.s 56),(.s 57),(.s 58),(.s 59)]⟩] [6,1,0,2])
  .skip)))
  (rG 0 [mS 0 61 6,bI 1 62 .mul 61 2,mS 2 6 62] [1,0,2,6]))))))
abbrev f_slices_stableCmpFunc_Blob : Nat := 269
def c_slices_stableCmpFunc_Blob : CFn := { frz := true,rnd := none,nargs := 3,ntmps := 63,res := [],code :=
  (sQ (rG 0 [mI 0 6 20] [1,0,2,6])
  (sQ (rG 0 [mS 0 10 6,mI 1 7 0,mS 2 8 10] [7,8,1,0,2,6])
  (sQ (.block 0 (.loop (some [7,8,1,0,2,6]) c_slices_stableCmpFunc_Blob_l1))
  (sQ (rG 0 [mS 0 23 0,mS 1 24 7,mS 2 25 1,mS 3 26 2,⟨4,(some 27),none,.call ⟨false⟩ (.k (.c (.fn 293 [] []))) [(.s 23),(.s 24),(.s 25),(.s 26)]⟩] [1,0,2,6])
  (.block 2 (.loop (some [1,0,2,6]) c_slices_stableCmpFunc_Blob_l3)))))) }
abbrev f_cmp_isNaN_int : Nat := 270
def c_cmp_isNaN_int : CFn := { frz := true,rnd := none,nargs := 1,ntmps := 6,res := [(.slot 2)],code :=
  (sQ (rG 0 [mB 0 2 false] [0])
  (sQ (rG 0 [mS 0 3 0,mS 1 4 0,bS 2 5 .neq 3 4,mS 3 2 5] [2])
  .ret)) }
def c_curve_root_l1 : CC := (sQ (sQ (rG 0 [mS 0 7 4,mS 1 8 5,bS 2 9 .lss 7 8] [9,4,5,0])
  (.cond (.s 9) .skip
  (.exit 0)))
  (.block 1 (sQ (rG 0 [mS 0 10 4,mS 1 11 5,bS 2 12 .add 10 11,bI 3 13 .quo 12 2,mS 4 6 13] [4,6,5,0])
  (sQ (rG 0 [mS 0 14 6,mS 1 15 6,bS 2 16 .mul 14 15,mS 3 17 0,bS 4 18 .lss 16 17] [18,4,6,5,0])
  (.cond (.s 18) (rG 0 [mS 0 19 6,bI 1 20 .add 19 1,mS 2 4 20] [4,5,0])
  (rG 0 [mS 0 21 6,mS 1 5 21] [4,5,0]))))))
abbrev f_curve_root : Nat := 271
def c_curve_root : CFn := { frz := true,rnd := none,nargs := 1,ntmps := 28,res := [(.slot 2),(.slot 3)],code :=
  (sQ (rG 0 [mI 0 2 0,mB 1 3 false] [0])
  (sQ (rG 0 [mI 0 4 0,mI 1 5 67108864] [4,5,0])
  (sQ (.block 0 (.loop (some [4,5,0]) c_curve_root_l1))
  (sQ (rG 0 [mS 0 22 4,mS 1 23 4,mS 2 24 4,bS 3 25 .mul 23 24,mS 4 26 0,bS 5 27 .eql 25 26,mS 6 2 22,mS 7 3 27] [2,3])
  .ret)))) }
def c_slices_IndexFunc_Phase_l1 : CC := (sQ (rG 0 [bS 0 9 .lss 8 7] [9,0,1,7,8])
  (sQ (.cond (.s 9) .skip
  (.exit 0))
  (sQ (.block 1 (sQ (rG 0 [mS 0 10 8,mS 1 5 10] [0,1,7,8,5])
  (sQ (rG 0 [mS 0 11 1,mS 1 12 0,mS 2 13 5,iA 3 14 2 12 13,lT 4 15 2 14,⟨5,(some 16),none,.call ⟨true⟩ (.s 11) [(.s 15)]⟩] [16,0,1,7,8,5])
  (.cond (.s 16) (sQ (rG 0 [mS 0 17 5,mS 1 4 17] [4])
  .ret)
  .skip))))
  (rG 0 [bI 0 18 .add 8 1,mS 1 8 18] [7,1,0,8]))))
def c_slices_IndexFunc_Phase : CFn := { frz := true,rnd := none,nargs := 2,ntmps := 19,res := [(.slot 4)],code :=
  (sQ (rG 0 [mI 0 4 0] [1,0])
  (sQ (sQ (rG 0 [mS 0 6 0,lN 1 7 6,mI 2 8 0] [7,1,0,8])
  (.block 0 (.loop (some [7,1,0,8]) c_slices_IndexFunc_Phase_l1)))
  (sQ (rG 0 [mI 0 4 (-1)] [4])
  .ret))) }
def c_curve_pieces_1_l1 : CC := (sQ (rG 0 [bS 0 13 .lss 12 11] [13,1,0,11,12,3])
  (sQ (.cond (.s 13) .skip
  (.exit 0))
  (sQ (.block 1 (sQ (rG 0 [mS 0 14 12,mS 1 4 14] [4,1,0,11,12,3])
  (sQ (.region 1 [fA 0 15 0 1,mS 2 17 4,fA 5 20 0 1,mS 7 22 4,bI 8 23 .add 22 1,lF 1 16 15,iA 3 18 2 16 17,lT 4 19 2 18,lF 6 21 20,iA 9 24 2 21 23,lT 10 25 2 24,cA 11 26 231 [(.s 19),(.s 25)],o1 12 5 (.box 0 2 (.k (.a [(I 0),(I 0)]))),o0 13 (.store 2 (.s 5) (.s 26))] [(5,12),(7,12),(8,12),(10,12),(11,12)] (some [4,5,1,0,11,12,3]))
  (sQ (rG 0 [lT 0 28 2 5,lT 1 29 2 5,cA 2 30 232 [(.s 28),(.s 29)],cA 3 31 271 [(.s 30)],mS 4 27 31,eX 5 32 27 0,eX 6 33 27 1,mS 7 6 32,mS 8 7 33] [4,5,1,0,11,12,6,3])
  (sQ (sQ (rG 0 [mS 0 34 0,mS 1 35 4,fA 2 36 0 1,mS 4 38 4,mS 8 42 6,mS 9 43 3,lF 3 37 36,iA 5 39 2 37 38,lT 6 40 2 39,lT 7 41 2 5,o1 10 44 (.build [(I 0),(I 0),(I 0),(I 0),(I 0),(I 0)] [(0,2,(.s 40)),(2,2,(.s 41)),(4,1,(.s 42)),(5,1,(.s 43))]),⟨11,(some 45),none,.call ⟨true⟩ (.s 34) [(.s 35),(.s 44)]⟩,o1 12 46 (.un .not (.s 45))] [46,1,0,11,12,6,3])
  (.cond (.s 46) .ret
  .skip))
  (rG 0 [mS 0 47 3,mS 1 48 6,bS 2 49 .add 47 48,mS 3 3 49] [12,11,0,1,3]))))))
  (rG 0 [bI 0 50 .add 12 1,mS 1 12 50] [11,0,1,12,3]))))
abbrev f_curve_pieces_1 : Nat := 273
def c_curve_pieces_1 : CFn := { frz := true,rnd := none,nargs := 2,ntmps := 51,res := [],code :=
  (sQ (rG 0 [mI 0 3 0] [0,1,3])
  (sQ (rG 0 [fA 0 8 0 1,lF 1 9 8,lN 2 10 9,bI 3 11 .sub 10 1,mI 4 12 0] [11,0,1,12,3])
  (.block 0 (.loop (some [11,0,1,12,3]) c_curve_pieces_1_l1)))) }
def c_curve_Pieces : CFn := { frz := true,rnd := none,nargs := 1,ntmps := 19,res := [(.slot 2)],code :=
  (sQ (rG 2 [o1 0 1 (.box 0 1 (.s 0)),o1 1 2 (.newsl 1 1)] [2,1])
  (sQ (sQ (rG 0 [lT 0 6 1 1,cA 1 7 224 [(.s 6)],bI 2 8 .neq 7 0] [8,2,1])
  (.cond (.s 8) (sQ (rG 1 [o1 0 2 (.newsl 0 1)] [2])
  .ret)
  .skip))
  (sQ (rG 1 [o1 0 3 (.box 0 1 (.k (.a [.nilslice])))] [1,2,3])
  (sQ (sQ (rG 0 [lT 0 9 1 1,cA 1 10 230 [(.s 9)]] [2,10,3])
  (.block 0 (.rng (.s 10) 5006 [3])))
  (sQ (rG 0 [lF 0 18 3,mS 1 2 18] [2])
  .ret))))) }
def c_curve_Pieces_r1 : CFn := { frz := false,rnd := (some ([11,12],(rG 1 [o1 0 5 (.box 0 6 (.k (.a [(I 0),(I 0),(I 0),(I 0),(I 0),(I 0)]))),o0 1 (.store 6 (.s 5) (.s 12))] [5,3]))),nargs := 3,ntmps := 19,res := [],code :=
  (.block 1 (rG 1 [lF 0 13 3,fA 1 14 4 5,lF 2 15 14,o1 3 16 (.lit 0 1 [[(I 0)]] [(0,(.s 15))]),o1 4 17 (.append 1 8 (.s 13) (.s 16)),o0 5 (.store 1 (.s 3) (.s 17))] [])) }
def c_slices_insertionSortCmpFunc_Blob_l1 : CC := (sQ (sQ (rG 0 [mS 0 18 9,mS 1 19 1,bS 2 20 .gtr 18 19,mS 3 21 20,oG 4 22 21 true (.mv (.s 3)),oG 5 23 21 true (.mv (.s 0)),oG 6 24 21 true (.mv (.s 9)),oG 7 25 21 true (.iaddr 6 (.s 23) (.s 24)),oG 9 27 21 true (.mv (.s 0)),oG 10 28 21 true (.mv (.s 9)),oG 11 29 21 true (.bin .sub (.s 28) (kI 1)),oG 12 30 21 true (.iaddr 6 (.s 27) (.s 29)),oG 8 26 21 true (.load true 6 (.s 25)),oG 13 31 21 true (.load true 6 (.s 30)),⟨14,(some 32),(some (21,true)),.call ⟨true⟩ (.s 22) [(.s 26),(.s 31)]⟩,oG 15 33 21 true (.bin .lss (.s 32) (kI 0)),o1 16 34 (.pick (.s 21) (.s 33) (kB false))] [34,9,3,1,2,8,0])
  (.cond (.s 34) .skip
  (.exit 2)))
  (sQ (.block 3 (rG 0 [mS 0 37 0,mS 1 38 9,mS 2 39 0,mS 3 40 9,bI 4 41 .sub 40 1,mS 5 42 0,mS 6 43 9,bI 7 44 .sub 43 1,iA 8 45 6 42 44,mS 10 47 0,mS 11 48 9,iA 12 49 6 47 48,lT 9 46 6 45,lT 13 50 6 49,iA 14 51 6 37 38,o0 15 (.store 6 (.s 51) (.s 46)),iA 16 52 6 39 41,o0 17 (.store 6 (.s 52) (.s 50))] [9,3,1,2,8,0]))
  (rG 0 [mS 0 35 9,bI 1 36 .sub 35 1,mS 2 9 36] [9,3,1,2,8,0])))
def c_slices_insertionSortCmpFunc_Blob_l2 : CC := (sQ (sQ (rG 0 [mS 0 12 8,mS 1 13 2,bS 2 14 .lss 12 13] [14,3,1,2,8,0])
  (.cond (.s 14) .skip
  (.exit 0)))
  (sQ (.block 1 (sQ (rG 0 [mS 0 17 8,mS 1 9 17] [9,3,1,2,8,0])
  (.block 2 (.loop (some [9,3,1,2,8,0]) c_slices_insertionSortCmpFunc_Blob_l1))))
  (rG 0 [mS 0 15 8,bI 1 16 .add 15 1,mS 2 8 16] [2,1,3,8,0])))
abbrev f_slices_insertionSortCmpFunc_Blob : Nat := 293
def c_slices_insertionSortCmpFunc_Blob : CFn := { frz := true,rnd := none,nargs := 4,ntmps := 53,res := [],code :=
  (sQ (rG 0 [mS 0 10 1,bI 1 11 .add 10 1,mS 2 8 11] [2,1,3,8,0])
  (.block 0 (.loop (some [2,1,3,8,0]) c_slices_insertionSortCmpFunc_Blob_l2))) }
def c_slices_symMergeCmpFunc_Blob_l1 : CC := (sQ (sQ (rG 0 [mS 0 31 10,mS 1 32 11,bS 2 33 .lss 31 32] [33,10,11,4,0,1])
  (.cond (.s 33) .skip
  (.exit 0)))
  (.block 1 (sQ (rG 0 [mS 0 34 10,mS 1 35 11,bS 2 36 .add 34 35,o1 3 37 (.conv .u64 (.s 36)),o1 4 38 (.bin .shr (.s 37) (.k (.c (.int .u64 1)))),o1 5 39 (.conv .i64 (.s 38)),mS 6 12 39] [10,12,11,4,0,1])
  (sQ (rG 0 [mS 0 40 4,mS 1 41 0,mS 2 42 12,iA 3 43 6 41 42,mS 5 45 0,mS 6 46 1,iA 7 47 6 45 46,lT 4 44 6 43,lT 8 48 6 47,⟨9,(some 49),none,.call ⟨true⟩ (.s 40) [(.s 44),(.s 48)]⟩,bI 10 50 .lss 49 0] [50,10,12,11,4,0,1])
  (.cond (.s 50) (rG 0 [mS 0 51 12,bI 1 52 .add 51 1,mS 2 10 52] [10,11,4,0,1])
  (rG 0 [mS 0 53 12,mS 1 11 53] [10,11,4,0,1]))))))
def c_slices_symMergeCmpFunc_Blob_l2 : CC := (sQ (sQ (rG 0 [mS 0 55 13,mS 1 56 10,bI 2 57 .sub 56 1,bS 3 58 .lss 55 57] [58,13,10,0])
  (.cond (.s 58) .skip
  (.exit 2)))
  (sQ (.block 3 (rG 0 [mS 0 61 0,mS 1 62 13,mS 2 63 0,mS 3 64 13,bI 4 65 .add 64 1,mS 5 66 0,mS 6 67 13,bI 7 68 .add 67 1,iA 8 69 6 66 68,mS 10 71 0,mS 11 72 13,iA 12 73 6 71 72,lT 9 70 6 69,lT 13 74 6 73,iA 14 75 6 61 62,o0 15 (.store 6 (.s 75) (.s 70)),iA 16 76 6 63 65,o0 17 (.store 6 (.s 76) (.s 74))] [13,10,0]))
  (rG 0 [mS 0 59 13,bI 1 60 .add 59 1,mS 2 13 60] [13,10,0])))
def c_slices_symMergeCmpFunc_Blob_l3 : CC := (sQ (sQ (rG 0 [mS 0 83 14,mS 1 84 15,bS 2 85 .lss 83 84] [85,14,15,4,2,0])
  (.cond (.s 85) .skip
  (.exit 4)))
  (.block 5 (sQ (rG 0 [mS 0 86 14,mS 1 87 15,bS 2 88 .add 86 87,o1 3 89 (.conv .u64 (.s 88)),o1 4 90 (.bin .shr (.s 89) (.k (.c (.int .u64 1)))),o1 5 91 (.conv .i64 (.s 90)),mS 6 16 91] [14,16,15,4,2,0])
  (sQ (rG 0 [mS 0 92 4,mS 1 93 0,mS 2 94 2,iA 3 95 6 93 94,mS 5 97 0,mS 6 98 16,iA 7 99 6 97 98,lT 4 96 6 95,lT 8 100 6 99,⟨9,(some 101),none,.call ⟨true⟩ (.s 92) [(.s 96),(.s 100)]⟩,bI 10 102 .lss 101 0,o1 11 103 (.un .not (.s 102))] [103,14,16,15,4,2,0])
  (.cond (.s 103) (rG 0 [mS 0 104 16,bI 1 105 .add 104 1,mS 2 14 105] [14,15,4,2,0])
  (rG 0 [mS 0 106 16,mS 1 15 106] [14,15,4,2,0]))))))
def c_slices_symMergeCmpFunc_Blob_l4 : CC := (sQ (sQ (rG 0 [mS 0 108 17,mS 1 109 14,bS 2 110 .gtr 108 109] [110,17,14,0])
  (.cond (.s 110) .skip
  (.exit 6)))
  (sQ (.block 7 (rG 0 [mS 0 113 0,mS 1 114 17,mS 2 115 0,mS 3 116 17,bI 4 117 .sub 116 1,mS 5 118 0,mS 6 119 17,bI 7 120 .sub 119 1,iA 8 121 6 118 120,mS 10 123 0,mS 11 124 17,iA 12 125 6 123 124,lT 9 122 6 121,lT 13 126 6 125,iA 14 127 6 113 114,o0 15 (.store 6 (.s 127) (.s 122)),iA 16 128 6 115 117,o0 17 (.store 6 (.s 128) (.s 126))] [17,14,0]))
  (rG 0 [mS 0 111 17,bI 1 112 .sub 111 1,mS 2 17 112] [17,14,0])))
def c_slices_symMergeCmpFunc_Blob_l5 : CC := (sQ (sQ (rG 0 [mS 0 149 20,mS 1 150 21,bS 2 151 .lss 149 150] [151,20,3,18,1,2,19,21,4,22,0])
  (.cond (.s 151) .skip
  (.exit 8)))
  (.block 9 (sQ (rG 0 [mS 0 152 20,mS 1 153 21,bS 2 154 .add 152 153,o1 3 155 (.conv .u64 (.s 154)),o1 4 156 (.bin .shr (.s 155) (.k (.c (.int .u64 1)))),o1 5 157 (.conv .i64 (.s 156)),mS 6 23 157] [20,23,3,18,1,2,19,21,4,22,0])
  (sQ (rG 0 [mS 0 158 4,mS 1 159 0,mS 2 160 22,mS 3 161 23,bS 4 162 .sub 160 161,iA 5 163 6 159 162,mS 7 165 0,mS 8 166 23,iA 9 167 6 165 166,lT 6 164 6 163,lT 10 168 6 167,⟨11,(some 169),none,.call ⟨true⟩ (.s 158) [(.s 164),(.s 168)]⟩,bI 12 170 .lss 169 0,o1 13 171 (.un .not (.s 170))] [171,20,23,3,18,1,2,19,21,4,22,0])
  (.cond (.s 171) (rG 0 [mS 0 172 23,bI 1 173 .add 172 1,mS 2 20 173] [20,3,18,1,2,19,21,4,22,0])
  (rG 0 [mS 0 174 23,mS 1 21 174] [20,3,18,1,2,19,21,4,22,0]))))))
def c_slices_symMergeCmpFunc_Blob : CFn := { frz := true,rnd := none,nargs := 5,ntmps := 220,res := [],code :=
  (sQ (sQ (rG 0 [mS 0 25 2,mS 1 26 1,bS 2 27 .sub 25 26,bI 3 28 .eql 27 1] [28,2,3,4,0,1])
  (.cond (.s 28) (sQ (rG 0 [mS 0 29 2,mS 1 10 29] [3,10,4,0,1])
  (sQ (rG 0 [mS 0 30 3,mS 1 11 30] [10,11,4,0,1])
  (sQ (.block 0 (.loop (some [10,11,4,0,1]) c_slices_symMergeCmpFunc_Blob_l1))
  (sQ (sQ (rG 0 [mS 0 54 1,mS 1 13 54] [13,10,0])
  (.block 2 (.loop (some [13,10,0]) c_slices_symMergeCmpFunc_Blob_l2)))
  .ret))))
  .skip))
  (sQ (sQ (rG 0 [mS 0 77 3,mS 1 78 2,bS 2 79 .sub 77 78,bI 3 80 .eql 79 1] [80,3,1,4,2,0])
  (.cond (.s 80) (sQ (rG 0 [mS 0 81 1,mS 1 14 81] [14,4,2,0])
  (sQ (rG 0 [mS 0 82 2,mS 1 15 82] [14,15,4,2,0])
  (sQ (.block 4 (.loop (some [14,15,4,2,0]) c_slices_symMergeCmpFunc_Blob_l3))
  (sQ (sQ (rG 0 [mS 0 107 2,mS 1 17 107] [17,14,0])
  (.block 6 (.loop (some [17,14,0]) c_slices_symMergeCmpFunc_Blob_l4)))
  .ret))))
  .skip))
  (sQ (rG 0 [mS 0 129 1,mS 1 130 3,bS 2 131 .add 129 130,o1 3 132 (.conv .u64 (.s 131)),o1 4 133 (.bin .shr (.s 132) (.k (.c (.int .u64 1)))),o1 5 134 (.conv .i64 (.s 133)),mS 6 18 134] [3,18,1,2,4,0])
  (sQ (rG 0 [mS 0 135 18,mS 1 136 2,bS 2 137 .add 135 136,mS 3 19 137] [3,18,1,2,19,4,0])
  (sQ (rG 0 [mI 0 20 0,mI 1 21 0] [3,18,1,2,19,4,0])
  (sQ (sQ (rG 0 [mS 0 138 2,mS 1 139 18,bS 2 140 .gtr 138 139] [140,3,18,1,2,19,4,0])
  (.cond (.s 140) (sQ (rG 0 [mS 0 141 19,mS 1 142 3,bS 2 143 .sub 141 142,mS 3 20 143] [20,3,18,1,2,19,4,0])
  (rG 0 [mS 0 144 18,mS 1 21 144] [20,3,18,1,2,19,21,4,0]))
  (sQ (rG 0 [mS 0 145 1,mS 1 20 145] [20,3,18,1,2,19,4,0])
  (rG 0 [mS 0 146 2,mS 1 21 146] [20,3,18,1,2,19,21,4,0]))))
  (sQ (rG 0 [mS 0 147 19,bI 1 148 .sub 147 1,mS 2 22 148] [20,3,18,1,2,19,21,4,22,0])
  (sQ (.block 8 (.loop (some [20,3,18,1,2,19,21,4,22,0]) c_slices_symMergeCmpFunc_Blob_l5))
  (sQ (rG 0 [mS 0 175 19,mS 1 176 20,bS 2 177 .sub 175 176,mS 3 24 177] [2,1,20,0,18,24,3,4])
  (sQ (sQ (rG 0 [mS 0 178 20,mS 1 179 2,bS 2 180 .lss 178 179,mS 3 181 180,oG 4 182 181 true (.mv (.s 2)),oG 5 183 181 true (.mv (.s 24)),oG 6 184 181 true (.bin .lss (.s 182) (.s 183)),o1 7 185 (.pick (.s 181) (.s 184) (kB false))] [185,2,1,20,0,18,24,3,4])
  (.cond (.s 185) (rG 0 [mS 0 186 0,mS 1 187 20,mS 2 188 2,mS 3 189 24,mS 4 190 4,⟨5,(some 191),none,.call ⟨false⟩ (.k (.c (.fn 300 [] []))) [(.s 186),(.s 187),(.s 188),(.s 189),(.s 190)]⟩] [1,20,0,18,24,3,4])
  .skip))
  (sQ (sQ (rG 0 [mS 0 192 1,mS 1 193 20,bS 2 194 .lss 192 193,mS 3 195 194,oG 4 196 195 true (.mv (.s 20)),oG 5 197 195 true (.mv (.s 18)),oG 6 198 195 true (.bin .lss (.s 196) (.s 197)),o1 7 199 (.pick (.s 195) (.s 198) (kB false))] [199,1,20,0,18,24,3,4])
  (.cond (.s 199) (rG 0 [mS 0 200 0,mS 1 201 1,mS 2 202 20,mS 3 203 18,mS 4 204 4,⟨5,(some 205),none,.call ⟨false⟩ (.k (.c (.fn 294 [] []))) [(.s 200),(.s 201),(.s 202),(.s 203),(.s 204)]⟩] [0,18,24,3,4])
  .skip))
  (sQ (rG 0 [mS 0 206 18,mS 1 207 24,bS 2 208 .lss 206 207,mS 3 209 208,oG 4 210 209 true (.mv (.s 24)),oG 5 211 209 true (.mv (.s 3)),oG 6 212 209 true (.bin .lss (.s 210) (.s 211)),o1 7 213 (.pick (.s 209) (.s 212) (kB false))] [213,0,18,24,3,4])
  (.cond (.s 213) (rG 0 [mS 0 214 0,mS 1 215 18,mS 2 216 24,mS 3 217 3,mS 4 218 4,⟨5,(some 219),none,.call ⟨false⟩ (.k (.c (.fn 294 [] []))) [(.s 214),(.s 215),(.s 216),(.s 217),(.s 218)]⟩] [])
  .skip))))))))))))) }
def c_slices_rotateCmpFunc_Blob_l1 : CC := (sQ (sQ (rG 0 [mS 0 18 10,mS 1 19 11,bS 2 20 .neq 18 19] [20,10,0,2,4,11])
  (.cond (.s 20) .skip
  (.exit 0)))
  (.block 1 (sQ (rG 0 [mS 0 21 10,mS 1 22 11,bS 2 23 .gtr 21 22] [23,10,0,2,4,11])
  (.cond (.s 23) (sQ (rG 0 [mS 0 24 0,mS 1 25 2,mS 2 26 10,bS 3 27 .sub 25 26,mS 4 28 2,mS 5 29 11,mS 6 30 4,⟨7,(some 31),none,.call ⟨false⟩ (.k (.c (.fn 311 [] []))) [(.s 24),(.s 27),(.s 28),(.s 29),(.s 30)]⟩] [10,0,2,4,11])
  (rG 0 [mS 0 32 10,mS 1 33 11,bS 2 34 .sub 32 33,mS 3 10 34] [10,0,2,4,11]))
  (sQ (rG 0 [mS 0 35 0,mS 1 36 2,mS 2 37 10,bS 3 38 .sub 36 37,mS 4 39 2,mS 5 40 11,bS 6 41 .add 39 40,mS 7 42 10,bS 8 43 .sub 41 42,mS 9 44 10,mS 10 45 4,⟨11,(some 46),none,.call ⟨false⟩ (.k (.c (.fn 311 [] []))) [(.s 35),(.s 38),(.s 43),(.s 44),(.s 45)]⟩] [11,10,0,2,4])
  (rG 0 [mS 0 47 11,mS 1 48 10,bS 2 49 .sub 47 48,mS 3 11 49] [10,0,2,4,11]))))))
def c_slices_rotateCmpFunc_Blob : CFn := { frz := true,rnd := none,nargs := 5,ntmps := 58,res := [],code :=
  (sQ (rG 0 [mS 0 12 2,mS 1 13 1,bS 2 14 .sub 12 13,mS 3 10 14] [3,10,0,2,4])
  (sQ (rG 0 [mS 0 15 3,mS 1 16 2,bS 2 17 .sub 15 16,mS 3 11 17] [10,0,2,4,11])
  (sQ (.block 0 (.loop (some [10,0,2,4,11]) c_slices_rotateCmpFunc_Blob_l1))
  (rG 0 [mS 0 50 0,mS 1 51 2,mS 2 52 10,bS 3 53 .sub 51 52,mS 4 54 2,mS 5 55 10,mS 6 56 4,⟨7,(some 57),none,.call ⟨false⟩ (.k (.c (.fn 311 [] []))) [(.s 50),(.s 53),(.s 54),(.s 55),(.s 56)]⟩] [])))) }
def c_slices_swapRangeCmpFunc_Blob_l1 : CC := (sQ (sQ (rG 0 [mS 0 11 10,mS 1 12 3,bS 2 13 .lss 11 12] [13,10,3,2,0,1])
  (.cond (.s 13) .skip
  (.exit 0)))
  (sQ (.block 1 (rG 0 [mS 0 16 0,mS 1 17 1,mS 2 18 10,bS 3 19 .add 17 18,mS 4 20 0,mS 5 21 2,mS 6 22 10,bS 7 23 .add 21 22,mS 8 24 0,mS 9 25 2,mS 10 26 10,bS 11 27 .add 25 26,iA 12 28 6 24 27,mS 14 30 0,mS 15 31 1,mS 16 32 10,bS 17 33 .add 31 32,iA 18 34 6 30 33,lT 13 29 6 28,lT 19 35 6 34,iA 20 36 6 16 19,o0 21 (.store 6 (.s 36) (.s 29)),iA 22 37 6 20 23,o0 23 (.store 6 (.s 37) (.s 35))] [10,3,2,0,1]))
  (rG 0 [mS 0 14 10,bI 1 15 .add 14 1,mS 2 10 15] [10,3,2,0,1])))
def c_slices_swapRangeCmpFunc_Blob : CFn := { frz := true,rnd := none,nargs := 5,ntmps := 38,res := [],code :=
  (sQ (rG 0 [mI 0 10 0] [10,3,2,0,1])
  (.block 0 (.loop (some [10,3,2,0,1]) c_slices_swapRangeCmpFunc_Blob_l1))) }
def Cs : List (Nat × Nat × Nat × Bool) := [(74,6,48,false),(78,0,5097,false)]
def L : List (Nat × CFn) := [(4,c_kerbstonelaw05_TrackFinds),(11,c_kerbstonelaw05_awake),(12,c_kerbstonekit_Map),(21,c_track_Copy),(22,c_kerbstonekit_SameFound),(23,c_track_Found),(24,c_kerbstoneref05_Found),(25,c_kerbstonekit_SameSpans),(26,c_track_Free),(27,c_kerbstoneref05_Free),(49,c_track_Own),(50,c_track_Check),(51,c_kerbstonekit_SameBlobs),(52,c_track_Join),(53,c_kerbstonekit_Cross),(54,c_track_All),(55,c_kerbstonelaw05_start),(56,c_kerbstonekit_Mod),(57,c_kerbstonekit_road),(58,c_kerbstonekit_signal),(62,c_track_within),(75,c_roads_Check),(76,c_track_counted),(77,c_track_feet),(79,c_track_Found_1),(80,c_cmp_Compare_int64),(81,c_kerbstoneref05_counted),(82,c_kerbstoneref03_Check),(83,c_kerbstoneref05_feet),(84,c_track_whole),(85,c_track_on),(86,c_motion_Cut_Span),(87,c_kerbstoneref05_whole),(88,c_kerbstoneref05_valid),(89,c_kerbstoneref05_cut),(91,c_kerbstoneref05_Join),(94,c_kerbstoneref03_Bounds),(96,c_motion_Cut_Blob),(111,c_roads_CheckRoute),(112,c_motion_Along),(113,c_track_able),(128,c_motion_Course_Own),(129,c_roads_Length),(130,c_roads_Bounds),(131,c_motion_Join),(137,c_roads_Starts),(142,c_slices_IndexFunc_Blob),(146,c_roads_check_numbers),(147,c_roads_check_lanes),(148,c_roads_check_joints),(149,c_roads_check_signals),(150,c_roads_check_zones),(151,c_roads_check_works),(152,c_curve_Near),(155,c_cmp_isNaN_int64),(156,c_kerbstoneref03_within),(157,c_kerbstoneref03_checkLane),(158,c_kerbstoneref03_checkNext),(159,c_kerbstoneref03_checkSignal),(160,c_kerbstoneref03_checkZone),(161,c_kerbstoneref03_checkWork),(162,c_kerbstoneref03_Long),(163,c_kerbstoneref01_Near),(164,c_motion_ends_Span),(166,c_kerbstoneref05_less),(169,c_kerbstoneref03_length),(170,c_motion_ends_Blob),(179,c_kerbstoneref01_Pieces),(181,c_kerbstoneref01_Minus),(182,c_kerbstoneref01_floor),(184,c_roads_before),(185,c_slices_Contains_int),(186,c_roads_RouteLength),(187,c_roads_Sources),(190,c_slices_Index_int),(191,c_motion_Course_gap),(208,c_roads_is),(209,c_roads_long),(210,c_slices_DeleteFunc_Blob),(211,c_motion_Join_1),(212,c_slices_SortStableFunc_Blob),(213,c_motion_Join_2),(214,c_cmp_Or_int),(215,c_cmp_Compare_int),(216,c_motion_hull),(220,c_roads_follow),(223,c_roads_within),(224,c_curve_Check),(225,c_roads_rising),(226,c_slices_ContainsFunc_Phase),(227,c_roads_check_signals_1),(228,c_roads_check_signals_2),(229,c_curve_fair),(230,c_curve_pieces),(231,c_curve_from),(232,c_curve_vector_dot),(233,c_curve_abs),(234,c_curve_vector_cross),(235,c_curve_floor),(246,c_kerbstoneref01_Check),(247,c_kerbstoneref03_ordered),(248,c_kerbstoneref01_Length),(249,c_kerbstoneref01_Valid),(250,c_kerbstoneref01_Dot),(251,c_kerbstoneref01_Cross),(255,c_kerbstoneref01_root),(268,c_curve_Length),(269,c_slices_stableCmpFunc_Blob),(270,c_cmp_isNaN_int),(271,c_curve_root),(272,c_slices_IndexFunc_Phase),(273,c_curve_pieces_1),(292,c_curve_Pieces),(293,c_slices_insertionSortCmpFunc_Blob),(294,c_slices_symMergeCmpFunc_Blob),(300,c_slices_rotateCmpFunc_Blob),(311,c_slices_swapRangeCmpFunc_Blob),(2766,c_curve_Near_r1),(5006,c_curve_Pieces_r1)]
def tree : Tr := (.node (.node (.node (.node (.node (.node (.node .leaf 4 c_kerbstonelaw05_TrackFinds .leaf) 11 c_kerbstonelaw05_awake (.node .leaf 12 c_kerbstonekit_Map .leaf)) 21 c_track_Copy (.node (.node .leaf 22 c_kerbstonekit_SameFound .leaf) 23 c_track_Found (.node .leaf 24 c_kerbstoneref05_Found .leaf))) 25 c_kerbstonekit_SameSpans (.node (.node (.node .leaf 26 c_track_Free .leaf) 27 c_kerbstoneref05_Free (.node .leaf 49 c_track_Own .leaf)) 50 c_track_Check (.node (.node .leaf 51 c_kerbstonekit_SameBlobs .leaf) 52 c_track_Join .leaf))) 53 c_kerbstonekit_Cross (.node (.node (.node (.node .leaf 54 c_track_All .leaf) 55 c_kerbstonelaw05_start (.node .leaf 56 c_kerbstonekit_Mod .leaf)) 57 c_kerbstonekit_road (.node (.node .leaf 58 c_kerbstonekit_signal .leaf) 62 c_track_within (.node .leaf 75 c_roads_Check .leaf))) 76 c_track_counted (.node (.node (.node .leaf 77 c_track_feet .leaf) 79 c_track_Found_1 (.node .leaf 80 c_cmp_Compare_int64 .leaf)) 81 c_kerbstoneref05_counted (.node (.node .leaf 82 c_kerbstoneref03_Check .leaf) 83 c_kerbstoneref05_feet .leaf)))) 84 c_track_whole (.node (.node (.node (.node (.node .leaf 85 c_track_on .leaf) 86 c_motion_Cut_Span (.node .leaf 87 c_kerbstoneref05_whole .leaf)) 88 c_kerbstoneref05_valid (.node (.node .leaf 89 c_kerbstoneref05_cut .leaf) 91 c_kerbstoneref05_Join (.node .leaf 94 c_kerbstoneref03_Bounds .leaf))) 96 c_motion_Cut_Blob (.node (.node (.node .leaf 111 c_roads_CheckRoute .leaf) 112 c_motion_Along (.node .leaf 113 c_track_able .leaf)) 128 c_motion_Course_Own (.node (.node .leaf 129 c_roads_Length .leaf) 130 c_roads_Bounds .leaf))) 131 c_motion_Join (.node (.node (.node (.node .leaf 137 c_roads_Starts .leaf) 142 c_slices_IndexFunc_Blob (.node .leaf 146 c_roads_check_numbers .leaf)) 147 c_roads_check_lanes (.node (.node .leaf 148 c_roads_check_joints .leaf) 149 c_roads_check_signals (.node .leaf 150 c_roads_check_zones .leaf))) 151 c_roads_check_works (.node (.node (.node .leaf 152 c_curve_Near .leaf) 155 c_cmp_isNaN_int64 (.node .leaf 156 c_kerbstoneref03_within .leaf)) 157 c_kerbstoneref03_checkLane (.node (.node .leaf 158 c_kerbstoneref03_checkNext .leaf) 159 c_kerbstoneref03_checkSignal .leaf))))) 160 c_kerbstoneref03_checkZone (.node (.node (.node (.node (.node (.node .leaf 161 c_kerbstoneref03_checkWork .leaf) 162 c_kerbstoneref03_Long (.node .leaf 163 c_kerbstoneref01_Near .leaf)) 164 c_motion_ends_Span (.node (.node .leaf 166 c_kerbstoneref05_less .leaf) 169 c_kerbstoneref03_length (.node .leaf 170 c_motion_ends_Blob .leaf))) 179 c_kerbstoneref01_Pieces (.node (.node (.node .leaf 181 c_kerbstoneref01_Minus .leaf) 182 c_kerbstoneref01_floor (.node .leaf 184 c_roads_before .leaf)) 185 c_slices_Contains_int (.node (.node .leaf 186 c_roads_RouteLength .leaf) 187 c_roads_Sources .leaf))) 190 c_slices_Index_int (.node (.node (.node (.node .leaf 191 c_motion_Course_gap .leaf) 208 c_roads_is (.node .leaf 209 c_roads_long .leaf)) 210 c_slices_DeleteFunc_Blob (.node (.node .leaf 211 c_motion_Join_1 .leaf) 212 c_slices_SortStableFunc_Blob (.node .leaf 213 c_motion_Join_2 .leaf))) 214 c_cmp_Or_int (.node (.node (.node .leaf 215 c_cmp_Compare_int .leaf) 216 c_motion_hull (.node .leaf 220 c_roads_follow .leaf)) 223 c_roads_within (.node (.node .leaf 224 c_curve_Check .leaf) 225 c_roads_rising .leaf)))) 226 c_slices_ContainsFunc_Phase (.node (.node (.node (.node (.node .leaf 227 c_roads_check_signals_1 .leaf) 228 c_roads_check_signals_2 (.node .leaf 229 c_curve_fair .leaf)) 230 c_curve_pieces (.node (.node .leaf 231 c_curve_from .leaf) 232 c_curve_vector_dot (.node .leaf 233 c_curve_abs .leaf))) 234 c_curve_vector_cross (.node (.node (.node .leaf 235 c_curve_floor .leaf) 246 c_kerbstoneref01_Check (.node .leaf 247 c_kerbstoneref03_ordered .leaf)) 248 c_kerbstoneref01_Length (.node (.node .leaf 249 c_kerbstoneref01_Valid .leaf) 250 c_kerbstoneref01_Dot .leaf))) 251 c_kerbstoneref01_Cross (.node (.node (.node (.node .leaf 255 c_kerbstoneref01_root .leaf) 268 c_curve_Length (.node .leaf 269 c_slices_stableCmpFunc_Blob .leaf)) 270 c_cmp_isNaN_int (.node (.node .leaf 271 c_curve_root .leaf) 272 c_slices_IndexFunc_Phase (.node .leaf 273 c_curve_pieces_1 .leaf))) 292 c_curve_Pieces (.node (.node (.node .leaf 293 c_slices_insertionSortCmpFunc_Blob .leaf) 294 c_slices_symMergeCmpFunc_Blob (.node .leaf 300 c_slices_rotateCmpFunc_Blob .leaf)) 311 c_slices_swapRangeCmpFunc_Blob (.node (.node .leaf 2766 c_curve_Near_r1 .leaf) 5006 c_curve_Pieces_r1 .leaf))))))
theorem F_kerbstonelaw05_TrackFinds : L.lookup 4 = some c_kerbstonelaw05_TrackFinds := by kernel_rfl
theorem F_kerbstonekit_Map : L.lookup 12 = some c_kerbstonekit_Map := by kernel_rfl
theorem F_kerbstonekit_SameFound : L.lookup 22 = some c_kerbstonekit_SameFound := by kernel_rfl
theorem F_track_Found : L.lookup 23 = some c_track_Found := by kernel_rfl
theorem F_kerbstoneref05_Found : L.lookup 24 = some c_kerbstoneref05_Found := by kernel_rfl
theorem F_kerbstonekit_SameSpans : L.lookup 25 = some c_kerbstonekit_SameSpans := by kernel_rfl
theorem F_track_Free : L.lookup 26 = some c_track_Free := by kernel_rfl
theorem F_kerbstoneref05_Free : L.lookup 27 = some c_kerbstoneref05_Free := by kernel_rfl
theorem F_track_Join : L.lookup 52 = some c_track_Join := by kernel_rfl
theorem F_kerbstonekit_Mod : L.lookup 56 = some c_kerbstonekit_Mod := by kernel_rfl
theorem F_kerbstonekit_road : L.lookup 57 = some c_kerbstonekit_road := by kernel_rfl
theorem F_kerbstonekit_signal : L.lookup 58 = some c_kerbstonekit_signal := by kernel_rfl
theorem F_track_within : L.lookup 62 = some c_track_within := by kernel_rfl
theorem F_roads_Check : L.lookup 75 = some c_roads_Check := by kernel_rfl
theorem F_track_counted : L.lookup 76 = some c_track_counted := by kernel_rfl
theorem F_track_feet : L.lookup 77 = some c_track_feet := by kernel_rfl
theorem F_cmp_Compare_int64 : L.lookup 80 = some c_cmp_Compare_int64 := by kernel_rfl
theorem F_kerbstoneref05_counted : L.lookup 81 = some c_kerbstoneref05_counted := by kernel_rfl
theorem F_kerbstoneref03_Check : L.lookup 82 = some c_kerbstoneref03_Check := by kernel_rfl
theorem F_kerbstoneref05_feet : L.lookup 83 = some c_kerbstoneref05_feet := by kernel_rfl
theorem F_track_whole : L.lookup 84 = some c_track_whole := by kernel_rfl
theorem F_track_on : L.lookup 85 = some c_track_on := by kernel_rfl
theorem F_motion_Cut_Span : L.lookup 86 = some c_motion_Cut_Span := by kernel_rfl
theorem F_kerbstoneref05_whole : L.lookup 87 = some c_kerbstoneref05_whole := by kernel_rfl
theorem F_kerbstoneref05_valid : L.lookup 88 = some c_kerbstoneref05_valid := by kernel_rfl
theorem F_kerbstoneref05_cut : L.lookup 89 = some c_kerbstoneref05_cut := by kernel_rfl
theorem F_kerbstoneref05_Join : L.lookup 91 = some c_kerbstoneref05_Join := by kernel_rfl
theorem F_roads_Length : L.lookup 129 = some c_roads_Length := by kernel_rfl
theorem F_motion_Join : L.lookup 131 = some c_motion_Join := by kernel_rfl
theorem F_slices_IndexFunc_Blob : L.lookup 142 = some c_slices_IndexFunc_Blob := by kernel_rfl
theorem F_roads_check_numbers : L.lookup 146 = some c_roads_check_numbers := by kernel_rfl
theorem F_roads_check_signals : L.lookup 149 = some c_roads_check_signals := by kernel_rfl
theorem F_roads_check_works : L.lookup 151 = some c_roads_check_works := by kernel_rfl
theorem F_curve_Near : L.lookup 152 = some c_curve_Near := by kernel_rfl
theorem F_cmp_isNaN_int64 : L.lookup 155 = some c_cmp_isNaN_int64 := by kernel_rfl
theorem F_kerbstoneref03_within : L.lookup 156 = some c_kerbstoneref03_within := by kernel_rfl
theorem F_kerbstoneref03_checkWork : L.lookup 161 = some c_kerbstoneref03_checkWork := by kernel_rfl
theorem F_kerbstoneref03_Long : L.lookup 162 = some c_kerbstoneref03_Long := by kernel_rfl
theorem F_kerbstoneref01_Near : L.lookup 163 = some c_kerbstoneref01_Near := by kernel_rfl
theorem F_motion_ends_Span : L.lookup 164 = some c_motion_ends_Span := by kernel_rfl
theorem F_kerbstoneref05_less : L.lookup 166 = some c_kerbstoneref05_less := by kernel_rfl
theorem F_kerbstoneref03_length : L.lookup 169 = some c_kerbstoneref03_length := by kernel_rfl
theorem F_kerbstoneref01_Pieces : L.lookup 179 = some c_kerbstoneref01_Pieces := by kernel_rfl
theorem F_kerbstoneref01_Minus : L.lookup 181 = some c_kerbstoneref01_Minus := by kernel_rfl
theorem F_kerbstoneref01_floor : L.lookup 182 = some c_kerbstoneref01_floor := by kernel_rfl
theorem F_roads_is : L.lookup 208 = some c_roads_is := by kernel_rfl
theorem F_roads_long : L.lookup 209 = some c_roads_long := by kernel_rfl
theorem F_slices_DeleteFunc_Blob : L.lookup 210 = some c_slices_DeleteFunc_Blob := by kernel_rfl
theorem F_motion_Join_1 : L.lookup 211 = some c_motion_Join_1 := by kernel_rfl
theorem F_slices_SortStableFunc_Blob : L.lookup 212 = some c_slices_SortStableFunc_Blob := by kernel_rfl
theorem F_motion_Join_2 : L.lookup 213 = some c_motion_Join_2 := by kernel_rfl
theorem F_cmp_Or_int : L.lookup 214 = some c_cmp_Or_int := by kernel_rfl
theorem F_cmp_Compare_int : L.lookup 215 = some c_cmp_Compare_int := by kernel_rfl
theorem F_motion_hull : L.lookup 216 = some c_motion_hull := by kernel_rfl
theorem F_roads_within : L.lookup 223 = some c_roads_within := by kernel_rfl
theorem F_curve_fair : L.lookup 229 = some c_curve_fair := by kernel_rfl
theorem F_curve_pieces : L.lookup 230 = some c_curve_pieces := by kernel_rfl
theorem F_curve_from : L.lookup 231 = some c_curve_from := by kernel_rfl
theorem F_curve_vector_dot : L.lookup 232 = some c_curve_vector_dot := by kernel_rfl
theorem F_curve_abs : L.lookup 233 = some c_curve_abs := by kernel_rfl
theorem F_curve_vector_cross : L.lookup 234 = some c_curve_vector_cross := by kernel_rfl
theorem F_curve_floor : L.lookup 235 = some c_curve_floor := by kernel_rfl
theorem F_kerbstoneref01_Valid : L.lookup 249 = some c_kerbstoneref01_Valid := by kernel_rfl
theorem F_kerbstoneref01_Dot : L.lookup 250 = some c_kerbstoneref01_Dot := by kernel_rfl
theorem F_kerbstoneref01_Cross : L.lookup 251 = some c_kerbstoneref01_Cross := by kernel_rfl
theorem F_slices_stableCmpFunc_Blob : L.lookup 269 = some c_slices_stableCmpFunc_Blob := by kernel_rfl
theorem F_cmp_isNaN_int : L.lookup 270 = some c_cmp_isNaN_int := by kernel_rfl
theorem F_curve_pieces_1 : L.lookup 273 = some c_curve_pieces_1 := by kernel_rfl
theorem F_slices_insertionSortCmpFunc_Blob : L.lookup 293 = some c_slices_insertionSortCmpFunc_Blob := by kernel_rfl
theorem F_curve_Near_r1 : L.lookup 2766 = some c_curve_Near_r1 := by kernel_rfl
end Go.TrRun
