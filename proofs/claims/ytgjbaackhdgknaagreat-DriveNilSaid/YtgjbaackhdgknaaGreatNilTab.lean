/- This text lists functions of this seat's program, compiled for the evaluator; no condition. -/
import Derived.Test.YtgjbaackhdgknaaGreatNilTab1
import Derived.KernelRfl
set_option linter.unusedVariables false
namespace Go.NilRun
open Go Go.Eng
def c_signs_Green_l1 : CC := (sQ (rG 0 [bS 0 17 .lss 16 15] [17,7,16,15,1,3,2,14])
  (sQ (.cond (.s 17) .skip
  (.exit 0))
  (sQ (.block 1 (sQ (rG 1 [iA 0 18 2 14 16,lT 1 19 2 18,o1 2 9 (.box 0 2 (.k (.a [(I 0),.nilslice]))),o0 3 (.store 2 (.s 9) (.s 19))] [7,9,16,15,1,3,2,14])
  (rG 0 [mS 0 20 7,fA 1 21 0 9,lF 2 22 21,bS 3 23 .add 20 22,mS 4 7 23] [16,7,15,1,3,2,14])))
  (rG 0 [bI 0 24 .add 16 1,mS 1 16 24] [7,16,15,1,3,2,14]))))
def c_signs_Green_l2 : CC := (sQ (rG 0 [bS 0 39 .lss 38 37] [39,10,38,37,36,1])
  (sQ (.cond (.s 39) .skip
  (.exit 2))
  (sQ (.block 3 (sQ (rG 1 [iA 0 40 2 36 38,lT 1 41 2 40,o1 2 12 (.box 0 2 (.k (.a [(I 0),.nilslice]))),o0 3 (.store 2 (.s 12) (.s 41))] [10,12,38,37,36,1])
  (sQ (sQ (rG 0 [mS 0 42 10,fA 1 43 0 12,lF 2 44 43,bS 3 45 .geq 42 44] [45,10,12,38,37,36,1])
  (.cond (.s 45) (sQ (rG 0 [mS 0 46 10,fA 1 47 0 12,lF 2 48 47,bS 3 49 .sub 46 48,mS 4 10 49] [38,10,37,36,1])
  (.exit 3))
  .skip))
  (sQ (rG 0 [fA 0 50 1 12,lF 1 51 50,mS 2 52 1,cA 3 53 77 [(.s 51),(.s 52)],mS 4 6 53] [6])
  .ret))))
  (rG 0 [bI 0 54 .add 38 1,mS 1 38 54] [10,38,37,36,1]))))
abbrev f_signs_Green : Nat := 222
def c_signs_Green : CFn := { frz := true,rnd := none,nargs := 3,ntmps := 55,res := [(.slot 6)],code :=
  (sQ (rG 1 [o1 0 3 (.box 0 2 (.s 0)),mB 1 6 false] [1,3,2])
  (sQ (sQ (rG 0 [mI 0 7 0] [7,1,3,2])
  (sQ (sQ (rG 0 [fA 0 13 1 3,lF 1 14 13,lN 2 15 14,mI 3 16 0] [7,16,15,1,3,2,14])
  (.block 0 (.loop (some [7,16,15,1,3,2,14]) c_signs_Green_l1)))
  (sQ (rG 0 [fA 0 25 0 3,mS 2 27 7,mS 4 29 2,mS 5 30 7,bS 6 31 .rem 29 30,mS 8 33 7,lF 1 26 25,bS 3 28 .rem 26 27,bS 7 32 .add 28 31,bS 9 34 .rem 32 33,mS 10 10 34] [3,10,1])
  (sQ .skip
  (sQ (sQ (rG 0 [fA 0 35 1 3,lF 1 36 35,lN 2 37 36,mI 3 38 0] [10,38,37,36,1])
  (.block 2 (.loop (some [10,38,37,36,1]) c_signs_Green_l2)))
  (sQ (rG 0 [mB 0 6 false] [6])
  .ret))))))
  .skip)) }
abbrev f_slices_ContainsFunc_visit : Nat := 223
def c_slices_ContainsFunc_visit : CFn := { frz := true,rnd := none,nargs := 2,ntmps := 9,res := [(.slot 4)],code :=
  (sQ (rG 0 [mB 0 4 false] [0,1])
  (sQ (rG 0 [mS 0 5 0,mS 1 6 1,cA 2 7 266 [(.s 5),(.s 6)],bI 3 8 .geq 7 0,mS 4 4 8] [4])
  .ret)) }
abbrev f_plan_judge_stands_1 : Nat := 224
def c_plan_judge_stands_1 : CFn := { frz := true,rnd := none,nargs := 3,ntmps := 25,res := [(.slot 4)],code :=
  (sQ (rG 1 [o1 0 3 (.box 0 10 (.s 0)),mB 1 4 false] [1,3,2])
  (sQ (rG 0 [fA 0 5 1 1,fA 2 7 2 3,fA 3 8 2 7,lF 1 6 5,lF 4 9 8,bS 5 10 .geq 6 9,mS 6 11 10,oG 7 12 11 true (.faddr 0 (.s 1)),oG 15 20 11 true (.faddr 6 (.s 3)),oG 16 21 11 true (.faddr 3 (.s 20)),oG 8 13 11 true (.load false 1 (.s 12)),oG 9 14 11 true (.load false 1 (.s 2)),oG 10 15 11 true (.nilck (.s 14)),oG 11 16 11 true (.faddr 0 (.s 15)),oG 12 17 11 true (.faddr 8 (.s 16)),oG 13 18 11 true (.load false 1 (.s 17)),oG 14 19 11 true (.bin .sub (.s 13) (.s 18)),oG 17 22 11 true (.load false 1 (.s 21)),oG 18 23 11 true (.bin .leq (.s 19) (.s 22)),o1 19 24 (.pick (.s 11) (.s 23) (kB false)),mS 20 4 24] [4])
  .ret)) }
abbrev f_motion_Course_Drive_1 : Nat := 225
def c_motion_Course_Drive_1 : CFn := { frz := true,rnd := none,nargs := 3,ntmps := 11,res := [(.slot 4)],code :=
  (sQ (rG 0 [mI 0 4 0] [0,1,2])
  (sQ (rG 0 [mS 0 5 0,lF 1 6 1,bS 2 7 .add 5 6,lF 3 8 2,o1 4 9 (.minmax false [(.s 7),(.s 8)]),o1 5 10 (.minmax true [(kI 0),(.s 9)]),mS 6 4 10] [4])
  .ret)) }
abbrev f_slices_SortFunc_Found : Nat := 226
def c_slices_SortFunc_Found : CFn := { frz := true,rnd := none,nargs := 2,ntmps := 14,res := [],code :=
  (sQ (rG 0 [mS 0 5 0,lN 1 6 5,mS 2 4 6] [0,4,1])
  (rG 0 [mS 0 7 0,mS 1 8 4,mS 2 9 4,o1 3 10 (.conv .u64 (.s 9)),cA 4 11 208 [(.s 10)],mS 5 12 1,⟨6,(some 13),none,.call ⟨false⟩ (.k (.c (.fn 267 [] []))) [(.s 7),(kI 0),(.s 8),(.s 11),(.s 12)]⟩] [])) }
abbrev f_track_Found_1 : Nat := 227
def c_track_Found_1 : CFn := { frz := true,rnd := none,nargs := 2,ntmps := 10,res := [(.slot 4)],code :=
  (sQ (rG 2 [o1 0 2 (.box 0 5 (.s 0)),o1 1 3 (.box 1 5 (.s 1)),mI 2 4 0] [2,3])
  (sQ (rG 0 [fA 0 5 1 2,lF 1 6 5,fA 2 7 1 3,lF 3 8 7,cA 4 9 136 [(.s 6),(.s 8)],mS 5 4 9] [4])
  .ret)) }
abbrev f_track_on : Nat := 228
def c_track_on : CFn := { frz := true,rnd := none,nargs := 2,ntmps := 37,res := [(.slot 4)],code :=
  (sQ (rG 2 [o1 0 2 (.box 0 5 (.s 0)),o1 1 3 (.box 1 3 (.s 1)),mB 2 4 false] [3,2])
  (sQ (.region 0 [fA 0 5 0 3,lF 1 6 5,bI 2 7 .geq 6 0,mS 3 8 7,oG 4 9 8 true (.faddr 0 (.s 3)),oG 6 11 8 true (.faddr 1 (.s 2)),oG 5 10 8 true (.load false 1 (.s 9)),oG 7 12 8 true (.load false 1 (.s 11)),oG 8 13 8 true (.len (.s 12)),oG 9 14 8 true (.bin .lss (.s 10) (.s 13)),o1 10 15 (.pick (.s 8) (.s 14) (kB false)),mS 11 16 15,oG 12 17 16 true (.faddr 1 (.s 3)),oG 13 18 16 true (.load false 1 (.s 17)),oG 14 19 16 true (.bin .leq (kI 0) (.s 18)),o1 15 20 (.pick (.s 16) (.s 19) (kB false)),mS 16 21 20,oG 17 22 21 true (.faddr 1 (.s 3)),oG 19 24 21 true (.faddr 2 (.s 3)),oG 18 23 21 true (.load false 1 (.s 22)),oG 20 25 21 true (.load false 1 (.s 24)),oG 21 26 21 true (.bin .leq (.s 23) (.s 25)),o1 22 27 (.pick (.s 21) (.s 26) (kB false)),mS 23 28 27,oG 24 29 28 true (.faddr 2 (.s 3)),oG 27 32 28 true (.faddr 0 (.s 3)),oG 25 30 28 true (.load false 1 (.s 29)),oG 26 31 28 true (.load true 5 (.s 2)),oG 28 33 28 true (.load false 1 (.s 32)),⟨29,(some 34),(some (28,true)),.call ⟨true⟩ (.k (.c (.fn 61 [] []))) [(.s 31),(.s 33)]⟩,oG 30 35 28 true (.bin .leq (.s 30) (.s 34)),o1 31 36 (.pick (.s 28) (.s 35) (kB false)),mS 32 4 36] [(26,29)] (some [4]))
  .ret)) }
abbrev f_track_Join : Nat := 229
def c_track_Join : CFn := { frz := true,rnd := none,nargs := 1,ntmps := 5,res := [(.slot 2)],code :=
  (sQ (rG 1 [o1 0 2 (.newsl 0 6)] [0])
  (sQ (rG 0 [mS 0 3 0,cA 1 4 204 [(.s 3)],mS 2 2 4] [2])
  .ret)) }
def c_motion_Cut_Span_l1 : CC := (sQ (rG 0 [bS 0 22 .lss 21 20] [22,5,21,20,19,3])
  (sQ (.cond (.s 22) .skip
  (.exit 0))
  (sQ (.block 1 (sQ (rG 1 [iA 0 23 3 19 21,lT 1 24 3 23,o1 2 7 (.box 0 3 (.k (.a [(I 0),(I 0),(I 0)]))),o0 3 (.store 3 (.s 7) (.s 24))] [5,7,21,20,19,3])
  (sQ (rG 2 [lT 0 25 3 7,lT 1 26 3 7,o1 2 8 (.box 0 3 (.k (.a [(I 0),(I 0),(I 0)]))),o1 3 9 (.box 1 3 (.k (.a [(I 0),(I 0),(I 0)]))),o0 4 (.store 3 (.s 8) (.s 25)),o0 5 (.store 3 (.s 9) (.s 26))] [9,8,5,7,21,20,19,3])
  (sQ (rG 0 [cA 0 28 268 [(.s 7)],mS 1 27 28,eX 2 29 27 0,eX 3 30 27 1,eX 4 31 27 2,mS 5 10 29,mS 6 11 30,mS 7 12 31] [10,9,12,8,11,5,7,21,20,19,3])
  (sQ (sQ (rG 0 [mS 0 32 10,fA 1 33 0 3,lF 2 34 33,bS 3 35 .neq 32 34,mS 4 36 35,oG 5 37 36 false (.faddr 1 (.s 3)),oG 7 39 36 false (.faddr 2 (.s 3)),oG 6 38 36 false (.load false 1 (.s 37)),oG 8 40 36 false (.load false 1 (.s 39)),oG 9 41 36 false (.bin .gtr (.s 38) (.s 40)),o1 10 42 (.pick (.s 36) (kB true) (.s 41)),mS 11 43 42,oG 12 44 43 false (.faddr 1 (.s 3)),oG 14 46 43 false (.mv (.s 12)),oG 15 47 43 false (.nilck (.s 46)),oG 13 45 43 false (.load false 1 (.s 44)),oG 16 48 43 false (.load false 1 (.s 47)),oG 17 49 43 false (.bin .gtr (.s 45) (.s 48)),o1 18 50 (.pick (.s 43) (kB true) (.s 49)),mS 19 51 50,oG 20 52 51 false (.faddr 2 (.s 3)),oG 22 54 51 false (.mv (.s 11)),oG 23 55 51 false (.nilck (.s 54)),oG 21 53 51 false (.load false 1 (.s 52)),oG 24 56 51 false (.load false 1 (.s 55)),oG 25 57 51 false (.bin .lss (.s 53) (.s 56)),o1 26 58 (.pick (.s 51) (kB true) (.s 57))] [58,9,12,8,11,5,7,21,20,19,3])
  (.cond (.s 58) (sQ (rG 1 [mS 0 59 5,lT 1 60 3 7,o1 2 61 (.lit 0 3 [[(I 0),(I 0),(I 0)]] [(0,(.s 60))]),o1 3 62 (.append 3 24 (.s 59) (.s 61)),mS 4 5 62] [21,5,20,19,3])
  (.exit 1))
  .skip))
  (sQ (sQ (rG 0 [fA 0 63 1 3,mS 2 65 11,nC 3 66 65,lF 1 64 63,lF 4 67 66,bS 5 68 .gtr 64 67] [68,5,8,12,9,21,20,19,3])
  (.cond (.s 68) (sQ (rG 0 [cA 0 70 268 [(.s 8)],mS 1 69 70,eX 2 71 69 0,eX 3 72 69 1,eX 4 73 69 2,mS 5 13 71,mS 6 14 72,mS 7 15 73] [15,5,8,12,9,21,20,19,3])
  (sQ (rG 0 [mS 0 74 15,fA 1 75 1 3,lF 2 76 75,bI 3 77 .sub 76 1,nC 4 78 74,o0 5 (.store 1 (.s 78) (.s 77))] [5,8,12,9,21,20,19,3])
  (rG 1 [mS 0 79 5,lT 1 80 3 8,o1 2 81 (.lit 0 3 [[(I 0),(I 0),(I 0)]] [(0,(.s 80))]),o1 3 82 (.append 3 24 (.s 79) (.s 81)),mS 4 5 82] [12,5,9,21,20,19,3])))
  .skip))
  (sQ (rG 0 [fA 0 83 2 3,mS 2 85 12,nC 3 86 85,lF 1 84 83,lF 4 87 86,bS 5 88 .lss 84 87] [88,5,9,21,20,19,3])
  (.cond (.s 88) (sQ (rG 0 [cA 0 90 268 [(.s 9)],mS 1 89 90,eX 2 91 89 0,eX 3 92 89 1,eX 4 93 89 2,mS 5 16 91,mS 6 17 92,mS 7 18 93] [17,5,9,21,20,19,3])
  (sQ (rG 0 [mS 0 94 17,fA 1 95 2 3,lF 2 96 95,bI 3 97 .add 96 1,nC 4 98 94,o0 5 (.store 1 (.s 98) (.s 97))] [5,9,21,20,19,3])
  (rG 1 [mS 0 99 5,lT 1 100 3 9,o1 2 101 (.lit 0 3 [[(I 0),(I 0),(I 0)]] [(0,(.s 100))]),o1 3 102 (.append 3 24 (.s 99) (.s 101)),mS 4 5 102] [21,5,20,19,3])))
  .skip))))))))
  (rG 0 [bI 0 103 .add 21 1,mS 1 21 103] [5,21,20,19,3]))))
abbrev f_motion_Cut_Span : Nat := 230
def c_motion_Cut_Span : CFn := { frz := true,rnd := none,nargs := 2,ntmps := 105,res := [(.slot 4)],code :=
  (sQ (rG 2 [o1 0 3 (.box 0 3 (.s 1)),o1 1 4 (.newsl 1 3)] [0,3])
  (sQ (rG 1 [o1 0 5 (.newsl 0 3)] [0,5,3])
  (sQ (sQ (rG 0 [mS 0 19 0,lN 1 20 19,mI 2 21 0] [5,21,20,19,3])
  (.block 0 (.loop (some [5,21,20,19,3]) c_motion_Cut_Span_l1)))
  (sQ (rG 0 [mS 0 104 5,mS 1 4 104] [4])
  .ret)))) }
def c_slices_IndexFunc_Span_l1 : CC := (sQ (rG 0 [bS 0 9 .lss 8 7] [9,0,1,7,8])
  (sQ (.cond (.s 9) .skip
  (.exit 0))
  (sQ (.block 1 (sQ (rG 0 [mS 0 10 8,mS 1 5 10] [0,1,7,8,5])
  (sQ (rG 0 [mS 0 11 1,mS 1 12 0,mS 2 13 5,iA 3 14 3 12 13,lT 4 15 3 14,⟨5,(some 16),none,.call ⟨true⟩ (.s 11) [(.s 15)]⟩] [16,0,1,7,8,5])
  (.cond (.s 16) (sQ (rG 0 [mS 0 17 5,mS 1 4 17] [4])
  .ret)
  .skip))))
  (rG 0 [bI 0 18 .add 8 1,mS 1 8 18] [7,1,0,8]))))
abbrev f_slices_IndexFunc_Span : Nat := 231
def c_slices_IndexFunc_Span : CFn := { frz := true,rnd := none,nargs := 2,ntmps := 19,res := [(.slot 4)],code :=
  (sQ (rG 0 [mI 0 4 0] [1,0])
  (sQ (sQ (rG 0 [mS 0 6 0,lN 1 7 6,mI 2 8 0] [7,1,0,8])
  (.block 0 (.loop (some [7,1,0,8]) c_slices_IndexFunc_Span_l1)))
  (sQ (rG 0 [mI 0 4 (-1)] [4])
  .ret))) }
def c_slices_MinFunc_Found_l1 : CC := (sQ (sQ (rG 0 [mS 0 14 6,mS 1 15 0,lN 2 16 15,bS 3 17 .lss 14 16] [17,6,4,1,0,5])
  (.cond (.s 17) .skip
  (.exit 0)))
  (sQ (.block 1 (sQ (rG 0 [mS 0 20 1,mS 1 21 0,mS 2 22 6,iA 3 23 5 21 22,lT 4 24 5 23,lT 5 25 5 5,⟨6,(some 26),none,.call ⟨true⟩ (.s 20) [(.s 24),(.s 25)]⟩,bI 7 27 .lss 26 0] [27,6,4,1,0,5])
  (.cond (.s 27) (rG 0 [mS 0 28 0,mS 1 29 6,iA 2 30 5 28 29,lT 3 31 5 30,o0 4 (.store 5 (.s 5) (.s 31))] [6,4,1,0,5])
  .skip)))
  (rG 0 [mS 0 18 6,bI 1 19 .add 18 1,mS 2 6 19] [6,4,1,0,5])))
abbrev f_slices_MinFunc_Found : Nat := 232
def c_slices_MinFunc_Found : CFn := { frz := true,rnd := none,nargs := 2,ntmps := 33,res := [(.cell 4 true 5)],code :=
  (sQ (rG 1 [o1 0 4 (.box 0 5 (.k (.a [(I 0),(I 0),(I 0),(I 0),(I 0)])))] [4,1,0])
  (sQ (sQ (rG 0 [mS 0 7 0,lN 1 8 7,bI 2 9 .lss 8 1] [9,4,1,0])
  (.cond (.s 9) (rG 0 [⟨0,(some 10),none,.p1 (.mkif 9) (.k (.c (.str ⟨#[115,108,105,99,101,115,46,77,105,110,70,117,110,99,58,32,101,109,112,116,121,32,108,105,115,116]⟩)))⟩,o0 1 (.bad)] [4,1,0])
  .skip))
  (sQ (rG 1 [mS 0 11 0,o1 1 12 (.iaddr 5 (.s 11) (kI 0)),lT 2 13 5 12,o1 3 5 (.box 0 5 (.k (.a [(I 0),(I 0),(I 0),(I 0),(I 0)]))),o0 4 (.store 5 (.s 5) (.s 13))] [4,1,0,5])
  (sQ (sQ (rG 0 [mI 0 6 1] [6,4,1,0,5])
  (.block 0 (.loop (some [6,4,1,0,5]) c_slices_MinFunc_Found_l1)))
  (sQ (rG 0 [lT 0 32 5 5,o0 1 (.store 5 (.s 4) (.s 32))] [4])
  .ret))))) }
abbrev f_track_narrow_1 : Nat := 233
def c_track_narrow_1 : CFn := { frz := true,rnd := none,nargs := 2,ntmps := 10,res := [(.slot 4)],code :=
  (sQ (rG 2 [o1 0 2 (.box 0 5 (.s 0)),o1 1 3 (.box 1 5 (.s 1)),mI 2 4 0] [2,3])
  (sQ (rG 0 [fA 0 5 3 2,lF 1 6 5,fA 2 7 3 3,lF 3 8 7,cA 4 9 136 [(.s 6),(.s 8)],mS 5 4 9] [4])
  .ret)) }
def c_slices_MaxFunc_Found_l1 : CC := (sQ (sQ (rG 0 [mS 0 14 6,mS 1 15 0,lN 2 16 15,bS 3 17 .lss 14 16] [17,6,4,1,0,5])
  (.cond (.s 17) .skip
  (.exit 0)))
  (sQ (.block 1 (sQ (rG 0 [mS 0 20 1,mS 1 21 0,mS 2 22 6,iA 3 23 5 21 22,lT 4 24 5 23,lT 5 25 5 5,⟨6,(some 26),none,.call ⟨true⟩ (.s 20) [(.s 24),(.s 25)]⟩,bI 7 27 .gtr 26 0] [27,6,4,1,0,5])
  (.cond (.s 27) (rG 0 [mS 0 28 0,mS 1 29 6,iA 2 30 5 28 29,lT 3 31 5 30,o0 4 (.store 5 (.s 5) (.s 31))] [6,4,1,0,5])
  .skip)))
  (rG 0 [mS 0 18 6,bI 1 19 .add 18 1,mS 2 6 19] [6,4,1,0,5])))
abbrev f_slices_MaxFunc_Found : Nat := 234
def c_slices_MaxFunc_Found : CFn := { frz := true,rnd := none,nargs := 2,ntmps := 33,res := [(.cell 4 true 5)],code :=
  (sQ (rG 1 [o1 0 4 (.box 0 5 (.k (.a [(I 0),(I 0),(I 0),(I 0),(I 0)])))] [4,1,0])
  (sQ (sQ (rG 0 [mS 0 7 0,lN 1 8 7,bI 2 9 .lss 8 1] [9,4,1,0])
  (.cond (.s 9) (rG 0 [⟨0,(some 10),none,.p1 (.mkif 9) (.k (.c (.str ⟨#[115,108,105,99,101,115,46,77,97,120,70,117,110,99,58,32,101,109,112,116,121,32,108,105,115,116]⟩)))⟩,o0 1 (.bad)] [4,1,0])
  .skip))
  (sQ (rG 1 [mS 0 11 0,o1 1 12 (.iaddr 5 (.s 11) (kI 0)),lT 2 13 5 12,o1 3 5 (.box 0 5 (.k (.a [(I 0),(I 0),(I 0),(I 0),(I 0)]))),o0 4 (.store 5 (.s 5) (.s 13))] [4,1,0,5])
  (sQ (sQ (rG 0 [mI 0 6 1] [6,4,1,0,5])
  (.block 0 (.loop (some [6,4,1,0,5]) c_slices_MaxFunc_Found_l1)))
  (sQ (rG 0 [lT 0 32 5 5,o0 1 (.store 5 (.s 4) (.s 32))] [4])
  .ret))))) }
abbrev f_track_narrow_2 : Nat := 235
def c_track_narrow_2 : CFn := { frz := true,rnd := none,nargs := 2,ntmps := 10,res := [(.slot 4)],code :=
  (sQ (rG 2 [o1 0 2 (.box 0 5 (.s 0)),o1 1 3 (.box 1 5 (.s 1)),mI 2 4 0] [2,3])
  (sQ (rG 0 [fA 0 5 4 2,lF 1 6 5,fA 2 7 4 3,lF 3 8 7,cA 4 9 136 [(.s 6),(.s 8)],mS 5 4 9] [4])
  .ret)) }
def c_slices_IndexFunc_Found_l1 : CC := (sQ (rG 0 [bS 0 9 .lss 8 7] [9,0,1,7,8])
  (sQ (.cond (.s 9) .skip
  (.exit 0))
  (sQ (.block 1 (sQ (rG 0 [mS 0 10 8,mS 1 5 10] [0,1,7,8,5])
  (sQ (rG 0 [mS 0 11 1,mS 1 12 0,mS 2 13 5,iA 3 14 5 12 13,lT 4 15 5 14,⟨5,(some 16),none,.call ⟨true⟩ (.s 11) [(.s 15)]⟩] [16,0,1,7,8,5])
  (.cond (.s 16) (sQ (rG 0 [mS 0 17 5,mS 1 4 17] [4])
  .ret)
  .skip))))
  (rG 0 [bI 0 18 .add 8 1,mS 1 8 18] [7,1,0,8]))))
abbrev f_slices_IndexFunc_Found : Nat := 236
def c_slices_IndexFunc_Found : CFn := { frz := true,rnd := none,nargs := 2,ntmps := 19,res := [(.slot 4)],code :=
  (sQ (rG 0 [mI 0 4 0] [1,0])
  (sQ (sQ (rG 0 [mS 0 6 0,lN 1 7 6,mI 2 8 0] [7,1,0,8])
  (.block 0 (.loop (some [7,1,0,8]) c_slices_IndexFunc_Found_l1)))
  (sQ (rG 0 [mI 0 4 (-1)] [4])
  .ret))) }
abbrev f_curve_Near : Nat := 237
def c_curve_Near : CFn := { frz := true,rnd := none,nargs := 3,ntmps := 86,res := [(.slot 6)],code :=
  (sQ (rG 4 [o1 0 3 (.box 0 1 (.s 0)),o1 1 4 (.box 1 2 (.s 1)),o1 2 5 (.box 2 1 (.s 2)),o1 3 6 (.newsl 3 1)] [4,5,6,3])
  (sQ (sQ (rG 1 [lT 0 12 1 3,cA 1 13 116 [(.s 12)],bI 2 14 .neq 13 0,mS 3 15 14,oG 4 16 15 false (.load true 2 (.s 4)),oG 5 17 15 false (.lit 0 2 [[(I 0),(I 0)]] [(0,(.s 16))]),⟨6,(some 18),(some (15,false)),.call ⟨true⟩ (.k (.c (.fn 161 [] []))) [(.s 17)]⟩,oG 7 19 15 false (.un .not (.s 18)),o1 8 20 (.pick (.s 15) (kB true) (.s 19)),mS 9 21 20,oG 10 22 21 false (.load false 1 (.s 5)),oG 11 23 21 false (.bin .lss (.s 22) (kI 0)),o1 12 24 (.pick (.s 21) (kB true) (.s 23)),mS 13 25 24,oG 14 26 25 false (.load false 1 (.s 5)),oG 15 27 25 false (.bin .gtr (.s 26) (kI 16777216)),o1 16 28 (.pick (.s 25) (kB true) (.s 27))] [28,4,5,6,3])
  (.cond (.s 28) (sQ (rG 1 [o1 0 6 (.newsl 0 1)] [6])
  .ret)
  .skip))
  (sQ (rG 1 [o1 0 7 (.box 0 1 (.k (.a [.nilslice])))] [3,6,5,4,7])
  (sQ (sQ (rG 0 [lT 0 29 1 3,cA 1 30 262 [(.s 29)]] [6,30,5,4,7])
  (.block 0 (.rng (.s 30) 4124 [4,5,7])))
  (sQ (rG 0 [lF 0 85 7,mS 1 6 85] [6])
  .ret))))) }
abbrev f_curve_Near_r1 : Nat := 4124
def c_curve_Near_r1 : CFn := { frz := false,rnd := (some ([31,32],(rG 1 [o1 0 9 (.box 0 6 (.k (.a [(I 0),(I 0),(I 0),(I 0),(I 0),(I 0)]))),o0 1 (.store 6 (.s 9) (.s 32))] [4,5,7,9]))),nargs := 3,ntmps := 86,res := [],code :=
  (.block 1 (sQ (rG 1 [fA 0 33 0 9,lT 1 34 2 33,lT 2 35 2 4,cA 3 36 162 [(.s 34),(.s 35)],o1 4 10 (.box 0 2 (.k (.a [(I 0),(I 0)]))),o0 5 (.store 2 (.s 10) (.s 36))] [10,5,7,9])
  (sQ (rG 0 [fA 0 37 2 9,lT 1 38 2 37,lT 2 39 2 10,cA 3 40 164 [(.s 38),(.s 39)],mS 4 11 40] [10,5,7,9,11])
  (sQ (sQ (.region 0 [fA 0 41 2 9,fA 6 47 4 9,lT 1 42 2 41,lT 2 43 2 10,lF 5 46 5,lF 7 48 47,bS 8 49 .mul 46 48,cA 3 44 270 [(.s 42),(.s 43)],cA 4 45 269 [(.s 44)],bS 9 50 .gtr 45 49,mS 10 51 50,oG 11 52 51 false (.mv (.s 11)),oG 14 55 51 false (.faddr 4 (.s 9)),oG 12 53 51 false (.load false 1 (.s 5)),oG 13 54 51 false (.un .neg (.s 53)),oG 15 56 51 false (.load false 1 (.s 55)),oG 16 57 51 false (.bin .mul (.s 54) (.s 56)),oG 17 58 51 false (.bin .lss (.s 52) (.s 57)),o1 18 59 (.pick (.s 51) (kB true) (.s 58)),mS 19 60 59,oG 20 61 60 false (.mv (.s 11)),oG 21 62 60 false (.faddr 4 (.s 9)),oG 25 66 60 false (.faddr 4 (.s 9)),oG 22 63 60 false (.load false 1 (.s 62)),oG 23 64 60 false (.load false 1 (.s 5)),oG 24 65 60 false (.bin .add (.s 63) (.s 64)),oG 26 67 60 false (.load false 1 (.s 66)),oG 27 68 60 false (.bin .mul (.s 65) (.s 67)),oG 28 69 60 false (.bin .gtr (.s 61) (.s 68)),o1 29 70 (.pick (.s 60) (kB true) (.s 69))] [(4,7),(4,8),(5,7),(5,8)] (some [70,7,9,11]))
  (.cond (.s 70) (.exit 1)
  .skip))
  (.region 1 [fA 1 72 5 9,mS 3 74 11,fA 4 75 4 9,fA 7 78 4 9,lF 0 71 7,lF 2 73 72,lF 5 76 75,lF 8 79 78,cA 6 77 271 [(.s 74),(.s 76)],o1 9 80 (.minmax false [(.s 77),(.s 79)]),o1 10 81 (.minmax true [(kI 0),(.s 80)]),bS 11 82 .add 73 81,o1 12 83 (.lit 0 1 [[(I 0)]] [(0,(.s 82))]),o1 13 84 (.append 1 8 (.s 71) (.s 83)),o0 14 (.store 1 (.s 7) (.s 84))] [(4,8),(4,12),(5,8),(7,8)] (some [])))))) }
def c_slices_IndexFunc_Blob_l1 : CC := (sQ (rG 0 [bS 0 9 .lss 8 7] [9,0,1,7,8])
  (sQ (.cond (.s 9) .skip
  (.exit 0))
  (sQ (.block 1 (sQ (rG 0 [mS 0 10 8,mS 1 5 10] [0,1,7,8,5])
  (sQ (rG 0 [mS 0 11 1,mS 1 12 0,mS 2 13 5,iA 3 14 6 12 13,lT 4 15 6 14,⟨5,(some 16),none,.call ⟨true⟩ (.s 11) [(.s 15)]⟩] [16,0,1,7,8,5])
  (.cond (.s 16) (sQ (rG 0 [mS 0 17 5,mS 1 4 17] [4])
  .ret)
  .skip))))
  (rG 0 [bI 0 18 .add 8 1,mS 1 8 18] [7,1,0,8]))))
abbrev f_slices_IndexFunc_Blob : Nat := 238
def c_slices_IndexFunc_Blob : CFn := { frz := true,rnd := none,nargs := 2,ntmps := 19,res := [(.slot 4)],code :=
  (sQ (rG 0 [mI 0 4 0] [1,0])
  (sQ (sQ (rG 0 [mS 0 6 0,lN 1 7 6,mI 2 8 0] [7,1,0,8])
  (.block 0 (.loop (some [7,1,0,8]) c_slices_IndexFunc_Blob_l1)))
  (sQ (rG 0 [mI 0 4 (-1)] [4])
  .ret))) }
abbrev f_world_Stop : Nat := 239
def c_world_Stop : CFn := { frz := true,rnd := none,nargs := 2,ntmps := 31,res := [(.slot 4)],code :=
  (sQ (rG 0 [mI 0 4 0] [1,0])
  (sQ (sQ (rG 0 [mS 0 6 0,bI 1 7 .lss 6 1,mS 2 8 7,oG 3 9 8 false (.mv (.s 1)),oG 4 10 8 false (.bin .lss (.s 9) (kI 1)),o1 5 11 (.pick (.s 8) (kB true) (.s 10))] [11,1,0])
  (.cond (.s 11) (sQ (rG 0 [mI 0 4 0] [4])
  .ret)
  .skip))
  (sQ (rG 0 [mS 0 12 0,o1 1 13 (.minmax false [(.s 12),(kI 1000000)]),mS 2 14 1,o1 3 15 (.minmax false [(.s 14),(kI 1000000)]),mS 4 0 13,mS 5 1 15] [0,1])
  (sQ (rG 0 [mS 0 16 0,bI 1 17 .sub 16 1,mS 2 18 1,bS 3 19 .quo 17 18,mS 4 5 19] [0,1,5])
  (sQ (rG 0 [mS 0 20 5,mS 1 21 0,bS 2 22 .mul 20 21,mS 3 23 1,mS 4 24 5,mS 5 25 5,bI 6 26 .add 25 1,bS 7 27 .mul 24 26,bI 8 28 .quo 27 2,bS 9 29 .mul 23 28,bS 10 30 .sub 22 29,mS 11 4 30] [4])
  .ret))))) }
def c_signs_Red_l1 : CC := (sQ (rG 0 [bS 0 26 .lss 25 24] [26,7,25,24,13,14,15,23,3,9,1,2])
  (sQ (.cond (.s 26) .skip
  (.exit 2))
  (sQ (.block 3 (sQ (rG 1 [iA 0 27 4 23 25,lT 1 28 4 27,o1 2 11 (.box 0 4 (.k (.a [(I 0),(I 0),(I 0),(I 0)]))),o0 3 (.store 4 (.s 11) (.s 28))] [7,11,25,24,13,14,15,23,3,9,1,2])
  (sQ (rG 0 [fA 0 29 0 11,lF 1 30 29,mS 2 31 1,bS 3 32 .eql 30 31,mS 4 33 32,oG 5 34 33 true (.faddr 3 (.s 3)),oG 6 35 33 true (.load false 1 (.s 34)),oG 7 36 33 true (.faddr 1 (.s 9)),oG 8 37 33 true (.load false 1 (.s 36)),oG 9 38 33 true (.bin .sub (.s 37) (kI 1)),oG 10 39 33 true (.iaddr 2 (.s 35) (.s 38)),oG 11 40 33 true (.load true 2 (.s 39)),oG 12 41 33 true (.mv (.s 1)),oG 13 42 33 true (.mv (.s 2)),⟨14,(some 43),(some (33,true)),.call ⟨true⟩ (.k (.c (.fn 222 [] []))) [(.s 40),(.s 41),(.s 42)]⟩,oG 15 44 33 true (.un .not (.s 43)),o1 16 45 (.pick (.s 33) (.s 44) (kB false))] [45,7,11,25,24,13,14,15,23,3,9,1,2])
  (.cond (.s 45) (rG 1 [mS 0 46 7,fA 1 47 1 11,lF 2 48 47,o1 3 49 (.lit 0 1 [[(I 0)]] [(0,(.s 48))]),o1 4 50 (.append 1 8 (.s 46) (.s 49)),mS 5 7 50] [25,7,24,13,14,15,23,3,9,1,2])
  .skip))))
  (rG 0 [bI 0 51 .add 25 1,mS 1 25 51] [7,25,24,13,14,15,23,3,9,1,2]))))
def c_signs_Red_l2 : CC := (sQ (rG 0 [bS 0 16 .lss 15 14] [16,15,14,13,2,1,3,7])
  (sQ (.cond (.s 16) .skip
  (.exit 0))
  (sQ (.block 1 (sQ (rG 1 [iA 0 17 2 13 15,lT 1 18 2 17,o1 2 9 (.box 0 2 (.k (.a [.nilslice,(I 0)]))),o0 3 (.store 2 (.s 9) (.s 18))] [9,15,14,13,2,1,3,7])
  (sQ (sQ (rG 0 [fA 0 19 1 9,lF 1 20 19,bI 2 21 .eql 20 0] [21,9,15,14,13,2,1,3,7])
  (.cond (.s 21) (.exit 1)
  .skip))
  (sQ (rG 0 [fA 0 22 0 9,lF 1 23 22,lN 2 24 23,mI 3 25 0] [7,25,24,13,14,15,23,3,9,1,2])
  (.block 2 (.loop (some [7,25,24,13,14,15,23,3,9,1,2]) c_signs_Red_l1))))))
  (rG 0 [bI 0 52 .add 15 1,mS 1 15 52] [15,14,13,2,1,3,7]))))
abbrev f_signs_Red : Nat := 240
def c_signs_Red : CFn := { frz := true,rnd := none,nargs := 3,ntmps := 57,res := [(.slot 6)],code :=
  (sQ (rG 2 [o1 0 3 (.box 0 5 (.s 0)),o1 1 6 (.newsl 1 1)] [2,1,3])
  (sQ (rG 1 [o1 0 7 (.newsl 0 1)] [2,1,3,7])
  (sQ (sQ (rG 0 [fA 0 12 2 3,lF 1 13 12,lN 2 14 13,mI 3 15 0] [15,14,13,2,1,3,7])
  (.block 0 (.loop (some [15,14,13,2,1,3,7]) c_signs_Red_l2)))
  (sQ (rG 0 [mS 0 53 7,⟨1,(some 54),none,.call ⟨false⟩ (.k (.c (.fn 149 [] []))) [(.s 53)]⟩] [7])
  (sQ (rG 0 [mS 0 55 7,⟨1,(some 56),none,.call ⟨false⟩ (.k (.c (.fn 272 [] []))) [(.s 55)]⟩,mS 2 6 56] [6])
  .ret))))) }
def c_motion_layer_lay_1_l1 : CC := (sQ (rG 0 [bS 0 90 .lss 89 88] [90,89,88,87,7,12,4,6,1,2,11,3])
  (sQ (.cond (.s 90) .skip
  (.exit 0))
  (sQ (.block 1 (sQ (rG 0 [iA 0 91 1 87 89,lF 1 92 91,mS 2 15 92] [15,89,88,87,7,12,4,6,1,2,11,3])
  (sQ (rG 1 [lT 0 93 6 7,o1 1 16 (.box 0 6 (.k (.a [(I 0),(I 0),(I 0),(I 0),(I 0),(I 0)]))),o0 2 (.store 6 (.s 16) (.s 93))] [15,16,89,88,87,7,12,4,6,1,2,11,3])
  (sQ (rG 0 [mS 0 94 15,fA 1 95 0 16,o0 2 (.store 1 (.s 95) (.s 94)),fA 3 96 5 16,o0 4 (.store 1 (.s 96) (kI 0))] [15,16,89,88,87,7,12,4,6,1,2,11,3])
  (sQ (rG 0 [fA 0 97 0 4,fA 1 98 5 97,lF 2 99 98,mS 3 100 15,cA 4 101 132 [(.s 99),(.s 100)],mS 5 17 101] [17,16,89,88,87,7,12,4,6,1,2,11,3])
  (sQ (rG 0 [mS 0 102 12,bI 1 103 .geq 102 0,mS 2 104 103,oG 3 105 104 true (.mv (.s 17)),oG 4 106 104 true (.mv (.s 12)),oG 5 107 104 true (.bin .add (.s 106) (kI 1)),oG 6 108 104 true (.bin .eql (.s 105) (.s 107)),o1 7 109 (.pick (.s 104) (.s 108) (kB false)),mS 8 18 109] [17,16,18,89,88,87,7,12,4,6,1,2,11,3])
  (sQ (rG 0 [mS 0 110 17,bI 1 111 .geq 110 0,mS 2 112 111,oG 3 113 112 true (.mv (.s 18)),oG 4 114 112 true (.un .not (.s 113)),o1 5 115 (.pick (.s 112) (.s 114) (kB false)),mS 6 116 115,oG 7 117 116 true (.faddr 12 (.s 4)),oG 8 118 116 true (.faddr 0 (.s 117)),oG 10 120 116 true (.faddr 0 (.s 4)),oG 11 121 116 true (.faddr 6 (.s 120)),oG 13 123 116 true (.mv (.s 17)),oG 9 119 116 true (.load false 1 (.s 118)),oG 12 122 116 true (.load false 1 (.s 121)),oG 14 124 116 true (.iaddr 1 (.s 122) (.s 123)),oG 15 125 116 true (.load false 1 (.s 124)),oG 16 126 116 true (.bin .geq (.s 119) (.s 125)),o1 17 127 (.pick (.s 116) (.s 126) (kB false)),mS 18 19 127] [16,18,19,89,88,87,7,12,4,6,1,2,11,3])
  (rG 0 [lF 0 128 6,lT 1 129 6 16,mS 2 130 1,mS 3 131 11,bS 4 132 .sub 130 131,mS 5 133 2,mS 6 134 11,bS 7 135 .sub 133 134,mS 8 136 18,mS 9 137 136,oG 10 138 137 true (.mv (.s 3)),o1 11 139 (.pick (.s 137) (.s 138) (kB false)),mS 12 140 139,oG 13 141 140 false (.mv (.s 19)),o1 14 142 (.pick (.s 140) (kB true) (.s 141)),⟨15,(some 143),none,.call ⟨true⟩ (.s 128) [(.s 129),(.s 132),(.s 135),(.s 142)]⟩] [89,88,87,7,12,4,6,1,2,11,3]))))))))
  (rG 0 [bI 0 144 .add 89 1,mS 1 89 144] [89,88,87,7,12,4,6,1,2,11,3]))))
abbrev f_motion_layer_lay_1 : Nat := 241
def c_motion_layer_lay_1 : CFn := { frz := true,rnd := none,nargs := 7,ntmps := 145,res := [],code :=
  (sQ (rG 1 [o1 0 7 (.box 0 6 (.s 0))] [3,5,2,1,6,4,7])
  (sQ (.region 0 [fA 0 20 0 4,fA 1 21 9 20,fA 3 23 0 7,fA 7 27 0 4,fA 8 28 5 27,fA 10 30 0 7,lF 2 22 21,lF 4 24 23,iA 5 25 1 22 24,lF 6 26 25,lF 9 29 28,lF 11 31 30,cA 12 32 132 [(.s 29),(.s 31)],mS 13 11 26,mS 14 12 32] [(6,12),(7,12),(9,12)] (some [3,5,11,2,1,6,4,12,7]))
  (sQ (rG 1 [lT 0 33 6 7,o1 1 13 (.box 0 6 (.k (.a [(I 0),(I 0),(I 0),(I 0),(I 0),(I 0)]))),o0 2 (.store 6 (.s 13) (.s 33))] [3,13,5,11,2,1,6,4,12,7])
  (sQ (rG 0 [mS 0 34 1,o1 1 35 (.minmax true [(kI 0),(.s 34)]),mS 2 36 2,mS 3 37 11,o1 4 38 (.minmax false [(.s 36),(.s 37)]),fA 5 39 1 13,o0 6 (.store 1 (.s 39) (.s 35)),fA 7 40 2 13,o0 8 (.store 1 (.s 40) (.s 38))] [3,13,5,11,2,1,6,4,12,7])
  (sQ (rG 0 [mS 0 41 3,mS 1 42 41,oG 2 43 42 true (.mv (.s 12)),oG 3 44 42 true (.bin .geq (.s 43) (kI 0)),o1 4 45 (.pick (.s 42) (.s 44) (kB false)),mS 5 3 45] [13,5,3,11,2,1,6,4,12,7])
  (sQ (sQ (rG 0 [mS 0 46 3] [46,13,5,3,11,2,1,6,4,12,7])
  (.cond (.s 46) (rG 0 [fA 0 47 2 13,fA 2 49 11 4,fA 4 51 0 4,fA 5 52 6 51,mS 7 54 12,lF 1 48 47,lF 3 50 49,lF 6 53 52,iA 8 55 1 53 54,lF 9 56 55,bS 10 57 .sub 50 56,o1 11 58 (.minmax false [(.s 48),(.s 57)]),fA 12 59 2 13,o0 13 (.store 1 (.s 59) (.s 58))] [13,5,3,11,2,1,6,4,12,7])
  .skip))
  (sQ (sQ (rG 0 [mS 0 60 1,mS 1 61 11,bS 2 62 .leq 60 61,mS 3 63 62,oG 4 64 63 true (.faddr 1 (.s 13)),oG 5 65 63 true (.load false 1 (.s 64)),oG 6 66 63 true (.faddr 2 (.s 13)),oG 7 67 63 true (.load false 1 (.s 66)),oG 8 68 63 true (.bin .leq (.s 65) (.s 67)),o1 9 69 (.pick (.s 63) (.s 68) (kB false))] [69,13,5,3,11,2,1,6,4,12,7])
  (.cond (.s 69) (rG 1 [lF 0 70 5,lT 1 71 6 13,mS 2 72 3,o1 3 73 (.build [(I 0),(I 0),(I 0),(I 0),(I 0),(I 0),(.bool false)] [(0,6,(.s 71)),(6,1,(.s 72))]),o1 4 74 (.lit 0 7 [[(I 0),(I 0),(I 0),(I 0),(I 0),(I 0),(.bool false)]] [(0,(.s 73))]),o1 5 75 (.append 7 56 (.s 70) (.s 74)),o0 6 (.store 1 (.s 5) (.s 75))] [3,11,2,1,6,4,12,7])
  .skip))
  (sQ (sQ (rG 0 [mS 0 76 2,mS 1 77 11,bS 2 78 .lss 76 77] [78,3,11,2,1,6,4,12,7])
  (.cond (.s 78) .ret
  .skip))
  (sQ (rG 0 [fA 0 79 0 4,fA 1 80 0 79,fA 2 81 1 80,lF 3 82 81,fA 4 83 0 7,lF 5 84 83,iA 6 85 5 82 84,fA 7 86 4 85,lF 8 87 86,lN 9 88 87,mI 10 89 0] [89,88,87,7,12,4,6,1,2,11,3])
  (.block 0 (.loop (some [89,88,87,7,12,4,6,1,2,11,3]) c_motion_layer_lay_1_l1))))))))))) }
def c_slices_pdqsortCmpFunc_Sweep_l1 : CC := (.block 1 (sQ (rG 0 [mS 0 21 2,mS 1 22 1,bS 2 23 .sub 21 22,mS 3 12 23] [3,11,10,12,0,1,2,4])
  (sQ (sQ (rG 0 [mS 0 24 12,bI 1 25 .leq 24 12] [25,3,11,10,12,0,1,2,4])
  (.cond (.s 25) (sQ (rG 0 [mS 0 26 0,mS 1 27 1,mS 2 28 2,mS 3 29 4,⟨4,(some 30),none,.call ⟨false⟩ (.k (.c (.fn 273 [] []))) [(.s 26),(.s 27),(.s 28),(.s 29)]⟩] [])
  .ret)
  .skip))
  (sQ (sQ (rG 0 [mS 0 31 3,bI 1 32 .eql 31 0] [32,12,10,11,3,0,1,2,4])
  (.cond (.s 32) (sQ (rG 0 [mS 0 33 0,mS 1 34 1,mS 2 35 2,mS 3 36 4,⟨4,(some 37),none,.call ⟨false⟩ (.k (.c (.fn 274 [] []))) [(.s 33),(.s 34),(.s 35),(.s 36)]⟩] [])
  .ret)
  .skip))
  (sQ (sQ (rG 0 [mS 0 38 10,o1 1 39 (.un .not (.s 38))] [39,3,4,2,0,11,10,1,12])
  (.cond (.s 39) (sQ (rG 0 [mS 0 40 0,mS 1 41 1,mS 2 42 2,mS 3 43 4,⟨4,(some 44),none,.call ⟨false⟩ (.k (.c (.fn 275 [] []))) [(.s 40),(.s 41),(.s 42),(.s 43)]⟩] [3,4,2,0,11,10,1,12])
  (rG 0 [mS 0 45 3,bI 1 46 .sub 45 1,mS 2 3 46] [4,2,0,11,10,3,1,12]))
  .skip))
  (sQ (rG 0 [mS 0 48 0,mS 1 49 1,mS 2 50 2,mS 3 51 4,⟨4,(some 52),none,.call ⟨false⟩ (.k (.c (.fn 276 [] []))) [(.s 48),(.s 49),(.s 50),(.s 51)]⟩,mS 5 47 52,eX 6 53 47 0,eX 7 54 47 1,mS 8 13 53,mS 9 14 54] [14,13,4,2,0,11,10,3,1,12])
  (sQ (sQ (rG 0 [mS 0 55 14,bI 1 56 .eql 55 2] [56,14,13,4,2,0,11,10,3,1,12])
  (.cond (.s 56) (sQ (rG 0 [mS 0 57 0,mS 1 58 1,mS 2 59 2,mS 3 60 4,⟨4,(some 61),none,.call ⟨false⟩ (.k (.c (.fn 277 [] []))) [(.s 57),(.s 58),(.s 59),(.s 60)]⟩] [13,4,2,0,11,10,3,1,12])
  (sQ (rG 0 [mS 0 62 2,bI 1 63 .sub 62 1,mS 2 64 13,mS 3 65 1,bS 4 66 .sub 64 65,bS 5 67 .sub 63 66,mS 6 13 67] [4,2,0,11,10,3,13,1,12])
  (rG 0 [mI 0 14 1] [14,4,2,0,11,10,3,13,1,12])))
  .skip))
  (sQ (sQ (rG 0 [mS 0 68 10,mS 1 69 68,oG 2 70 69 true (.mv (.s 11)),o1 3 71 (.pick (.s 69) (.s 70) (kB false)),mS 4 72 71,oG 5 73 72 true (.mv (.s 14)),oG 6 74 72 true (.bin .eql (.s 73) (kI 1)),o1 7 75 (.pick (.s 72) (.s 74) (kB false))] [75,4,2,0,11,10,3,13,1,12])
  (.cond (.s 75) (sQ (rG 0 [mS 0 76 0,mS 1 77 1,mS 2 78 2,mS 3 79 4,⟨4,(some 80),none,.call ⟨false⟩ (.k (.c (.fn 278 [] []))) [(.s 76),(.s 77),(.s 78),(.s 79)]⟩] [80,4,2,0,11,10,3,13,1,12])
  (.cond (.s 80) .ret
  .skip))
  .skip))
  (sQ (sQ (rG 0 [mS 0 81 1,bI 1 82 .gtr 81 0,mS 2 83 82,oG 3 84 83 true (.mv (.s 4)),oG 4 85 83 true (.mv (.s 0)),oG 5 86 83 true (.mv (.s 1)),oG 6 87 83 true (.bin .sub (.s 86) (kI 1)),oG 7 88 83 true (.iaddr 4 (.s 85) (.s 87)),oG 9 90 83 true (.mv (.s 0)),oG 10 91 83 true (.mv (.s 13)),oG 11 92 83 true (.iaddr 4 (.s 90) (.s 91)),oG 8 89 83 true (.load true 4 (.s 88)),oG 12 93 83 true (.load true 4 (.s 92)),⟨13,(some 94),(some (83,true)),.call ⟨true⟩ (.s 84) [(.s 89),(.s 93)]⟩,oG 14 95 83 true (.bin .lss (.s 94) (kI 0)),oG 15 96 83 true (.un .not (.s 95)),o1 16 97 (.pick (.s 83) (.s 96) (kB false))] [97,12,1,13,3,10,11,0,2,4])
  (.cond (.s 97) (sQ (rG 0 [mS 0 98 0,mS 1 99 1,mS 2 100 2,mS 3 101 13,mS 4 102 4,⟨5,(some 103),none,.call ⟨false⟩ (.k (.c (.fn 279 [] []))) [(.s 98),(.s 99),(.s 100),(.s 101),(.s 102)]⟩,mS 6 15 103] [15,3,10,11,0,2,4])
  (sQ (rG 0 [mS 0 104 15,mS 1 1 104] [3,10,11,0,1,2,4])
  (.exit 1)))
  .skip))
  (sQ (rG 0 [mS 0 106 0,mS 1 107 1,mS 2 108 2,mS 3 109 13,mS 4 110 4,⟨5,(some 111),none,.call ⟨false⟩ (.k (.c (.fn 280 [] []))) [(.s 106),(.s 107),(.s 108),(.s 109),(.s 110)]⟩,mS 6 105 111,eX 7 112 105 0,eX 8 113 105 1,mS 9 16 112,mS 10 17 113] [17,12,1,16,3,0,2,4])
  (sQ (rG 0 [mS 0 114 17,mS 1 11 114] [12,1,16,3,11,0,2,4])
  (sQ (rG 0 [mS 0 115 16,mS 1 116 1,bS 2 117 .sub 115 116,mS 3 118 2,mS 4 119 16,bS 5 120 .sub 118 119,mS 6 18 117,mS 7 19 120] [12,19,18,1,16,3,11,0,2,4])
  (sQ (rG 0 [mS 0 121 12,bI 1 122 .quo 121 8,mS 2 20 122] [19,18,20,1,16,3,11,0,2,4])
  (sQ (rG 0 [mS 0 123 18,mS 1 124 19,bS 2 125 .lss 123 124] [125,19,18,20,1,16,3,11,0,2,4])
  (.cond (.s 125) (sQ (rG 0 [mS 0 126 18,mS 1 127 20,bS 2 128 .geq 126 127,mS 3 10 128] [1,16,3,10,11,0,2,4])
  (sQ (rG 0 [mS 0 129 0,mS 1 130 1,mS 2 131 16,mS 3 132 3,mS 4 133 4,⟨5,(some 134),none,.call ⟨false⟩ (.k (.c (.fn 242 [] []))) [(.s 129),(.s 130),(.s 131),(.s 132),(.s 133)]⟩] [16,3,10,11,0,2,4])
  (rG 0 [mS 0 135 16,bI 1 136 .add 135 1,mS 2 1 136] [3,10,11,0,1,2,4])))
  (sQ (rG 0 [mS 0 137 19,mS 1 138 20,bS 2 139 .geq 137 138,mS 3 10 139] [2,16,3,10,11,0,1,4])
  (sQ (rG 0 [mS 0 140 0,mS 1 141 16,bI 2 142 .add 141 1,mS 3 143 2,mS 4 144 3,mS 5 145 4,⟨6,(some 146),none,.call ⟨false⟩ (.k (.c (.fn 242 [] []))) [(.s 140),(.s 142),(.s 143),(.s 144),(.s 145)]⟩] [16,3,10,11,0,1,4])
  (rG 0 [mS 0 147 16,mS 1 2 147] [3,10,11,0,1,2,4]))))))))))))))))))
abbrev f_slices_pdqsortCmpFunc_Sweep : Nat := 242
def c_slices_pdqsortCmpFunc_Sweep : CFn := { frz := true,rnd := none,nargs := 5,ntmps := 148,res := [],code :=
  (sQ (rG 0 [mB 0 10 true] [3,10,0,1,2,4])
  (sQ (rG 0 [mB 0 11 true] [3,10,11,0,1,2,4])
  (.block 0 (.loop (some [3,10,11,0,1,2,4]) c_slices_pdqsortCmpFunc_Sweep_l1)))) }
abbrev f_motion_less_1 : Nat := 243
def c_motion_less_1 : CFn := { frz := true,rnd := none,nargs := 1,ntmps := 4,res := [(.slot 2)],code :=
  (sQ (rG 0 [mI 0 2 0] [0])
  (sQ (sQ (rG 0 [mS 0 3 0] [3])
  (.cond (.s 3) (sQ (rG 0 [mI 0 2 1] [2])
  .ret)
  .skip))
  (sQ (rG 0 [mI 0 2 0] [2])
  .ret))) }
def c_slices_DeleteFunc_Blob_l1 : CC := (sQ (sQ (rG 0 [mS 0 16 6,mS 1 17 0,lN 2 18 17,bS 3 19 .lss 16 18] [19,5,6,1,0])
  (.cond (.s 19) .skip
  (.exit 0)))
  (sQ (.block 1 (sQ (rG 1 [mS 0 22 0,mS 1 23 6,iA 2 24 6 22 23,lT 3 25 6 24,o1 4 7 (.box 0 6 (.k (.a [(I 0),(I 0),(I 0),(I 0),(I 0),(I 0)]))),o0 5 (.store 6 (.s 7) (.s 25))] [7,5,6,1,0])
  (sQ (rG 0 [mS 0 26 1,lT 1 27 6 7,⟨2,(some 28),none,.call ⟨true⟩ (.s 26) [(.s 27)]⟩,o1 3 29 (.un .not (.s 28))] [29,7,5,6,1,0])
  (.cond (.s 29) (sQ (rG 0 [mS 0 30 0,mS 1 31 5,lT 2 32 6 7,iA 3 33 6 30 31,o0 4 (.store 6 (.s 33) (.s 32))] [5,6,1,0])
  (rG 0 [mS 0 34 5,bI 1 35 .add 34 1,mS 2 5 35] [6,5,1,0]))
  .skip))))
  (rG 0 [mS 0 20 6,bI 1 21 .add 20 1,mS 2 6 21] [5,6,1,0])))
abbrev f_slices_DeleteFunc_Blob : Nat := 244
def c_slices_DeleteFunc_Blob : CFn := { frz := false,rnd := none,nargs := 2,ntmps := 42,res := [(.slot 4)],code :=
  (sQ (rG 1 [o1 0 4 (.newsl 0 6)] [1,0])
  (sQ (rG 0 [mS 0 8 0,mS 1 9 1,cA 2 10 238 [(.s 8),(.s 9)],mS 3 5 10] [1,5,0])
  (sQ (sQ (rG 0 [mS 0 11 5,bI 1 12 .eql 11 (-1)] [12,1,5,0])
  (.cond (.s 12) (sQ (rG 0 [mS 0 13 0,mS 1 4 13] [4])
  .ret)
  .skip))
  (sQ (sQ (rG 0 [mS 0 14 5,bI 1 15 .add 14 1,mS 2 6 15] [5,6,1,0])
  (.block 0 (.loop (some [5,6,1,0]) c_slices_DeleteFunc_Blob_l1)))
  (sQ (rG 0 [mS 0 36 0,mS 1 37 5,o1 2 38 (.slice 6 (.s 36) (some (.s 37)) none none),o0 3 (.clear [(I 0),(I 0),(I 0),(I 0),(I 0),(I 0)] (.s 38))] [0,5])
  (sQ (rG 0 [mS 0 39 0,mS 1 40 5,o1 2 41 (.slice 6 (.s 39) none (some (.s 40)) none),mS 3 4 41] [4])
  .ret)))))) }
abbrev f_motion_Join_1 : Nat := 245
def c_motion_Join_1 : CFn := { frz := true,rnd := none,nargs := 1,ntmps := 8,res := [(.slot 2)],code :=
  (sQ (rG 1 [o1 0 1 (.box 0 6 (.s 0)),mB 1 2 false] [1])
  (sQ (rG 0 [fA 0 3 1 1,lF 1 4 3,fA 2 5 2 1,lF 3 6 5,bS 4 7 .gtr 4 6,mS 5 2 7] [2])
  .ret)) }
abbrev f_slices_SortStableFunc_Blob : Nat := 246
def c_slices_SortStableFunc_Blob : CFn := { frz := true,rnd := none,nargs := 2,ntmps := 9,res := [],code :=
  (rG 0 [mS 0 4 0,mS 1 5 0,lN 2 6 5,mS 3 7 1,⟨4,(some 8),none,.call ⟨false⟩ (.k (.c (.fn 281 [] []))) [(.s 4),(.s 6),(.s 7)]⟩] []) }
abbrev f_motion_Join_2 : Nat := 247
def c_motion_Join_2 : CFn := { frz := true,rnd := none,nargs := 2,ntmps := 17,res := [(.slot 4)],code :=
  (sQ (rG 2 [o1 0 2 (.box 0 6 (.s 0)),o1 1 3 (.box 1 6 (.s 1)),mI 2 4 0] [2,3])
  (sQ (.region 1 [fA 0 5 0 2,fA 2 7 0 3,fA 5 10 1 2,fA 7 12 1 3,lF 1 6 5,lF 3 8 7,lF 6 11 10,lF 8 13 12,cA 4 9 137 [(.s 6),(.s 8)],cA 9 14 136 [(.s 11),(.s 13)],o1 10 15 (.lit 0 1 [[(I 0)],[(I 0)]] [(0,(.s 9)),(1,(.s 14))]),cA 11 16 135 [(.s 15)],mS 12 4 16] [(6,8),(7,8)] (some [4]))
  .ret)) }
abbrev f_motion_hull : Nat := 248
def c_motion_hull : CFn := { frz := true,rnd := none,nargs := 2,ntmps := 48,res := [(.cell 4 true 6)],code :=
  (sQ (rG 3 [o1 0 2 (.box 0 6 (.s 0)),o1 1 3 (.box 1 6 (.s 1)),o1 2 4 (.box 2 6 (.k (.a [(I 0),(I 0),(I 0),(I 0),(I 0),(I 0)])))] [3,2,4])
  (sQ (.region 0 [fA 0 5 1 2,fA 2 7 1 3,fA 5 10 2 2,fA 7 12 2 3,fA 10 15 3 2,fA 12 17 3 3,fA 15 20 4 2,fA 17 22 4 3,lF 1 6 5,lF 3 8 7,lF 6 11 10,lF 8 13 12,lF 11 16 15,lF 13 18 17,lF 16 21 20,lF 18 23 22,o1 4 9 (.minmax false [(.s 6),(.s 8)]),fA 20 25 1 2,o1 9 14 (.minmax true [(.s 11),(.s 13)]),o1 14 19 (.minmax false [(.s 16),(.s 18)]),o1 19 24 (.minmax true [(.s 21),(.s 23)]),o0 21 (.store 1 (.s 25) (.s 9)),fA 22 26 2 2,o0 23 (.store 1 (.s 26) (.s 14)),fA 24 27 3 2,o0 25 (.store 1 (.s 27) (.s 19)),fA 26 28 4 2,o0 27 (.store 1 (.s 28) (.s 24))] [(11,21),(13,21),(13,23),(15,21),(15,23),(15,25)] (some [3,2,4]))
  (sQ (sQ (rG 0 [fA 0 29 5 2,lF 1 30 29,bI 2 31 .eql 30 0,mS 3 32 31,oG 4 33 32 false (.faddr 5 (.s 3)),oG 5 34 32 false (.load false 1 (.s 33)),oG 6 35 32 false (.bin .eql (.s 34) (kI 0)),o1 7 36 (.pick (.s 32) (kB true) (.s 35))] [36,3,2,4])
  (.cond (.s 36) (rG 0 [fA 0 37 5 2,o0 1 (.store 1 (.s 37) (kI 0))] [3,2,4])
  .skip))
  (sQ (sQ (rG 0 [fA 0 38 5 2,lF 1 39 38,bI 2 40 .neq 39 0] [40,3,2,4])
  (.cond (.s 40) (rG 0 [fA 0 41 5 2,lF 1 42 41,fA 2 43 5 3,lF 3 44 43,o1 4 45 (.minmax true [(.s 42),(.s 44)]),fA 5 46 5 2,o0 6 (.store 1 (.s 46) (.s 45))] [2,4])
  .skip))
  (sQ (rG 0 [lT 0 47 6 2,o0 1 (.store 6 (.s 4) (.s 47))] [4])
  .ret))))) }
def c_slices_insertionSortOrdered_int64_l1 : CC := (sQ (sQ (rG 0 [mS 0 16 7,mS 1 17 1,bS 2 18 .gtr 16 17,mS 3 19 18,oG 4 20 19 true (.mv (.s 0)),oG 5 21 19 true (.mv (.s 7)),oG 6 22 19 true (.iaddr 1 (.s 20) (.s 21)),oG 8 24 19 true (.mv (.s 0)),oG 9 25 19 true (.mv (.s 7)),oG 10 26 19 true (.bin .sub (.s 25) (kI 1)),oG 11 27 19 true (.iaddr 1 (.s 24) (.s 26)),oG 7 23 19 true (.load false 1 (.s 22)),oG 12 28 19 true (.load false 1 (.s 27)),⟨13,(some 29),(some (19,true)),.call ⟨true⟩ (.k (.c (.fn 255 [] []))) [(.s 23),(.s 28)]⟩,o1 14 30 (.pick (.s 19) (.s 29) (kB false))] [30,7,1,2,6,0])
  (.cond (.s 30) .skip
  (.exit 2)))
  (sQ (.block 3 (rG 0 [mS 0 33 0,mS 1 34 7,mS 2 35 0,mS 3 36 7,bI 4 37 .sub 36 1,mS 5 38 0,mS 6 39 7,bI 7 40 .sub 39 1,iA 8 41 1 38 40,mS 10 43 0,mS 11 44 7,iA 12 45 1 43 44,lF 9 42 41,lF 13 46 45,iA 14 47 1 33 34,o0 15 (.store 1 (.s 47) (.s 42)),iA 16 48 1 35 37,o0 17 (.store 1 (.s 48) (.s 46))] [7,1,2,6,0]))
  (rG 0 [mS 0 31 7,bI 1 32 .sub 31 1,mS 2 7 32] [7,1,2,6,0])))
def c_slices_insertionSortOrdered_int64_l2 : CC := (sQ (sQ (rG 0 [mS 0 10 6,mS 1 11 2,bS 2 12 .lss 10 11] [12,1,2,6,0])
  (.cond (.s 12) .skip
  (.exit 0)))
  (sQ (.block 1 (sQ (rG 0 [mS 0 15 6,mS 1 7 15] [7,1,2,6,0])
  (.block 2 (.loop (some [7,1,2,6,0]) c_slices_insertionSortOrdered_int64_l1))))
  (rG 0 [mS 0 13 6,bI 1 14 .add 13 1,mS 2 6 14] [2,1,6,0])))
abbrev f_slices_insertionSortOrdered_int64 : Nat := 249
def c_slices_insertionSortOrdered_int64 : CFn := { frz := true,rnd := none,nargs := 3,ntmps := 49,res := [],code :=
  (sQ (rG 0 [mS 0 8 1,bI 1 9 .add 8 1,mS 2 6 9] [2,1,6,0])
  (.block 0 (.loop (some [2,1,6,0]) c_slices_insertionSortOrdered_int64_l2))) }
def c_slices_heapSortOrdered_int64_l1 : CC := (sQ (sQ (rG 0 [mS 0 18 9,bI 1 19 .geq 18 0] [19,9,7,0,8,6])
  (.cond (.s 19) .skip
  (.exit 0)))
  (sQ (.block 1 (rG 0 [mS 0 22 0,mS 1 23 9,mS 2 24 8,mS 3 25 6,⟨4,(some 26),none,.call ⟨false⟩ (.k (.c (.fn 282 [] []))) [(.s 22),(.s 23),(.s 24),(.s 25)]⟩] [9,7,0,8,6]))
  (rG 0 [mS 0 20 9,bI 1 21 .sub 20 1,mS 2 9 21] [9,7,0,8,6])))
def c_slices_heapSortOrdered_int64_l2 : CC := (sQ (sQ (rG 0 [mS 0 29 10,bI 1 30 .geq 29 0] [30,10,0,7,6])
  (.cond (.s 30) .skip
  (.exit 2)))
  (sQ (.block 3 (sQ (rG 0 [mS 0 33 0,mS 1 34 6,mS 2 35 0,mS 3 36 6,mS 4 37 10,bS 5 38 .add 36 37,mS 6 39 0,mS 7 40 6,mS 8 41 10,bS 9 42 .add 40 41,iA 10 43 1 39 42,mS 12 45 0,mS 13 46 6,iA 14 47 1 45 46,lF 11 44 43,lF 15 48 47,iA 16 49 1 33 34,o0 17 (.store 1 (.s 49) (.s 44)),iA 18 50 1 35 38,o0 19 (.store 1 (.s 50) (.s 48))] [10,0,7,6])
  (rG 0 [mS 0 51 0,mS 1 52 7,mS 2 53 10,mS 3 54 6,⟨4,(some 55),none,.call ⟨false⟩ (.k (.c (.fn 282 [] []))) [(.s 51),(.s 52),(.s 53),(.s 54)]⟩] [10,0,7,6])))
  (rG 0 [mS 0 31 10,bI 1 32 .sub 31 1,mS 2 10 32] [10,0,7,6])))
abbrev f_slices_heapSortOrdered_int64 : Nat := 250
def c_slices_heapSortOrdered_int64 : CFn := { frz := true,rnd := none,nargs := 3,ntmps := 56,res := [],code :=
  (sQ (rG 0 [mS 0 11 1,mS 1 6 11] [2,1,0,6])
  (sQ (rG 0 [mI 0 7 0] [2,1,7,0,6])
  (sQ (rG 0 [mS 0 12 2,mS 1 13 1,bS 2 14 .sub 12 13,mS 3 8 14] [7,0,8,6])
  (sQ (sQ (rG 0 [mS 0 15 8,bI 1 16 .sub 15 1,bI 2 17 .quo 16 2,mS 3 9 17] [9,7,0,8,6])
  (.block 0 (.loop (some [9,7,0,8,6]) c_slices_heapSortOrdered_int64_l1)))
  (sQ (rG 0 [mS 0 27 8,bI 1 28 .sub 27 1,mS 2 10 28] [10,0,7,6])
  (.block 2 (.loop (some [10,0,7,6]) c_slices_heapSortOrdered_int64_l2))))))) }
def c_slices_breakPatternsOrdered_int64_l1 : CC := (sQ (sQ (rG 0 [mS 0 26 9,mS 1 27 1,mS 2 28 6,bI 3 29 .quo 28 4,bI 4 30 .mul 29 2,bS 5 31 .add 27 30,bI 6 32 .add 31 1,bS 7 33 .leq 26 32] [33,9,7,8,6,1,0])
  (.cond (.s 33) .skip
  (.exit 0)))
  (sQ (.block 1 (sQ (rG 0 [cA 0 36 284 [(.s 7)],mS 1 37 8,o1 2 38 (.bin .sub (.s 37) (.k (.c (.int .u64 1)))),bS 3 39 .and 36 38,o1 4 40 (.conv .i64 (.s 39)),mS 5 10 40] [10,9,7,8,6,1,0])
  (sQ (sQ (rG 0 [mS 0 41 10,mS 1 42 6,bS 2 43 .geq 41 42] [43,10,9,7,8,6,1,0])
  (.cond (.s 43) (rG 0 [mS 0 44 10,mS 1 45 6,bS 2 46 .sub 44 45,mS 3 10 46] [10,9,7,8,6,1,0])
  .skip))
  (rG 0 [mS 0 47 0,mS 1 48 9,mS 2 49 0,mS 3 50 1,mS 4 51 10,bS 5 52 .add 50 51,mS 6 53 0,mS 7 54 1,mS 8 55 10,bS 9 56 .add 54 55,iA 10 57 1 53 56,mS 12 59 0,mS 13 60 9,iA 14 61 1 59 60,lF 11 58 57,lF 15 62 61,iA 16 63 1 47 48,o0 17 (.store 1 (.s 63) (.s 58)),iA 18 64 1 49 52,o0 19 (.store 1 (.s 64) (.s 62))] [9,7,8,6,1,0]))))
  (rG 0 [mS 0 34 9,bI 1 35 .add 34 1,mS 2 9 35] [9,7,8,6,1,0])))
abbrev f_slices_breakPatternsOrdered_int64 : Nat := 251
def c_slices_breakPatternsOrdered_int64 : CFn := { frz := true,rnd := none,nargs := 3,ntmps := 65,res := [],code :=
  (sQ (rG 0 [mS 0 11 2,mS 1 12 1,bS 2 13 .sub 11 12,mS 3 6 13] [6,1,0])
  (sQ (rG 0 [mS 0 14 6,bI 1 15 .geq 14 8] [15,6,1,0])
  (.cond (.s 15) (sQ (rG 1 [mS 0 16 6,o1 1 17 (.conv .u64 (.s 16)),o1 2 7 (.box 0 1 (.k (.a [(.int .u64 0)]))),o0 3 (.store 1 (.s 7) (.s 17))] [7,6,1,0])
  (sQ (rG 0 [mS 0 18 6,cA 1 19 283 [(.s 18)],mS 2 8 19] [7,8,6,1,0])
  (sQ (rG 0 [mS 0 20 1,mS 1 21 6,bI 2 22 .quo 21 4,bI 3 23 .mul 22 2,bS 4 24 .add 20 23,bI 5 25 .sub 24 1,mS 6 9 25] [9,7,8,6,1,0])
  (.block 0 (.loop (some [9,7,8,6,1,0]) c_slices_breakPatternsOrdered_int64_l1)))))
  .skip))) }
abbrev f_slices_choosePivotOrdered_int64 : Nat := 252
def c_slices_choosePivotOrdered_int64 : CFn := { frz := true,rnd := none,nargs := 3,ntmps := 57,res := [(.slot 6),(.slot 7)],code :=
  (sQ (rG 0 [mI 0 6 0,mI 1 7 0] [2,1,0])
  (sQ (rG 0 [mS 0 13 2,mS 1 14 1,bS 2 15 .sub 13 14,mS 3 8 15] [1,8,0])
  (sQ (rG 1 [o1 0 9 (.box 0 1 (.k (.a [(I 0)])))] [1,8,0,9])
  (sQ (rG 0 [mS 0 16 1,mS 1 17 8,bI 2 18 .quo 17 4,bI 3 19 .mul 18 1,bS 4 20 .add 16 19,mS 5 10 20] [1,8,10,0,9])
  (sQ (rG 0 [mS 0 21 1,mS 1 22 8,bI 2 23 .quo 22 4,bI 3 24 .mul 23 2,bS 4 25 .add 21 24,mS 5 11 25] [1,8,10,11,0,9])
  (sQ (rG 0 [mS 0 26 1,mS 1 27 8,bI 2 28 .quo 27 4,bI 3 29 .mul 28 3,bS 4 30 .add 26 29,mS 5 12 30] [8,10,11,12,0,9])
  (sQ (sQ (rG 0 [mS 0 31 8,bI 1 32 .geq 31 8] [32,8,10,11,12,0,9])
  (.cond (.s 32) (sQ (sQ (rG 0 [mS 0 33 8,bI 1 34 .geq 33 50] [34,10,11,12,0,9])
  (.cond (.s 34) (sQ (rG 0 [mS 0 35 0,mS 1 36 10,⟨2,(some 37),none,.call ⟨false⟩ (.k (.c (.fn 285 [] []))) [(.s 35),(.s 36),(.s 9)]⟩,mS 3 10 37] [11,12,0,10,9])
  (sQ (rG 0 [mS 0 38 0,mS 1 39 11,⟨2,(some 40),none,.call ⟨false⟩ (.k (.c (.fn 285 [] []))) [(.s 38),(.s 39),(.s 9)]⟩,mS 3 11 40] [12,0,10,11,9])
  (rG 0 [mS 0 41 0,mS 1 42 12,⟨2,(some 43),none,.call ⟨false⟩ (.k (.c (.fn 285 [] []))) [(.s 41),(.s 42),(.s 9)]⟩,mS 3 12 43] [0,10,11,12,9])))
  .skip))
  (rG 0 [mS 0 44 0,mS 1 45 10,mS 2 46 11,mS 3 47 12,⟨4,(some 48),none,.call ⟨false⟩ (.k (.c (.fn 286 [] []))) [(.s 44),(.s 45),(.s 46),(.s 47),(.s 9)]⟩,mS 5 11 48] [9,11]))
  .skip))
  (sQ (rG 0 [lF 0 49 9] [49,11])
  (.block 0 (sQ (rG 0 [bI 0 52 .eql 49 0,mS 1 51 52] [51,49,11])
  (.cond (.s 51) (sQ (rG 0 [mS 0 53 11,mS 1 6 53,mI 2 7 1] [6,7])
  .ret)
  (sQ (rG 0 [bI 0 55 .eql 49 12,mS 1 54 55] [54,11])
  (.cond (.s 54) (sQ (rG 0 [mS 0 56 11,mS 1 6 56,mI 2 7 2] [6,7])
  .ret)
  (sQ (rG 0 [mS 0 50 11,mS 1 6 50,mI 2 7 0] [6,7])
  .ret)))))))))))))) }
def c_slices_reverseRangeOrdered_int64_l1 : CC := (sQ (sQ (rG 0 [mS 0 11 6,mS 1 12 7,bS 2 13 .lss 11 12] [13,6,7,0])
  (.cond (.s 13) .skip
  (.exit 0)))
  (.block 1 (sQ (rG 0 [mS 0 14 0,mS 1 15 6,mS 2 16 0,mS 3 17 7,mS 4 18 0,mS 5 19 7,iA 6 20 1 18 19,mS 8 22 0,mS 9 23 6,iA 10 24 1 22 23,lF 7 21 20,lF 11 25 24,iA 12 26 1 14 15,o0 13 (.store 1 (.s 26) (.s 21)),iA 14 27 1 16 17,o0 15 (.store 1 (.s 27) (.s 25))] [6,7,0])
  (sQ (rG 0 [mS 0 28 6,bI 1 29 .add 28 1,mS 2 6 29] [7,6,0])
  (rG 0 [mS 0 30 7,bI 1 31 .sub 30 1,mS 2 7 31] [6,7,0])))))
abbrev f_slices_reverseRangeOrdered_int64 : Nat := 253
def c_slices_reverseRangeOrdered_int64 : CFn := { frz := true,rnd := none,nargs := 3,ntmps := 32,res := [],code :=
  (sQ (rG 0 [mS 0 8 1,mS 1 6 8] [2,6,0])
  (sQ (rG 0 [mS 0 9 2,bI 1 10 .sub 9 1,mS 2 7 10] [6,7,0])
  (.block 0 (.loop (some [6,7,0]) c_slices_reverseRangeOrdered_int64_l1)))) }
def c_slices_partialInsertionSortOrdered_int64_l1 : CC := (sQ (sQ (rG 0 [mS 0 17 7,mS 1 18 2,bS 2 19 .lss 17 18,mS 3 20 19,oG 4 21 20 true (.mv (.s 0)),oG 5 22 20 true (.mv (.s 7)),oG 6 23 20 true (.iaddr 1 (.s 21) (.s 22)),oG 8 25 20 true (.mv (.s 0)),oG 9 26 20 true (.mv (.s 7)),oG 10 27 20 true (.bin .sub (.s 26) (kI 1)),oG 11 28 20 true (.iaddr 1 (.s 25) (.s 27)),oG 7 24 20 true (.load false 1 (.s 23)),oG 12 29 20 true (.load false 1 (.s 28)),⟨13,(some 30),(some (20,true)),.call ⟨true⟩ (.k (.c (.fn 255 [] []))) [(.s 24),(.s 29)]⟩,oG 14 31 20 true (.un .not (.s 30)),o1 15 32 (.pick (.s 20) (.s 31) (kB false))] [32,7,1,2,0,8])
  (.cond (.s 32) .skip
  (.exit 2)))
  (.block 3 (rG 0 [mS 0 33 7,bI 1 34 .add 33 1,mS 2 7 34] [7,1,2,0,8])))
def c_slices_partialInsertionSortOrdered_int64_l2 : CC := (sQ (sQ (rG 0 [mS 0 64 9,bI 1 65 .geq 64 1] [65,9,8,7,0,2,1])
  (.cond (.s 65) .skip
  (.exit 4)))
  (sQ (.block 5 (sQ (sQ (rG 0 [mS 0 68 0,mS 1 69 9,iA 2 70 1 68 69,mS 4 72 0,mS 5 73 9,bI 6 74 .sub 73 1,iA 7 75 1 72 74,lF 3 71 70,lF 8 76 75,cA 9 77 255 [(.s 71),(.s 76)],o1 10 78 (.un .not (.s 77))] [78,9,8,7,0,2,1])
  (.cond (.s 78) (.exit 4)
  .skip))
  (rG 0 [mS 0 79 0,mS 1 80 9,mS 2 81 0,mS 3 82 9,bI 4 83 .sub 82 1,mS 5 84 0,mS 6 85 9,bI 7 86 .sub 85 1,iA 8 87 1 84 86,mS 10 89 0,mS 11 90 9,iA 12 91 1 89 90,lF 9 88 87,lF 13 92 91,iA 14 93 1 79 80,o0 15 (.store 1 (.s 93) (.s 88)),iA 16 94 1 81 83,o0 17 (.store 1 (.s 94) (.s 92))] [9,8,7,0,2,1])))
  (rG 0 [mS 0 66 9,bI 1 67 .sub 66 1,mS 2 9 67] [9,8,7,0,2,1])))
def c_slices_partialInsertionSortOrdered_int64_l3 : CC := (sQ (sQ (rG 0 [mS 0 101 10,mS 1 102 2,bS 2 103 .lss 101 102] [103,10,8,7,0,2,1])
  (.cond (.s 103) .skip
  (.exit 6)))
  (sQ (.block 7 (sQ (sQ (rG 0 [mS 0 106 0,mS 1 107 10,iA 2 108 1 106 107,mS 4 110 0,mS 5 111 10,bI 6 112 .sub 111 1,iA 7 113 1 110 112,lF 3 109 108,lF 8 114 113,cA 9 115 255 [(.s 109),(.s 114)],o1 10 116 (.un .not (.s 115))] [116,10,8,7,0,2,1])
  (.cond (.s 116) (.exit 6)
  .skip))
  (rG 0 [mS 0 117 0,mS 1 118 10,mS 2 119 0,mS 3 120 10,bI 4 121 .sub 120 1,mS 5 122 0,mS 6 123 10,bI 7 124 .sub 123 1,iA 8 125 1 122 124,mS 10 127 0,mS 11 128 10,iA 12 129 1 127 128,lF 9 126 125,lF 13 130 129,iA 14 131 1 117 118,o0 15 (.store 1 (.s 131) (.s 126)),iA 16 132 1 119 121,o0 17 (.store 1 (.s 132) (.s 130))] [10,8,7,0,2,1])))
  (rG 0 [mS 0 104 10,bI 1 105 .add 104 1,mS 2 10 105] [10,8,7,0,2,1])))
def c_slices_partialInsertionSortOrdered_int64_l4 : CC := (sQ (sQ (rG 0 [mS 0 13 8,bI 1 14 .lss 13 5] [14,7,1,2,0,8])
  (.cond (.s 14) .skip
  (.exit 0)))
  (sQ (.block 1 (sQ (.block 2 (.loop (some [7,1,2,0,8]) c_slices_partialInsertionSortOrdered_int64_l1))
  (sQ (sQ (rG 0 [mS 0 35 7,mS 1 36 2,bS 2 37 .eql 35 36] [37,8,7,0,2,1])
  (.cond (.s 37) (sQ (rG 0 [mB 0 6 true] [6])
  .ret)
  .skip))
  (sQ (sQ (rG 0 [mS 0 38 2,mS 1 39 1,bS 2 40 .sub 38 39,bI 3 41 .lss 40 50] [41,1,2,0,7,8])
  (.cond (.s 41) (sQ (rG 0 [mB 0 6 false] [6])
  .ret)
  .skip))
  (sQ (rG 0 [mS 0 42 0,mS 1 43 7,mS 2 44 0,mS 3 45 7,bI 4 46 .sub 45 1,mS 5 47 0,mS 6 48 7,bI 7 49 .sub 48 1,iA 8 50 1 47 49,mS 10 52 0,mS 11 53 7,iA 12 54 1 52 53,lF 9 51 50,lF 13 55 54,iA 14 56 1 42 43,o0 15 (.store 1 (.s 56) (.s 51)),iA 16 57 1 44 46,o0 17 (.store 1 (.s 57) (.s 55))] [8,7,0,2,1])
  (sQ (sQ (rG 0 [mS 0 58 7,mS 1 59 1,bS 2 60 .sub 58 59,bI 3 61 .geq 60 2] [61,8,7,0,2,1])
  (.cond (.s 61) (sQ (rG 0 [mS 0 62 7,bI 1 63 .sub 62 1,mS 2 9 63] [9,8,7,0,2,1])
  (.block 4 (.loop (some [9,8,7,0,2,1]) c_slices_partialInsertionSortOrdered_int64_l2)))
  .skip))
  (sQ (rG 0 [mS 0 95 2,mS 1 96 7,bS 2 97 .sub 95 96,bI 3 98 .geq 97 2] [98,8,7,0,2,1])
  (.cond (.s 98) (sQ (rG 0 [mS 0 99 7,bI 1 100 .add 99 1,mS 2 10 100] [10,8,7,0,2,1])
  (.block 6 (.loop (some [10,8,7,0,2,1]) c_slices_partialInsertionSortOrdered_int64_l3)))
  .skip))))))))
  (rG 0 [mS 0 15 8,bI 1 16 .add 15 1,mS 2 8 16] [7,0,2,1,8])))
abbrev f_slices_partialInsertionSortOrdered_int64 : Nat := 254
def c_slices_partialInsertionSortOrdered_int64 : CFn := { frz := true,rnd := none,nargs := 3,ntmps := 133,res := [(.slot 6)],code :=
  (sQ (rG 0 [mB 0 6 false] [0,2,1])
  (sQ (rG 0 [mS 0 11 1,bI 1 12 .add 11 1,mS 2 7 12] [7,0,2,1])
  (sQ (sQ (rG 0 [mI 0 8 0] [7,0,2,1,8])
  (.block 0 (.loop (some [7,0,2,1,8]) c_slices_partialInsertionSortOrdered_int64_l4)))
  (sQ (rG 0 [mB 0 6 false] [6])
  .ret)))) }
abbrev f_cmp_Less_int64 : Nat := 255
def c_cmp_Less_int64 : CFn := { frz := true,rnd := none,nargs := 2,ntmps := 17,res := [(.slot 4)],code :=
  (sQ (rG 0 [mB 0 4 false] [0,1])
  (sQ (rG 0 [mS 0 5 0,cA 1 6 176 [(.s 5)],mS 2 7 6,oG 3 8 7 true (.mv (.s 1)),⟨4,(some 9),(some (7,true)),.call ⟨true⟩ (.k (.c (.fn 176 [] []))) [(.s 8)]⟩,oG 5 10 7 true (.un .not (.s 9)),o1 6 11 (.pick (.s 7) (.s 10) (kB false)),mS 7 12 11,oG 8 13 12 false (.mv (.s 0)),oG 9 14 12 false (.mv (.s 1)),oG 10 15 12 false (.bin .lss (.s 13) (.s 14)),o1 11 16 (.pick (.s 12) (kB true) (.s 15)),mS 12 4 16] [4])
  .ret)) }
def c_slices_partitionEqualOrdered_int64_l1 : CC := (sQ (sQ (rG 0 [mS 0 29 9,mS 1 30 10,bS 2 31 .leq 29 30,mS 3 32 31,oG 4 33 32 true (.mv (.s 0)),oG 5 34 32 true (.mv (.s 1)),oG 6 35 32 true (.iaddr 1 (.s 33) (.s 34)),oG 8 37 32 true (.mv (.s 0)),oG 9 38 32 true (.mv (.s 9)),oG 10 39 32 true (.iaddr 1 (.s 37) (.s 38)),oG 7 36 32 true (.load false 1 (.s 35)),oG 11 40 32 true (.load false 1 (.s 39)),⟨12,(some 41),(some (32,true)),.call ⟨true⟩ (.k (.c (.fn 255 [] []))) [(.s 36),(.s 40)]⟩,oG 13 42 32 true (.un .not (.s 41)),o1 14 43 (.pick (.s 32) (.s 42) (kB false))] [43,9,1,0,10])
  (.cond (.s 43) .skip
  (.exit 2)))
  (.block 3 (rG 0 [mS 0 44 9,bI 1 45 .add 44 1,mS 2 9 45] [9,1,0,10])))
def c_slices_partitionEqualOrdered_int64_l2 : CC := (sQ (sQ (rG 0 [mS 0 46 9,mS 1 47 10,bS 2 48 .leq 46 47,mS 3 49 48,oG 4 50 49 true (.mv (.s 0)),oG 5 51 49 true (.mv (.s 1)),oG 6 52 49 true (.iaddr 1 (.s 50) (.s 51)),oG 8 54 49 true (.mv (.s 0)),oG 9 55 49 true (.mv (.s 10)),oG 10 56 49 true (.iaddr 1 (.s 54) (.s 55)),oG 7 53 49 true (.load false 1 (.s 52)),oG 11 57 49 true (.load false 1 (.s 56)),⟨12,(some 58),(some (49,true)),.call ⟨true⟩ (.k (.c (.fn 255 [] []))) [(.s 53),(.s 57)]⟩,o1 13 59 (.pick (.s 49) (.s 58) (kB false))] [59,10,9,0,1])
  (.cond (.s 59) .skip
  (.exit 4)))
  (.block 5 (rG 0 [mS 0 60 10,bI 1 61 .sub 60 1,mS 2 10 61] [10,9,0,1])))
def c_slices_partitionEqualOrdered_int64_l3 : CC := (.block 1 (sQ (.block 2 (.loop (some [9,1,0,10]) c_slices_partitionEqualOrdered_int64_l1))
  (sQ (.block 4 (.loop (some [10,9,0,1]) c_slices_partitionEqualOrdered_int64_l2))
  (sQ (sQ (rG 0 [mS 0 62 9,mS 1 63 10,bS 2 64 .gtr 62 63] [64,1,0,10,9])
  (.cond (.s 64) (.exit 0)
  .skip))
  (sQ (rG 0 [mS 0 65 0,mS 1 66 9,mS 2 67 0,mS 3 68 10,mS 4 69 0,mS 5 70 10,iA 6 71 1 69 70,mS 8 73 0,mS 9 74 9,iA 10 75 1 73 74,lF 7 72 71,lF 11 76 75,iA 12 77 1 65 66,o0 13 (.store 1 (.s 77) (.s 72)),iA 14 78 1 67 68,o0 15 (.store 1 (.s 78) (.s 76))] [9,10,0,1])
  (sQ (rG 0 [mS 0 79 9,bI 1 80 .add 79 1,mS 2 9 80] [10,9,0,1])
  (rG 0 [mS 0 81 10,bI 1 82 .sub 81 1,mS 2 10 82] [9,0,1,10])))))))
abbrev f_slices_partitionEqualOrdered_int64 : Nat := 256
def c_slices_partitionEqualOrdered_int64 : CFn := { frz := true,rnd := none,nargs := 4,ntmps := 84,res := [(.slot 8)],code :=
  (sQ (rG 0 [mI 0 8 0] [3,2,0,1])
  (sQ (rG 0 [mS 0 11 0,mS 1 12 1,mS 2 13 0,mS 3 14 3,mS 4 15 0,mS 5 16 3,iA 6 17 1 15 16,mS 8 19 0,mS 9 20 1,iA 10 21 1 19 20,lF 7 18 17,lF 11 22 21,iA 12 23 1 11 12,o0 13 (.store 1 (.s 23) (.s 18)),iA 14 24 1 13 14,o0 15 (.store 1 (.s 24) (.s 22))] [2,0,1])
  (sQ (rG 0 [mS 0 25 1,bI 1 26 .add 25 1,mS 2 27 2,bI 3 28 .sub 27 1,mS 4 9 26,mS 5 10 28] [9,0,1,10])
  (sQ (.block 0 (.loop (some [9,0,1,10]) c_slices_partitionEqualOrdered_int64_l3))
  (sQ (rG 0 [mS 0 83 9,mS 1 8 83] [8])
  .ret))))) }
def c_slices_partitionOrdered_int64_l1 : CC := (sQ (sQ (rG 0 [mS 0 30 10,mS 1 31 11,bS 2 32 .leq 30 31,mS 3 33 32,oG 4 34 33 true (.mv (.s 0)),oG 5 35 33 true (.mv (.s 10)),oG 6 36 33 true (.iaddr 1 (.s 34) (.s 35)),oG 8 38 33 true (.mv (.s 0)),oG 9 39 33 true (.mv (.s 1)),oG 10 40 33 true (.iaddr 1 (.s 38) (.s 39)),oG 7 37 33 true (.load false 1 (.s 36)),oG 11 41 33 true (.load false 1 (.s 40)),⟨12,(some 42),(some (33,true)),.call ⟨true⟩ (.k (.c (.fn 255 [] []))) [(.s 37),(.s 41)]⟩,o1 13 43 (.pick (.s 33) (.s 42) (kB false))] [43,10,1,0,11])
  (.cond (.s 43) .skip
  (.exit 0)))
  (.block 1 (rG 0 [mS 0 44 10,bI 1 45 .add 44 1,mS 2 10 45] [10,1,0,11])))
def c_slices_partitionOrdered_int64_l2 : CC := (sQ (sQ (rG 0 [mS 0 46 10,mS 1 47 11,bS 2 48 .leq 46 47,mS 3 49 48,oG 4 50 49 true (.mv (.s 0)),oG 5 51 49 true (.mv (.s 11)),oG 6 52 49 true (.iaddr 1 (.s 50) (.s 51)),oG 8 54 49 true (.mv (.s 0)),oG 9 55 49 true (.mv (.s 1)),oG 10 56 49 true (.iaddr 1 (.s 54) (.s 55)),oG 7 53 49 true (.load false 1 (.s 52)),oG 11 57 49 true (.load false 1 (.s 56)),⟨12,(some 58),(some (49,true)),.call ⟨true⟩ (.k (.c (.fn 255 [] []))) [(.s 53),(.s 57)]⟩,oG 13 59 49 true (.un .not (.s 58)),o1 14 60 (.pick (.s 49) (.s 59) (kB false))] [60,11,0,1,10])
  (.cond (.s 60) .skip
  (.exit 2)))
  (.block 3 (rG 0 [mS 0 61 11,bI 1 62 .sub 61 1,mS 2 11 62] [11,0,1,10])))
def c_slices_partitionOrdered_int64_l3 : CC := (sQ (sQ (rG 0 [mS 0 99 10,mS 1 100 11,bS 2 101 .leq 99 100,mS 3 102 101,oG 4 103 102 true (.mv (.s 0)),oG 5 104 102 true (.mv (.s 10)),oG 6 105 102 true (.iaddr 1 (.s 103) (.s 104)),oG 8 107 102 true (.mv (.s 0)),oG 9 108 102 true (.mv (.s 1)),oG 10 109 102 true (.iaddr 1 (.s 107) (.s 108)),oG 7 106 102 true (.load false 1 (.s 105)),oG 11 110 102 true (.load false 1 (.s 109)),⟨12,(some 111),(some (102,true)),.call ⟨true⟩ (.k (.c (.fn 255 [] []))) [(.s 106),(.s 110)]⟩,o1 13 112 (.pick (.s 102) (.s 111) (kB false))] [112,10,1,0,11])
  (.cond (.s 112) .skip
  (.exit 6)))
  (.block 7 (rG 0 [mS 0 113 10,bI 1 114 .add 113 1,mS 2 10 114] [10,1,0,11])))
def c_slices_partitionOrdered_int64_l4 : CC := (sQ (sQ (rG 0 [mS 0 115 10,mS 1 116 11,bS 2 117 .leq 115 116,mS 3 118 117,oG 4 119 118 true (.mv (.s 0)),oG 5 120 118 true (.mv (.s 11)),oG 6 121 118 true (.iaddr 1 (.s 119) (.s 120)),oG 8 123 118 true (.mv (.s 0)),oG 9 124 118 true (.mv (.s 1)),oG 10 125 118 true (.iaddr 1 (.s 123) (.s 124)),oG 7 122 118 true (.load false 1 (.s 121)),oG 11 126 118 true (.load false 1 (.s 125)),⟨12,(some 127),(some (118,true)),.call ⟨true⟩ (.k (.c (.fn 255 [] []))) [(.s 122),(.s 126)]⟩,oG 13 128 118 true (.un .not (.s 127)),o1 14 129 (.pick (.s 118) (.s 128) (kB false))] [129,11,0,1,10])
  (.cond (.s 129) .skip
  (.exit 8)))
  (.block 9 (rG 0 [mS 0 130 11,bI 1 131 .sub 130 1,mS 2 11 131] [11,0,1,10])))
def c_slices_partitionOrdered_int64_l5 : CC := (.block 5 (sQ (.block 6 (.loop (some [10,1,0,11]) c_slices_partitionOrdered_int64_l3))
  (sQ (.block 8 (.loop (some [11,0,1,10]) c_slices_partitionOrdered_int64_l4))
  (sQ (sQ (rG 0 [mS 0 132 10,mS 1 133 11,bS 2 134 .gtr 132 133] [134,10,1,0,11])
  (.cond (.s 134) (.exit 4)
  .skip))
  (sQ (rG 0 [mS 0 135 0,mS 1 136 10,mS 2 137 0,mS 3 138 11,mS 4 139 0,mS 5 140 11,iA 6 141 1 139 140,mS 8 143 0,mS 9 144 10,iA 10 145 1 143 144,lF 7 142 141,lF 11 146 145,iA 12 147 1 135 136,o0 13 (.store 1 (.s 147) (.s 142)),iA 14 148 1 137 138,o0 15 (.store 1 (.s 148) (.s 146))] [10,11,1,0])
  (sQ (rG 0 [mS 0 149 10,bI 1 150 .add 149 1,mS 2 10 150] [11,10,1,0])
  (rG 0 [mS 0 151 11,bI 1 152 .sub 151 1,mS 2 11 152] [10,1,0,11])))))))
abbrev f_slices_partitionOrdered_int64 : Nat := 257
def c_slices_partitionOrdered_int64 : CFn := { frz := true,rnd := none,nargs := 4,ntmps := 168,res := [(.slot 8),(.slot 9)],code :=
  (sQ (rG 0 [mI 0 8 0,mB 1 9 false] [3,2,1,0])
  (sQ (rG 0 [mS 0 12 0,mS 1 13 1,mS 2 14 0,mS 3 15 3,mS 4 16 0,mS 5 17 3,iA 6 18 1 16 17,mS 8 20 0,mS 9 21 1,iA 10 22 1 20 21,lF 7 19 18,lF 11 23 22,iA 12 24 1 12 13,o0 13 (.store 1 (.s 24) (.s 19)),iA 14 25 1 14 15,o0 15 (.store 1 (.s 25) (.s 23))] [2,1,0])
  (sQ (rG 0 [mS 0 26 1,bI 1 27 .add 26 1,mS 2 28 2,bI 3 29 .sub 28 1,mS 4 10 27,mS 5 11 29] [10,1,0,11])
  (sQ (.block 0 (.loop (some [10,1,0,11]) c_slices_partitionOrdered_int64_l1))
  (sQ (.block 2 (.loop (some [11,0,1,10]) c_slices_partitionOrdered_int64_l2))
  (sQ (sQ (rG 0 [mS 0 63 10,mS 1 64 11,bS 2 65 .gtr 63 64] [65,10,1,0,11])
  (.cond (.s 65) (sQ (rG 0 [mS 0 66 0,mS 1 67 11,mS 2 68 0,mS 3 69 1,mS 4 70 0,mS 5 71 1,iA 6 72 1 70 71,mS 8 74 0,mS 9 75 11,iA 10 76 1 74 75,lF 7 73 72,lF 11 77 76,iA 12 78 1 66 67,o0 13 (.store 1 (.s 78) (.s 73)),iA 14 79 1 68 69,o0 15 (.store 1 (.s 79) (.s 77))] [11])
  (sQ (rG 0 [mS 0 80 11,mS 1 8 80,mB 2 9 true] [8,9])
  .ret))
  .skip))
  (sQ (rG 0 [mS 0 81 0,mS 1 82 10,mS 2 83 0,mS 3 84 11,mS 4 85 0,mS 5 86 11,iA 6 87 1 85 86,mS 8 89 0,mS 9 90 10,iA 10 91 1 89 90,lF 7 88 87,lF 11 92 91,iA 12 93 1 81 82,o0 13 (.store 1 (.s 93) (.s 88)),iA 14 94 1 83 84,o0 15 (.store 1 (.s 94) (.s 92))] [10,11,1,0])
  (sQ (rG 0 [mS 0 95 10,bI 1 96 .add 95 1,mS 2 10 96] [11,10,1,0])
  (sQ (rG 0 [mS 0 97 11,bI 1 98 .sub 97 1,mS 2 11 98] [10,1,0,11])
  (sQ (.block 4 (.loop (some [10,1,0,11]) c_slices_partitionOrdered_int64_l5))
  (sQ (rG 0 [mS 0 153 0,mS 1 154 11,mS 2 155 0,mS 3 156 1,mS 4 157 0,mS 5 158 1,iA 6 159 1 157 158,mS 8 161 0,mS 9 162 11,iA 10 163 1 161 162,lF 7 160 159,lF 11 164 163,iA 12 165 1 153 154,o0 13 (.store 1 (.s 165) (.s 160)),iA 14 166 1 155 156,o0 15 (.store 1 (.s 166) (.s 164))] [11])
  (sQ (rG 0 [mS 0 167 11,mS 1 8 167,mB 2 9 false] [8,9])
  .ret)))))))))))) }
abbrev f_math_bits_Len32 : Nat := 258
def c_math_bits_Len32 : CFn := { frz := true,rnd := none,nargs := 1,ntmps := 19,res := [(.slot 2)],code :=
  (sQ (rG 0 [mI 0 2 0] [2,0])
  (sQ (sQ (rG 0 [mS 0 3 0,o1 1 4 (.bin .geq (.s 3) (.k (.c (.int .u32 65536))))] [4,2,0])
  (.cond (.s 4) (sQ (rG 0 [mS 0 5 0,o1 1 6 (.bin .shr (.s 5) (.k (.c (.int .u64 16)))),mS 2 0 6] [0])
  (rG 0 [mI 0 2 16] [0,2]))
  .skip))
  (sQ (sQ (rG 0 [mS 0 7 0,o1 1 8 (.bin .geq (.s 7) (.k (.c (.int .u32 256))))] [8,0,2])
  (.cond (.s 8) (sQ (rG 0 [mS 0 9 0,o1 1 10 (.bin .shr (.s 9) (.k (.c (.int .u64 8)))),mS 2 0 10] [2,0])
  (rG 0 [mS 0 11 2,bI 1 12 .add 11 8,mS 2 2 12] [2,0]))
  .skip))
  (sQ (rG 0 [mS 0 13 2,mS 1 14 0,o1 2 15 (.conv .u8 (.s 14)),⟨3,(some 16),none,.p2 .sidx (.k (.c (.str ⟨#[0,1,2,2,3,3,3,3,4,4,4,4,4,4,4,4,5,5,5,5,5,5,5,5,5,5,5,5,5,5,5,5,6,6,6,6,6,6,6,6,6,6,6,6,6,6,6,6,6,6,6,6,6,6,6,6,6,6,6,6,6,6,6,6,7,7,7,7,7,7,7,7,7,7,7,7,7,7,7,7,7,7,7,7,7,7,7,7,7,7,7,7,7,7,7,7,7,7,7,7,7,7,7,7,7,7,7,7,7,7,7,7,7,7,7,7,7,7,7,7,7,7,7,7,7,7,7,7,8,8,8,8,8,8,8,8,8,8,8,8,8,8,8,8,8,8,8,8,8,8,8,8,8,8,8,8,8,8,8,8,8,8,8,8,8,8,8,8,8,8,8,8,8,8,8,8,8,8,8,8,8,8,8,8,8,8,8,8,8,8,8,8,8,8,8,8,8,8,8,8,8,8,8,8,8,8,8,8,8,8,8,8,8,8,8,8,8,8,8,8,8,8,8,8,8,8,8,8,8,8,8,8,8,8,8,8,8,8,8,8,8,8,8,8,8,8,8,8,8,8,8,8,8,8,8,8]⟩))) (.s 15)⟩,o1 4 17 (.conv .i64 (.s 16)),bS 5 18 .add 13 17,mS 6 2 18] [2])
  .ret)))) }
abbrev f_math_bits_Len64 : Nat := 259
def c_math_bits_Len64 : CFn := { frz := true,rnd := none,nargs := 1,ntmps := 25,res := [(.slot 2)],code :=
  (sQ (rG 0 [mI 0 2 0] [2,0])
  (sQ (sQ (rG 0 [mS 0 3 0,o1 1 4 (.bin .geq (.s 3) (.k (.c (.int .u64 4294967296))))] [4,2,0])
  (.cond (.s 4) (sQ (rG 0 [mS 0 5 0,o1 1 6 (.bin .shr (.s 5) (.k (.c (.int .u64 32)))),mS 2 0 6] [0])
  (rG 0 [mI 0 2 32] [0,2]))
  .skip))
  (sQ (sQ (rG 0 [mS 0 7 0,o1 1 8 (.bin .geq (.s 7) (.k (.c (.int .u64 65536))))] [8,0,2])
  (.cond (.s 8) (sQ (rG 0 [mS 0 9 0,o1 1 10 (.bin .shr (.s 9) (.k (.c (.int .u64 16)))),mS 2 0 10] [2,0])
  (rG 0 [mS 0 11 2,bI 1 12 .add 11 16,mS 2 2 12] [0,2]))
  .skip))
  (sQ (sQ (rG 0 [mS 0 13 0,o1 1 14 (.bin .geq (.s 13) (.k (.c (.int .u64 256))))] [14,0,2])
  (.cond (.s 14) (sQ (rG 0 [mS 0 15 0,o1 1 16 (.bin .shr (.s 15) (.k (.c (.int .u64 8)))),mS 2 0 16] [2,0])
  (rG 0 [mS 0 17 2,bI 1 18 .add 17 8,mS 2 2 18] [2,0]))
  .skip))
  (sQ (rG 0 [mS 0 19 2,mS 1 20 0,o1 2 21 (.conv .u8 (.s 20)),⟨3,(some 22),none,.p2 .sidx (.k (.c (.str ⟨#[0,1,2,2,3,3,3,3,4,4,4,4,4,4,4,4,5,5,5,5,5,5,5,5,5,5,5,5,5,5,5,5,6,6,6,6,6,6,6,6,6,6,6,6,6,6,6,6,6,6,6,6,6,6,6,6,6,6,6,6,6,6,6,6,7,7,7,7,7,7,7,7,7,7,7,7,7,7,7,7,7,7,7,7,7,7,7,7,7,7,7,7,7,7,7,7,7,7,7,7,7,7,7,7,7,7,7,7,7,7,7,7,7,7,7,7,7,7,7,7,7,7,7,7,7,7,7,7,8,8,8,8,8,8,8,8,8,8,8,8,8,8,8,8,8,8,8,8,8,8,8,8,8,8,8,8,8,8,8,8,8,8,8,8,8,8,8,8,8,8,8,8,8,8,8,8,8,8,8,8,8,8,8,8,8,8,8,8,8,8,8,8,8,8,8,8,8,8,8,8,8,8,8,8,8,8,8,8,8,8,8,8,8,8,8,8,8,8,8,8,8,8,8,8,8,8,8,8,8,8,8,8,8,8,8,8,8,8,8,8,8,8,8,8,8,8,8,8,8,8,8,8,8,8,8,8]⟩))) (.s 21)⟩,o1 4 23 (.conv .i64 (.s 22)),bS 5 24 .add 19 23,mS 6 2 24] [2])
  .ret))))) }
def c_plan_Candidates_l1 : CC := (sQ (rG 0 [bI 0 27 .lss 26 8] [27,10,26,25,4,1,2,3])
  (sQ (.cond (.s 27) .skip
  (.exit 0))
  (sQ (.block 1 (sQ (rG 1 [o1 0 28 (.aidx true 8 2 (.s 25) (.s 26)),o1 1 12 (.box 0 2 (.k (.a [(I 0),(I 0)]))),o0 2 (.store 2 (.s 12) (.s 28))] [10,12,26,25,4,1,2,3])
  (rG 1 [mS 0 29 10,lT 1 30 5 4,mS 2 31 1,mS 3 32 2,mS 4 33 3,o1 5 34 (.aaddr 2 1 (.s 12) (kI 0)),lF 6 35 34,o1 7 36 (.aaddr 2 1 (.s 12) (kI 1)),lF 8 37 36,cA 9 38 287 [(.s 30),(.s 31),(.s 32),(.s 33),(.s 35),(.s 37)],o1 10 39 (.lit 0 1 [[.nilslice]] [(0,(.s 38))]),o1 11 40 (.append 1 24 (.s 29) (.s 39)),mS 12 10 40] [26,10,25,4,1,2,3])))
  (rG 0 [bI 0 41 .add 26 1,mS 1 26 41] [10,26,25,4,1,2,3]))))
abbrev f_plan_Candidates : Nat := 260
def c_plan_Candidates : CFn := { frz := true,rnd := none,nargs := 4,ntmps := 43,res := [(.slot 8)],code :=
  (sQ (rG 2 [o1 0 4 (.box 0 5 (.s 0)),o1 1 8 (.newsl 1 1)] [3,2,1,4])
  (sQ (sQ (rG 0 [lT 0 13 5 4,cA 1 14 28 [(.s 13)],bI 2 15 .neq 14 0] [15,3,2,1,4])
  (.cond (.s 15) (sQ (rG 1 [o1 0 8 (.newsl 0 1)] [8])
  .ret)
  .skip))
  (sQ (rG 1 [o1 0 16 (.build [(I 0),(I 0)] [(0,1,(kI 6)),(1,1,(kI 4))]),o1 1 17 (.build [(I 0),(I 0)] [(0,1,(kI 6)),(1,1,(kI 0))]),o1 2 18 (.build [(I 0),(I 0)] [(0,1,(kI 3)),(1,1,(kI 4))]),o1 3 19 (.build [(I 0),(I 0)] [(0,1,(kI 3)),(1,1,(kI 0))]),o1 4 20 (.build [(I 0),(I 0)] [(0,1,(kI 1)),(1,1,(kI 4))]),o1 5 21 (.build [(I 0),(I 0)] [(0,1,(kI 1)),(1,1,(kI 0))]),o1 6 22 (.build [(I 0),(I 0)] [(0,1,(kI 0)),(1,1,(kI 4))]),o1 7 23 (.build [(I 0),(I 0)] [(0,1,(kI 0)),(1,1,(kI 0))]),o1 8 24 (.build [(I 0),(I 0),(I 0),(I 0),(I 0),(I 0),(I 0),(I 0),(I 0),(I 0),(I 0),(I 0),(I 0),(I 0),(I 0),(I 0)] [(0,2,(.s 16)),(2,2,(.s 17)),(4,2,(.s 18)),(6,2,(.s 19)),(8,2,(.s 20)),(10,2,(.s 21)),(12,2,(.s 22)),(14,2,(.s 23))]),o1 9 9 (.box 0 16 (.k (.a [(I 0),(I 0),(I 0),(I 0),(I 0),(I 0),(I 0),(I 0),(I 0),(I 0),(I 0),(I 0),(I 0),(I 0),(I 0),(I 0)]))),o0 10 (.store 16 (.s 9) (.s 24))] [9,4,1,2,3])
  (sQ (rG 1 [o1 0 10 (.newsl 0 1)] [9,10,4,1,2,3])
  (sQ (sQ (rG 0 [lT 0 25 16 9,mI 1 26 0] [10,26,25,4,1,2,3])
  (.block 0 (.loop (some [10,26,25,4,1,2,3]) c_plan_Candidates_l1)))
  (sQ (rG 0 [mS 0 42 10,mS 1 8 42] [8])
  .ret)))))) }
abbrev f_slices_Clone_Spot : Nat := 261
abbrev f_curve_pieces : Nat := 262
def c_curve_pieces : CFn := { frz := true,rnd := none,nargs := 1,ntmps := 4,res := [(.slot 2)],code :=
  (sQ (rG 1 [o1 0 1 (.box 0 1 (.s 0)),o1 1 2 (.mv (.k (.c .nilfn)))] [1])
  (sQ (rG 0 [o1 0 3 (.mkfn 288 [] [(.s 1)]),mS 1 2 3] [2])
  .ret)) }
def c_slices_rotateCmpFunc_Pass_l1 : CC := (sQ (sQ (rG 0 [mS 0 18 10,mS 1 19 11,bS 2 20 .neq 18 19] [20,10,0,2,4,11])
  (.cond (.s 20) .skip
  (.exit 0)))
  (.block 1 (sQ (rG 0 [mS 0 21 10,mS 1 22 11,bS 2 23 .gtr 21 22] [23,10,0,2,4,11])
  (.cond (.s 23) (sQ (rG 0 [mS 0 24 0,mS 1 25 2,mS 2 26 10,bS 3 27 .sub 25 26,mS 4 28 2,mS 5 29 11,mS 6 30 4,⟨7,(some 31),none,.call ⟨false⟩ (.k (.c (.fn 289 [] []))) [(.s 24),(.s 27),(.s 28),(.s 29),(.s 30)]⟩] [10,0,2,4,11])
  (rG 0 [mS 0 32 10,mS 1 33 11,bS 2 34 .sub 32 33,mS 3 10 34] [10,0,2,4,11]))
  (sQ (rG 0 [mS 0 35 0,mS 1 36 2,mS 2 37 10,bS 3 38 .sub 36 37,mS 4 39 2,mS 5 40 11,bS 6 41 .add 39 40,mS 7 42 10,bS 8 43 .sub 41 42,mS 9 44 10,mS 10 45 4,⟨11,(some 46),none,.call ⟨false⟩ (.k (.c (.fn 289 [] []))) [(.s 35),(.s 38),(.s 43),(.s 44),(.s 45)]⟩] [11,10,0,2,4])
  (rG 0 [mS 0 47 11,mS 1 48 10,bS 2 49 .sub 47 48,mS 3 11 49] [10,0,2,4,11]))))))
abbrev f_slices_rotateCmpFunc_Pass : Nat := 263
def c_slices_rotateCmpFunc_Pass : CFn := { frz := true,rnd := none,nargs := 5,ntmps := 58,res := [],code :=
  (sQ (rG 0 [mS 0 12 2,mS 1 13 1,bS 2 14 .sub 12 13,mS 3 10 14] [3,10,0,2,4])
  (sQ (rG 0 [mS 0 15 3,mS 1 16 2,bS 2 17 .sub 15 16,mS 3 11 17] [10,0,2,4,11])
  (sQ (.block 0 (.loop (some [10,0,2,4,11]) c_slices_rotateCmpFunc_Pass_l1))
  (rG 0 [mS 0 50 0,mS 1 51 2,mS 2 52 10,bS 3 53 .sub 51 52,mS 4 54 2,mS 5 55 10,mS 6 56 4,⟨7,(some 57),none,.call ⟨false⟩ (.k (.c (.fn 289 [] []))) [(.s 50),(.s 53),(.s 54),(.s 55),(.s 56)]⟩] [])))) }
abbrev f_plan_judge_taken_1 : Nat := 264
def c_plan_judge_taken_1 : CFn := { frz := true,rnd := none,nargs := 2,ntmps := 28,res := [(.slot 3)],code :=
  (sQ (rG 1 [o1 0 2 (.box 0 4 (.s 0)),mB 1 3 false] [1,2])
  (sQ (rG 0 [fA 0 4 3 2,lF 1 5 4,o1 2 6 (.un .not (.s 5)),mS 3 7 6,oG 4 8 7 true (.faddr 0 (.s 2)),oG 5 9 7 true (.load false 1 (.s 8)),oG 6 10 7 true (.faddr 0 (.s 1)),oG 7 11 7 true (.load false 1 (.s 10)),oG 8 12 7 true (.bin .eql (.s 9) (.s 11)),o1 9 13 (.pick (.s 7) (.s 12) (kB false)),mS 10 14 13,oG 11 15 14 true (.faddr 1 (.s 2)),oG 12 16 14 true (.load false 1 (.s 15)),oG 13 17 14 true (.faddr 2 (.s 1)),oG 14 18 14 true (.load false 1 (.s 17)),oG 15 19 14 true (.bin .leq (.s 16) (.s 18)),o1 16 20 (.pick (.s 14) (.s 19) (kB false)),mS 17 21 20,oG 18 22 21 true (.faddr 1 (.s 1)),oG 19 23 21 true (.load false 1 (.s 22)),oG 20 24 21 true (.faddr 2 (.s 2)),oG 21 25 21 true (.load false 1 (.s 24)),oG 22 26 21 true (.bin .leq (.s 23) (.s 25)),o1 23 27 (.pick (.s 21) (.s 26) (kB false)),mS 24 3 27] [3])
  .ret)) }
abbrev f_slices_ContainsFunc_Sweep : Nat := 265
def c_slices_ContainsFunc_Sweep : CFn := { frz := true,rnd := none,nargs := 2,ntmps := 9,res := [(.slot 4)],code :=
  (sQ (rG 0 [mB 0 4 false] [0,1])
  (sQ (rG 0 [mS 0 5 0,mS 1 6 1,cA 2 7 290 [(.s 5),(.s 6)],bI 3 8 .geq 7 0,mS 4 4 8] [4])
  .ret)) }
def c_slices_IndexFunc_visit_l1 : CC := (sQ (rG 0 [bS 0 9 .lss 8 7] [9,0,1,7,8])
  (sQ (.cond (.s 9) .skip
  (.exit 0))
  (sQ (.block 1 (sQ (rG 0 [mS 0 10 8,mS 1 5 10] [0,1,7,8,5])
  (sQ (rG 0 [mS 0 11 1,mS 1 12 0,mS 2 13 5,iA 3 14 10 12 13,lT 4 15 10 14,⟨5,(some 16),none,.call ⟨true⟩ (.s 11) [(.s 15)]⟩] [16,0,1,7,8,5])
  (.cond (.s 16) (sQ (rG 0 [mS 0 17 5,mS 1 4 17] [4])
  .ret)
  .skip))))
  (rG 0 [bI 0 18 .add 8 1,mS 1 8 18] [7,1,0,8]))))
abbrev f_slices_IndexFunc_visit : Nat := 266
def c_slices_IndexFunc_visit : CFn := { frz := true,rnd := none,nargs := 2,ntmps := 19,res := [(.slot 4)],code :=
  (sQ (rG 0 [mI 0 4 0] [1,0])
  (sQ (sQ (rG 0 [mS 0 6 0,lN 1 7 6,mI 2 8 0] [7,1,0,8])
  (.block 0 (.loop (some [7,1,0,8]) c_slices_IndexFunc_visit_l1)))
  (sQ (rG 0 [mI 0 4 (-1)] [4])
  .ret))) }
def c_slices_pdqsortCmpFunc_Found_l1 : CC := (.block 1 (sQ (rG 0 [mS 0 21 2,mS 1 22 1,bS 2 23 .sub 21 22,mS 3 12 23] [3,11,10,12,0,1,2,4])
  (sQ (sQ (rG 0 [mS 0 24 12,bI 1 25 .leq 24 12] [25,3,11,10,12,0,1,2,4])
  (.cond (.s 25) (sQ (rG 0 [mS 0 26 0,mS 1 27 1,mS 2 28 2,mS 3 29 4,⟨4,(some 30),none,.call ⟨false⟩ (.k (.c (.fn 291 [] []))) [(.s 26),(.s 27),(.s 28),(.s 29)]⟩] [])
  .ret)
  .skip))
  (sQ (sQ (rG 0 [mS 0 31 3,bI 1 32 .eql 31 0] [32,12,10,11,3,0,1,2,4])
  (.cond (.s 32) (sQ (rG 0 [mS 0 33 0,mS 1 34 1,mS 2 35 2,mS 3 36 4,⟨4,(some 37),none,.call ⟨false⟩ (.k (.c (.fn 292 [] []))) [(.s 33),(.s 34),(.s 35),(.s 36)]⟩] [])
  .ret)
  .skip))
  (sQ (sQ (rG 0 [mS 0 38 10,o1 1 39 (.un .not (.s 38))] [39,3,4,2,0,11,10,1,12])
  (.cond (.s 39) (sQ (rG 0 [mS 0 40 0,mS 1 41 1,mS 2 42 2,mS 3 43 4,⟨4,(some 44),none,.call ⟨false⟩ (.k (.c (.fn 293 [] []))) [(.s 40),(.s 41),(.s 42),(.s 43)]⟩] [3,4,2,0,11,10,1,12])
  (rG 0 [mS 0 45 3,bI 1 46 .sub 45 1,mS 2 3 46] [4,2,0,11,10,3,1,12]))
  .skip))
  (sQ (rG 0 [mS 0 48 0,mS 1 49 1,mS 2 50 2,mS 3 51 4,⟨4,(some 52),none,.call ⟨false⟩ (.k (.c (.fn 294 [] []))) [(.s 48),(.s 49),(.s 50),(.s 51)]⟩,mS 5 47 52,eX 6 53 47 0,eX 7 54 47 1,mS 8 13 53,mS 9 14 54] [14,13,4,2,0,11,10,3,1,12])
  (sQ (sQ (rG 0 [mS 0 55 14,bI 1 56 .eql 55 2] [56,14,13,4,2,0,11,10,3,1,12])
  (.cond (.s 56) (sQ (rG 0 [mS 0 57 0,mS 1 58 1,mS 2 59 2,mS 3 60 4,⟨4,(some 61),none,.call ⟨false⟩ (.k (.c (.fn 295 [] []))) [(.s 57),(.s 58),(.s 59),(.s 60)]⟩] [13,4,2,0,11,10,3,1,12])
  (sQ (rG 0 [mS 0 62 2,bI 1 63 .sub 62 1,mS 2 64 13,mS 3 65 1,bS 4 66 .sub 64 65,bS 5 67 .sub 63 66,mS 6 13 67] [4,2,0,11,10,3,13,1,12])
  (rG 0 [mI 0 14 1] [14,4,2,0,11,10,3,13,1,12])))
  .skip))
  (sQ (sQ (rG 0 [mS 0 68 10,mS 1 69 68,oG 2 70 69 true (.mv (.s 11)),o1 3 71 (.pick (.s 69) (.s 70) (kB false)),mS 4 72 71,oG 5 73 72 true (.mv (.s 14)),oG 6 74 72 true (.bin .eql (.s 73) (kI 1)),o1 7 75 (.pick (.s 72) (.s 74) (kB false))] [75,4,2,0,11,10,3,13,1,12])
  (.cond (.s 75) (sQ (rG 0 [mS 0 76 0,mS 1 77 1,mS 2 78 2,mS 3 79 4,⟨4,(some 80),none,.call ⟨false⟩ (.k (.c (.fn 296 [] []))) [(.s 76),(.s 77),(.s 78),(.s 79)]⟩] [80,4,2,0,11,10,3,13,1,12])
  (.cond (.s 80) .ret
  .skip))
  .skip))
  (sQ (sQ (rG 0 [mS 0 81 1,bI 1 82 .gtr 81 0,mS 2 83 82,oG 3 84 83 true (.mv (.s 4)),oG 4 85 83 true (.mv (.s 0)),oG 5 86 83 true (.mv (.s 1)),oG 6 87 83 true (.bin .sub (.s 86) (kI 1)),oG 7 88 83 true (.iaddr 5 (.s 85) (.s 87)),oG 9 90 83 true (.mv (.s 0)),oG 10 91 83 true (.mv (.s 13)),oG 11 92 83 true (.iaddr 5 (.s 90) (.s 91)),oG 8 89 83 true (.load true 5 (.s 88)),oG 12 93 83 true (.load true 5 (.s 92)),⟨13,(some 94),(some (83,true)),.call ⟨true⟩ (.s 84) [(.s 89),(.s 93)]⟩,oG 14 95 83 true (.bin .lss (.s 94) (kI 0)),oG 15 96 83 true (.un .not (.s 95)),o1 16 97 (.pick (.s 83) (.s 96) (kB false))] [97,12,1,13,3,10,11,0,2,4])
  (.cond (.s 97) (sQ (rG 0 [mS 0 98 0,mS 1 99 1,mS 2 100 2,mS 3 101 13,mS 4 102 4,⟨5,(some 103),none,.call ⟨false⟩ (.k (.c (.fn 297 [] []))) [(.s 98),(.s 99),(.s 100),(.s 101),(.s 102)]⟩,mS 6 15 103] [15,3,10,11,0,2,4])
  (sQ (rG 0 [mS 0 104 15,mS 1 1 104] [3,10,11,0,1,2,4])
  (.exit 1)))
  .skip))
  (sQ (rG 0 [mS 0 106 0,mS 1 107 1,mS 2 108 2,mS 3 109 13,mS 4 110 4,⟨5,(some 111),none,.call ⟨false⟩ (.k (.c (.fn 298 [] []))) [(.s 106),(.s 107),(.s 108),(.s 109),(.s 110)]⟩,mS 6 105 111,eX 7 112 105 0,eX 8 113 105 1,mS 9 16 112,mS 10 17 113] [17,12,1,16,3,0,2,4])
  (sQ (rG 0 [mS 0 114 17,mS 1 11 114] [12,1,16,3,11,0,2,4])
  (sQ (rG 0 [mS 0 115 16,mS 1 116 1,bS 2 117 .sub 115 116,mS 3 118 2,mS 4 119 16,bS 5 120 .sub 118 119,mS 6 18 117,mS 7 19 120] [12,19,18,1,16,3,11,0,2,4])
  (sQ (rG 0 [mS 0 121 12,bI 1 122 .quo 121 8,mS 2 20 122] [19,18,20,1,16,3,11,0,2,4])
  (sQ (rG 0 [mS 0 123 18,mS 1 124 19,bS 2 125 .lss 123 124] [125,19,18,20,1,16,3,11,0,2,4])
  (.cond (.s 125) (sQ (rG 0 [mS 0 126 18,mS 1 127 20,bS 2 128 .geq 126 127,mS 3 10 128] [1,16,3,10,11,0,2,4])
  (sQ (rG 0 [mS 0 129 0,mS 1 130 1,mS 2 131 16,mS 3 132 3,mS 4 133 4,⟨5,(some 134),none,.call ⟨false⟩ (.k (.c (.fn 267 [] []))) [(.s 129),(.s 130),(.s 131),(.s 132),(.s 133)]⟩] [16,3,10,11,0,2,4])
  (rG 0 [mS 0 135 16,bI 1 136 .add 135 1,mS 2 1 136] [3,10,11,0,1,2,4])))
  (sQ (rG 0 [mS 0 137 19,mS 1 138 20,bS 2 139 .geq 137 138,mS 3 10 139] [2,16,3,10,11,0,1,4])
  (sQ (rG 0 [mS 0 140 0,mS 1 141 16,bI 2 142 .add 141 1,mS 3 143 2,mS 4 144 3,mS 5 145 4,⟨6,(some 146),none,.call ⟨false⟩ (.k (.c (.fn 267 [] []))) [(.s 140),(.s 142),(.s 143),(.s 144),(.s 145)]⟩] [16,3,10,11,0,1,4])
  (rG 0 [mS 0 147 16,mS 1 2 147] [3,10,11,0,1,2,4]))))))))))))))))))
abbrev f_slices_pdqsortCmpFunc_Found : Nat := 267
def c_slices_pdqsortCmpFunc_Found : CFn := { frz := true,rnd := none,nargs := 5,ntmps := 148,res := [],code :=
  (sQ (rG 0 [mB 0 10 true] [3,10,0,1,2,4])
  (sQ (rG 0 [mB 0 11 true] [3,10,11,0,1,2,4])
  (.block 0 (.loop (some [3,10,11,0,1,2,4]) c_slices_pdqsortCmpFunc_Found_l1)))) }
abbrev f_motion_ends_Span : Nat := 268
def c_motion_ends_Span : CFn := { frz := true,rnd := none,nargs := 1,ntmps := 35,res := [(.slot 2),(.slot 3),(.slot 4)],code :=
  (sQ (rG 0 [mI 0 2 0,o1 1 3 (.mv (.k (.c .nilptr))),o1 2 4 (.mv (.k (.c .nilptr)))] [0])
  (sQ (sQ (rG 0 [mS 0 7 0,o1 1 8 (.p1 (.mkif 318) (.s 7))] [8])
  (.block 0 (sQ (rG 0 [o1 0 9 (.p1 (.tass true 255 (.c .nilptr)) (.s 8)),eX 1 10 9 1,eX 2 11 9 0] [10,8,11])
  (.cond (.s 10) (sQ (rG 0 [mS 0 5 11] [5])
  (sQ (rG 0 [mS 0 12 5,nC 1 13 12,fA 2 14 0 13,mS 4 16 5,nC 5 17 16,fA 6 18 1 17,mS 7 19 5,nC 8 20 19,fA 9 21 2 20,lF 3 15 14,mS 10 2 15,mS 11 3 18,mS 12 4 21] [2,3,4])
  .ret))
  (sQ (rG 0 [o1 0 22 (.p1 (.tass true 318 (.c .nilptr)) (.s 8)),eX 1 23 22 1,eX 2 24 22 0] [23,24])
  (.cond (.s 23) (sQ (rG 0 [mS 0 6 24] [6])
  (sQ (rG 0 [mS 0 25 6,nC 1 26 25,fA 2 27 0 26,mS 4 29 6,nC 5 30 29,fA 6 31 1 30,mS 7 32 6,nC 8 33 32,fA 9 34 2 33,lF 3 28 27,mS 10 2 28,mS 11 3 31,mS 12 4 34] [2,3,4])
  .ret))
  .skip))))))
  (sQ (rG 0 [mI 0 2 0,o1 1 3 (.mv (.k (.c .nilptr))),o1 2 4 (.mv (.k (.c .nilptr)))] [2,3,4])
  .ret))) }
abbrev f_curve_abs : Nat := 269
def c_curve_abs : CFn := { frz := true,rnd := none,nargs := 1,ntmps := 7,res := [(.slot 2)],code :=
  (sQ (rG 0 [mI 0 2 0] [0])
  (sQ (rG 0 [mS 0 3 0,mS 1 4 0,o1 2 5 (.un .neg (.s 4)),o1 3 6 (.minmax true [(.s 3),(.s 5)]),mS 4 2 6] [2])
  .ret)) }
abbrev f_curve_vector_cross : Nat := 270
def c_curve_vector_cross : CFn := { frz := true,rnd := none,nargs := 2,ntmps := 16,res := [(.slot 4)],code :=
  (sQ (rG 2 [o1 0 2 (.box 0 2 (.s 0)),o1 1 3 (.box 1 2 (.s 1)),mI 2 4 0] [2,3])
  (sQ (rG 0 [fA 0 5 0 2,lF 1 6 5,fA 2 7 1 3,lF 3 8 7,bS 4 9 .mul 6 8,fA 5 10 1 2,lF 6 11 10,fA 7 12 0 3,lF 8 13 12,bS 9 14 .mul 11 13,bS 10 15 .sub 9 14,mS 11 4 15] [4])
  .ret)) }
abbrev f_curve_floor : Nat := 271
def c_curve_floor : CFn := { frz := true,rnd := none,nargs := 2,ntmps := 16,res := [(.slot 4)],code :=
  (sQ (rG 0 [mI 0 4 0] [0,1])
  (sQ (rG 0 [mS 0 6 0,mS 1 7 1,bS 2 8 .quo 6 7,mS 3 5 8] [0,1,5])
  (sQ (sQ (rG 0 [mS 0 9 0,mS 1 10 1,bS 2 11 .rem 9 10,bI 3 12 .lss 11 0] [12,5])
  (.cond (.s 12) (rG 0 [mS 0 13 5,bI 1 14 .sub 13 1,mS 2 5 14] [5])
  .skip))
  (sQ (rG 0 [mS 0 15 5,mS 1 4 15] [4])
  .ret)))) }
def c_slices_Compact_int64_l1 : CC := (sQ (sQ (rG 0 [mS 0 29 5,mS 1 30 4,lN 2 31 30,bS 3 32 .lss 29 31] [32,3,5,0,4])
  (.cond (.s 32) .skip
  (.exit 2)))
  (sQ (.block 3 (sQ (rG 0 [mS 0 35 4,mS 1 36 5,iA 2 37 1 35 36,mS 4 39 4,mS 5 40 5,bI 6 41 .sub 40 1,iA 7 42 1 39 41,lF 3 38 37,lF 8 43 42,bS 9 44 .neq 38 43] [44,3,5,0,4])
  (.cond (.s 44) (sQ (rG 0 [mS 0 45 0,mS 1 46 3,mS 2 47 4,mS 3 48 5,iA 4 49 1 47 48,lF 5 50 49,iA 6 51 1 45 46,o0 7 (.store 1 (.s 51) (.s 50))] [3,5,0,4])
  (rG 0 [mS 0 52 3,bI 1 53 .add 52 1,mS 2 3 53] [5,3,0,4]))
  .skip)))
  (rG 0 [mS 0 33 5,bI 1 34 .add 33 1,mS 2 5 34] [3,5,0,4])))
def c_slices_Compact_int64_l2 : CC := (sQ (sQ (rG 0 [mS 0 10 3,mS 1 11 0,lN 2 12 11,bS 3 13 .lss 10 12] [13,3,0])
  (.cond (.s 13) .skip
  (.exit 0)))
  (sQ (.block 1 (sQ (rG 0 [mS 0 16 0,mS 1 17 3,iA 2 18 1 16 17,mS 4 20 0,mS 5 21 3,bI 6 22 .sub 21 1,iA 7 23 1 20 22,lF 3 19 18,lF 8 24 23,bS 9 25 .eql 19 24] [25,3,0])
  (.cond (.s 25) (sQ (rG 0 [mS 0 26 0,mS 1 27 3,o1 2 28 (.slice 1 (.s 26) (some (.s 27)) none none),mS 3 4 28] [3,0,4])
  (sQ (sQ (rG 0 [mI 0 5 1] [3,5,0,4])
  (.block 2 (.loop (some [3,5,0,4]) c_slices_Compact_int64_l1)))
  (sQ (rG 0 [mS 0 54 0,mS 1 55 3,o1 2 56 (.slice 1 (.s 54) (some (.s 55)) none none),o0 3 (.clear [(I 0)] (.s 56))] [0,3])
  (sQ (rG 0 [mS 0 57 0,mS 1 58 3,o1 2 59 (.slice 1 (.s 57) none (some (.s 58)) none),mS 3 2 59] [2])
  .ret))))
  .skip)))
  (rG 0 [mS 0 14 3,bI 1 15 .add 14 1,mS 2 3 15] [3,0])))
abbrev f_slices_Compact_int64 : Nat := 272
def c_slices_Compact_int64 : CFn := { frz := false,rnd := none,nargs := 1,ntmps := 61,res := [(.slot 2)],code :=
  (sQ (rG 1 [o1 0 2 (.newsl 0 1)] [0])
  (sQ (sQ (rG 0 [mS 0 6 0,lN 1 7 6,bI 2 8 .lss 7 2] [8,0])
  (.cond (.s 8) (sQ (rG 0 [mS 0 9 0,mS 1 2 9] [2])
  .ret)
  .skip))
  (sQ (sQ (rG 0 [mI 0 3 1] [3,0])
  (.block 0 (.loop (some [3,0]) c_slices_Compact_int64_l2)))
  (sQ (rG 0 [mS 0 60 0,mS 1 2 60] [2])
  .ret)))) }
def c_slices_insertionSortCmpFunc_Sweep_l1 : CC := (sQ (sQ (rG 0 [mS 0 18 9,mS 1 19 1,bS 2 20 .gtr 18 19,mS 3 21 20,oG 4 22 21 true (.mv (.s 3)),oG 5 23 21 true (.mv (.s 0)),oG 6 24 21 true (.mv (.s 9)),oG 7 25 21 true (.iaddr 4 (.s 23) (.s 24)),oG 9 27 21 true (.mv (.s 0)),oG 10 28 21 true (.mv (.s 9)),oG 11 29 21 true (.bin .sub (.s 28) (kI 1)),oG 12 30 21 true (.iaddr 4 (.s 27) (.s 29)),oG 8 26 21 true (.load true 4 (.s 25)),oG 13 31 21 true (.load true 4 (.s 30)),⟨14,(some 32),(some (21,true)),.call ⟨true⟩ (.s 22) [(.s 26),(.s 31)]⟩,oG 15 33 21 true (.bin .lss (.s 32) (kI 0)),o1 16 34 (.pick (.s 21) (.s 33) (kB false))] [34,9,3,1,2,8,0])
  (.cond (.s 34) .skip
  (.exit 2)))
  (sQ (.block 3 (rG 0 [mS 0 37 0,mS 1 38 9,mS 2 39 0,mS 3 40 9,bI 4 41 .sub 40 1,mS 5 42 0,mS 6 43 9,bI 7 44 .sub 43 1,iA 8 45 4 42 44,mS 10 47 0,mS 11 48 9,iA 12 49 4 47 48,lT 9 46 4 45,lT 13 50 4 49,iA 14 51 4 37 38,o0 15 (.store 4 (.s 51) (.s 46)),iA 16 52 4 39 41,o0 17 (.store 4 (.s 52) (.s 50))] [9,3,1,2,8,0]))
  (rG 0 [mS 0 35 9,bI 1 36 .sub 35 1,mS 2 9 36] [9,3,1,2,8,0])))
def c_slices_insertionSortCmpFunc_Sweep_l2 : CC := (sQ (sQ (rG 0 [mS 0 12 8,mS 1 13 2,bS 2 14 .lss 12 13] [14,3,1,2,8,0])
  (.cond (.s 14) .skip
  (.exit 0)))
  (sQ (.block 1 (sQ (rG 0 [mS 0 17 8,mS 1 9 17] [9,3,1,2,8,0])
  (.block 2 (.loop (some [9,3,1,2,8,0]) c_slices_insertionSortCmpFunc_Sweep_l1))))
  (rG 0 [mS 0 15 8,bI 1 16 .add 15 1,mS 2 8 16] [2,1,3,8,0])))
abbrev f_slices_insertionSortCmpFunc_Sweep : Nat := 273
def c_slices_insertionSortCmpFunc_Sweep : CFn := { frz := true,rnd := none,nargs := 4,ntmps := 53,res := [],code :=
  (sQ (rG 0 [mS 0 10 1,bI 1 11 .add 10 1,mS 2 8 11] [2,1,3,8,0])
  (.block 0 (.loop (some [2,1,3,8,0]) c_slices_insertionSortCmpFunc_Sweep_l2))) }
def c_slices_heapSortCmpFunc_Sweep_l1 : CC := (sQ (sQ (rG 0 [mS 0 20 11,bI 1 21 .geq 20 0] [21,11,9,0,10,8,3])
  (.cond (.s 21) .skip
  (.exit 0)))
  (sQ (.block 1 (rG 0 [mS 0 24 0,mS 1 25 11,mS 2 26 10,mS 3 27 8,mS 4 28 3,⟨5,(some 29),none,.call ⟨false⟩ (.k (.c (.fn 299 [] []))) [(.s 24),(.s 25),(.s 26),(.s 27),(.s 28)]⟩] [11,9,0,10,8,3]))
  (rG 0 [mS 0 22 11,bI 1 23 .sub 22 1,mS 2 11 23] [11,9,0,10,8,3])))
def c_slices_heapSortCmpFunc_Sweep_l2 : CC := (sQ (sQ (rG 0 [mS 0 32 12,bI 1 33 .geq 32 0] [33,12,0,9,8,3])
  (.cond (.s 33) .skip
  (.exit 2)))
  (sQ (.block 3 (sQ (rG 0 [mS 0 36 0,mS 1 37 8,mS 2 38 0,mS 3 39 8,mS 4 40 12,bS 5 41 .add 39 40,mS 6 42 0,mS 7 43 8,mS 8 44 12,bS 9 45 .add 43 44,iA 10 46 4 42 45,mS 12 48 0,mS 13 49 8,iA 14 50 4 48 49,lT 11 47 4 46,lT 15 51 4 50,iA 16 52 4 36 37,o0 17 (.store 4 (.s 52) (.s 47)),iA 18 53 4 38 41,o0 19 (.store 4 (.s 53) (.s 51))] [12,0,9,8,3])
  (rG 0 [mS 0 54 0,mS 1 55 9,mS 2 56 12,mS 3 57 8,mS 4 58 3,⟨5,(some 59),none,.call ⟨false⟩ (.k (.c (.fn 299 [] []))) [(.s 54),(.s 55),(.s 56),(.s 57),(.s 58)]⟩] [12,0,9,8,3])))
  (rG 0 [mS 0 34 12,bI 1 35 .sub 34 1,mS 2 12 35] [12,0,9,8,3])))
abbrev f_slices_heapSortCmpFunc_Sweep : Nat := 274
def c_slices_heapSortCmpFunc_Sweep : CFn := { frz := true,rnd := none,nargs := 4,ntmps := 60,res := [],code :=
  (sQ (rG 0 [mS 0 13 1,mS 1 8 13] [2,1,0,8,3])
  (sQ (rG 0 [mI 0 9 0] [2,1,9,0,8,3])
  (sQ (rG 0 [mS 0 14 2,mS 1 15 1,bS 2 16 .sub 14 15,mS 3 10 16] [9,0,10,8,3])
  (sQ (sQ (rG 0 [mS 0 17 10,bI 1 18 .sub 17 1,bI 2 19 .quo 18 2,mS 3 11 19] [11,9,0,10,8,3])
  (.block 0 (.loop (some [11,9,0,10,8,3]) c_slices_heapSortCmpFunc_Sweep_l1)))
  (sQ (rG 0 [mS 0 30 10,bI 1 31 .sub 30 1,mS 2 12 31] [12,0,9,8,3])
  (.block 2 (.loop (some [12,0,9,8,3]) c_slices_heapSortCmpFunc_Sweep_l2))))))) }
def c_slices_breakPatternsCmpFunc_Sweep_l1 : CC := (sQ (sQ (rG 0 [mS 0 28 11,mS 1 29 1,mS 2 30 8,bI 3 31 .quo 30 4,bI 4 32 .mul 31 2,bS 5 33 .add 29 32,bI 6 34 .add 33 1,bS 7 35 .leq 28 34] [35,11,9,10,8,1,0])
  (.cond (.s 35) .skip
  (.exit 0)))
  (sQ (.block 1 (sQ (rG 0 [cA 0 38 284 [(.s 9)],mS 1 39 10,o1 2 40 (.bin .sub (.s 39) (.k (.c (.int .u64 1)))),bS 3 41 .and 38 40,o1 4 42 (.conv .i64 (.s 41)),mS 5 12 42] [12,11,9,10,8,1,0])
  (sQ (sQ (rG 0 [mS 0 43 12,mS 1 44 8,bS 2 45 .geq 43 44] [45,12,11,9,10,8,1,0])
  (.cond (.s 45) (rG 0 [mS 0 46 12,mS 1 47 8,bS 2 48 .sub 46 47,mS 3 12 48] [12,11,9,10,8,1,0])
  .skip))
  (rG 0 [mS 0 49 0,mS 1 50 11,mS 2 51 0,mS 3 52 1,mS 4 53 12,bS 5 54 .add 52 53,mS 6 55 0,mS 7 56 1,mS 8 57 12,bS 9 58 .add 56 57,iA 10 59 4 55 58,mS 12 61 0,mS 13 62 11,iA 14 63 4 61 62,lT 11 60 4 59,lT 15 64 4 63,iA 16 65 4 49 50,o0 17 (.store 4 (.s 65) (.s 60)),iA 18 66 4 51 54,o0 19 (.store 4 (.s 66) (.s 64))] [11,9,10,8,1,0]))))
  (rG 0 [mS 0 36 11,bI 1 37 .add 36 1,mS 2 11 37] [11,9,10,8,1,0])))
abbrev f_slices_breakPatternsCmpFunc_Sweep : Nat := 275
def c_slices_breakPatternsCmpFunc_Sweep : CFn := { frz := true,rnd := none,nargs := 4,ntmps := 67,res := [],code :=
  (sQ (rG 0 [mS 0 13 2,mS 1 14 1,bS 2 15 .sub 13 14,mS 3 8 15] [8,1,0])
  (sQ (rG 0 [mS 0 16 8,bI 1 17 .geq 16 8] [17,8,1,0])
  (.cond (.s 17) (sQ (rG 1 [mS 0 18 8,o1 1 19 (.conv .u64 (.s 18)),o1 2 9 (.box 0 1 (.k (.a [(.int .u64 0)]))),o0 3 (.store 1 (.s 9) (.s 19))] [9,8,1,0])
  (sQ (rG 0 [mS 0 20 8,cA 1 21 283 [(.s 20)],mS 2 10 21] [9,10,8,1,0])
  (sQ (rG 0 [mS 0 22 1,mS 1 23 8,bI 2 24 .quo 23 4,bI 3 25 .mul 24 2,bS 4 26 .add 22 25,bI 5 27 .sub 26 1,mS 6 11 27] [11,9,10,8,1,0])
  (.block 0 (.loop (some [11,9,10,8,1,0]) c_slices_breakPatternsCmpFunc_Sweep_l1)))))
  .skip))) }
abbrev f_slices_choosePivotCmpFunc_Sweep : Nat := 276
def c_slices_choosePivotCmpFunc_Sweep : CFn := { frz := true,rnd := none,nargs := 4,ntmps := 63,res := [(.slot 8),(.slot 9)],code :=
  (sQ (rG 0 [mI 0 8 0,mI 1 9 0] [2,1,0,3])
  (sQ (rG 0 [mS 0 15 2,mS 1 16 1,bS 2 17 .sub 15 16,mS 3 10 17] [1,10,0,3])
  (sQ (rG 1 [o1 0 11 (.box 0 1 (.k (.a [(I 0)])))] [1,10,0,3,11])
  (sQ (rG 0 [mS 0 18 1,mS 1 19 10,bI 2 20 .quo 19 4,bI 3 21 .mul 20 1,bS 4 22 .add 18 21,mS 5 12 22] [1,10,12,0,3,11])
  (sQ (rG 0 [mS 0 23 1,mS 1 24 10,bI 2 25 .quo 24 4,bI 3 26 .mul 25 2,bS 4 27 .add 23 26,mS 5 13 27] [1,10,12,13,0,3,11])
  (sQ (rG 0 [mS 0 28 1,mS 1 29 10,bI 2 30 .quo 29 4,bI 3 31 .mul 30 3,bS 4 32 .add 28 31,mS 5 14 32] [10,12,13,14,0,3,11])
  (sQ (sQ (rG 0 [mS 0 33 10,bI 1 34 .geq 33 8] [34,10,12,13,14,0,3,11])
  (.cond (.s 34) (sQ (sQ (rG 0 [mS 0 35 10,bI 1 36 .geq 35 50] [36,12,13,14,0,3,11])
  (.cond (.s 36) (sQ (rG 0 [mS 0 37 0,mS 1 38 12,mS 2 39 3,⟨3,(some 40),none,.call ⟨false⟩ (.k (.c (.fn 300 [] []))) [(.s 37),(.s 38),(.s 11),(.s 39)]⟩,mS 4 12 40] [13,14,0,12,3,11])
  (sQ (rG 0 [mS 0 41 0,mS 1 42 13,mS 2 43 3,⟨3,(some 44),none,.call ⟨false⟩ (.k (.c (.fn 300 [] []))) [(.s 41),(.s 42),(.s 11),(.s 43)]⟩,mS 4 13 44] [14,0,12,13,3,11])
  (rG 0 [mS 0 45 0,mS 1 46 14,mS 2 47 3,⟨3,(some 48),none,.call ⟨false⟩ (.k (.c (.fn 300 [] []))) [(.s 45),(.s 46),(.s 11),(.s 47)]⟩,mS 4 14 48] [0,12,13,14,3,11])))
  .skip))
  (rG 0 [mS 0 49 0,mS 1 50 12,mS 2 51 13,mS 3 52 14,mS 4 53 3,⟨5,(some 54),none,.call ⟨false⟩ (.k (.c (.fn 301 [] []))) [(.s 49),(.s 50),(.s 51),(.s 52),(.s 11),(.s 53)]⟩,mS 6 13 54] [11,13]))
  .skip))
  (sQ (rG 0 [lF 0 55 11] [55,13])
  (.block 0 (sQ (rG 0 [bI 0 58 .eql 55 0,mS 1 57 58] [57,55,13])
  (.cond (.s 57) (sQ (rG 0 [mS 0 59 13,mS 1 8 59,mI 2 9 1] [8,9])
  .ret)
  (sQ (rG 0 [bI 0 61 .eql 55 12,mS 1 60 61] [60,13])
  (.cond (.s 60) (sQ (rG 0 [mS 0 62 13,mS 1 8 62,mI 2 9 2] [8,9])
  .ret)
  (sQ (rG 0 [mS 0 56 13,mS 1 8 56,mI 2 9 0] [8,9])
  .ret)))))))))))))) }
def c_slices_reverseRangeCmpFunc_Sweep_l1 : CC := (sQ (sQ (rG 0 [mS 0 13 8,mS 1 14 9,bS 2 15 .lss 13 14] [15,8,9,0])
  (.cond (.s 15) .skip
  (.exit 0)))
  (.block 1 (sQ (rG 0 [mS 0 16 0,mS 1 17 8,mS 2 18 0,mS 3 19 9,mS 4 20 0,mS 5 21 9,iA 6 22 4 20 21,mS 8 24 0,mS 9 25 8,iA 10 26 4 24 25,lT 7 23 4 22,lT 11 27 4 26,iA 12 28 4 16 17,o0 13 (.store 4 (.s 28) (.s 23)),iA 14 29 4 18 19,o0 15 (.store 4 (.s 29) (.s 27))] [8,9,0])
  (sQ (rG 0 [mS 0 30 8,bI 1 31 .add 30 1,mS 2 8 31] [9,8,0])
  (rG 0 [mS 0 32 9,bI 1 33 .sub 32 1,mS 2 9 33] [8,9,0])))))
abbrev f_slices_reverseRangeCmpFunc_Sweep : Nat := 277
def c_slices_reverseRangeCmpFunc_Sweep : CFn := { frz := true,rnd := none,nargs := 4,ntmps := 34,res := [],code :=
  (sQ (rG 0 [mS 0 10 1,mS 1 8 10] [2,8,0])
  (sQ (rG 0 [mS 0 11 2,bI 1 12 .sub 11 1,mS 2 9 12] [8,9,0])
  (.block 0 (.loop (some [8,9,0]) c_slices_reverseRangeCmpFunc_Sweep_l1)))) }
def c_slices_partialInsertionSortCmpFunc_Sweep_l1 : CC := (sQ (sQ (rG 0 [mS 0 19 9,mS 1 20 2,bS 2 21 .lss 19 20,mS 3 22 21,oG 4 23 22 true (.mv (.s 3)),oG 5 24 22 true (.mv (.s 0)),oG 6 25 22 true (.mv (.s 9)),oG 7 26 22 true (.iaddr 4 (.s 24) (.s 25)),oG 9 28 22 true (.mv (.s 0)),oG 10 29 22 true (.mv (.s 9)),oG 11 30 22 true (.bin .sub (.s 29) (kI 1)),oG 12 31 22 true (.iaddr 4 (.s 28) (.s 30)),oG 8 27 22 true (.load true 4 (.s 26)),oG 13 32 22 true (.load true 4 (.s 31)),⟨14,(some 33),(some (22,true)),.call ⟨true⟩ (.s 23) [(.s 27),(.s 32)]⟩,oG 15 34 22 true (.bin .lss (.s 33) (kI 0)),oG 16 35 22 true (.un .not (.s 34)),o1 17 36 (.pick (.s 22) (.s 35) (kB false))] [36,9,1,2,3,0,10])
  (.cond (.s 36) .skip
  (.exit 2)))
  (.block 3 (rG 0 [mS 0 37 9,bI 1 38 .add 37 1,mS 2 9 38] [9,1,2,3,0,10])))
def c_slices_partialInsertionSortCmpFunc_Sweep_l2 : CC := (sQ (sQ (rG 0 [mS 0 68 11,bI 1 69 .geq 68 1] [69,11,10,9,0,3,2,1])
  (.cond (.s 69) .skip
  (.exit 4)))
  (sQ (.block 5 (sQ (sQ (rG 0 [mS 0 72 3,mS 1 73 0,mS 2 74 11,iA 3 75 4 73 74,mS 5 77 0,mS 6 78 11,bI 7 79 .sub 78 1,iA 8 80 4 77 79,lT 4 76 4 75,lT 9 81 4 80,⟨10,(some 82),none,.call ⟨true⟩ (.s 72) [(.s 76),(.s 81)]⟩,bI 11 83 .lss 82 0,o1 12 84 (.un .not (.s 83))] [84,11,10,9,0,3,2,1])
  (.cond (.s 84) (.exit 4)
  .skip))
  (rG 0 [mS 0 85 0,mS 1 86 11,mS 2 87 0,mS 3 88 11,bI 4 89 .sub 88 1,mS 5 90 0,mS 6 91 11,bI 7 92 .sub 91 1,iA 8 93 4 90 92,mS 10 95 0,mS 11 96 11,iA 12 97 4 95 96,lT 9 94 4 93,lT 13 98 4 97,iA 14 99 4 85 86,o0 15 (.store 4 (.s 99) (.s 94)),iA 16 100 4 87 89,o0 17 (.store 4 (.s 100) (.s 98))] [11,10,9,0,3,2,1])))
  (rG 0 [mS 0 70 11,bI 1 71 .sub 70 1,mS 2 11 71] [11,10,9,0,3,2,1])))
def c_slices_partialInsertionSortCmpFunc_Sweep_l3 : CC := (sQ (sQ (rG 0 [mS 0 107 12,mS 1 108 2,bS 2 109 .lss 107 108] [109,12,10,9,0,3,2,1])
  (.cond (.s 109) .skip
  (.exit 6)))
  (sQ (.block 7 (sQ (sQ (rG 0 [mS 0 112 3,mS 1 113 0,mS 2 114 12,iA 3 115 4 113 114,mS 5 117 0,mS 6 118 12,bI 7 119 .sub 118 1,iA 8 120 4 117 119,lT 4 116 4 115,lT 9 121 4 120,⟨10,(some 122),none,.call ⟨true⟩ (.s 112) [(.s 116),(.s 121)]⟩,bI 11 123 .lss 122 0,o1 12 124 (.un .not (.s 123))] [124,12,10,9,0,3,2,1])
  (.cond (.s 124) (.exit 6)
  .skip))
  (rG 0 [mS 0 125 0,mS 1 126 12,mS 2 127 0,mS 3 128 12,bI 4 129 .sub 128 1,mS 5 130 0,mS 6 131 12,bI 7 132 .sub 131 1,iA 8 133 4 130 132,mS 10 135 0,mS 11 136 12,iA 12 137 4 135 136,lT 9 134 4 133,lT 13 138 4 137,iA 14 139 4 125 126,o0 15 (.store 4 (.s 139) (.s 134)),iA 16 140 4 127 129,o0 17 (.store 4 (.s 140) (.s 138))] [12,10,9,0,3,2,1])))
  (rG 0 [mS 0 110 12,bI 1 111 .add 110 1,mS 2 12 111] [12,10,9,0,3,2,1])))
def c_slices_partialInsertionSortCmpFunc_Sweep_l4 : CC := (sQ (sQ (rG 0 [mS 0 15 10,bI 1 16 .lss 15 5] [16,9,1,2,3,0,10])
  (.cond (.s 16) .skip
  (.exit 0)))
  (sQ (.block 1 (sQ (.block 2 (.loop (some [9,1,2,3,0,10]) c_slices_partialInsertionSortCmpFunc_Sweep_l1))
  (sQ (sQ (rG 0 [mS 0 39 9,mS 1 40 2,bS 2 41 .eql 39 40] [41,10,9,0,3,2,1])
  (.cond (.s 41) (sQ (rG 0 [mB 0 8 true] [8])
  .ret)
  .skip))
  (sQ (sQ (rG 0 [mS 0 42 2,mS 1 43 1,bS 2 44 .sub 42 43,bI 3 45 .lss 44 50] [45,1,2,3,0,9,10])
  (.cond (.s 45) (sQ (rG 0 [mB 0 8 false] [8])
  .ret)
  .skip))
  (sQ (rG 0 [mS 0 46 0,mS 1 47 9,mS 2 48 0,mS 3 49 9,bI 4 50 .sub 49 1,mS 5 51 0,mS 6 52 9,bI 7 53 .sub 52 1,iA 8 54 4 51 53,mS 10 56 0,mS 11 57 9,iA 12 58 4 56 57,lT 9 55 4 54,lT 13 59 4 58,iA 14 60 4 46 47,o0 15 (.store 4 (.s 60) (.s 55)),iA 16 61 4 48 50,o0 17 (.store 4 (.s 61) (.s 59))] [10,9,0,3,2,1])
  (sQ (sQ (rG 0 [mS 0 62 9,mS 1 63 1,bS 2 64 .sub 62 63,bI 3 65 .geq 64 2] [65,10,9,0,3,2,1])
  (.cond (.s 65) (sQ (rG 0 [mS 0 66 9,bI 1 67 .sub 66 1,mS 2 11 67] [11,10,9,0,3,2,1])
  (.block 4 (.loop (some [11,10,9,0,3,2,1]) c_slices_partialInsertionSortCmpFunc_Sweep_l2)))
  .skip))
  (sQ (rG 0 [mS 0 101 2,mS 1 102 9,bS 2 103 .sub 101 102,bI 3 104 .geq 103 2] [104,10,9,0,3,2,1])
  (.cond (.s 104) (sQ (rG 0 [mS 0 105 9,bI 1 106 .add 105 1,mS 2 12 106] [12,10,9,0,3,2,1])
  (.block 6 (.loop (some [12,10,9,0,3,2,1]) c_slices_partialInsertionSortCmpFunc_Sweep_l3)))
  .skip))))))))
  (rG 0 [mS 0 17 10,bI 1 18 .add 17 1,mS 2 10 18] [9,0,3,2,1,10])))
abbrev f_slices_partialInsertionSortCmpFunc_Sweep : Nat := 278
def c_slices_partialInsertionSortCmpFunc_Sweep : CFn := { frz := true,rnd := none,nargs := 4,ntmps := 141,res := [(.slot 8)],code :=
  (sQ (rG 0 [mB 0 8 false] [0,3,2,1])
  (sQ (rG 0 [mS 0 13 1,bI 1 14 .add 13 1,mS 2 9 14] [9,0,3,2,1])
  (sQ (sQ (rG 0 [mI 0 10 0] [9,0,3,2,1,10])
  (.block 0 (.loop (some [9,0,3,2,1,10]) c_slices_partialInsertionSortCmpFunc_Sweep_l4)))
  (sQ (rG 0 [mB 0 8 false] [8])
  .ret)))) }
def c_slices_partitionEqualCmpFunc_Sweep_l1 : CC := (sQ (sQ (rG 0 [mS 0 31 11,mS 1 32 12,bS 2 33 .leq 31 32,mS 3 34 33,oG 4 35 34 true (.mv (.s 4)),oG 5 36 34 true (.mv (.s 0)),oG 6 37 34 true (.mv (.s 1)),oG 7 38 34 true (.iaddr 4 (.s 36) (.s 37)),oG 9 40 34 true (.mv (.s 0)),oG 10 41 34 true (.mv (.s 11)),oG 11 42 34 true (.iaddr 4 (.s 40) (.s 41)),oG 8 39 34 true (.load true 4 (.s 38)),oG 12 43 34 true (.load true 4 (.s 42)),⟨13,(some 44),(some (34,true)),.call ⟨true⟩ (.s 35) [(.s 39),(.s 43)]⟩,oG 14 45 34 true (.bin .lss (.s 44) (kI 0)),oG 15 46 34 true (.un .not (.s 45)),o1 16 47 (.pick (.s 34) (.s 46) (kB false))] [47,11,4,1,0,12])
  (.cond (.s 47) .skip
  (.exit 2)))
  (.block 3 (rG 0 [mS 0 48 11,bI 1 49 .add 48 1,mS 2 11 49] [11,4,1,0,12])))
def c_slices_partitionEqualCmpFunc_Sweep_l2 : CC := (sQ (sQ (rG 0 [mS 0 50 11,mS 1 51 12,bS 2 52 .leq 50 51,mS 3 53 52,oG 4 54 53 true (.mv (.s 4)),oG 5 55 53 true (.mv (.s 0)),oG 6 56 53 true (.mv (.s 1)),oG 7 57 53 true (.iaddr 4 (.s 55) (.s 56)),oG 9 59 53 true (.mv (.s 0)),oG 10 60 53 true (.mv (.s 12)),oG 11 61 53 true (.iaddr 4 (.s 59) (.s 60)),oG 8 58 53 true (.load true 4 (.s 57)),oG 12 62 53 true (.load true 4 (.s 61)),⟨13,(some 63),(some (53,true)),.call ⟨true⟩ (.s 54) [(.s 58),(.s 62)]⟩,oG 14 64 53 true (.bin .lss (.s 63) (kI 0)),o1 15 65 (.pick (.s 53) (.s 64) (kB false))] [65,12,11,0,1,4])
  (.cond (.s 65) .skip
  (.exit 4)))
  (.block 5 (rG 0 [mS 0 66 12,bI 1 67 .sub 66 1,mS 2 12 67] [12,11,0,1,4])))
def c_slices_partitionEqualCmpFunc_Sweep_l3 : CC := (.block 1 (sQ (.block 2 (.loop (some [11,4,1,0,12]) c_slices_partitionEqualCmpFunc_Sweep_l1))
  (sQ (.block 4 (.loop (some [12,11,0,1,4]) c_slices_partitionEqualCmpFunc_Sweep_l2))
  (sQ (sQ (rG 0 [mS 0 68 11,mS 1 69 12,bS 2 70 .gtr 68 69] [70,4,1,0,12,11])
  (.cond (.s 70) (.exit 0)
  .skip))
  (sQ (rG 0 [mS 0 71 0,mS 1 72 11,mS 2 73 0,mS 3 74 12,mS 4 75 0,mS 5 76 12,iA 6 77 4 75 76,mS 8 79 0,mS 9 80 11,iA 10 81 4 79 80,lT 7 78 4 77,lT 11 82 4 81,iA 12 83 4 71 72,o0 13 (.store 4 (.s 83) (.s 78)),iA 14 84 4 73 74,o0 15 (.store 4 (.s 84) (.s 82))] [11,12,0,1,4])
  (sQ (rG 0 [mS 0 85 11,bI 1 86 .add 85 1,mS 2 11 86] [12,11,0,1,4])
  (rG 0 [mS 0 87 12,bI 1 88 .sub 87 1,mS 2 12 88] [11,0,1,4,12])))))))
abbrev f_slices_partitionEqualCmpFunc_Sweep : Nat := 279
def c_slices_partitionEqualCmpFunc_Sweep : CFn := { frz := true,rnd := none,nargs := 5,ntmps := 90,res := [(.slot 10)],code :=
  (sQ (rG 0 [mI 0 10 0] [3,2,0,1,4])
  (sQ (rG 0 [mS 0 13 0,mS 1 14 1,mS 2 15 0,mS 3 16 3,mS 4 17 0,mS 5 18 3,iA 6 19 4 17 18,mS 8 21 0,mS 9 22 1,iA 10 23 4 21 22,lT 7 20 4 19,lT 11 24 4 23,iA 12 25 4 13 14,o0 13 (.store 4 (.s 25) (.s 20)),iA 14 26 4 15 16,o0 15 (.store 4 (.s 26) (.s 24))] [2,0,1,4])
  (sQ (rG 0 [mS 0 27 1,bI 1 28 .add 27 1,mS 2 29 2,bI 3 30 .sub 29 1,mS 4 11 28,mS 5 12 30] [11,0,1,4,12])
  (sQ (.block 0 (.loop (some [11,0,1,4,12]) c_slices_partitionEqualCmpFunc_Sweep_l3))
  (sQ (rG 0 [mS 0 89 11,mS 1 10 89] [10])
  .ret))))) }
def c_slices_partitionCmpFunc_Sweep_l1 : CC := (sQ (sQ (rG 0 [mS 0 32 12,mS 1 33 13,bS 2 34 .leq 32 33,mS 3 35 34,oG 4 36 35 true (.mv (.s 4)),oG 5 37 35 true (.mv (.s 0)),oG 6 38 35 true (.mv (.s 12)),oG 7 39 35 true (.iaddr 4 (.s 37) (.s 38)),oG 9 41 35 true (.mv (.s 0)),oG 10 42 35 true (.mv (.s 1)),oG 11 43 35 true (.iaddr 4 (.s 41) (.s 42)),oG 8 40 35 true (.load true 4 (.s 39)),oG 12 44 35 true (.load true 4 (.s 43)),⟨13,(some 45),(some (35,true)),.call ⟨true⟩ (.s 36) [(.s 40),(.s 44)]⟩,oG 14 46 35 true (.bin .lss (.s 45) (kI 0)),o1 15 47 (.pick (.s 35) (.s 46) (kB false))] [47,12,4,1,0,13])
  (.cond (.s 47) .skip
  (.exit 0)))
  (.block 1 (rG 0 [mS 0 48 12,bI 1 49 .add 48 1,mS 2 12 49] [12,4,1,0,13])))
def c_slices_partitionCmpFunc_Sweep_l2 : CC := (sQ (sQ (rG 0 [mS 0 50 12,mS 1 51 13,bS 2 52 .leq 50 51,mS 3 53 52,oG 4 54 53 true (.mv (.s 4)),oG 5 55 53 true (.mv (.s 0)),oG 6 56 53 true (.mv (.s 13)),oG 7 57 53 true (.iaddr 4 (.s 55) (.s 56)),oG 9 59 53 true (.mv (.s 0)),oG 10 60 53 true (.mv (.s 1)),oG 11 61 53 true (.iaddr 4 (.s 59) (.s 60)),oG 8 58 53 true (.load true 4 (.s 57)),oG 12 62 53 true (.load true 4 (.s 61)),⟨13,(some 63),(some (53,true)),.call ⟨true⟩ (.s 54) [(.s 58),(.s 62)]⟩,oG 14 64 53 true (.bin .lss (.s 63) (kI 0)),oG 15 65 53 true (.un .not (.s 64)),o1 16 66 (.pick (.s 53) (.s 65) (kB false))] [66,13,0,1,12,4])
  (.cond (.s 66) .skip
  (.exit 2)))
  (.block 3 (rG 0 [mS 0 67 13,bI 1 68 .sub 67 1,mS 2 13 68] [13,0,1,12,4])))
def c_slices_partitionCmpFunc_Sweep_l3 : CC := (sQ (sQ (rG 0 [mS 0 105 12,mS 1 106 13,bS 2 107 .leq 105 106,mS 3 108 107,oG 4 109 108 true (.mv (.s 4)),oG 5 110 108 true (.mv (.s 0)),oG 6 111 108 true (.mv (.s 12)),oG 7 112 108 true (.iaddr 4 (.s 110) (.s 111)),oG 9 114 108 true (.mv (.s 0)),oG 10 115 108 true (.mv (.s 1)),oG 11 116 108 true (.iaddr 4 (.s 114) (.s 115)),oG 8 113 108 true (.load true 4 (.s 112)),oG 12 117 108 true (.load true 4 (.s 116)),⟨13,(some 118),(some (108,true)),.call ⟨true⟩ (.s 109) [(.s 113),(.s 117)]⟩,oG 14 119 108 true (.bin .lss (.s 118) (kI 0)),o1 15 120 (.pick (.s 108) (.s 119) (kB false))] [120,12,4,1,0,13])
  (.cond (.s 120) .skip
  (.exit 6)))
  (.block 7 (rG 0 [mS 0 121 12,bI 1 122 .add 121 1,mS 2 12 122] [12,4,1,0,13])))
def c_slices_partitionCmpFunc_Sweep_l4 : CC := (sQ (sQ (rG 0 [mS 0 123 12,mS 1 124 13,bS 2 125 .leq 123 124,mS 3 126 125,oG 4 127 126 true (.mv (.s 4)),oG 5 128 126 true (.mv (.s 0)),oG 6 129 126 true (.mv (.s 13)),oG 7 130 126 true (.iaddr 4 (.s 128) (.s 129)),oG 9 132 126 true (.mv (.s 0)),oG 10 133 126 true (.mv (.s 1)),oG 11 134 126 true (.iaddr 4 (.s 132) (.s 133)),oG 8 131 126 true (.load true 4 (.s 130)),oG 12 135 126 true (.load true 4 (.s 134)),⟨13,(some 136),(some (126,true)),.call ⟨true⟩ (.s 127) [(.s 131),(.s 135)]⟩,oG 14 137 126 true (.bin .lss (.s 136) (kI 0)),oG 15 138 126 true (.un .not (.s 137)),o1 16 139 (.pick (.s 126) (.s 138) (kB false))] [139,13,0,1,12,4])
  (.cond (.s 139) .skip
  (.exit 8)))
  (.block 9 (rG 0 [mS 0 140 13,bI 1 141 .sub 140 1,mS 2 13 141] [13,0,1,12,4])))
def c_slices_partitionCmpFunc_Sweep_l5 : CC := (.block 5 (sQ (.block 6 (.loop (some [12,4,1,0,13]) c_slices_partitionCmpFunc_Sweep_l3))
  (sQ (.block 8 (.loop (some [13,0,1,12,4]) c_slices_partitionCmpFunc_Sweep_l4))
  (sQ (sQ (rG 0 [mS 0 142 12,mS 1 143 13,bS 2 144 .gtr 142 143] [144,4,12,1,0,13])
  (.cond (.s 144) (.exit 4)
  .skip))
  (sQ (rG 0 [mS 0 145 0,mS 1 146 12,mS 2 147 0,mS 3 148 13,mS 4 149 0,mS 5 150 13,iA 6 151 4 149 150,mS 8 153 0,mS 9 154 12,iA 10 155 4 153 154,lT 7 152 4 151,lT 11 156 4 155,iA 12 157 4 145 146,o0 13 (.store 4 (.s 157) (.s 152)),iA 14 158 4 147 148,o0 15 (.store 4 (.s 158) (.s 156))] [12,13,4,1,0])
  (sQ (rG 0 [mS 0 159 12,bI 1 160 .add 159 1,mS 2 12 160] [13,12,4,1,0])
  (rG 0 [mS 0 161 13,bI 1 162 .sub 161 1,mS 2 13 162] [12,4,1,0,13])))))))
abbrev f_slices_partitionCmpFunc_Sweep : Nat := 280
def c_slices_partitionCmpFunc_Sweep : CFn := { frz := true,rnd := none,nargs := 5,ntmps := 178,res := [(.slot 10),(.slot 11)],code :=
  (sQ (rG 0 [mI 0 10 0,mB 1 11 false] [3,2,4,1,0])
  (sQ (rG 0 [mS 0 14 0,mS 1 15 1,mS 2 16 0,mS 3 17 3,mS 4 18 0,mS 5 19 3,iA 6 20 4 18 19,mS 8 22 0,mS 9 23 1,iA 10 24 4 22 23,lT 7 21 4 20,lT 11 25 4 24,iA 12 26 4 14 15,o0 13 (.store 4 (.s 26) (.s 21)),iA 14 27 4 16 17,o0 15 (.store 4 (.s 27) (.s 25))] [2,4,1,0])
  (sQ (rG 0 [mS 0 28 1,bI 1 29 .add 28 1,mS 2 30 2,bI 3 31 .sub 30 1,mS 4 12 29,mS 5 13 31] [12,4,1,0,13])
  (sQ (.block 0 (.loop (some [12,4,1,0,13]) c_slices_partitionCmpFunc_Sweep_l1))
  (sQ (.block 2 (.loop (some [13,0,1,12,4]) c_slices_partitionCmpFunc_Sweep_l2))
  (sQ (sQ (rG 0 [mS 0 69 12,mS 1 70 13,bS 2 71 .gtr 69 70] [71,4,12,1,0,13])
  (.cond (.s 71) (sQ (rG 0 [mS 0 72 0,mS 1 73 13,mS 2 74 0,mS 3 75 1,mS 4 76 0,mS 5 77 1,iA 6 78 4 76 77,mS 8 80 0,mS 9 81 13,iA 10 82 4 80 81,lT 7 79 4 78,lT 11 83 4 82,iA 12 84 4 72 73,o0 13 (.store 4 (.s 84) (.s 79)),iA 14 85 4 74 75,o0 15 (.store 4 (.s 85) (.s 83))] [13])
  (sQ (rG 0 [mS 0 86 13,mS 1 10 86,mB 2 11 true] [10,11])
  .ret))
  .skip))
  (sQ (rG 0 [mS 0 87 0,mS 1 88 12,mS 2 89 0,mS 3 90 13,mS 4 91 0,mS 5 92 13,iA 6 93 4 91 92,mS 8 95 0,mS 9 96 12,iA 10 97 4 95 96,lT 7 94 4 93,lT 11 98 4 97,iA 12 99 4 87 88,o0 13 (.store 4 (.s 99) (.s 94)),iA 14 100 4 89 90,o0 15 (.store 4 (.s 100) (.s 98))] [12,13,4,1,0])
  (sQ (rG 0 [mS 0 101 12,bI 1 102 .add 101 1,mS 2 12 102] [13,12,4,1,0])
  (sQ (rG 0 [mS 0 103 13,bI 1 104 .sub 103 1,mS 2 13 104] [12,4,1,0,13])
  (sQ (.block 4 (.loop (some [12,4,1,0,13]) c_slices_partitionCmpFunc_Sweep_l5))
  (sQ (rG 0 [mS 0 163 0,mS 1 164 13,mS 2 165 0,mS 3 166 1,mS 4 167 0,mS 5 168 1,iA 6 169 4 167 168,mS 8 171 0,mS 9 172 13,iA 10 173 4 171 172,lT 7 170 4 169,lT 11 174 4 173,iA 12 175 4 163 164,o0 13 (.store 4 (.s 175) (.s 170)),iA 14 176 4 165 166,o0 15 (.store 4 (.s 176) (.s 174))] [13])
  (sQ (rG 0 [mS 0 177 13,mS 1 10 177,mB 2 11 false] [10,11])
  .ret)))))))))))) }
def c_slices_stableCmpFunc_Blob_l1 : CC := (sQ (sQ (rG 0 [mS 0 11 8,mS 1 12 1,bS 2 13 .leq 11 12] [13,7,8,1,0,2,6])
  (.cond (.s 13) .skip
  (.exit 0)))
  (.block 1 (sQ (rG 0 [mS 0 14 0,mS 1 15 7,mS 2 16 8,mS 3 17 2,⟨4,(some 18),none,.call ⟨false⟩ (.k (.c (.fn 302 [] []))) [(.s 14),(.s 15),(.s 16),(.s 17)]⟩] [8,1,0,2,6])
  (sQ (rG 0 [mS 0 19 8,mS 1 7 19] [8,7,1,0,2,6])
  (rG 0 [mS 0 20 8,mS 1 21 6,bS 2 22 .add 20 21,mS 3 8 22] [7,8,1,0,2,6])))))
def c_slices_stableCmpFunc_Blob_l2 : CC := (sQ (sQ (rG 0 [mS 0 33 8,mS 1 34 1,bS 2 35 .leq 33 34] [35,7,8,1,0,2,6])
  (.cond (.s 35) .skip
  (.exit 4)))
  (.block 5 (sQ (rG 0 [mS 0 36 0,mS 1 37 7,mS 2 38 7,mS 3 39 6,bS 4 40 .add 38 39,mS 5 41 8,mS 6 42 2,⟨7,(some 43),none,.call ⟨false⟩ (.k (.c (.fn 303 [] []))) [(.s 36),(.s 37),(.s 40),(.s 41),(.s 42)]⟩] [8,1,0,2,6])
  (sQ (rG 0 [mS 0 44 8,mS 1 7 44] [8,7,1,0,2,6])
  (rG 0 [mS 0 45 8,mS 1 46 6,o1 2 47 (.bin .mul (kI 2) (.s 46)),bS 3 48 .add 45 47,mS 4 8 48] [7,8,1,0,2,6])))))
def c_slices_stableCmpFunc_Blob_l3 : CC := (sQ (sQ (rG 0 [mS 0 28 6,mS 1 29 1,bS 2 30 .lss 28 29] [30,1,0,2,6])
  (.cond (.s 30) .skip
  (.exit 2)))
  (.block 3 (sQ (rG 0 [mS 0 31 6,o1 1 32 (.bin .mul (kI 2) (.s 31)),mI 2 7 0,mS 3 8 32] [7,8,1,0,2,6])
  (sQ (.block 4 (.loop (some [7,8,1,0,2,6]) c_slices_stableCmpFunc_Blob_l2))
  (sQ (sQ (rG 0 [mS 0 49 7,mS 1 50 6,bS 2 51 .add 49 50,mS 3 9 51] [7,9,6,1,0,2])
  (sQ (rG 0 [mS 0 52 9,mS 1 53 1,bS 2 54 .lss 52 53] [54,7,9,6,1,0,2])
  (.cond (.s 54) (rG 0 [mS 0 55 0,mS 1 56 7,mS 2 57 9,mS 3 58 1,mS 4 59 2,⟨5,(some 60),none,.call ⟨false⟩ (.k (.c (.fn 303 [] []))) [(.s 55),(.s 56),(.s 57),(.s 58),(.s 59)]⟩] [6,1,0,2])
  .skip)))
  (rG 0 [mS 0 61 6,bI 1 62 .mul 61 2,mS 2 6 62] [1,0,2,6]))))))
abbrev f_slices_stableCmpFunc_Blob : Nat := 281
def c_slices_stableCmpFunc_Blob : CFn := { frz := true,rnd := none,nargs := 3,ntmps := 63,res := [],code :=
  (sQ (rG 0 [mI 0 6 20] [1,0,2,6])
  (sQ (rG 0 [mS 0 10 6,mI 1 7 0,mS 2 8 10] [7,8,1,0,2,6])
  (sQ (.block 0 (.loop (some [7,8,1,0,2,6]) c_slices_stableCmpFunc_Blob_l1))
  (sQ (rG 0 [mS 0 23 0,mS 1 24 7,mS 2 25 1,mS 3 26 2,⟨4,(some 27),none,.call ⟨false⟩ (.k (.c (.fn 302 [] []))) [(.s 23),(.s 24),(.s 25),(.s 26)]⟩] [1,0,2,6])
  (.block 2 (.loop (some [1,0,2,6]) c_slices_stableCmpFunc_Blob_l3)))))) }
def c_slices_siftDownOrdered_int64_l1 : CC := (.block 1 (sQ (rG 0 [mS 0 11 8,o1 1 12 (.bin .mul (kI 2) (.s 11)),bI 2 13 .add 12 1,mS 3 9 13] [8,0,3,2,9])
  (sQ (sQ (rG 0 [mS 0 14 9,mS 1 15 2,bS 2 16 .geq 14 15] [16,8,0,3,2,9])
  (.cond (.s 16) (.exit 0)
  .skip))
  (sQ (sQ (rG 0 [mS 0 17 9,bI 1 18 .add 17 1,mS 2 19 2,bS 3 20 .lss 18 19,mS 4 21 20,oG 5 22 21 true (.mv (.s 0)),oG 6 23 21 true (.mv (.s 3)),oG 7 24 21 true (.mv (.s 9)),oG 8 25 21 true (.bin .add (.s 23) (.s 24)),oG 9 26 21 true (.iaddr 1 (.s 22) (.s 25)),oG 11 28 21 true (.mv (.s 0)),oG 12 29 21 true (.mv (.s 3)),oG 13 30 21 true (.mv (.s 9)),oG 14 31 21 true (.bin .add (.s 29) (.s 30)),oG 15 32 21 true (.bin .add (.s 31) (kI 1)),oG 16 33 21 true (.iaddr 1 (.s 28) (.s 32)),oG 10 27 21 true (.load false 1 (.s 26)),oG 17 34 21 true (.load false 1 (.s 33)),⟨18,(some 35),(some (21,true)),.call ⟨true⟩ (.k (.c (.fn 255 [] []))) [(.s 27),(.s 34)]⟩,o1 19 36 (.pick (.s 21) (.s 35) (kB false))] [36,9,2,3,0,8])
  (.cond (.s 36) (rG 0 [mS 0 37 9,bI 1 38 .add 37 1,mS 2 9 38] [2,3,0,9,8])
  .skip))
  (sQ (sQ (rG 0 [mS 0 39 0,mS 1 40 3,mS 2 41 8,bS 3 42 .add 40 41,iA 4 43 1 39 42,mS 6 45 0,mS 7 46 3,mS 8 47 9,bS 9 48 .add 46 47,iA 10 49 1 45 48,lF 5 44 43,lF 11 50 49,cA 12 51 255 [(.s 44),(.s 50)],o1 13 52 (.un .not (.s 51))] [52,2,3,0,9,8])
  (.cond (.s 52) .ret
  .skip))
  (sQ (rG 0 [mS 0 53 0,mS 1 54 3,mS 2 55 8,bS 3 56 .add 54 55,mS 4 57 0,mS 5 58 3,mS 6 59 9,bS 7 60 .add 58 59,mS 8 61 0,mS 9 62 3,mS 10 63 9,bS 11 64 .add 62 63,iA 12 65 1 61 64,mS 14 67 0,mS 15 68 3,mS 16 69 8,bS 17 70 .add 68 69,iA 18 71 1 67 70,lF 13 66 65,lF 19 72 71,iA 20 73 1 53 56,o0 21 (.store 1 (.s 73) (.s 66)),iA 22 74 1 57 60,o0 23 (.store 1 (.s 74) (.s 72))] [9,0,3,2])
  (rG 0 [mS 0 75 9,mS 1 8 75] [8,0,3,2])))))))
abbrev f_slices_siftDownOrdered_int64 : Nat := 282
def c_slices_siftDownOrdered_int64 : CFn := { frz := true,rnd := none,nargs := 4,ntmps := 76,res := [],code :=
  (sQ (rG 0 [mS 0 10 1,mS 1 8 10] [8,0,3,2])
  (.block 0 (.loop (some [8,0,3,2]) c_slices_siftDownOrdered_int64_l1))) }
abbrev f_slices_nextPowerOfTwo : Nat := 283
def c_slices_nextPowerOfTwo : CFn := { frz := true,rnd := none,nargs := 1,ntmps := 7,res := [(.slot 2)],code :=
  (sQ (rG 0 [o1 0 2 (.mv (.k (.c (.int .u64 0))))] [0])
  (sQ (rG 0 [mS 0 3 0,o1 1 4 (.conv .u64 (.s 3)),cA 2 5 208 [(.s 4)],o1 3 6 (.bin .shl (.k (.c (.int .u64 1))) (.s 5)),mS 4 2 6] [2])
  .ret)) }
abbrev f_slices_xorshift_Next : Nat := 284
def c_slices_xorshift_Next : CFn := { frz := true,rnd := none,nargs := 1,ntmps := 33,res := [(.slot 2)],code :=
  (sQ (rG 0 [o1 0 2 (.mv (.k (.c (.int .u64 0))))] [0])
  (sQ (rG 0 [mS 0 3 0,nC 1 4 3,mS 3 6 0,nC 4 7 6,lF 2 5 4,lF 5 8 7,o1 6 9 (.bin .shl (.s 8) (.k (.c (.int .u64 13)))),bS 7 10 .xor 5 9,nC 8 11 3,o0 9 (.store 1 (.s 11) (.s 10))] [0])
  (sQ (rG 0 [mS 0 12 0,nC 1 13 12,mS 3 15 0,nC 4 16 15,lF 2 14 13,lF 5 17 16,o1 6 18 (.bin .shr (.s 17) (.k (.c (.int .u64 7)))),bS 7 19 .xor 14 18,nC 8 20 12,o0 9 (.store 1 (.s 20) (.s 19))] [0])
  (sQ (rG 0 [mS 0 21 0,nC 1 22 21,mS 3 24 0,nC 4 25 24,lF 2 23 22,lF 5 26 25,o1 6 27 (.bin .shl (.s 26) (.k (.c (.int .u64 17)))),bS 7 28 .xor 23 27,nC 8 29 21,o0 9 (.store 1 (.s 29) (.s 28))] [0])
  (sQ (rG 0 [mS 0 30 0,nC 1 31 30,lF 2 32 31,mS 3 2 32] [2])
  .ret))))) }
abbrev f_slices_medianAdjacentOrdered_int64 : Nat := 285
def c_slices_medianAdjacentOrdered_int64 : CFn := { frz := true,rnd := none,nargs := 3,ntmps := 15,res := [(.slot 6)],code :=
  (sQ (rG 0 [mI 0 6 0] [0,1,2])
  (sQ (rG 0 [mS 0 7 0,mS 1 8 1,bI 2 9 .sub 8 1,mS 3 10 1,mS 4 11 1,bI 5 12 .add 11 1,mS 6 13 2,⟨7,(some 14),none,.call ⟨false⟩ (.k (.c (.fn 286 [] []))) [(.s 7),(.s 9),(.s 10),(.s 12),(.s 13)]⟩,mS 8 6 14] [6])
  .ret)) }
abbrev f_slices_medianOrdered_int64 : Nat := 286
def c_slices_medianOrdered_int64 : CFn := { frz := true,rnd := none,nargs := 5,ntmps := 36,res := [(.slot 10)],code :=
  (sQ (rG 0 [mI 0 10 0] [1,2,3,0,4])
  (sQ (rG 0 [mS 0 12 0,mS 1 13 1,mS 2 14 2,mS 3 15 4,⟨4,(some 16),none,.call ⟨false⟩ (.k (.c (.fn 304 [] []))) [(.s 12),(.s 13),(.s 14),(.s 15)]⟩,mS 5 11 16,eX 6 17 11 0,eX 7 18 11 1,mS 8 1 17,mS 9 2 18] [2,3,0,1,4])
  (sQ (rG 0 [mS 0 20 0,mS 1 21 2,mS 2 22 3,mS 3 23 4,⟨4,(some 24),none,.call ⟨false⟩ (.k (.c (.fn 304 [] []))) [(.s 20),(.s 21),(.s 22),(.s 23)]⟩,mS 5 19 24,eX 6 25 19 0,eX 7 26 19 1,mS 8 2 25,mS 9 3 26] [0,1,2,4])
  (sQ (rG 0 [mS 0 28 0,mS 1 29 1,mS 2 30 2,mS 3 31 4,⟨4,(some 32),none,.call ⟨false⟩ (.k (.c (.fn 304 [] []))) [(.s 28),(.s 29),(.s 30),(.s 31)]⟩,mS 5 27 32,eX 6 33 27 0,eX 7 34 27 1,mS 8 1 33,mS 9 2 34] [2])
  (sQ (rG 0 [mS 0 35 2,mS 1 10 35] [10])
  .ret))))) }
def c_plan_profile_l1 : CC := (sQ (rG 0 [bS 0 30 .lss 29 28] [30,29,28,6,5,12,4,27,13])
  (sQ (.cond (.s 30) .skip
  (.exit 0))
  (sQ (.block 1 (sQ (rG 0 [iA 0 31 1 27 29,lF 1 32 31,mS 2 15 32] [15,29,28,6,5,12,4,27,13])
  (rG 0 [mS 0 33 13,mS 1 34 15,cA 2 35 305 [(.s 33),(.s 34)]] [29,28,6,5,12,4,27,13])))
  (rG 0 [bI 0 36 .add 29 1,mS 1 29 36] [29,28,6,5,12,4,27,13]))))
def c_plan_profile_l2 : CC := (sQ (rG 0 [bS 0 41 .lss 40 39] [41,40,39,12,5,13,6])
  (sQ (.cond (.s 41) .skip
  (.exit 2))
  (sQ (.block 3 (rG 0 [mS 0 42 13,mS 1 43 13,fA 2 44 1 6,lF 3 45 44,cA 4 46 54 [(.s 43),(.s 45)],cA 5 47 305 [(.s 42),(.s 46)]] [40,39,12,5,13,6]))
  (rG 0 [bI 0 48 .add 40 1,mS 1 40 48] [40,39,12,5,13,6]))))
def c_plan_profile_l3 : CC := (sQ (rG 0 [bS 0 53 .lss 52 51] [53,52,51,12,13])
  (sQ (.cond (.s 53) .skip
  (.exit 4))
  (sQ (.block 5 (rG 0 [mS 0 54 13,mS 1 55 13,cA 2 56 54 [(.s 55),(kI 0)],cA 3 57 305 [(.s 54),(.s 56)]] [52,51,12,13]))
  (rG 0 [bI 0 58 .add 52 1,mS 1 52 58] [52,51,12,13]))))
abbrev f_plan_profile : Nat := 287
def c_plan_profile : CFn := { frz := true,rnd := none,nargs := 6,ntmps := 66,res := [(.cell 12 true 1)],code :=
  (sQ (rG 2 [o1 0 6 (.box 0 5 (.s 0)),o1 1 12 (.box 1 1 (.k (.a [.nilslice])))] [2,3,1,6,5,12,4])
  (sQ (rG 1 [lT 0 16 5 6,mS 1 17 2,mS 2 18 3,o1 3 19 (.minmax false [(.s 18),(kI 2000)]),o1 4 20 (.minmax true [(kI 0),(.s 19)]),o1 5 21 (.build [(I 0),(I 0),(I 0),(I 0),(I 0),(I 0),(I 0),.nilslice] [(0,5,(.s 16)),(5,1,(.s 17)),(6,1,(.s 20))]),o1 6 22 (.box 0 8 (.s 21)),mS 7 13 22] [1,6,5,12,4,13])
  (sQ (sQ (rG 0 [mS 0 23 1,mS 1 24 1,lN 2 25 24,o1 3 26 (.minmax false [(.s 25),(kI 5)]),o1 4 27 (.slice 1 (.s 23) none (some (.s 26)) none),lN 5 28 27,mI 6 29 0] [29,28,6,5,12,4,27,13])
  (.block 0 (.loop (some [29,28,6,5,12,4,27,13]) c_plan_profile_l1)))
  (sQ (sQ (rG 0 [mS 0 37 4,o1 1 38 (.minmax false [(.s 37),(kI 20)]),o1 2 39 (.minmax true [(kI 0),(.s 38)]),mI 3 40 0] [40,39,12,5,13,6])
  (.block 2 (.loop (some [40,39,12,5,13,6]) c_plan_profile_l2)))
  (sQ (sQ (rG 0 [mS 0 49 5,o1 1 50 (.minmax false [(.s 49),(kI 20)]),o1 2 51 (.minmax true [(kI 0),(.s 50)]),mI 3 52 0] [52,51,12,13])
  (.block 4 (.loop (some [52,51,12,13]) c_plan_profile_l3)))
  (sQ (rG 0 [mS 0 59 13,cA 1 60 306 [(.s 59)]] [13,12])
  (sQ (rG 0 [mS 0 61 13,nC 1 62 61,fA 2 63 7 62,lF 3 64 63,o1 4 65 (.build [.nilslice] [(0,1,(.s 64))]),o0 5 (.store 1 (.s 12) (.s 65))] [12])
  .ret))))))) }
def c_curve_pieces_1_l1 : CC := (sQ (rG 0 [bS 0 13 .lss 12 11] [13,1,0,11,12,3])
  (sQ (.cond (.s 13) .skip
  (.exit 0))
  (sQ (.block 1 (sQ (rG 0 [mS 0 14 12,mS 1 4 14] [4,1,0,11,12,3])
  (sQ (.region 1 [fA 0 15 0 1,mS 2 17 4,fA 5 20 0 1,mS 7 22 4,bI 8 23 .add 22 1,lF 1 16 15,iA 3 18 2 16 17,lT 4 19 2 18,lF 6 21 20,iA 9 24 2 21 23,lT 10 25 2 24,cA 11 26 162 [(.s 19),(.s 25)],o1 12 5 (.box 0 2 (.k (.a [(I 0),(I 0)]))),o0 13 (.store 2 (.s 5) (.s 26))] [(5,12),(7,12),(8,12),(10,12),(11,12)] (some [4,5,1,0,11,12,3]))
  (sQ (rG 0 [lT 0 28 2 5,lT 1 29 2 5,cA 2 30 164 [(.s 28),(.s 29)],cA 3 31 163 [(.s 30)],mS 4 27 31,eX 5 32 27 0,eX 6 33 27 1,mS 7 6 32,mS 8 7 33] [4,5,1,0,11,12,6,3])
  (sQ (sQ (rG 0 [mS 0 34 0,mS 1 35 4,fA 2 36 0 1,mS 4 38 4,mS 8 42 6,mS 9 43 3,lF 3 37 36,iA 5 39 2 37 38,lT 6 40 2 39,lT 7 41 2 5,o1 10 44 (.build [(I 0),(I 0),(I 0),(I 0),(I 0),(I 0)] [(0,2,(.s 40)),(2,2,(.s 41)),(4,1,(.s 42)),(5,1,(.s 43))]),⟨11,(some 45),none,.call ⟨true⟩ (.s 34) [(.s 35),(.s 44)]⟩,o1 12 46 (.un .not (.s 45))] [46,1,0,11,12,6,3])
  (.cond (.s 46) .ret
  .skip))
  (rG 0 [mS 0 47 3,mS 1 48 6,bS 2 49 .add 47 48,mS 3 3 49] [12,11,0,1,3]))))))
  (rG 0 [bI 0 50 .add 12 1,mS 1 12 50] [11,0,1,12,3]))))
abbrev f_curve_pieces_1 : Nat := 288
def c_curve_pieces_1 : CFn := { frz := true,rnd := none,nargs := 2,ntmps := 51,res := [],code :=
  (sQ (rG 0 [mI 0 3 0] [0,1,3])
  (sQ (rG 0 [fA 0 8 0 1,lF 1 9 8,lN 2 10 9,bI 3 11 .sub 10 1,mI 4 12 0] [11,0,1,12,3])
  (.block 0 (.loop (some [11,0,1,12,3]) c_curve_pieces_1_l1)))) }
def c_slices_swapRangeCmpFunc_Pass_l1 : CC := (sQ (sQ (rG 0 [mS 0 11 10,mS 1 12 3,bS 2 13 .lss 11 12] [13,10,3,2,0,1])
  (.cond (.s 13) .skip
  (.exit 0)))
  (sQ (.block 1 (rG 0 [mS 0 16 0,mS 1 17 1,mS 2 18 10,bS 3 19 .add 17 18,mS 4 20 0,mS 5 21 2,mS 6 22 10,bS 7 23 .add 21 22,mS 8 24 0,mS 9 25 2,mS 10 26 10,bS 11 27 .add 25 26,iA 12 28 4 24 27,mS 14 30 0,mS 15 31 1,mS 16 32 10,bS 17 33 .add 31 32,iA 18 34 4 30 33,lT 13 29 4 28,lT 19 35 4 34,iA 20 36 4 16 19,o0 21 (.store 4 (.s 36) (.s 29)),iA 22 37 4 20 23,o0 23 (.store 4 (.s 37) (.s 35))] [10,3,2,0,1]))
  (rG 0 [mS 0 14 10,bI 1 15 .add 14 1,mS 2 10 15] [10,3,2,0,1])))
abbrev f_slices_swapRangeCmpFunc_Pass : Nat := 289
def c_slices_swapRangeCmpFunc_Pass : CFn := { frz := true,rnd := none,nargs := 5,ntmps := 38,res := [],code :=
  (sQ (rG 0 [mI 0 10 0] [10,3,2,0,1])
  (.block 0 (.loop (some [10,3,2,0,1]) c_slices_swapRangeCmpFunc_Pass_l1))) }
def c_slices_IndexFunc_Sweep_l1 : CC := (sQ (rG 0 [bS 0 9 .lss 8 7] [9,0,1,7,8])
  (sQ (.cond (.s 9) .skip
  (.exit 0))
  (sQ (.block 1 (sQ (rG 0 [mS 0 10 8,mS 1 5 10] [0,1,7,8,5])
  (sQ (rG 0 [mS 0 11 1,mS 1 12 0,mS 2 13 5,iA 3 14 4 12 13,lT 4 15 4 14,⟨5,(some 16),none,.call ⟨true⟩ (.s 11) [(.s 15)]⟩] [16,0,1,7,8,5])
  (.cond (.s 16) (sQ (rG 0 [mS 0 17 5,mS 1 4 17] [4])
  .ret)
  .skip))))
  (rG 0 [bI 0 18 .add 8 1,mS 1 8 18] [7,1,0,8]))))
abbrev f_slices_IndexFunc_Sweep : Nat := 290
def c_slices_IndexFunc_Sweep : CFn := { frz := true,rnd := none,nargs := 2,ntmps := 19,res := [(.slot 4)],code :=
  (sQ (rG 0 [mI 0 4 0] [1,0])
  (sQ (sQ (rG 0 [mS 0 6 0,lN 1 7 6,mI 2 8 0] [7,1,0,8])
  (.block 0 (.loop (some [7,1,0,8]) c_slices_IndexFunc_Sweep_l1)))
  (sQ (rG 0 [mI 0 4 (-1)] [4])
  .ret))) }
def c_slices_insertionSortCmpFunc_Found_l1 : CC := (sQ (sQ (rG 0 [mS 0 18 9,mS 1 19 1,bS 2 20 .gtr 18 19,mS 3 21 20,oG 4 22 21 true (.mv (.s 3)),oG 5 23 21 true (.mv (.s 0)),oG 6 24 21 true (.mv (.s 9)),oG 7 25 21 true (.iaddr 5 (.s 23) (.s 24)),oG 9 27 21 true (.mv (.s 0)),oG 10 28 21 true (.mv (.s 9)),oG 11 29 21 true (.bin .sub (.s 28) (kI 1)),oG 12 30 21 true (.iaddr 5 (.s 27) (.s 29)),oG 8 26 21 true (.load true 5 (.s 25)),oG 13 31 21 true (.load true 5 (.s 30)),⟨14,(some 32),(some (21,true)),.call ⟨true⟩ (.s 22) [(.s 26),(.s 31)]⟩,oG 15 33 21 true (.bin .lss (.s 32) (kI 0)),o1 16 34 (.pick (.s 21) (.s 33) (kB false))] [34,9,3,1,2,8,0])
  (.cond (.s 34) .skip
  (.exit 2)))
  (sQ (.block 3 (rG 0 [mS 0 37 0,mS 1 38 9,mS 2 39 0,mS 3 40 9,bI 4 41 .sub 40 1,mS 5 42 0,mS 6 43 9,bI 7 44 .sub 43 1,iA 8 45 5 42 44,mS 10 47 0,mS 11 48 9,iA 12 49 5 47 48,lT 9 46 5 45,lT 13 50 5 49,iA 14 51 5 37 38,o0 15 (.store 5 (.s 51) (.s 46)),iA 16 52 5 39 41,o0 17 (.store 5 (.s 52) (.s 50))] [9,3,1,2,8,0]))
  (rG 0 [mS 0 35 9,bI 1 36 .sub 35 1,mS 2 9 36] [9,3,1,2,8,0])))
def c_slices_insertionSortCmpFunc_Found_l2 : CC := (sQ (sQ (rG 0 [mS 0 12 8,mS 1 13 2,bS 2 14 .lss 12 13] [14,3,1,2,8,0])
  (.cond (.s 14) .skip
  (.exit 0)))
  (sQ (.block 1 (sQ (rG 0 [mS 0 17 8,mS 1 9 17] [9,3,1,2,8,0])
  (.block 2 (.loop (some [9,3,1,2,8,0]) c_slices_insertionSortCmpFunc_Found_l1))))
  (rG 0 [mS 0 15 8,bI 1 16 .add 15 1,mS 2 8 16] [2,1,3,8,0])))
abbrev f_slices_insertionSortCmpFunc_Found : Nat := 291
def c_slices_insertionSortCmpFunc_Found : CFn := { frz := true,rnd := none,nargs := 4,ntmps := 53,res := [],code :=
  (sQ (rG 0 [mS 0 10 1,bI 1 11 .add 10 1,mS 2 8 11] [2,1,3,8,0])
  (.block 0 (.loop (some [2,1,3,8,0]) c_slices_insertionSortCmpFunc_Found_l2))) }
def c_slices_heapSortCmpFunc_Found_l1 : CC := (sQ (sQ (rG 0 [mS 0 20 11,bI 1 21 .geq 20 0] [21,11,9,0,10,8,3])
  (.cond (.s 21) .skip
  (.exit 0)))
  (sQ (.block 1 (rG 0 [mS 0 24 0,mS 1 25 11,mS 2 26 10,mS 3 27 8,mS 4 28 3,⟨5,(some 29),none,.call ⟨false⟩ (.k (.c (.fn 307 [] []))) [(.s 24),(.s 25),(.s 26),(.s 27),(.s 28)]⟩] [11,9,0,10,8,3]))
  (rG 0 [mS 0 22 11,bI 1 23 .sub 22 1,mS 2 11 23] [11,9,0,10,8,3])))
def c_slices_heapSortCmpFunc_Found_l2 : CC := (sQ (sQ (rG 0 [mS 0 32 12,bI 1 33 .geq 32 0] [33,12,0,9,8,3])
  (.cond (.s 33) .skip
  (.exit 2)))
  (sQ (.block 3 (sQ (rG 0 [mS 0 36 0,mS 1 37 8,mS 2 38 0,mS 3 39 8,mS 4 40 12,bS 5 41 .add 39 40,mS 6 42 0,mS 7 43 8,mS 8 44 12,bS 9 45 .add 43 44,iA 10 46 5 42 45,mS 12 48 0,mS 13 49 8,iA 14 50 5 48 49,lT 11 47 5 46,lT 15 51 5 50,iA 16 52 5 36 37,o0 17 (.store 5 (.s 52) (.s 47)),iA 18 53 5 38 41,o0 19 (.store 5 (.s 53) (.s 51))] [12,0,9,8,3])
  (rG 0 [mS 0 54 0,mS 1 55 9,mS 2 56 12,mS 3 57 8,mS 4 58 3,⟨5,(some 59),none,.call ⟨false⟩ (.k (.c (.fn 307 [] []))) [(.s 54),(.s 55),(.s 56),(.s 57),(.s 58)]⟩] [12,0,9,8,3])))
  (rG 0 [mS 0 34 12,bI 1 35 .sub 34 1,mS 2 12 35] [12,0,9,8,3])))
abbrev f_slices_heapSortCmpFunc_Found : Nat := 292
def c_slices_heapSortCmpFunc_Found : CFn := { frz := true,rnd := none,nargs := 4,ntmps := 60,res := [],code :=
  (sQ (rG 0 [mS 0 13 1,mS 1 8 13] [2,1,0,8,3])
  (sQ (rG 0 [mI 0 9 0] [2,1,9,0,8,3])
  (sQ (rG 0 [mS 0 14 2,mS 1 15 1,bS 2 16 .sub 14 15,mS 3 10 16] [9,0,10,8,3])
  (sQ (sQ (rG 0 [mS 0 17 10,bI 1 18 .sub 17 1,bI 2 19 .quo 18 2,mS 3 11 19] [11,9,0,10,8,3])
  (.block 0 (.loop (some [11,9,0,10,8,3]) c_slices_heapSortCmpFunc_Found_l1)))
  (sQ (rG 0 [mS 0 30 10,bI 1 31 .sub 30 1,mS 2 12 31] [12,0,9,8,3])
  (.block 2 (.loop (some [12,0,9,8,3]) c_slices_heapSortCmpFunc_Found_l2))))))) }
def c_slices_breakPatternsCmpFunc_Found_l1 : CC := (sQ (sQ (rG 0 [mS 0 28 11,mS 1 29 1,mS 2 30 8,bI 3 31 .quo 30 4,bI 4 32 .mul 31 2,bS 5 33 .add 29 32,bI 6 34 .add 33 1,bS 7 35 .leq 28 34] [35,11,9,10,8,1,0])
  (.cond (.s 35) .skip
  (.exit 0)))
  (sQ (.block 1 (sQ (rG 0 [cA 0 38 284 [(.s 9)],mS 1 39 10,o1 2 40 (.bin .sub (.s 39) (.k (.c (.int .u64 1)))),bS 3 41 .and 38 40,o1 4 42 (.conv .i64 (.s 41)),mS 5 12 42] [12,11,9,10,8,1,0])
  (sQ (sQ (rG 0 [mS 0 43 12,mS 1 44 8,bS 2 45 .geq 43 44] [45,12,11,9,10,8,1,0])
  (.cond (.s 45) (rG 0 [mS 0 46 12,mS 1 47 8,bS 2 48 .sub 46 47,mS 3 12 48] [12,11,9,10,8,1,0])
  .skip))
  (rG 0 [mS 0 49 0,mS 1 50 11,mS 2 51 0,mS 3 52 1,mS 4 53 12,bS 5 54 .add 52 53,mS 6 55 0,mS 7 56 1,mS 8 57 12,bS 9 58 .add 56 57,iA 10 59 5 55 58,mS 12 61 0,mS 13 62 11,iA 14 63 5 61 62,lT 11 60 5 59,lT 15 64 5 63,iA 16 65 5 49 50,o0 17 (.store 5 (.s 65) (.s 60)),iA 18 66 5 51 54,o0 19 (.store 5 (.s 66) (.s 64))] [11,9,10,8,1,0]))))
  (rG 0 [mS 0 36 11,bI 1 37 .add 36 1,mS 2 11 37] [11,9,10,8,1,0])))
abbrev f_slices_breakPatternsCmpFunc_Found : Nat := 293
def c_slices_breakPatternsCmpFunc_Found : CFn := { frz := true,rnd := none,nargs := 4,ntmps := 67,res := [],code :=
  (sQ (rG 0 [mS 0 13 2,mS 1 14 1,bS 2 15 .sub 13 14,mS 3 8 15] [8,1,0])
  (sQ (rG 0 [mS 0 16 8,bI 1 17 .geq 16 8] [17,8,1,0])
  (.cond (.s 17) (sQ (rG 1 [mS 0 18 8,o1 1 19 (.conv .u64 (.s 18)),o1 2 9 (.box 0 1 (.k (.a [(.int .u64 0)]))),o0 3 (.store 1 (.s 9) (.s 19))] [9,8,1,0])
  (sQ (rG 0 [mS 0 20 8,cA 1 21 283 [(.s 20)],mS 2 10 21] [9,10,8,1,0])
  (sQ (rG 0 [mS 0 22 1,mS 1 23 8,bI 2 24 .quo 23 4,bI 3 25 .mul 24 2,bS 4 26 .add 22 25,bI 5 27 .sub 26 1,mS 6 11 27] [11,9,10,8,1,0])
  (.block 0 (.loop (some [11,9,10,8,1,0]) c_slices_breakPatternsCmpFunc_Found_l1)))))
  .skip))) }
abbrev f_slices_choosePivotCmpFunc_Found : Nat := 294
def c_slices_choosePivotCmpFunc_Found : CFn := { frz := true,rnd := none,nargs := 4,ntmps := 63,res := [(.slot 8),(.slot 9)],code :=
  (sQ (rG 0 [mI 0 8 0,mI 1 9 0] [2,1,0,3])
  (sQ (rG 0 [mS 0 15 2,mS 1 16 1,bS 2 17 .sub 15 16,mS 3 10 17] [1,10,0,3])
  (sQ (rG 1 [o1 0 11 (.box 0 1 (.k (.a [(I 0)])))] [1,10,0,3,11])
  (sQ (rG 0 [mS 0 18 1,mS 1 19 10,bI 2 20 .quo 19 4,bI 3 21 .mul 20 1,bS 4 22 .add 18 21,mS 5 12 22] [1,10,12,0,3,11])
  (sQ (rG 0 [mS 0 23 1,mS 1 24 10,bI 2 25 .quo 24 4,bI 3 26 .mul 25 2,bS 4 27 .add 23 26,mS 5 13 27] [1,10,12,13,0,3,11])
  (sQ (rG 0 [mS 0 28 1,mS 1 29 10,bI 2 30 .quo 29 4,bI 3 31 .mul 30 3,bS 4 32 .add 28 31,mS 5 14 32] [10,12,13,14,0,3,11])
  (sQ (sQ (rG 0 [mS 0 33 10,bI 1 34 .geq 33 8] [34,10,12,13,14,0,3,11])
  (.cond (.s 34) (sQ (sQ (rG 0 [mS 0 35 10,bI 1 36 .geq 35 50] [36,12,13,14,0,3,11])
  (.cond (.s 36) (sQ (rG 0 [mS 0 37 0,mS 1 38 12,mS 2 39 3,⟨3,(some 40),none,.call ⟨false⟩ (.k (.c (.fn 308 [] []))) [(.s 37),(.s 38),(.s 11),(.s 39)]⟩,mS 4 12 40] [13,14,0,12,3,11])
  (sQ (rG 0 [mS 0 41 0,mS 1 42 13,mS 2 43 3,⟨3,(some 44),none,.call ⟨false⟩ (.k (.c (.fn 308 [] []))) [(.s 41),(.s 42),(.s 11),(.s 43)]⟩,mS 4 13 44] [14,0,12,13,3,11])
  (rG 0 [mS 0 45 0,mS 1 46 14,mS 2 47 3,⟨3,(some 48),none,.call ⟨false⟩ (.k (.c (.fn 308 [] []))) [(.s 45),(.s 46),(.s 11),(.s 47)]⟩,mS 4 14 48] [0,12,13,14,3,11])))
  .skip))
  (rG 0 [mS 0 49 0,mS 1 50 12,mS 2 51 13,mS 3 52 14,mS 4 53 3,⟨5,(some 54),none,.call ⟨false⟩ (.k (.c (.fn 309 [] []))) [(.s 49),(.s 50),(.s 51),(.s 52),(.s 11),(.s 53)]⟩,mS 6 13 54] [11,13]))
  .skip))
  (sQ (rG 0 [lF 0 55 11] [55,13])
  (.block 0 (sQ (rG 0 [bI 0 58 .eql 55 0,mS 1 57 58] [57,55,13])
  (.cond (.s 57) (sQ (rG 0 [mS 0 59 13,mS 1 8 59,mI 2 9 1] [8,9])
  .ret)
  (sQ (rG 0 [bI 0 61 .eql 55 12,mS 1 60 61] [60,13])
  (.cond (.s 60) (sQ (rG 0 [mS 0 62 13,mS 1 8 62,mI 2 9 2] [8,9])
  .ret)
  (sQ (rG 0 [mS 0 56 13,mS 1 8 56,mI 2 9 0] [8,9])
  .ret)))))))))))))) }
def c_slices_reverseRangeCmpFunc_Found_l1 : CC := (sQ (sQ (rG 0 [mS 0 13 8,mS 1 14 9,bS 2 15 .lss 13 14] [15,8,9,0])
  (.cond (.s 15) .skip
  (.exit 0)))
  (.block 1 (sQ (rG 0 [mS 0 16 0,mS 1 17 8,mS 2 18 0,mS 3 19 9,mS 4 20 0,mS 5 21 9,iA 6 22 5 20 21,mS 8 24 0,mS 9 25 8,iA 10 26 5 24 25,lT 7 23 5 22,lT 11 27 5 26,iA 12 28 5 16 17,o0 13 (.store 5 (.s 28) (.s 23)),iA 14 29 5 18 19,o0 15 (.store 5 (.s 29) (.s 27))] [8,9,0])
  (sQ (rG 0 [mS 0 30 8,bI 1 31 .add 30 1,mS 2 8 31] [9,8,0])
  (rG 0 [mS 0 32 9,bI 1 33 .sub 32 1,mS 2 9 33] [8,9,0])))))
abbrev f_slices_reverseRangeCmpFunc_Found : Nat := 295
def c_slices_reverseRangeCmpFunc_Found : CFn := { frz := true,rnd := none,nargs := 4,ntmps := 34,res := [],code :=
  (sQ (rG 0 [mS 0 10 1,mS 1 8 10] [2,8,0])
  (sQ (rG 0 [mS 0 11 2,bI 1 12 .sub 11 1,mS 2 9 12] [8,9,0])
  (.block 0 (.loop (some [8,9,0]) c_slices_reverseRangeCmpFunc_Found_l1)))) }
def c_slices_partialInsertionSortCmpFunc_Found_l1 : CC := (sQ (sQ (rG 0 [mS 0 19 9,mS 1 20 2,bS 2 21 .lss 19 20,mS 3 22 21,oG 4 23 22 true (.mv (.s 3)),oG 5 24 22 true (.mv (.s 0)),oG 6 25 22 true (.mv (.s 9)),oG 7 26 22 true (.iaddr 5 (.s 24) (.s 25)),oG 9 28 22 true (.mv (.s 0)),oG 10 29 22 true (.mv (.s 9)),oG 11 30 22 true (.bin .sub (.s 29) (kI 1)),oG 12 31 22 true (.iaddr 5 (.s 28) (.s 30)),oG 8 27 22 true (.load true 5 (.s 26)),oG 13 32 22 true (.load true 5 (.s 31)),⟨14,(some 33),(some (22,true)),.call ⟨true⟩ (.s 23) [(.s 27),(.s 32)]⟩,oG 15 34 22 true (.bin .lss (.s 33) (kI 0)),oG 16 35 22 true (.un .not (.s 34)),o1 17 36 (.pick (.s 22) (.s 35) (kB false))] [36,9,1,2,3,0,10])
  (.cond (.s 36) .skip
  (.exit 2)))
  (.block 3 (rG 0 [mS 0 37 9,bI 1 38 .add 37 1,mS 2 9 38] [9,1,2,3,0,10])))
def c_slices_partialInsertionSortCmpFunc_Found_l2 : CC := (sQ (sQ (rG 0 [mS 0 68 11,bI 1 69 .geq 68 1] [69,11,10,9,0,3,2,1])
  (.cond (.s 69) .skip
  (.exit 4)))
  (sQ (.block 5 (sQ (sQ (rG 0 [mS 0 72 3,mS 1 73 0,mS 2 74 11,iA 3 75 5 73 74,mS 5 77 0,mS 6 78 11,bI 7 79 .sub 78 1,iA 8 80 5 77 79,lT 4 76 5 75,lT 9 81 5 80,⟨10,(some 82),none,.call ⟨true⟩ (.s 72) [(.s 76),(.s 81)]⟩,bI 11 83 .lss 82 0,o1 12 84 (.un .not (.s 83))] [84,11,10,9,0,3,2,1])
  (.cond (.s 84) (.exit 4)
  .skip))
  (rG 0 [mS 0 85 0,mS 1 86 11,mS 2 87 0,mS 3 88 11,bI 4 89 .sub 88 1,mS 5 90 0,mS 6 91 11,bI 7 92 .sub 91 1,iA 8 93 5 90 92,mS 10 95 0,mS 11 96 11,iA 12 97 5 95 96,lT 9 94 5 93,lT 13 98 5 97,iA 14 99 5 85 86,o0 15 (.store 5 (.s 99) (.s 94)),iA 16 100 5 87 89,o0 17 (.store 5 (.s 100) (.s 98))] [11,10,9,0,3,2,1])))
  (rG 0 [mS 0 70 11,bI 1 71 .sub 70 1,mS 2 11 71] [11,10,9,0,3,2,1])))
def c_slices_partialInsertionSortCmpFunc_Found_l3 : CC := (sQ (sQ (rG 0 [mS 0 107 12,mS 1 108 2,bS 2 109 .lss 107 108] [109,12,10,9,0,3,2,1])
  (.cond (.s 109) .skip
  (.exit 6)))
  (sQ (.block 7 (sQ (sQ (rG 0 [mS 0 112 3,mS 1 113 0,mS 2 114 12,iA 3 115 5 113 114,mS 5 117 0,mS 6 118 12,bI 7 119 .sub 118 1,iA 8 120 5 117 119,lT 4 116 5 115,lT 9 121 5 120,⟨10,(some 122),none,.call ⟨true⟩ (.s 112) [(.s 116),(.s 121)]⟩,bI 11 123 .lss 122 0,o1 12 124 (.un .not (.s 123))] [124,12,10,9,0,3,2,1])
  (.cond (.s 124) (.exit 6)
  .skip))
  (rG 0 [mS 0 125 0,mS 1 126 12,mS 2 127 0,mS 3 128 12,bI 4 129 .sub 128 1,mS 5 130 0,mS 6 131 12,bI 7 132 .sub 131 1,iA 8 133 5 130 132,mS 10 135 0,mS 11 136 12,iA 12 137 5 135 136,lT 9 134 5 133,lT 13 138 5 137,iA 14 139 5 125 126,o0 15 (.store 5 (.s 139) (.s 134)),iA 16 140 5 127 129,o0 17 (.store 5 (.s 140) (.s 138))] [12,10,9,0,3,2,1])))
  (rG 0 [mS 0 110 12,bI 1 111 .add 110 1,mS 2 12 111] [12,10,9,0,3,2,1])))
def c_slices_partialInsertionSortCmpFunc_Found_l4 : CC := (sQ (sQ (rG 0 [mS 0 15 10,bI 1 16 .lss 15 5] [16,9,1,2,3,0,10])
  (.cond (.s 16) .skip
  (.exit 0)))
  (sQ (.block 1 (sQ (.block 2 (.loop (some [9,1,2,3,0,10]) c_slices_partialInsertionSortCmpFunc_Found_l1))
  (sQ (sQ (rG 0 [mS 0 39 9,mS 1 40 2,bS 2 41 .eql 39 40] [41,10,9,0,3,2,1])
  (.cond (.s 41) (sQ (rG 0 [mB 0 8 true] [8])
  .ret)
  .skip))
  (sQ (sQ (rG 0 [mS 0 42 2,mS 1 43 1,bS 2 44 .sub 42 43,bI 3 45 .lss 44 50] [45,1,2,3,0,9,10])
  (.cond (.s 45) (sQ (rG 0 [mB 0 8 false] [8])
  .ret)
  .skip))
  (sQ (rG 0 [mS 0 46 0,mS 1 47 9,mS 2 48 0,mS 3 49 9,bI 4 50 .sub 49 1,mS 5 51 0,mS 6 52 9,bI 7 53 .sub 52 1,iA 8 54 5 51 53,mS 10 56 0,mS 11 57 9,iA 12 58 5 56 57,lT 9 55 5 54,lT 13 59 5 58,iA 14 60 5 46 47,o0 15 (.store 5 (.s 60) (.s 55)),iA 16 61 5 48 50,o0 17 (.store 5 (.s 61) (.s 59))] [10,9,0,3,2,1])
  (sQ (sQ (rG 0 [mS 0 62 9,mS 1 63 1,bS 2 64 .sub 62 63,bI 3 65 .geq 64 2] [65,10,9,0,3,2,1])
  (.cond (.s 65) (sQ (rG 0 [mS 0 66 9,bI 1 67 .sub 66 1,mS 2 11 67] [11,10,9,0,3,2,1])
  (.block 4 (.loop (some [11,10,9,0,3,2,1]) c_slices_partialInsertionSortCmpFunc_Found_l2)))
  .skip))
  (sQ (rG 0 [mS 0 101 2,mS 1 102 9,bS 2 103 .sub 101 102,bI 3 104 .geq 103 2] [104,10,9,0,3,2,1])
  (.cond (.s 104) (sQ (rG 0 [mS 0 105 9,bI 1 106 .add 105 1,mS 2 12 106] [12,10,9,0,3,2,1])
  (.block 6 (.loop (some [12,10,9,0,3,2,1]) c_slices_partialInsertionSortCmpFunc_Found_l3)))
  .skip))))))))
  (rG 0 [mS 0 17 10,bI 1 18 .add 17 1,mS 2 10 18] [9,0,3,2,1,10])))
abbrev f_slices_partialInsertionSortCmpFunc_Found : Nat := 296
def c_slices_partialInsertionSortCmpFunc_Found : CFn := { frz := true,rnd := none,nargs := 4,ntmps := 141,res := [(.slot 8)],code :=
  (sQ (rG 0 [mB 0 8 false] [0,3,2,1])
  (sQ (rG 0 [mS 0 13 1,bI 1 14 .add 13 1,mS 2 9 14] [9,0,3,2,1])
  (sQ (sQ (rG 0 [mI 0 10 0] [9,0,3,2,1,10])
  (.block 0 (.loop (some [9,0,3,2,1,10]) c_slices_partialInsertionSortCmpFunc_Found_l4)))
  (sQ (rG 0 [mB 0 8 false] [8])
  .ret)))) }
def c_slices_partitionEqualCmpFunc_Found_l1 : CC := (sQ (sQ (rG 0 [mS 0 31 11,mS 1 32 12,bS 2 33 .leq 31 32,mS 3 34 33,oG 4 35 34 true (.mv (.s 4)),oG 5 36 34 true (.mv (.s 0)),oG 6 37 34 true (.mv (.s 1)),oG 7 38 34 true (.iaddr 5 (.s 36) (.s 37)),oG 9 40 34 true (.mv (.s 0)),oG 10 41 34 true (.mv (.s 11)),oG 11 42 34 true (.iaddr 5 (.s 40) (.s 41)),oG 8 39 34 true (.load true 5 (.s 38)),oG 12 43 34 true (.load true 5 (.s 42)),⟨13,(some 44),(some (34,true)),.call ⟨true⟩ (.s 35) [(.s 39),(.s 43)]⟩,oG 14 45 34 true (.bin .lss (.s 44) (kI 0)),oG 15 46 34 true (.un .not (.s 45)),o1 16 47 (.pick (.s 34) (.s 46) (kB false))] [47,11,4,1,0,12])
  (.cond (.s 47) .skip
  (.exit 2)))
  (.block 3 (rG 0 [mS 0 48 11,bI 1 49 .add 48 1,mS 2 11 49] [11,4,1,0,12])))
def c_slices_partitionEqualCmpFunc_Found_l2 : CC := (sQ (sQ (rG 0 [mS 0 50 11,mS 1 51 12,bS 2 52 .leq 50 51,mS 3 53 52,oG 4 54 53 true (.mv (.s 4)),oG 5 55 53 true (.mv (.s 0)),oG 6 56 53 true (.mv (.s 1)),oG 7 57 53 true (.iaddr 5 (.s 55) (.s 56)),oG 9 59 53 true (.mv (.s 0)),oG 10 60 53 true (.mv (.s 12)),oG 11 61 53 true (.iaddr 5 (.s 59) (.s 60)),oG 8 58 53 true (.load true 5 (.s 57)),oG 12 62 53 true (.load true 5 (.s 61)),⟨13,(some 63),(some (53,true)),.call ⟨true⟩ (.s 54) [(.s 58),(.s 62)]⟩,oG 14 64 53 true (.bin .lss (.s 63) (kI 0)),o1 15 65 (.pick (.s 53) (.s 64) (kB false))] [65,12,11,0,1,4])
  (.cond (.s 65) .skip
  (.exit 4)))
  (.block 5 (rG 0 [mS 0 66 12,bI 1 67 .sub 66 1,mS 2 12 67] [12,11,0,1,4])))
def c_slices_partitionEqualCmpFunc_Found_l3 : CC := (.block 1 (sQ (.block 2 (.loop (some [11,4,1,0,12]) c_slices_partitionEqualCmpFunc_Found_l1))
  (sQ (.block 4 (.loop (some [12,11,0,1,4]) c_slices_partitionEqualCmpFunc_Found_l2))
  (sQ (sQ (rG 0 [mS 0 68 11,mS 1 69 12,bS 2 70 .gtr 68 69] [70,4,1,0,12,11])
  (.cond (.s 70) (.exit 0)
  .skip))
  (sQ (rG 0 [mS 0 71 0,mS 1 72 11,mS 2 73 0,mS 3 74 12,mS 4 75 0,mS 5 76 12,iA 6 77 5 75 76,mS 8 79 0,mS 9 80 11,iA 10 81 5 79 80,lT 7 78 5 77,lT 11 82 5 81,iA 12 83 5 71 72,o0 13 (.store 5 (.s 83) (.s 78)),iA 14 84 5 73 74,o0 15 (.store 5 (.s 84) (.s 82))] [11,12,0,1,4])
  (sQ (rG 0 [mS 0 85 11,bI 1 86 .add 85 1,mS 2 11 86] [12,11,0,1,4])
  (rG 0 [mS 0 87 12,bI 1 88 .sub 87 1,mS 2 12 88] [11,0,1,4,12])))))))
abbrev f_slices_partitionEqualCmpFunc_Found : Nat := 297
def c_slices_partitionEqualCmpFunc_Found : CFn := { frz := true,rnd := none,nargs := 5,ntmps := 90,res := [(.slot 10)],code :=
  (sQ (rG 0 [mI 0 10 0] [3,2,0,1,4])
  (sQ (rG 0 [mS 0 13 0,mS 1 14 1,mS 2 15 0,mS 3 16 3,mS 4 17 0,mS 5 18 3,iA 6 19 5 17 18,mS 8 21 0,mS 9 22 1,iA 10 23 5 21 22,lT 7 20 5 19,lT 11 24 5 23,iA 12 25 5 13 14,o0 13 (.store 5 (.s 25) (.s 20)),iA 14 26 5 15 16,o0 15 (.store 5 (.s 26) (.s 24))] [2,0,1,4])
  (sQ (rG 0 [mS 0 27 1,bI 1 28 .add 27 1,mS 2 29 2,bI 3 30 .sub 29 1,mS 4 11 28,mS 5 12 30] [11,0,1,4,12])
  (sQ (.block 0 (.loop (some [11,0,1,4,12]) c_slices_partitionEqualCmpFunc_Found_l3))
  (sQ (rG 0 [mS 0 89 11,mS 1 10 89] [10])
  .ret))))) }
def c_slices_partitionCmpFunc_Found_l1 : CC := (sQ (sQ (rG 0 [mS 0 32 12,mS 1 33 13,bS 2 34 .leq 32 33,mS 3 35 34,oG 4 36 35 true (.mv (.s 4)),oG 5 37 35 true (.mv (.s 0)),oG 6 38 35 true (.mv (.s 12)),oG 7 39 35 true (.iaddr 5 (.s 37) (.s 38)),oG 9 41 35 true (.mv (.s 0)),oG 10 42 35 true (.mv (.s 1)),oG 11 43 35 true (.iaddr 5 (.s 41) (.s 42)),oG 8 40 35 true (.load true 5 (.s 39)),oG 12 44 35 true (.load true 5 (.s 43)),⟨13,(some 45),(some (35,true)),.call ⟨true⟩ (.s 36) [(.s 40),(.s 44)]⟩,oG 14 46 35 true (.bin .lss (.s 45) (kI 0)),o1 15 47 (.pick (.s 35) (.s 46) (kB false))] [47,12,4,1,0,13])
  (.cond (.s 47) .skip
  (.exit 0)))
  (.block 1 (rG 0 [mS 0 48 12,bI 1 49 .add 48 1,mS 2 12 49] [12,4,1,0,13])))
def c_slices_partitionCmpFunc_Found_l2 : CC := (sQ (sQ (rG 0 [mS 0 50 12,mS 1 51 13,bS 2 52 .leq 50 51,mS 3 53 52,oG 4 54 53 true (.mv (.s 4)),oG 5 55 53 true (.mv (.s 0)),oG 6 56 53 true (.mv (.s 13)),oG 7 57 53 true (.iaddr 5 (.s 55) (.s 56)),oG 9 59 53 true (.mv (.s 0)),oG 10 60 53 true (.mv (.s 1)),oG 11 61 53 true (.iaddr 5 (.s 59) (.s 60)),oG 8 58 53 true (.load true 5 (.s 57)),oG 12 62 53 true (.load true 5 (.s 61)),⟨13,(some 63),(some (53,true)),.call ⟨true⟩ (.s 54) [(.s 58),(.s 62)]⟩,oG 14 64 53 true (.bin .lss (.s 63) (kI 0)),oG 15 65 53 true (.un .not (.s 64)),o1 16 66 (.pick (.s 53) (.s 65) (kB false))] [66,13,0,1,12,4])
  (.cond (.s 66) .skip
  (.exit 2)))
  (.block 3 (rG 0 [mS 0 67 13,bI 1 68 .sub 67 1,mS 2 13 68] [13,0,1,12,4])))
def c_slices_partitionCmpFunc_Found_l3 : CC := (sQ (sQ (rG 0 [mS 0 105 12,mS 1 106 13,bS 2 107 .leq 105 106,mS 3 108 107,oG 4 109 108 true (.mv (.s 4)),oG 5 110 108 true (.mv (.s 0)),oG 6 111 108 true (.mv (.s 12)),oG 7 112 108 true (.iaddr 5 (.s 110) (.s 111)),oG 9 114 108 true (.mv (.s 0)),oG 10 115 108 true (.mv (.s 1)),oG 11 116 108 true (.iaddr 5 (.s 114) (.s 115)),oG 8 113 108 true (.load true 5 (.s 112)),oG 12 117 108 true (.load true 5 (.s 116)),⟨13,(some 118),(some (108,true)),.call ⟨true⟩ (.s 109) [(.s 113),(.s 117)]⟩,oG 14 119 108 true (.bin .lss (.s 118) (kI 0)),o1 15 120 (.pick (.s 108) (.s 119) (kB false))] [120,12,4,1,0,13])
  (.cond (.s 120) .skip
  (.exit 6)))
  (.block 7 (rG 0 [mS 0 121 12,bI 1 122 .add 121 1,mS 2 12 122] [12,4,1,0,13])))
def c_slices_partitionCmpFunc_Found_l4 : CC := (sQ (sQ (rG 0 [mS 0 123 12,mS 1 124 13,bS 2 125 .leq 123 124,mS 3 126 125,oG 4 127 126 true (.mv (.s 4)),oG 5 128 126 true (.mv (.s 0)),oG 6 129 126 true (.mv (.s 13)),oG 7 130 126 true (.iaddr 5 (.s 128) (.s 129)),oG 9 132 126 true (.mv (.s 0)),oG 10 133 126 true (.mv (.s 1)),oG 11 134 126 true (.iaddr 5 (.s 132) (.s 133)),oG 8 131 126 true (.load true 5 (.s 130)),oG 12 135 126 true (.load true 5 (.s 134)),⟨13,(some 136),(some (126,true)),.call ⟨true⟩ (.s 127) [(.s 131),(.s 135)]⟩,oG 14 137 126 true (.bin .lss (.s 136) (kI 0)),oG 15 138 126 true (.un .not (.s 137)),o1 16 139 (.pick (.s 126) (.s 138) (kB false))] [139,13,0,1,12,4])
  (.cond (.s 139) .skip
  (.exit 8)))
  (.block 9 (rG 0 [mS 0 140 13,bI 1 141 .sub 140 1,mS 2 13 141] [13,0,1,12,4])))
def c_slices_partitionCmpFunc_Found_l5 : CC := (.block 5 (sQ (.block 6 (.loop (some [12,4,1,0,13]) c_slices_partitionCmpFunc_Found_l3))
  (sQ (.block 8 (.loop (some [13,0,1,12,4]) c_slices_partitionCmpFunc_Found_l4))
  (sQ (sQ (rG 0 [mS 0 142 12,mS 1 143 13,bS 2 144 .gtr 142 143] [144,4,12,1,0,13])
  (.cond (.s 144) (.exit 4)
  .skip))
  (sQ (rG 0 [mS 0 145 0,mS 1 146 12,mS 2 147 0,mS 3 148 13,mS 4 149 0,mS 5 150 13,iA 6 151 5 149 150,mS 8 153 0,mS 9 154 12,iA 10 155 5 153 154,lT 7 152 5 151,lT 11 156 5 155,iA 12 157 5 145 146,o0 13 (.store 5 (.s 157) (.s 152)),iA 14 158 5 147 148,o0 15 (.store 5 (.s 158) (.s 156))] [12,13,4,1,0])
  (sQ (rG 0 [mS 0 159 12,bI 1 160 .add 159 1,mS 2 12 160] [13,12,4,1,0])
  (rG 0 [mS 0 161 13,bI 1 162 .sub 161 1,mS 2 13 162] [12,4,1,0,13])))))))
abbrev f_slices_partitionCmpFunc_Found : Nat := 298
def c_slices_partitionCmpFunc_Found : CFn := { frz := true,rnd := none,nargs := 5,ntmps := 178,res := [(.slot 10),(.slot 11)],code :=
  (sQ (rG 0 [mI 0 10 0,mB 1 11 false] [3,2,4,1,0])
  (sQ (rG 0 [mS 0 14 0,mS 1 15 1,mS 2 16 0,mS 3 17 3,mS 4 18 0,mS 5 19 3,iA 6 20 5 18 19,mS 8 22 0,mS 9 23 1,iA 10 24 5 22 23,lT 7 21 5 20,lT 11 25 5 24,iA 12 26 5 14 15,o0 13 (.store 5 (.s 26) (.s 21)),iA 14 27 5 16 17,o0 15 (.store 5 (.s 27) (.s 25))] [2,4,1,0])
  (sQ (rG 0 [mS 0 28 1,bI 1 29 .add 28 1,mS 2 30 2,bI 3 31 .sub 30 1,mS 4 12 29,mS 5 13 31] [12,4,1,0,13])
  (sQ (.block 0 (.loop (some [12,4,1,0,13]) c_slices_partitionCmpFunc_Found_l1))
  (sQ (.block 2 (.loop (some [13,0,1,12,4]) c_slices_partitionCmpFunc_Found_l2))
  (sQ (sQ (rG 0 [mS 0 69 12,mS 1 70 13,bS 2 71 .gtr 69 70] [71,4,12,1,0,13])
  (.cond (.s 71) (sQ (rG 0 [mS 0 72 0,mS 1 73 13,mS 2 74 0,mS 3 75 1,mS 4 76 0,mS 5 77 1,iA 6 78 5 76 77,mS 8 80 0,mS 9 81 13,iA 10 82 5 80 81,lT 7 79 5 78,lT 11 83 5 82,iA 12 84 5 72 73,o0 13 (.store 5 (.s 84) (.s 79)),iA 14 85 5 74 75,o0 15 (.store 5 (.s 85) (.s 83))] [13])
  (sQ (rG 0 [mS 0 86 13,mS 1 10 86,mB 2 11 true] [10,11])
  .ret))
  .skip))
  (sQ (rG 0 [mS 0 87 0,mS 1 88 12,mS 2 89 0,mS 3 90 13,mS 4 91 0,mS 5 92 13,iA 6 93 5 91 92,mS 8 95 0,mS 9 96 12,iA 10 97 5 95 96,lT 7 94 5 93,lT 11 98 5 97,iA 12 99 5 87 88,o0 13 (.store 5 (.s 99) (.s 94)),iA 14 100 5 89 90,o0 15 (.store 5 (.s 100) (.s 98))] [12,13,4,1,0])
  (sQ (rG 0 [mS 0 101 12,bI 1 102 .add 101 1,mS 2 12 102] [13,12,4,1,0])
  (sQ (rG 0 [mS 0 103 13,bI 1 104 .sub 103 1,mS 2 13 104] [12,4,1,0,13])
  (sQ (.block 4 (.loop (some [12,4,1,0,13]) c_slices_partitionCmpFunc_Found_l5))
  (sQ (rG 0 [mS 0 163 0,mS 1 164 13,mS 2 165 0,mS 3 166 1,mS 4 167 0,mS 5 168 1,iA 6 169 5 167 168,mS 8 171 0,mS 9 172 13,iA 10 173 5 171 172,lT 7 170 5 169,lT 11 174 5 173,iA 12 175 5 163 164,o0 13 (.store 5 (.s 175) (.s 170)),iA 14 176 5 165 166,o0 15 (.store 5 (.s 176) (.s 174))] [13])
  (sQ (rG 0 [mS 0 177 13,mS 1 10 177,mB 2 11 false] [10,11])
  .ret)))))))))))) }
def c_slices_siftDownCmpFunc_Sweep_l1 : CC := (.block 1 (sQ (rG 0 [mS 0 13 10,o1 1 14 (.bin .mul (kI 2) (.s 13)),bI 2 15 .add 14 1,mS 3 11 15] [10,0,3,4,2,11])
  (sQ (sQ (rG 0 [mS 0 16 11,mS 1 17 2,bS 2 18 .geq 16 17] [18,10,0,3,4,2,11])
  (.cond (.s 18) (.exit 0)
  .skip))
  (sQ (sQ (rG 0 [mS 0 19 11,bI 1 20 .add 19 1,mS 2 21 2,bS 3 22 .lss 20 21,mS 4 23 22,oG 5 24 23 true (.mv (.s 4)),oG 6 25 23 true (.mv (.s 0)),oG 7 26 23 true (.mv (.s 3)),oG 8 27 23 true (.mv (.s 11)),oG 9 28 23 true (.bin .add (.s 26) (.s 27)),oG 10 29 23 true (.iaddr 4 (.s 25) (.s 28)),oG 12 31 23 true (.mv (.s 0)),oG 13 32 23 true (.mv (.s 3)),oG 14 33 23 true (.mv (.s 11)),oG 15 34 23 true (.bin .add (.s 32) (.s 33)),oG 16 35 23 true (.bin .add (.s 34) (kI 1)),oG 17 36 23 true (.iaddr 4 (.s 31) (.s 35)),oG 11 30 23 true (.load true 4 (.s 29)),oG 18 37 23 true (.load true 4 (.s 36)),⟨19,(some 38),(some (23,true)),.call ⟨true⟩ (.s 24) [(.s 30),(.s 37)]⟩,oG 20 39 23 true (.bin .lss (.s 38) (kI 0)),o1 21 40 (.pick (.s 23) (.s 39) (kB false))] [40,11,2,4,3,0,10])
  (.cond (.s 40) (rG 0 [mS 0 41 11,bI 1 42 .add 41 1,mS 2 11 42] [2,4,3,0,11,10])
  .skip))
  (sQ (sQ (rG 0 [mS 0 43 4,mS 1 44 0,mS 2 45 3,mS 3 46 10,bS 4 47 .add 45 46,iA 5 48 4 44 47,mS 7 50 0,mS 8 51 3,mS 9 52 11,bS 10 53 .add 51 52,iA 11 54 4 50 53,lT 6 49 4 48,lT 12 55 4 54,⟨13,(some 56),none,.call ⟨true⟩ (.s 43) [(.s 49),(.s 55)]⟩,bI 14 57 .lss 56 0,o1 15 58 (.un .not (.s 57))] [58,2,4,3,0,11,10])
  (.cond (.s 58) .ret
  .skip))
  (sQ (rG 0 [mS 0 59 0,mS 1 60 3,mS 2 61 10,bS 3 62 .add 60 61,mS 4 63 0,mS 5 64 3,mS 6 65 11,bS 7 66 .add 64 65,mS 8 67 0,mS 9 68 3,mS 10 69 11,bS 11 70 .add 68 69,iA 12 71 4 67 70,mS 14 73 0,mS 15 74 3,mS 16 75 10,bS 17 76 .add 74 75,iA 18 77 4 73 76,lT 13 72 4 71,lT 19 78 4 77,iA 20 79 4 59 62,o0 21 (.store 4 (.s 79) (.s 72)),iA 22 80 4 63 66,o0 23 (.store 4 (.s 80) (.s 78))] [11,0,3,4,2])
  (rG 0 [mS 0 81 11,mS 1 10 81] [10,0,3,4,2])))))))
abbrev f_slices_siftDownCmpFunc_Sweep : Nat := 299
def c_slices_siftDownCmpFunc_Sweep : CFn := { frz := true,rnd := none,nargs := 5,ntmps := 82,res := [],code :=
  (sQ (rG 0 [mS 0 12 1,mS 1 10 12] [10,0,3,4,2])
  (.block 0 (.loop (some [10,0,3,4,2]) c_slices_siftDownCmpFunc_Sweep_l1))) }
abbrev f_slices_medianAdjacentCmpFunc_Sweep : Nat := 300
def c_slices_medianAdjacentCmpFunc_Sweep : CFn := { frz := true,rnd := none,nargs := 4,ntmps := 18,res := [(.slot 8)],code :=
  (sQ (rG 0 [mI 0 8 0] [0,1,2,3])
  (sQ (rG 0 [mS 0 9 0,mS 1 10 1,bI 2 11 .sub 10 1,mS 3 12 1,mS 4 13 1,bI 5 14 .add 13 1,mS 6 15 2,mS 7 16 3,⟨8,(some 17),none,.call ⟨false⟩ (.k (.c (.fn 301 [] []))) [(.s 9),(.s 11),(.s 12),(.s 14),(.s 15),(.s 16)]⟩,mS 9 8 17] [8])
  .ret)) }
abbrev f_slices_medianCmpFunc_Sweep : Nat := 301
def c_slices_medianCmpFunc_Sweep : CFn := { frz := true,rnd := none,nargs := 6,ntmps := 41,res := [(.slot 12)],code :=
  (sQ (rG 0 [mI 0 12 0] [1,2,3,0,4,5])
  (sQ (rG 0 [mS 0 14 0,mS 1 15 1,mS 2 16 2,mS 3 17 4,mS 4 18 5,⟨5,(some 19),none,.call ⟨false⟩ (.k (.c (.fn 310 [] []))) [(.s 14),(.s 15),(.s 16),(.s 17),(.s 18)]⟩,mS 6 13 19,eX 7 20 13 0,eX 8 21 13 1,mS 9 1 20,mS 10 2 21] [2,3,0,1,4,5])
  (sQ (rG 0 [mS 0 23 0,mS 1 24 2,mS 2 25 3,mS 3 26 4,mS 4 27 5,⟨5,(some 28),none,.call ⟨false⟩ (.k (.c (.fn 310 [] []))) [(.s 23),(.s 24),(.s 25),(.s 26),(.s 27)]⟩,mS 6 22 28,eX 7 29 22 0,eX 8 30 22 1,mS 9 2 29,mS 10 3 30] [0,1,2,4,5])
  (sQ (rG 0 [mS 0 32 0,mS 1 33 1,mS 2 34 2,mS 3 35 4,mS 4 36 5,⟨5,(some 37),none,.call ⟨false⟩ (.k (.c (.fn 310 [] []))) [(.s 32),(.s 33),(.s 34),(.s 35),(.s 36)]⟩,mS 6 31 37,eX 7 38 31 0,eX 8 39 31 1,mS 9 1 38,mS 10 2 39] [2])
  (sQ (rG 0 [mS 0 40 2,mS 1 12 40] [12])
  .ret))))) }
def c_slices_insertionSortCmpFunc_Blob_l1 : CC := (sQ (sQ (rG 0 [mS 0 18 9,mS 1 19 1,bS 2 20 .gtr 18 19,mS 3 21 20,oG 4 22 21 true (.mv (.s 3)),oG 5 23 21 true (.mv (.s 0)),oG 6 24 21 true (.mv (.s 9)),oG 7 25 21 true (.iaddr 6 (.s 23) (.s 24)),oG 9 27 21 true (.mv (.s 0)),oG 10 28 21 true (.mv (.s 9)),oG 11 29 21 true (.bin .sub (.s 28) (kI 1)),oG 12 30 21 true (.iaddr 6 (.s 27) (.s 29)),oG 8 26 21 true (.load true 6 (.s 25)),oG 13 31 21 true (.load true 6 (.s 30)),⟨14,(some 32),(some (21,true)),.call ⟨true⟩ (.s 22) [(.s 26),(.s 31)]⟩,oG 15 33 21 true (.bin .lss (.s 32) (kI 0)),o1 16 34 (.pick (.s 21) (.s 33) (kB false))] [34,9,3,1,2,8,0])
  (.cond (.s 34) .skip
  (.exit 2)))
  (sQ (.block 3 (rG 0 [mS 0 37 0,mS 1 38 9,mS 2 39 0,mS 3 40 9,bI 4 41 .sub 40 1,mS 5 42 0,mS 6 43 9,bI 7 44 .sub 43 1,iA 8 45 6 42 44,mS 10 47 0,mS 11 48 9,iA 12 49 6 47 48,lT 9 46 6 45,lT 13 50 6 49,iA 14 51 6 37 38,o0 15 (.store 6 (.s 51) (.s 46)),iA 16 52 6 39 41,o0 17 (.store 6 (.s 52) (.s 50))] [9,3,1,2,8,0]))
  (rG 0 [mS 0 35 9,bI 1 36 .sub 35 1,mS 2 9 36] [9,3,1,2,8,0])))
def c_slices_insertionSortCmpFunc_Blob_l2 : CC := (sQ (sQ (rG 0 [mS 0 12 8,mS 1 13 2,bS 2 14 .lss 12 13] [14,3,1,2,8,0])
  (.cond (.s 14) .skip
  (.exit 0)))
  (sQ (.block 1 (sQ (rG 0 [mS 0 17 8,mS 1 9 17] [9,3,1,2,8,0])
  (.block 2 (.loop (some [9,3,1,2,8,0]) c_slices_insertionSortCmpFunc_Blob_l1))))
  (rG 0 [mS 0 15 8,bI 1 16 .add 15 1,mS 2 8 16] [2,1,3,8,0])))
abbrev f_slices_insertionSortCmpFunc_Blob : Nat := 302
def c_slices_insertionSortCmpFunc_Blob : CFn := { frz := true,rnd := none,nargs := 4,ntmps := 53,res := [],code :=
  (sQ (rG 0 [mS 0 10 1,bI 1 11 .add 10 1,mS 2 8 11] [2,1,3,8,0])
  (.block 0 (.loop (some [2,1,3,8,0]) c_slices_insertionSortCmpFunc_Blob_l2))) }
def c_slices_symMergeCmpFunc_Blob_l1 : CC := (sQ (sQ (rG 0 [mS 0 31 10,mS 1 32 11,bS 2 33 .lss 31 32] [33,10,11,4,0,1])
  (.cond (.s 33) .skip
  (.exit 0)))
  (.block 1 (sQ (rG 0 [mS 0 34 10,mS 1 35 11,bS 2 36 .add 34 35,o1 3 37 (.conv .u64 (.s 36)),o1 4 38 (.bin .shr (.s 37) (.k (.c (.int .u64 1)))),o1 5 39 (.conv .i64 (.s 38)),mS 6 12 39] [10,12,11,4,0,1])
  (sQ (rG 0 [mS 0 40 4,mS 1 41 0,mS 2 42 12,iA 3 43 6 41 42,mS 5 45 0,mS 6 46 1,iA 7 47 6 45 46,lT 4 44 6 43,lT 8 48 6 47,⟨9,(some 49),none,.call ⟨true⟩ (.s 40) [(.s 44),(.s 48)]⟩,bI 10 50 .lss 49 0] [50,10,12,11,4,0,1])
  (.cond (.s 50) (rG 0 [mS 0 51 12,bI 1 52 .add 51 1,mS 2 10 52] [10,11,4,0,1])
  (rG 0 [mS 0 53 12,mS 1 11 53] [10,11,4,0,1]))))))
def c_slices_symMergeCmpFunc_Blob_l2 : CC := (sQ (sQ (rG 0 [mS 0 55 13,mS 1 56 10,bI 2 57 .sub 56 1,bS 3 58 .lss 55 57] [58,13,10,0])
  (.cond (.s 58) .skip
  (.exit 2)))
  (sQ (.block 3 (rG 0 [mS 0 61 0,mS 1 62 13,mS 2 63 0,mS 3 64 13,bI 4 65 .add 64 1,mS 5 66 0,mS 6 67 13,bI 7 68 .add 67 1,iA 8 69 6 66 68,mS 10 71 0,mS 11 72 13,iA 12 73 6 71 72,lT 9 70 6 69,lT 13 74 6 73,iA 14 75 6 61 62,o0 15 (.store 6 (.s 75) (.s 70)),iA 16 76 6 63 65,o0 17 (.store 6 (.s 76) (.s 74))] [13,10,0]))
  (rG 0 [mS 0 59 13,bI 1 60 .add 59 1,mS 2 13 60] [13,10,0])))
def c_slices_symMergeCmpFunc_Blob_l3 : CC := (sQ (sQ (rG 0 [mS 0 83 14,mS 1 84 15,bS 2 85 .lss 83 84] [85,14,15,4,2,0])
  (.cond (.s 85) .skip
  (.exit 4)))
  (.block 5 (sQ (rG 0 [mS 0 86 14,mS 1 87 15,bS 2 88 .add 86 87,o1 3 89 (.conv .u64 (.s 88)),o1 4 90 (.bin .shr (.s 89) (.k (.c (.int .u64 1)))),o1 5 91 (.conv .i64 (.s 90)),mS 6 16 91] [14,16,15,4,2,0])
  (sQ (rG 0 [mS 0 92 4,mS 1 93 0,mS 2 94 2,iA 3 95 6 93 94,mS 5 97 0,mS 6 98 16,iA 7 99 6 97 98,lT 4 96 6 95,lT 8 100 6 99,⟨9,(some 101),none,.call ⟨true⟩ (.s 92) [(.s 96),(.s 100)]⟩,bI 10 102 .lss 101 0,o1 11 103 (.un .not (.s 102))] [103,14,16,15,4,2,0])
  (.cond (.s 103) (rG 0 [mS 0 104 16,bI 1 105 .add 104 1,mS 2 14 105] [14,15,4,2,0])
  (rG 0 [mS 0 106 16,mS 1 15 106] [14,15,4,2,0]))))))
def c_slices_symMergeCmpFunc_Blob_l4 : CC := (sQ (sQ (rG 0 [mS 0 108 17,mS 1 109 14,bS 2 110 .gtr 108 109] [110,17,14,0])
  (.cond (.s 110) .skip
  (.exit 6)))
  (sQ (.block 7 (rG 0 [mS 0 113 0,mS 1 114 17,mS 2 115 0,mS 3 116 17,bI 4 117 .sub 116 1,mS 5 118 0,mS 6 119 17,bI 7 120 .sub 119 1,iA 8 121 6 118 120,mS 10 123 0,mS 11 124 17,iA 12 125 6 123 124,lT 9 122 6 121,lT 13 126 6 125,iA 14 127 6 113 114,o0 15 (.store 6 (.s 127) (.s 122)),iA 16 128 6 115 117,o0 17 (.store 6 (.s 128) (.s 126))] [17,14,0]))
  (rG 0 [mS 0 111 17,bI 1 112 .sub 111 1,mS 2 17 112] [17,14,0])))
def c_slices_symMergeCmpFunc_Blob_l5 : CC := (sQ (sQ (rG 0 [mS 0 149 20,mS 1 150 21,bS 2 151 .lss 149 150] [151,20,3,18,1,2,19,21,4,22,0])
  (.cond (.s 151) .skip
  (.exit 8)))
  (.block 9 (sQ (rG 0 [mS 0 152 20,mS 1 153 21,bS 2 154 .add 152 153,o1 3 155 (.conv .u64 (.s 154)),o1 4 156 (.bin .shr (.s 155) (.k (.c (.int .u64 1)))),o1 5 157 (.conv .i64 (.s 156)),mS 6 23 157] [20,23,3,18,1,2,19,21,4,22,0])
  (sQ (rG 0 [mS 0 158 4,mS 1 159 0,mS 2 160 22,mS 3 161 23,bS 4 162 .sub 160 161,iA 5 163 6 159 162,mS 7 165 0,mS 8 166 23,iA 9 167 6 165 166,lT 6 164 6 163,lT 10 168 6 167,⟨11,(some 169),none,.call ⟨true⟩ (.s 158) [(.s 164),(.s 168)]⟩,bI 12 170 .lss 169 0,o1 13 171 (.un .not (.s 170))] [171,20,23,3,18,1,2,19,21,4,22,0])
  (.cond (.s 171) (rG 0 [mS 0 172 23,bI 1 173 .add 172 1,mS 2 20 173] [20,3,18,1,2,19,21,4,22,0])
  (rG 0 [mS 0 174 23,mS 1 21 174] [20,3,18,1,2,19,21,4,22,0]))))))
abbrev f_slices_symMergeCmpFunc_Blob : Nat := 303
def c_slices_symMergeCmpFunc_Blob : CFn := { frz := true,rnd := none,nargs := 5,ntmps := 220,res := [],code :=
  (sQ (sQ (rG 0 [mS 0 25 2,mS 1 26 1,bS 2 27 .sub 25 26,bI 3 28 .eql 27 1] [28,2,3,4,0,1])
  (.cond (.s 28) (sQ (rG 0 [mS 0 29 2,mS 1 10 29] [3,10,4,0,1])
  (sQ (rG 0 [mS 0 30 3,mS 1 11 30] [10,11,4,0,1])
  (sQ (.block 0 (.loop (some [10,11,4,0,1]) c_slices_symMergeCmpFunc_Blob_l1))
  (sQ (sQ (rG 0 [mS 0 54 1,mS 1 13 54] [13,10,0])
  (.block 2 (.loop (some [13,10,0]) c_slices_symMergeCmpFunc_Blob_l2)))
  .ret))))
  .skip))
  (sQ (sQ (rG 0 [mS 0 77 3,mS 1 78 2,bS 2 79 .sub 77 78,bI 3 80 .eql 79 1] [80,3,1,4,2,0])
  (.cond (.s 80) (sQ (rG 0 [mS 0 81 1,mS 1 14 81] [14,4,2,0])
  (sQ (rG 0 [mS 0 82 2,mS 1 15 82] [14,15,4,2,0])
  (sQ (.block 4 (.loop (some [14,15,4,2,0]) c_slices_symMergeCmpFunc_Blob_l3))
  (sQ (sQ (rG 0 [mS 0 107 2,mS 1 17 107] [17,14,0])
  (.block 6 (.loop (some [17,14,0]) c_slices_symMergeCmpFunc_Blob_l4)))
  .ret))))
  .skip))
  (sQ (rG 0 [mS 0 129 1,mS 1 130 3,bS 2 131 .add 129 130,o1 3 132 (.conv .u64 (.s 131)),o1 4 133 (.bin .shr (.s 132) (.k (.c (.int .u64 1)))),o1 5 134 (.conv .i64 (.s 133)),mS 6 18 134] [3,18,1,2,4,0])
  (sQ (rG 0 [mS 0 135 18,mS 1 136 2,bS 2 137 .add 135 136,mS 3 19 137] [3,18,1,2,19,4,0])
  (sQ (rG 0 [mI 0 20 0,mI 1 21 0] [3,18,1,2,19,4,0])
  (sQ (sQ (rG 0 [mS 0 138 2,mS 1 139 18,bS 2 140 .gtr 138 139] [140,3,18,1,2,19,4,0])
  (.cond (.s 140) (sQ (rG 0 [mS 0 141 19,mS 1 142 3,bS 2 143 .sub 141 142,mS 3 20 143] [20,3,18,1,2,19,4,0])
  (rG 0 [mS 0 144 18,mS 1 21 144] [20,3,18,1,2,19,21,4,0]))
  (sQ (rG 0 [mS 0 145 1,mS 1 20 145] [20,3,18,1,2,19,4,0])
  (rG 0 [mS 0 146 2,mS 1 21 146] [20,3,18,1,2,19,21,4,0]))))
  (sQ (rG 0 [mS 0 147 19,bI 1 148 .sub 147 1,mS 2 22 148] [20,3,18,1,2,19,21,4,22,0])
  (sQ (.block 8 (.loop (some [20,3,18,1,2,19,21,4,22,0]) c_slices_symMergeCmpFunc_Blob_l5))
  (sQ (rG 0 [mS 0 175 19,mS 1 176 20,bS 2 177 .sub 175 176,mS 3 24 177] [2,1,20,0,18,24,3,4])
  (sQ (sQ (rG 0 [mS 0 178 20,mS 1 179 2,bS 2 180 .lss 178 179,mS 3 181 180,oG 4 182 181 true (.mv (.s 2)),oG 5 183 181 true (.mv (.s 24)),oG 6 184 181 true (.bin .lss (.s 182) (.s 183)),o1 7 185 (.pick (.s 181) (.s 184) (kB false))] [185,2,1,20,0,18,24,3,4])
  (.cond (.s 185) (rG 0 [mS 0 186 0,mS 1 187 20,mS 2 188 2,mS 3 189 24,mS 4 190 4,⟨5,(some 191),none,.call ⟨false⟩ (.k (.c (.fn 311 [] []))) [(.s 186),(.s 187),(.s 188),(.s 189),(.s 190)]⟩] [1,20,0,18,24,3,4])
  .skip))
  (sQ (sQ (rG 0 [mS 0 192 1,mS 1 193 20,bS 2 194 .lss 192 193,mS 3 195 194,oG 4 196 195 true (.mv (.s 20)),oG 5 197 195 true (.mv (.s 18)),oG 6 198 195 true (.bin .lss (.s 196) (.s 197)),o1 7 199 (.pick (.s 195) (.s 198) (kB false))] [199,1,20,0,18,24,3,4])
  (.cond (.s 199) (rG 0 [mS 0 200 0,mS 1 201 1,mS 2 202 20,mS 3 203 18,mS 4 204 4,⟨5,(some 205),none,.call ⟨false⟩ (.k (.c (.fn 303 [] []))) [(.s 200),(.s 201),(.s 202),(.s 203),(.s 204)]⟩] [0,18,24,3,4])
  .skip))
  (sQ (rG 0 [mS 0 206 18,mS 1 207 24,bS 2 208 .lss 206 207,mS 3 209 208,oG 4 210 209 true (.mv (.s 24)),oG 5 211 209 true (.mv (.s 3)),oG 6 212 209 true (.bin .lss (.s 210) (.s 211)),o1 7 213 (.pick (.s 209) (.s 212) (kB false))] [213,0,18,24,3,4])
  (.cond (.s 213) (rG 0 [mS 0 214 0,mS 1 215 18,mS 2 216 24,mS 3 217 3,mS 4 218 4,⟨5,(some 219),none,.call ⟨false⟩ (.k (.c (.fn 303 [] []))) [(.s 214),(.s 215),(.s 216),(.s 217),(.s 218)]⟩] [])
  .skip))))))))))))) }
abbrev f_slices_order2Ordered_int64 : Nat := 304
def c_slices_order2Ordered_int64 : CFn := { frz := true,rnd := none,nargs := 4,ntmps := 28,res := [(.slot 8),(.slot 9)],code :=
  (sQ (rG 0 [mI 0 8 0,mI 1 9 0] [0,3,2,1])
  (sQ (sQ (rG 0 [mS 0 10 0,mS 1 11 2,iA 2 12 1 10 11,mS 4 14 0,mS 5 15 1,iA 6 16 1 14 15,lF 3 13 12,lF 7 17 16,cA 8 18 255 [(.s 13),(.s 17)]] [18,3,2,1])
  (.cond (.s 18) (sQ (rG 0 [mS 0 19 3,nC 1 20 19,lF 2 21 20,bI 3 22 .add 21 1,nC 4 23 19,o0 5 (.store 1 (.s 23) (.s 22))] [2,1])
  (sQ (rG 0 [mS 0 24 2,mS 1 25 1,mS 2 8 24,mS 3 9 25] [8,9])
  .ret))
  .skip))
  (sQ (rG 0 [mS 0 26 1,mS 1 27 2,mS 2 8 26,mS 3 9 27] [8,9])
  .ret))) }
abbrev f_plan_driver_do : Nat := 305
def c_plan_driver_do : CFn := { frz := true,rnd := none,nargs := 2,ntmps := 31,res := [],code :=
  (sQ (rG 0 [mS 0 4 0,mS 1 5 1,nC 2 6 4,fA 3 7 5 6,o0 4 (.store 1 (.s 7) (.s 5))] [0,1])
  (sQ (rG 0 [mS 0 8 0,mS 1 9 0,nC 2 10 9,fA 3 11 6 10,lF 4 12 11,mS 5 13 1,o1 6 14 (.minmax false [(.s 13),(kI 2000)]),o1 7 15 (.minmax true [(kI (-2000)),(.s 14)]),bS 8 16 .add 12 15,o1 9 17 (.minmax true [(.s 16),(kI 0)]),o1 10 18 (.minmax false [(.s 17),(kI 2000)]),nC 11 19 8,fA 12 20 6 19,o0 13 (.store 1 (.s 20) (.s 18))] [0,1])
  (rG 1 [mS 0 21 0,mS 1 22 0,nC 2 23 22,fA 3 24 7 23,lF 4 25 24,mS 5 26 1,o1 6 27 (.lit 0 1 [[(I 0)]] [(0,(.s 26))]),o1 7 28 (.append 1 8 (.s 25) (.s 27)),nC 8 29 21,fA 9 30 7 29,o0 10 (.store 1 (.s 30) (.s 28))] []))) }
def c_plan_driver_stop_l1 : CC := (sQ (sQ (rG 0 [mS 0 3 2,mS 1 4 3,oG 2 5 4 false (.mv (.s 0)),oG 3 6 4 false (.nilck (.s 5)),oG 4 7 4 false (.faddr 6 (.s 6)),oG 5 8 4 false (.load false 1 (.s 7)),oG 6 9 4 false (.bin .gtr (.s 8) (kI 0)),o1 7 10 (.pick (.s 4) (kB true) (.s 9)),mS 8 11 10,oG 9 12 11 false (.mv (.s 0)),oG 10 13 11 false (.nilck (.s 12)),oG 11 14 11 false (.faddr 5 (.s 13)),oG 12 15 11 false (.load false 1 (.s 14)),oG 13 16 11 false (.bin .gtr (.s 15) (kI 0)),o1 14 17 (.pick (.s 11) (kB true) (.s 16))] [17,0])
  (.cond (.s 17) .skip
  (.exit 0)))
  (sQ (.block 1 (rG 0 [mS 0 18 0,mS 1 19 0,mS 2 20 0,nC 3 21 20,fA 4 22 0 21,fA 5 23 2 22,lF 6 24 23,o1 7 25 (.un .neg (.s 24)),cA 8 26 54 [(.s 19),(.s 25)],cA 9 27 305 [(.s 18),(.s 26)]] [0]))
  (rG 0 [mB 0 2 false] [2,0])))
abbrev f_plan_driver_stop : Nat := 306
def c_plan_driver_stop : CFn := { frz := true,rnd := none,nargs := 1,ntmps := 28,res := [],code :=
  (sQ (rG 0 [mB 0 2 true] [2,0])
  (.block 0 (.loop (some [2,0]) c_plan_driver_stop_l1))) }
def c_slices_siftDownCmpFunc_Found_l1 : CC := (.block 1 (sQ (rG 0 [mS 0 13 10,o1 1 14 (.bin .mul (kI 2) (.s 13)),bI 2 15 .add 14 1,mS 3 11 15] [10,0,3,4,2,11])
  (sQ (sQ (rG 0 [mS 0 16 11,mS 1 17 2,bS 2 18 .geq 16 17] [18,10,0,3,4,2,11])
  (.cond (.s 18) (.exit 0)
  .skip))
  (sQ (sQ (rG 0 [mS 0 19 11,bI 1 20 .add 19 1,mS 2 21 2,bS 3 22 .lss 20 21,mS 4 23 22,oG 5 24 23 true (.mv (.s 4)),oG 6 25 23 true (.mv (.s 0)),oG 7 26 23 true (.mv (.s 3)),oG 8 27 23 true (.mv (.s 11)),oG 9 28 23 true (.bin .add (.s 26) (.s 27)),oG 10 29 23 true (.iaddr 5 (.s 25) (.s 28)),oG 12 31 23 true (.mv (.s 0)),oG 13 32 23 true (.mv (.s 3)),oG 14 33 23 true (.mv (.s 11)),oG 15 34 23 true (.bin .add (.s 32) (.s 33)),oG 16 35 23 true (.bin .add (.s 34) (kI 1)),oG 17 36 23 true (.iaddr 5 (.s 31) (.s 35)),oG 11 30 23 true (.load true 5 (.s 29)),oG 18 37 23 true (.load true 5 (.s 36)),⟨19,(some 38),(some (23,true)),.call ⟨true⟩ (.s 24) [(.s 30),(.s 37)]⟩,oG 20 39 23 true (.bin .lss (.s 38) (kI 0)),o1 21 40 (.pick (.s 23) (.s 39) (kB false))] [40,11,2,4,3,0,10])
  (.cond (.s 40) (rG 0 [mS 0 41 11,bI 1 42 .add 41 1,mS 2 11 42] [2,4,3,0,11,10])
  .skip))
  (sQ (sQ (rG 0 [mS 0 43 4,mS 1 44 0,mS 2 45 3,mS 3 46 10,bS 4 47 .add 45 46,iA 5 48 5 44 47,mS 7 50 0,mS 8 51 3,mS 9 52 11,bS 10 53 .add 51 52,iA 11 54 5 50 53,lT 6 49 5 48,lT 12 55 5 54,⟨13,(some 56),none,.call ⟨true⟩ (.s 43) [(.s 49),(.s 55)]⟩,bI 14 57 .lss 56 0,o1 15 58 (.un .not (.s 57))] [58,2,4,3,0,11,10])
  (.cond (.s 58) .ret
  .skip))
  (sQ (rG 0 [mS 0 59 0,mS 1 60 3,mS 2 61 10,bS 3 62 .add 60 61,mS 4 63 0,mS 5 64 3,mS 6 65 11,bS 7 66 .add 64 65,mS 8 67 0,mS 9 68 3,mS 10 69 11,bS 11 70 .add 68 69,iA 12 71 5 67 70,mS 14 73 0,mS 15 74 3,mS 16 75 10,bS 17 76 .add 74 75,iA 18 77 5 73 76,lT 13 72 5 71,lT 19 78 5 77,iA 20 79 5 59 62,o0 21 (.store 5 (.s 79) (.s 72)),iA 22 80 5 63 66,o0 23 (.store 5 (.s 80) (.s 78))] [11,0,3,4,2])
  (rG 0 [mS 0 81 11,mS 1 10 81] [10,0,3,4,2])))))))
abbrev f_slices_siftDownCmpFunc_Found : Nat := 307
def c_slices_siftDownCmpFunc_Found : CFn := { frz := true,rnd := none,nargs := 5,ntmps := 82,res := [],code :=
  (sQ (rG 0 [mS 0 12 1,mS 1 10 12] [10,0,3,4,2])
  (.block 0 (.loop (some [10,0,3,4,2]) c_slices_siftDownCmpFunc_Found_l1))) }
abbrev f_slices_medianAdjacentCmpFunc_Found : Nat := 308
def c_slices_medianAdjacentCmpFunc_Found : CFn := { frz := true,rnd := none,nargs := 4,ntmps := 18,res := [(.slot 8)],code :=
  (sQ (rG 0 [mI 0 8 0] [0,1,2,3])
  (sQ (rG 0 [mS 0 9 0,mS 1 10 1,bI 2 11 .sub 10 1,mS 3 12 1,mS 4 13 1,bI 5 14 .add 13 1,mS 6 15 2,mS 7 16 3,⟨8,(some 17),none,.call ⟨false⟩ (.k (.c (.fn 309 [] []))) [(.s 9),(.s 11),(.s 12),(.s 14),(.s 15),(.s 16)]⟩,mS 9 8 17] [8])
  .ret)) }
abbrev f_slices_medianCmpFunc_Found : Nat := 309
def c_slices_medianCmpFunc_Found : CFn := { frz := true,rnd := none,nargs := 6,ntmps := 41,res := [(.slot 12)],code :=
  (sQ (rG 0 [mI 0 12 0] [1,2,3,0,4,5])
  (sQ (rG 0 [mS 0 14 0,mS 1 15 1,mS 2 16 2,mS 3 17 4,mS 4 18 5,⟨5,(some 19),none,.call ⟨false⟩ (.k (.c (.fn 312 [] []))) [(.s 14),(.s 15),(.s 16),(.s 17),(.s 18)]⟩,mS 6 13 19,eX 7 20 13 0,eX 8 21 13 1,mS 9 1 20,mS 10 2 21] [2,3,0,1,4,5])
  (sQ (rG 0 [mS 0 23 0,mS 1 24 2,mS 2 25 3,mS 3 26 4,mS 4 27 5,⟨5,(some 28),none,.call ⟨false⟩ (.k (.c (.fn 312 [] []))) [(.s 23),(.s 24),(.s 25),(.s 26),(.s 27)]⟩,mS 6 22 28,eX 7 29 22 0,eX 8 30 22 1,mS 9 2 29,mS 10 3 30] [0,1,2,4,5])
  (sQ (rG 0 [mS 0 32 0,mS 1 33 1,mS 2 34 2,mS 3 35 4,mS 4 36 5,⟨5,(some 37),none,.call ⟨false⟩ (.k (.c (.fn 312 [] []))) [(.s 32),(.s 33),(.s 34),(.s 35),(.s 36)]⟩,mS 6 31 37,eX 7 38 31 0,eX 8 39 31 1,mS 9 1 38,mS 10 2 39] [2])
  (sQ (rG 0 [mS 0 40 2,mS 1 12 40] [12])
  .ret))))) }
abbrev f_slices_order2CmpFunc_Sweep : Nat := 310
def c_slices_order2CmpFunc_Sweep : CFn := { frz := true,rnd := none,nargs := 5,ntmps := 32,res := [(.slot 10),(.slot 11)],code :=
  (sQ (rG 0 [mI 0 10 0,mI 1 11 0] [4,0,3,2,1])
  (sQ (sQ (rG 0 [mS 0 12 4,mS 1 13 0,mS 2 14 2,iA 3 15 4 13 14,mS 5 17 0,mS 6 18 1,iA 7 19 4 17 18,lT 4 16 4 15,lT 8 20 4 19,⟨9,(some 21),none,.call ⟨true⟩ (.s 12) [(.s 16),(.s 20)]⟩,bI 10 22 .lss 21 0] [22,3,2,1])
  (.cond (.s 22) (sQ (rG 0 [mS 0 23 3,nC 1 24 23,lF 2 25 24,bI 3 26 .add 25 1,nC 4 27 23,o0 5 (.store 1 (.s 27) (.s 26))] [2,1])
  (sQ (rG 0 [mS 0 28 2,mS 1 29 1,mS 2 10 28,mS 3 11 29] [10,11])
  .ret))
  .skip))
  (sQ (rG 0 [mS 0 30 1,mS 1 31 2,mS 2 10 30,mS 3 11 31] [10,11])
  .ret))) }
def c_slices_rotateCmpFunc_Blob_l1 : CC := (sQ (sQ (rG 0 [mS 0 18 10,mS 1 19 11,bS 2 20 .neq 18 19] [20,10,0,2,4,11])
  (.cond (.s 20) .skip
  (.exit 0)))
  (.block 1 (sQ (rG 0 [mS 0 21 10,mS 1 22 11,bS 2 23 .gtr 21 22] [23,10,0,2,4,11])
  (.cond (.s 23) (sQ (rG 0 [mS 0 24 0,mS 1 25 2,mS 2 26 10,bS 3 27 .sub 25 26,mS 4 28 2,mS 5 29 11,mS 6 30 4,⟨7,(some 31),none,.call ⟨false⟩ (.k (.c (.fn 313 [] []))) [(.s 24),(.s 27),(.s 28),(.s 29),(.s 30)]⟩] [10,0,2,4,11])
  (rG 0 [mS 0 32 10,mS 1 33 11,bS 2 34 .sub 32 33,mS 3 10 34] [10,0,2,4,11]))
  (sQ (rG 0 [mS 0 35 0,mS 1 36 2,mS 2 37 10,bS 3 38 .sub 36 37,mS 4 39 2,mS 5 40 11,bS 6 41 .add 39 40,mS 7 42 10,bS 8 43 .sub 41 42,mS 9 44 10,mS 10 45 4,⟨11,(some 46),none,.call ⟨false⟩ (.k (.c (.fn 313 [] []))) [(.s 35),(.s 38),(.s 43),(.s 44),(.s 45)]⟩] [11,10,0,2,4])
  (rG 0 [mS 0 47 11,mS 1 48 10,bS 2 49 .sub 47 48,mS 3 11 49] [10,0,2,4,11]))))))
abbrev f_slices_rotateCmpFunc_Blob : Nat := 311
def c_slices_rotateCmpFunc_Blob : CFn := { frz := true,rnd := none,nargs := 5,ntmps := 58,res := [],code :=
  (sQ (rG 0 [mS 0 12 2,mS 1 13 1,bS 2 14 .sub 12 13,mS 3 10 14] [3,10,0,2,4])
  (sQ (rG 0 [mS 0 15 3,mS 1 16 2,bS 2 17 .sub 15 16,mS 3 11 17] [10,0,2,4,11])
  (sQ (.block 0 (.loop (some [10,0,2,4,11]) c_slices_rotateCmpFunc_Blob_l1))
  (rG 0 [mS 0 50 0,mS 1 51 2,mS 2 52 10,bS 3 53 .sub 51 52,mS 4 54 2,mS 5 55 10,mS 6 56 4,⟨7,(some 57),none,.call ⟨false⟩ (.k (.c (.fn 313 [] []))) [(.s 50),(.s 53),(.s 54),(.s 55),(.s 56)]⟩] [])))) }
abbrev f_slices_order2CmpFunc_Found : Nat := 312
def c_slices_order2CmpFunc_Found : CFn := { frz := true,rnd := none,nargs := 5,ntmps := 32,res := [(.slot 10),(.slot 11)],code :=
  (sQ (rG 0 [mI 0 10 0,mI 1 11 0] [4,0,3,2,1])
  (sQ (sQ (rG 0 [mS 0 12 4,mS 1 13 0,mS 2 14 2,iA 3 15 5 13 14,mS 5 17 0,mS 6 18 1,iA 7 19 5 17 18,lT 4 16 5 15,lT 8 20 5 19,⟨9,(some 21),none,.call ⟨true⟩ (.s 12) [(.s 16),(.s 20)]⟩,bI 10 22 .lss 21 0] [22,3,2,1])
  (.cond (.s 22) (sQ (rG 0 [mS 0 23 3,nC 1 24 23,lF 2 25 24,bI 3 26 .add 25 1,nC 4 27 23,o0 5 (.store 1 (.s 27) (.s 26))] [2,1])
  (sQ (rG 0 [mS 0 28 2,mS 1 29 1,mS 2 10 28,mS 3 11 29] [10,11])
  .ret))
  .skip))
  (sQ (rG 0 [mS 0 30 1,mS 1 31 2,mS 2 10 30,mS 3 11 31] [10,11])
  .ret))) }
def c_slices_swapRangeCmpFunc_Blob_l1 : CC := (sQ (sQ (rG 0 [mS 0 11 10,mS 1 12 3,bS 2 13 .lss 11 12] [13,10,3,2,0,1])
  (.cond (.s 13) .skip
  (.exit 0)))
  (sQ (.block 1 (rG 0 [mS 0 16 0,mS 1 17 1,mS 2 18 10,bS 3 19 .add 17 18,mS 4 20 0,mS 5 21 2,mS 6 22 10,bS 7 23 .add 21 22,mS 8 24 0,mS 9 25 2,mS 10 26 10,bS 11 27 .add 25 26,iA 12 28 6 24 27,mS 14 30 0,mS 15 31 1,mS 16 32 10,bS 17 33 .add 31 32,iA 18 34 6 30 33,lT 13 29 6 28,lT 19 35 6 34,iA 20 36 6 16 19,o0 21 (.store 6 (.s 36) (.s 29)),iA 22 37 6 20 23,o0 23 (.store 6 (.s 37) (.s 35))] [10,3,2,0,1]))
  (rG 0 [mS 0 14 10,bI 1 15 .add 14 1,mS 2 10 15] [10,3,2,0,1])))
abbrev f_slices_swapRangeCmpFunc_Blob : Nat := 313
def c_slices_swapRangeCmpFunc_Blob : CFn := { frz := true,rnd := none,nargs := 5,ntmps := 38,res := [],code :=
  (sQ (rG 0 [mI 0 10 0] [10,3,2,0,1])
  (.block 0 (.loop (some [10,3,2,0,1]) c_slices_swapRangeCmpFunc_Blob_l1))) }
def Cs : List (Nat × Nat × Nat × Bool) := [(29,1,8,false),(58,1,8,false),(64,6,48,false),(92,3,24,false),(93,3,24,true),(94,3,24,true),(95,3,56,false),(157,4,32,false),(158,2,32,false),(261,2,16,false)]
def L : List (Nat × CFn) := [(5,c_kerbstonelaw08_DriveNil),(6,c_kerbstonelaw08_awake),(10,c_kerbstonelaw08_plain),(11,c_drive_NewNode),(12,c_drive_CheckSetup),(13,c_drive_Node_Mode),(15,c_drive_Node_Plan),(16,c_drive_Node_Verdict),(17,c_drive_Node_Tick),(18,c_drive_Node_Looked),(19,c_drive_Node_Reset),(20,c_drive_Node_Now),(21,c_kerbstoneref05_Same),(22,c_drive_Node_Know),(23,c_drive_Node_Bytes),(24,c_drive_Node_Copy),(25,c_drive_Node_Same),(26,c_kerbstonelaw08_sameSetup),(27,c_drive_Node_Setup),(28,c_plan_CheckCar),(33,c_kerbstonekit_Cross),(34,c_drive_ownSetup),(35,c_motion_Along),(36,c_drive_Node_own),(37,c_track_All),(38,c_roads_Check),(39,c_roads_Fit),(40,c_roads_CheckRoute),(41,c_drive_parked),(42,c_drive_Node_none),(43,c_plan_Verify),(44,c_drive_Node_forget),(45,c_drive_Node_hear),(46,c_drive_Node_fusing),(47,c_plan_Act),(48,c_track_Copy),(49,c_drive_ring_own),(50,c_maps_Clone_heard),(51,c_kerbstoneref03_Same),(52,c_kerbstonekit_SameInts),(53,c_plan_within),(54,c_plan_driver_ramp),(56,c_kerbstonekit_road),(57,c_roads_Copy),(59,c_roads_Starts),(60,c_roads_RouteLength),(61,c_roads_Length),(62,c_roads_Sources),(63,c_motion_Course_Own),(65,c_roads_Bounds),(66,c_roads_check_numbers),(67,c_roads_check_lanes),(68,c_roads_check_joints),(69,c_roads_check_signals),(70,c_roads_check_zones),(71,c_roads_check_works),(72,c_roads_merges),(73,c_roads_chains),(74,c_roads_ranks),(75,c_roads_greens),(76,c_roads_before),(77,c_slices_Contains_int),(78,c_roads_Passes),(79,c_drive_parked_1),(80,c_slices_ContainsFunc_Pass),(81,c_slices_IndexFunc_Pass),(82,c_plan_fits),(83,c_plan_Check),(84,c_plan_newJudge),(85,c_plan_judge_finding),(86,c_drive_Node_fuse),(87,c_drive_Node_step),(88,c_drive_ring_drop),(89,c_slices_Sorted_int64),(90,c_maps_Keys_heard),(91,c_drive_Node_counts),(96,c_drive_Node_losing),(97,c_drive_Node_watching),(99,c_kerbstoneref03_rows),(100,c_kerbstoneref03_sameRow),(101,c_plan_driver_clip),(102,c_roads_each_Lane),(103,c_roads_ownLane),(104,c_roads_each_Zone),(105,c_roads_ownZone),(106,c_roads_each_Signal),(107,c_roads_ownSignal),(108,c_roads_each_Work),(109,c_roads_ownWork),(110,c_roads_follow),(111,c_roads_is),(112,c_roads_long),(113,c_motion_Course_gap),(114,c_motion_Cut_Blob),(115,c_roads_within),(116,c_curve_Check),(117,c_roads_rising),(118,c_slices_ContainsFunc_Phase),(119,c_roads_check_signals_1),(120,c_roads_check_signals_2),(121,c_slices_ContainsFunc_Zone),(122,c_roads_merges_1),(123,c_roads_closed),(124,c_slices_ContainsFunc_int),(125,c_roads_merges_1_1),(126,c_roads_entry),(127,c_roads_pairs),(128,c_roads_ranks_1),(129,c_roads_part),(130,c_roads_greens_1),(131,c_roads_greens_1_1),(132,c_slices_Index_int),(133,c_slices_SortStableFunc_Pass),(134,c_roads_Passes_1),(135,c_cmp_Or_int),(136,c_cmp_Compare_int64),(137,c_cmp_Compare_int),(138,c_track_Check),(139,c_slices_ContainsFunc_int64),(140,c_plan_Check_1),(141,c_plan_judge_verify),(142,c_plan_steps),(143,c_track_Speed),(144,c_track_Fix),(145,c_track_Update),(146,c_track_Explained),(147,c_motion_Course_Step),(148,c_slices_Collect_int64),(149,c_slices_Sort_int64),(150,c_maps_Keys_heard__1),(151,c_drive_Node_searching),(152,c_drive_Node_acting),(153,c_kerbstoneref03_SameLane),(154,c_kerbstoneref03_SameZone),(155,c_kerbstoneref03_SameSignal),(156,c_curve_Copy),(159,c_curve_Length),(160,c_motion_ends_Blob),(161,c_curve_fair),(162,c_curve_from),(163,c_curve_root),(164,c_curve_vector_dot),(165,c_slices_IndexFunc_Phase),(166,c_slices_IndexFunc_Zone),(167,c_slices_IndexFunc_int),(168,c_roads_reach),(169,c_slices_ContainsFunc_Part),(170,c_roads_entry_1),(171,c_roads_set_has),(172,c_roads_entries),(173,c_slices_IndexFunc_Part),(174,c_roads_part_1),(175,c_slices_stableCmpFunc_Pass),(176,c_cmp_isNaN_int64),(177,c_cmp_isNaN_int),(178,c_track_within),(179,c_slices_IndexFunc_int64),(180,c_plan_judge_ahead),(181,c_plan_judge_onRoute),(182,c_plan_judge_slow),(183,c_plan_judge_apart),(184,c_plan_judge_alone),(185,c_plan_judge_allowed),(186,c_plan_judge_stands),(187,c_motion_Course_Drive),(188,c_track_Found),(189,c_track_whole),(190,c_track_Free),(191,c_slices_ContainsFunc_Span),(192,c_track_Update_1),(193,c_track_narrow),(194,c_track_counted),(195,c_track_Explained_1),(196,c_slices_ContainsFunc_Found),(197,c_track_feet),(198,c_track_Explained_1_1),(199,c_slices_ContainsFunc_Blob),(200,c_motion_Course_moved),(201,c_motion_layer_lay),(202,c_slices_SortFunc_Sweep),(203,c_motion_less),(204,c_motion_Join),(205,c_slices_Compact_Sweep),(206,c_slices_AppendSeq_int64),(207,c_slices_pdqsortOrdered_int64),(208,c_math_bits_Len),(209,c_plan_Search),(210,c_drive_ring_add),(211,c_plan_Tail),(212,c_kerbstoneref01_Same),(213,c_kerbstoneref03_sameInts),(214,c_curve_through),(215,c_curve_Pieces),(216,c_slices_insertionSortCmpFunc_Pass),(217,c_slices_symMergeCmpFunc_Pass),(218,c_plan_judge_ahead_1),(219,c_plan_lowest),(220,c_plan_judge_alone_1),(221,c_plan_judge_taken),(222,c_signs_Green),(223,c_slices_ContainsFunc_visit),(224,c_plan_judge_stands_1),(225,c_motion_Course_Drive_1),(226,c_slices_SortFunc_Found),(227,c_track_Found_1),(228,c_track_on),(229,c_track_Join),(230,c_motion_Cut_Span),(231,c_slices_IndexFunc_Span),(232,c_slices_MinFunc_Found),(233,c_track_narrow_1),(234,c_slices_MaxFunc_Found),(235,c_track_narrow_2),(236,c_slices_IndexFunc_Found),(237,c_curve_Near),(238,c_slices_IndexFunc_Blob),(239,c_world_Stop),(240,c_signs_Red),(241,c_motion_layer_lay_1),(242,c_slices_pdqsortCmpFunc_Sweep),(243,c_motion_less_1),(244,c_slices_DeleteFunc_Blob),(245,c_motion_Join_1),(246,c_slices_SortStableFunc_Blob),(247,c_motion_Join_2),(248,c_motion_hull),(249,c_slices_insertionSortOrdered_int64),(250,c_slices_heapSortOrdered_int64),(251,c_slices_breakPatternsOrdered_int64),(252,c_slices_choosePivotOrdered_int64),(253,c_slices_reverseRangeOrdered_int64),(254,c_slices_partialInsertionSortOrdered_int64),(255,c_cmp_Less_int64),(256,c_slices_partitionEqualOrdered_int64),(257,c_slices_partitionOrdered_int64),(258,c_math_bits_Len32),(259,c_math_bits_Len64),(260,c_plan_Candidates),(262,c_curve_pieces),(263,c_slices_rotateCmpFunc_Pass),(264,c_plan_judge_taken_1),(265,c_slices_ContainsFunc_Sweep),(266,c_slices_IndexFunc_visit),(267,c_slices_pdqsortCmpFunc_Found),(268,c_motion_ends_Span),(269,c_curve_abs),(270,c_curve_vector_cross),(271,c_curve_floor),(272,c_slices_Compact_int64),(273,c_slices_insertionSortCmpFunc_Sweep),(274,c_slices_heapSortCmpFunc_Sweep),(275,c_slices_breakPatternsCmpFunc_Sweep),(276,c_slices_choosePivotCmpFunc_Sweep),(277,c_slices_reverseRangeCmpFunc_Sweep),(278,c_slices_partialInsertionSortCmpFunc_Sweep),(279,c_slices_partitionEqualCmpFunc_Sweep),(280,c_slices_partitionCmpFunc_Sweep),(281,c_slices_stableCmpFunc_Blob),(282,c_slices_siftDownOrdered_int64),(283,c_slices_nextPowerOfTwo),(284,c_slices_xorshift_Next),(285,c_slices_medianAdjacentOrdered_int64),(286,c_slices_medianOrdered_int64),(287,c_plan_profile),(288,c_curve_pieces_1),(289,c_slices_swapRangeCmpFunc_Pass),(290,c_slices_IndexFunc_Sweep),(291,c_slices_insertionSortCmpFunc_Found),(292,c_slices_heapSortCmpFunc_Found),(293,c_slices_breakPatternsCmpFunc_Found),(294,c_slices_choosePivotCmpFunc_Found),(295,c_slices_reverseRangeCmpFunc_Found),(296,c_slices_partialInsertionSortCmpFunc_Found),(297,c_slices_partitionEqualCmpFunc_Found),(298,c_slices_partitionCmpFunc_Found),(299,c_slices_siftDownCmpFunc_Sweep),(300,c_slices_medianAdjacentCmpFunc_Sweep),(301,c_slices_medianCmpFunc_Sweep),(302,c_slices_insertionSortCmpFunc_Blob),(303,c_slices_symMergeCmpFunc_Blob),(304,c_slices_order2Ordered_int64),(305,c_plan_driver_do),(306,c_plan_driver_stop),(307,c_slices_siftDownCmpFunc_Found),(308,c_slices_medianAdjacentCmpFunc_Found),(309,c_slices_medianCmpFunc_Found),(310,c_slices_order2CmpFunc_Sweep),(311,c_slices_rotateCmpFunc_Blob),(312,c_slices_order2CmpFunc_Found),(313,c_slices_swapRangeCmpFunc_Blob),(2588,c_plan_judge_verify_r1),(3628,c_slices_AppendSeq_int64_r1),(3772,c_curve_Pieces_r1),(4124,c_curve_Near_r1)]
def tree : Tr := (.node (.node (.node (.node (.node (.node (.node (.node (.node .leaf 5 c_kerbstonelaw08_DriveNil .leaf) 6 c_kerbstonelaw08_awake .leaf) 10 c_kerbstonelaw08_plain (.node .leaf 11 c_drive_NewNode .leaf)) 12 c_drive_CheckSetup (.node (.node (.node .leaf 13 c_drive_Node_Mode .leaf) 15 c_drive_Node_Plan .leaf) 16 c_drive_Node_Verdict (.node .leaf 17 c_drive_Node_Tick .leaf))) 18 c_drive_Node_Looked (.node (.node (.node (.node .leaf 19 c_drive_Node_Reset .leaf) 20 c_drive_Node_Now .leaf) 21 c_kerbstoneref05_Same (.node .leaf 22 c_drive_Node_Know .leaf)) 23 c_drive_Node_Bytes (.node (.node .leaf 24 c_drive_Node_Copy .leaf) 25 c_drive_Node_Same (.node .leaf 26 c_kerbstonelaw08_sameSetup .leaf)))) 27 c_drive_Node_Setup (.node (.node (.node (.node (.node .leaf 28 c_plan_CheckCar .leaf) 33 c_kerbstonekit_Cross .leaf) 34 c_drive_ownSetup (.node .leaf 35 c_motion_Along .leaf)) 36 c_drive_Node_own (.node (.node .leaf 37 c_track_All .leaf) 38 c_roads_Check (.node .leaf 39 c_roads_Fit .leaf))) 40 c_roads_CheckRoute (.node (.node (.node (.node .leaf 41 c_drive_parked .leaf) 42 c_drive_Node_none .leaf) 43 c_plan_Verify (.node .leaf 44 c_drive_Node_forget .leaf)) 45 c_drive_Node_hear (.node (.node .leaf 46 c_drive_Node_fusing .leaf) 47 c_plan_Act (.node .leaf 48 c_track_Copy .leaf))))) 49 c_drive_ring_own (.node (.node (.node (.node (.node (.node .leaf 50 c_maps_Clone_heard .leaf) 51 c_kerbstoneref03_Same .leaf) 52 c_kerbstonekit_SameInts (.node .leaf 53 c_plan_within .leaf)) 54 c_plan_driver_ramp (.node (.node (.node .leaf 56 c_kerbstonekit_road .leaf) 57 c_roads_Copy .leaf) 59 c_roads_Starts (.node .leaf 60 c_roads_RouteLength .leaf))) 61 c_roads_Length (.node (.node (.node (.node .leaf 62 c_roads_Sources .leaf) 63 c_motion_Course_Own .leaf) 65 c_roads_Bounds (.node .leaf 66 c_roads_check_numbers .leaf)) 67 c_roads_check_lanes (.node (.node .leaf 68 c_roads_check_joints .leaf) 69 c_roads_check_signals (.node .leaf 70 c_roads_check_zones .leaf)))) 71 c_roads_check_works (.node (.node (.node (.node (.node .leaf 72 c_roads_merges .leaf) 73 c_roads_chains .leaf) 74 c_roads_ranks (.node .leaf 75 c_roads_greens .leaf)) 76 c_roads_before (.node (.node .leaf 77 c_slices_Contains_int .leaf) 78 c_roads_Passes (.node .leaf 79 c_drive_parked_1 .leaf))) 80 c_slices_ContainsFunc_Pass (.node (.node (.node (.node .leaf 81 c_slices_IndexFunc_Pass .leaf) 82 c_plan_fits .leaf) 83 c_plan_Check (.node .leaf 84 c_plan_newJudge .leaf)) 85 c_plan_judge_finding (.node (.node .leaf 86 c_drive_Node_fuse .leaf) 87 c_drive_Node_step (.node .leaf 88 c_drive_ring_drop .leaf)))))) 89 c_slices_Sorted_int64 (.node (.node (.node (.node (.node (.node (.node .leaf 90 c_maps_Keys_heard .leaf) 91 c_drive_Node_counts .leaf) 96 c_drive_Node_losing (.node .leaf 97 c_drive_Node_watching .leaf)) 99 c_kerbstoneref03_rows (.node (.node (.node .leaf 100 c_kerbstoneref03_sameRow .leaf) 101 c_plan_driver_clip .leaf) 102 c_roads_each_Lane (.node .leaf 103 c_roads_ownLane .leaf))) 104 c_roads_each_Zone (.node (.node (.node (.node .leaf 105 c_roads_ownZone .leaf) 106 c_roads_each_Signal .leaf) 107 c_roads_ownSignal (.node .leaf 108 c_roads_each_Work .leaf)) 109 c_roads_ownWork (.node (.node .leaf 110 c_roads_follow .leaf) 111 c_roads_is (.node .leaf 112 c_roads_long .leaf)))) 113 c_motion_Course_gap (.node (.node (.node (.node (.node .leaf 114 c_motion_Cut_Blob .leaf) 115 c_roads_within .leaf) 116 c_curve_Check (.node .leaf 117 c_roads_rising .leaf)) 118 c_slices_ContainsFunc_Phase (.node (.node .leaf 119 c_roads_check_signals_1 .leaf) 120 c_roads_check_signals_2 (.node .leaf 121 c_slices_ContainsFunc_Zone .leaf))) 122 c_roads_merges_1 (.node (.node (.node (.node .leaf 123 c_roads_closed .leaf) 124 c_slices_ContainsFunc_int .leaf) 125 c_roads_merges_1_1 (.node .leaf 126 c_roads_entry .leaf)) 127 c_roads_pairs (.node (.node .leaf 128 c_roads_ranks_1 .leaf) 129 c_roads_part (.node .leaf 130 c_roads_greens_1 .leaf))))) 131 c_roads_greens_1_1 (.node (.node (.node (.node (.node (.node .leaf 132 c_slices_Index_int .leaf) 133 c_slices_SortStableFunc_Pass .leaf) 134 c_roads_Passes_1 (.node .leaf 135 c_cmp_Or_int .leaf)) 136 c_cmp_Compare_int64 (.node (.node (.node .leaf 137 c_cmp_Compare_int .leaf) 138 c_track_Check .leaf) 139 c_slices_ContainsFunc_int64 (.node .leaf 140 c_plan_Check_1 .leaf))) 141 c_plan_judge_verify (.node (.node (.node (.node .leaf 142 c_plan_steps .leaf) 143 c_track_Speed .leaf) 144 c_track_Fix (.node .leaf 145 c_track_Update .leaf)) 146 c_track_Explained (.node (.node .leaf 147 c_motion_Course_Step .leaf) 148 c_slices_Collect_int64 (.node .leaf 149 c_slices_Sort_int64 .leaf)))) 150 c_maps_Keys_heard__1 (.node (.node (.node (.node (.node .leaf 151 c_drive_Node_searching .leaf) 152 c_drive_Node_acting .leaf) 153 c_kerbstoneref03_SameLane (.node .leaf 154 c_kerbstoneref03_SameZone .leaf)) 155 c_kerbstoneref03_SameSignal (.node (.node .leaf 156 c_curve_Copy .leaf) 159 c_curve_Length (.node .leaf 160 c_motion_ends_Blob .leaf))) 161 c_curve_fair (.node (.node (.node (.node .leaf 162 c_curve_from .leaf) 163 c_curve_root .leaf) 164 c_curve_vector_dot (.node .leaf 165 c_slices_IndexFunc_Phase .leaf)) 166 c_slices_IndexFunc_Zone (.node (.node .leaf 167 c_slices_IndexFunc_int .leaf) 168 c_roads_reach (.node .leaf 169 c_slices_ContainsFunc_Part .leaf))))))) 170 c_roads_entry_1 (.node (.node (.node (.node (.node (.node (.node (.node .leaf 171 c_roads_set_has .leaf) 172 c_roads_entries .leaf) 173 c_slices_IndexFunc_Part (.node .leaf 174 c_roads_part_1 .leaf)) 175 c_slices_stableCmpFunc_Pass (.node (.node (.node .leaf 176 c_cmp_isNaN_int64 .leaf) 177 c_cmp_isNaN_int .leaf) 178 c_track_within (.node .leaf 179 c_slices_IndexFunc_int64 .leaf))) 180 c_plan_judge_ahead (.node (.node (.node (.node .leaf 181 c_plan_judge_onRoute .leaf) 182 c_plan_judge_slow .leaf) 183 c_plan_judge_apart (.node .leaf 184 c_plan_judge_alone .leaf)) 185 c_plan_judge_allowed (.node (.node .leaf 186 c_plan_judge_stands .leaf) 187 c_motion_Course_Drive (.node .leaf 188 c_track_Found .leaf)))) 189 c_track_whole (.node (.node (.node (.node (.node .leaf 190 c_track_Free .leaf) 191 c_slices_ContainsFunc_Span .leaf) 192 c_track_Update_1 (.node .leaf 193 c_track_narrow .leaf)) 194 c_track_counted (.node (.node .leaf 195 c_track_Explained_1 .leaf) 196 c_slices_ContainsFunc_Found (.node .leaf 197 c_track_feet .leaf))) 198 c_track_Explained_1_1 (.node (.node (.node (.node .leaf 199 c_slices_ContainsFunc_Blob .leaf) 200 c_motion_Course_moved .leaf) 201 c_motion_layer_lay (.node .leaf 202 c_slices_SortFunc_Sweep .leaf)) 203 c_motion_less (.node (.node .leaf 204 c_motion_Join .leaf) 205 c_slices_Compact_Sweep (.node .leaf 206 c_slices_AppendSeq_int64 .leaf))))) 207 c_slices_pdqsortOrdered_int64 (.node (.node (.node (.node (.node (.node .leaf 208 c_math_bits_Len .leaf) 209 c_plan_Search .leaf) 210 c_drive_ring_add (.node .leaf 211 c_plan_Tail .leaf)) 212 c_kerbstoneref01_Same (.node (.node (.node .leaf 213 c_kerbstoneref03_sameInts .leaf) 214 c_curve_through .leaf) 215 c_curve_Pieces (.node .leaf 216 c_slices_insertionSortCmpFunc_Pass .leaf))) 217 c_slices_symMergeCmpFunc_Pass (.node (.node (.node (.node .leaf 218 c_plan_judge_ahead_1 .leaf) 219 c_plan_lowest .leaf) 220 c_plan_judge_alone_1 (.node .leaf 221 c_plan_judge_taken .leaf)) 222 c_signs_Green (.node (.node .leaf 223 c_slices_ContainsFunc_visit .leaf) 224 c_plan_judge_stands_1 (.node .leaf 225 c_motion_Course_Drive_1 .leaf)))) 226 c_slices_SortFunc_Found (.node (.node (.node (.node (.node .leaf 227 c_track_Found_1 .leaf) 228 c_track_on .leaf) 229 c_track_Join (.node .leaf 230 c_motion_Cut_Span .leaf)) 231 c_slices_IndexFunc_Span (.node (.node .leaf 232 c_slices_MinFunc_Found .leaf) 233 c_track_narrow_1 (.node .leaf 234 c_slices_MaxFunc_Found .leaf))) 235 c_track_narrow_2 (.node (.node (.node (.node .leaf 236 c_slices_IndexFunc_Found .leaf) 237 c_curve_Near .leaf) 238 c_slices_IndexFunc_Blob (.node .leaf 239 c_world_Stop .leaf)) 240 c_signs_Red (.node (.node .leaf 241 c_motion_layer_lay_1 .leaf) 242 c_slices_pdqsortCmpFunc_Sweep (.node .leaf 243 c_motion_less_1 .leaf)))))) 244 c_slices_DeleteFunc_Blob (.node (.node (.node (.node (.node (.node (.node .leaf 245 c_motion_Join_1 .leaf) 246 c_slices_SortStableFunc_Blob .leaf) 247 c_motion_Join_2 (.node .leaf 248 c_motion_hull .leaf)) 249 c_slices_insertionSortOrdered_int64 (.node (.node (.node .leaf 250 c_slices_heapSortOrdered_int64 .leaf) 251 c_slices_breakPatternsOrdered_int64 .leaf) 252 c_slices_choosePivotOrdered_int64 (.node .leaf 253 c_slices_reverseRangeOrdered_int64 .leaf))) 254 c_slices_partialInsertionSortOrdered_int64 (.node (.node (.node (.node .leaf 255 c_cmp_Less_int64 .leaf) 256 c_slices_partitionEqualOrdered_int64 .leaf) 257 c_slices_partitionOrdered_int64 (.node .leaf 258 c_math_bits_Len32 .leaf)) 259 c_math_bits_Len64 (.node (.node .leaf 260 c_plan_Candidates .leaf) 262 c_curve_pieces (.node .leaf 263 c_slices_rotateCmpFunc_Pass .leaf)))) 264 c_plan_judge_taken_1 (.node (.node (.node (.node (.node .leaf 265 c_slices_ContainsFunc_Sweep .leaf) 266 c_slices_IndexFunc_visit .leaf) 267 c_slices_pdqsortCmpFunc_Found (.node .leaf 268 c_motion_ends_Span .leaf)) 269 c_curve_abs (.node (.node .leaf 270 c_curve_vector_cross .leaf) 271 c_curve_floor (.node .leaf 272 c_slices_Compact_int64 .leaf))) 273 c_slices_insertionSortCmpFunc_Sweep (.node (.node (.node (.node .leaf 274 c_slices_heapSortCmpFunc_Sweep .leaf) 275 c_slices_breakPatternsCmpFunc_Sweep .leaf) 276 c_slices_choosePivotCmpFunc_Sweep (.node .leaf 277 c_slices_reverseRangeCmpFunc_Sweep .leaf)) 278 c_slices_partialInsertionSortCmpFunc_Sweep (.node (.node .leaf 279 c_slices_partitionEqualCmpFunc_Sweep .leaf) 280 c_slices_partitionCmpFunc_Sweep (.node .leaf 281 c_slices_stableCmpFunc_Blob .leaf))))) 282 c_slices_siftDownOrdered_int64 (.node (.node (.node (.node (.node (.node .leaf 283 c_slices_nextPowerOfTwo .leaf) 284 c_slices_xorshift_Next .leaf) 285 c_slices_medianAdjacentOrdered_int64 (.node .leaf 286 c_slices_medianOrdered_int64 .leaf)) 287 c_plan_profile (.node (.node .leaf 288 c_curve_pieces_1 .leaf) 289 c_slices_swapRangeCmpFunc_Pass (.node .leaf 290 c_slices_IndexFunc_Sweep .leaf))) 291 c_slices_insertionSortCmpFunc_Found (.node (.node (.node (.node .leaf 292 c_slices_heapSortCmpFunc_Found .leaf) 293 c_slices_breakPatternsCmpFunc_Found .leaf) 294 c_slices_choosePivotCmpFunc_Found (.node .leaf 295 c_slices_reverseRangeCmpFunc_Found .leaf)) 296 c_slices_partialInsertionSortCmpFunc_Found (.node (.node .leaf 297 c_slices_partitionEqualCmpFunc_Found .leaf) 298 c_slices_partitionCmpFunc_Found (.node .leaf 299 c_slices_siftDownCmpFunc_Sweep .leaf)))) 300 c_slices_medianAdjacentCmpFunc_Sweep (.node (.node (.node (.node (.node .leaf 301 c_slices_medianCmpFunc_Sweep .leaf) 302 c_slices_insertionSortCmpFunc_Blob .leaf) 303 c_slices_symMergeCmpFunc_Blob (.node .leaf 304 c_slices_order2Ordered_int64 .leaf)) 305 c_plan_driver_do (.node (.node .leaf 306 c_plan_driver_stop .leaf) 307 c_slices_siftDownCmpFunc_Found (.node .leaf 308 c_slices_medianAdjacentCmpFunc_Found .leaf))) 309 c_slices_medianCmpFunc_Found (.node (.node (.node (.node .leaf 310 c_slices_order2CmpFunc_Sweep .leaf) 311 c_slices_rotateCmpFunc_Blob .leaf) 312 c_slices_order2CmpFunc_Found (.node .leaf 313 c_slices_swapRangeCmpFunc_Blob .leaf)) 2588 c_plan_judge_verify_r1 (.node (.node .leaf 3628 c_slices_AppendSeq_int64_r1 .leaf) 3772 c_curve_Pieces_r1 (.node .leaf 4124 c_curve_Near_r1 .leaf))))))))
theorem tree_eq : tree.list = L := by kernel_rfl
theorem L_nodup : nodupB (L.map (·.1)) = true := by kernel_rfl
theorem Cs_none : (Cs.all fun c => (L.lookup c.1).isNone) = true := by kernel_rfl

end Go.NilRun
