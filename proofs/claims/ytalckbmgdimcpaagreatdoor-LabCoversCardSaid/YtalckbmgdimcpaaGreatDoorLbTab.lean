/- This text lists functions of this seat's program, compiled for the evaluator; no condition. -/
import Derived.Test.YtalckbmgdimcpaaGreatDoorEx3
import Derived.KernelRfl
set_option linter.unusedVariables false
namespace Go.LbRun
open Go Go.Eng
instance : GlobP := ⟨fun g => if g == 0 then some [(.int .u64 1),(.int .u64 10),(.int .u64 100),(.int .u64 1000),(.int .u64 10000),(.int .u64 100000),(.int .u64 1000000),(.int .u64 10000000),(.int .u64 100000000),(.int .u64 1000000000),(.int .u64 10000000000),(.int .u64 100000000000),(.int .u64 1000000000000),(.int .u64 10000000000000),(.int .u64 100000000000000),(.int .u64 1000000000000000),(.int .u64 10000000000000000),(.int .u64 100000000000000000),(.int .u64 1000000000000000000),(.int .u64 10000000000000000000)] else none⟩
def an : Ann := anOf [43,44,74,96,97,98,99,100,101,103,104,126,129,130,171,209,234,241,242,246,248] [30,31,32,44,87,88,132,170]
abbrev f_kerbstonelaw10_LabFails : Nat := 5
def c_kerbstonelaw10_LabFails : CFn := { frz := true,rnd := none,nargs := 3,ntmps := 79,res := [(.slot 6)],code :=
  (sQ (rG 3 [o1 0 3 (.box 0 4 (.s 0)),o1 1 4 (.box 1 4 (.s 1)),o1 2 5 (.box 2 2 (.s 2)),mB 3 6 false] [3,4,5])
  (sQ (sQ (rG 0 [fA 0 13 0 3,lF 1 14 13,lN 2 15 14,bI 3 16 .gtr 15 30,mS 4 17 16,oG 5 18 17 false (.faddr 0 (.s 4)),oG 6 19 17 false (.load false 1 (.s 18)),oG 7 20 17 false (.len (.s 19)),oG 8 21 17 false (.bin .gtr (.s 20) (kI 30)),o1 9 22 (.pick (.s 17) (kB true) (.s 21))] [22,3,4,5])
  (.cond (.s 22) (sQ (rG 0 [cA 0 23 9 [],mS 1 6 23] [6])
  .ret)
  .skip))
  (sQ (rG 1 [o1 0 24 (.lit 0 11 [] []),fA 1 25 0 3,lF 2 26 25,o1 3 27 (.append 11 88 (.s 24) (.s 26)),mS 4 7 27] [5,4,7,3])
  (sQ (rG 0 [lT 0 29 4 3,lT 1 30 2 5,cA 2 31 15 [(.s 29),(.s 30)],mS 3 28 31,eX 4 32 28 0,eX 5 33 28 1,mS 6 8 32,mS 7 9 33] [5,4,8,9,7,3])
  (sQ (rG 0 [lT 0 35 4 3,lT 1 36 2 5,cA 2 37 16 [(.s 35),(.s 36)],mS 3 34 37,eX 4 38 34 0,eX 5 39 34 1,mS 6 10 38,mS 7 11 39] [4,8,10,9,11,7,3])
  (sQ (rG 1 [lT 0 40 4 3,lT 1 41 4 4,⟨2,(some 42),none,.lit 0 4 [[.nilslice,.nilslice,(.str ⟨#[]⟩),(.str ⟨#[]⟩)],[.nilslice,.nilslice,(.str ⟨#[]⟩),(.str ⟨#[]⟩)]] [(0,(.s 40)),(1,(.s 41))]⟩,mS 3 12 42] [8,10,9,11,12,7,3])
  (sQ (.region 0 [mS 0 43 8,mS 1 44 10,bS 2 45 .eql 43 44,mS 3 46 45,oG 4 47 46 true (.mv (.s 9)),oG 5 48 46 true (.mv (.s 11)),oG 6 49 46 true (.eqb false (.s 47) (.s 48)),o1 7 50 (.pick (.s 46) (.s 49) (kB false)),mS 8 51 50,oG 9 52 51 true (.load true 4 (.s 3)),oG 11 54 51 true (.load true 4 (.s 3)),⟨10,(some 53),(some (51,true)),.call ⟨true⟩ (.k (.c (.fn 18 [] []))) [(.s 52)]⟩,⟨12,(some 55),(some (51,true)),.call ⟨true⟩ (.k (.c (.fn 19 [] []))) [(.s 54)]⟩,⟨13,(some 56),(some (51,true)),.call ⟨true⟩ (.k (.c (.fn 17 [] []))) [(.s 53),(.s 55)]⟩,o1 14 57 (.pick (.s 51) (.s 56) (kB false)),mS 15 58 57,oG 16 59 58 true (.mv (.s 12)),oG 18 61 58 true (.mv (.s 12)),⟨17,(some 60),(some (58,true)),.call ⟨true⟩ (.k (.c (.fn 20 [] []))) [(.s 59)]⟩,⟨19,(some 62),(some (58,true)),.call ⟨true⟩ (.k (.c (.fn 21 [] []))) [(.s 61)]⟩,⟨20,(some 63),(some (58,true)),.call ⟨true⟩ (.k (.c (.fn 17 [] []))) [(.s 60),(.s 62)]⟩,o1 21 64 (.pick (.s 58) (.s 63) (kB false)),mS 22 65 64,⟨23,(some 66),(some (65,true)),.call ⟨true⟩ (.k (.c (.fn 20 [] []))) [(.k (.c .nilslice))]⟩,oG 24 67 65 true (.len (.s 66)),oG 25 68 65 true (.bin .eql (.s 67) (kI 0)),o1 26 69 (.pick (.s 65) (.s 68) (kB false)),mS 27 70 69,oG 28 71 70 true (.mv (.s 7)),oG 29 72 70 true (.faddr 0 (.s 3)),oG 30 73 70 true (.load false 1 (.s 72)),⟨31,(some 74),(some (70,true)),.call ⟨true⟩ (.k (.c (.fn 22 [] []))) [(.s 71),(.s 73)]⟩,o1 32 75 (.pick (.s 70) (.s 74) (kB false)),mS 33 76 75,⟨34,(some 77),(some (76,true)),.call ⟨true⟩ (.k (.c (.fn 9 [] []))) []⟩,o1 35 78 (.pick (.s 76) (.s 77) (kB false)),mS 36 6 78] [(10,11)] (some [6]))
  .ret))))))) }
def c_kerbstonelaw10_LabCovers_l1 : CC := (sQ (sQ (rG 0 [mS 0 30 8,mS 1 31 7,lN 2 32 31,bS 3 33 .lss 30 32] [33,7,6,5,8])
  (.cond (.s 33) .skip
  (.exit 0)))
  (sQ (.block 1 (sQ (rG 0 [mS 0 36 7,mS 1 37 8,iA 2 38 1 36 37,lF 3 39 38,bI 4 40 .lss 39 0,mS 5 41 40,oG 6 42 41 false (.mv (.s 7)),oG 7 43 41 false (.mv (.s 8)),oG 8 44 41 false (.iaddr 1 (.s 42) (.s 43)),oG 9 45 41 false (.load false 1 (.s 44)),oG 10 46 41 false (.bin .gtr (.s 45) (kI 71)),o1 11 47 (.pick (.s 41) (kB true) (.s 46)),mS 12 48 47,oG 13 49 48 false (.mv (.s 8)),oG 14 50 48 false (.bin .gtr (.s 49) (kI 0)),oG 15 51 48 false (.mv (.s 50)),oG 16 52 51 true (.mv (.s 7)),oG 17 53 51 true (.mv (.s 8)),oG 18 54 51 true (.iaddr 1 (.s 52) (.s 53)),oG 20 56 51 true (.mv (.s 7)),oG 21 57 51 true (.mv (.s 8)),oG 22 58 51 true (.bin .sub (.s 57) (kI 1)),oG 23 59 51 true (.iaddr 1 (.s 56) (.s 58)),oG 19 55 51 true (.load false 1 (.s 54)),oG 24 60 51 true (.load false 1 (.s 59)),oG 25 61 51 true (.bin .leq (.s 55) (.s 60)),oG 26 62 48 false (.pick (.s 51) (.s 61) (kB false)),o1 27 63 (.pick (.s 48) (kB true) (.s 62)),mS 28 64 63,oG 29 65 64 false (.mv (.s 5)),oG 30 66 64 false (.mv (.s 7)),oG 31 67 64 false (.mv (.s 8)),oG 32 68 64 false (.iaddr 1 (.s 66) (.s 67)),oG 33 69 64 false (.load false 1 (.s 68)),⟨34,(some 70),(some (64,false)),.call ⟨true⟩ (.k (.c (.fn 23 [] []))) [(.s 65),(.s 69)]⟩,oG 35 71 64 false (.un .not (.s 70)),oG 36 72 64 false (.mv (.s 71)),oG 37 73 72 true (.mv (.s 6)),oG 38 74 72 true (.mv (.s 7)),oG 39 75 72 true (.mv (.s 8)),oG 40 76 72 true (.iaddr 1 (.s 74) (.s 75)),oG 41 77 72 true (.load false 1 (.s 76)),⟨42,(some 78),(some (72,true)),.call ⟨true⟩ (.k (.c (.fn 23 [] []))) [(.s 73),(.s 77)]⟩,oG 43 79 72 true (.un .not (.s 78)),oG 44 80 64 false (.pick (.s 72) (.s 79) (kB false)),o1 45 81 (.pick (.s 64) (kB true) (.s 80))] [81,7,6,5,8])
  (.cond (.s 81) (sQ (rG 0 [mB 0 4 false] [4])
  .ret)
  .skip)))
  (rG 0 [mS 0 34 8,bI 1 35 .add 34 1,mS 2 8 35] [5,6,7,8])))
def c_kerbstonelaw10_LabCovers_l2 : CC := (sQ (sQ (rG 0 [mS 0 82 9,mS 1 83 5,lN 2 84 83,bS 3 85 .lss 82 84] [85,5,7,6,9])
  (.cond (.s 85) .skip
  (.exit 2)))
  (sQ (.block 3 (sQ (rG 0 [mS 0 88 7,mS 1 89 5,mS 2 90 9,iA 3 91 1 89 90,lF 4 92 91,cA 5 93 23 [(.s 88),(.s 92)],o1 6 94 (.un .not (.s 93))] [94,5,7,6,9])
  (.cond (.s 94) (sQ (rG 0 [mB 0 4 false] [4])
  .ret)
  .skip)))
  (rG 0 [mS 0 86 9,bI 1 87 .add 86 1,mS 2 9 87] [6,7,5,9])))
def c_kerbstonelaw10_LabCovers_l3 : CC := (sQ (sQ (rG 0 [mS 0 95 10,mS 1 96 6,lN 2 97 96,bS 3 98 .lss 95 97] [98,6,7,10])
  (.cond (.s 98) .skip
  (.exit 4)))
  (sQ (.block 5 (sQ (rG 0 [mS 0 101 7,mS 1 102 6,mS 2 103 10,iA 3 104 1 102 103,lF 4 105 104,cA 5 106 23 [(.s 101),(.s 105)],o1 6 107 (.un .not (.s 106))] [107,6,7,10])
  (.cond (.s 107) (sQ (rG 0 [mB 0 4 false] [4])
  .ret)
  .skip)))
  (rG 0 [mS 0 99 10,bI 1 100 .add 99 1,mS 2 10 100] [7,6,10])))
abbrev f_kerbstonelaw10_LabCovers : Nat := 6
def c_kerbstonelaw10_LabCovers : CFn := { frz := true,rnd := none,nargs := 2,ntmps := 109,res := [(.slot 4)],code :=
  (sQ (rG 2 [o1 0 2 (.box 0 4 (.s 0)),o1 1 3 (.box 1 4 (.s 1)),mB 2 4 false] [3,2])
  (sQ (sQ (rG 0 [fA 0 11 0 2,lF 1 12 11,lN 2 13 12,bI 3 14 .gtr 13 30,mS 4 15 14,oG 5 16 15 false (.faddr 0 (.s 3)),oG 6 17 15 false (.load false 1 (.s 16)),oG 7 18 15 false (.len (.s 17)),oG 8 19 15 false (.bin .gtr (.s 18) (kI 30)),o1 9 20 (.pick (.s 15) (kB true) (.s 19))] [20,3,2])
  (.cond (.s 20) (sQ (rG 0 [cA 0 21 9 [],mS 1 4 21] [4])
  .ret)
  .skip))
  (sQ (.region 1 [lT 0 22 4 2,lT 2 24 4 3,lT 4 26 4 2,lT 5 27 4 3,cA 1 23 18 [(.s 22)],cA 3 25 18 [(.s 24)],⟨6,(some 28),none,.lit 0 4 [[.nilslice,.nilslice,(.str ⟨#[]⟩),(.str ⟨#[]⟩)],[.nilslice,.nilslice,(.str ⟨#[]⟩),(.str ⟨#[]⟩)]] [(0,(.s 26)),(1,(.s 27))]⟩,cA 7 29 20 [(.s 28)],mS 8 5 23,mS 9 6 25,mS 10 7 29] [(0,6),(1,4),(1,6),(2,4),(2,5),(3,4),(3,5),(4,6),(5,6)] (some [5,6,7]))
  (sQ (sQ (rG 0 [mI 0 8 0] [5,6,7,8])
  (.block 0 (.loop (some [5,6,7,8]) c_kerbstonelaw10_LabCovers_l1)))
  (sQ (sQ (rG 0 [mI 0 9 0] [6,7,5,9])
  (.block 2 (.loop (some [6,7,5,9]) c_kerbstonelaw10_LabCovers_l2)))
  (sQ (sQ (rG 0 [mI 0 10 0] [7,6,10])
  (.block 4 (.loop (some [7,6,10]) c_kerbstonelaw10_LabCovers_l3)))
  (sQ (rG 0 [cA 0 108 9 [],mS 1 4 108] [4])
  .ret))))))) }
abbrev f_kerbstonelaw10_awake : Nat := 9
def c_kerbstonelaw10_awake : CFn := { frz := true,rnd := none,nargs := 0,ntmps := 33,res := [(.slot 0)],code :=
  (sQ (rG 0 [mB 0 0 false] [])
  (sQ (rG 0 [cA 0 6 25 [],cA 1 7 24 [(.s 6)],mS 2 5 7,eX 3 8 5 0,eX 4 9 5 1,mS 5 1 8,mS 6 2 9] [2,1])
  (sQ (rG 1 [o1 0 11 (.build [(I 0),(I 0),(I 0),(I 0),(I 0),(I 0),(I 0),(I 0),(I 0),(I 0),(I 0)] [(1,1,(kI 1))]),o1 1 12 (.build [(I 0),(I 0),(I 0),(I 0),(I 0),(I 0),(I 0),(I 0),(I 0),(I 0),(I 0)] [(1,1,(kI 2))]),o1 2 13 (.lit 0 11 [[(I 0),(I 0),(I 0),(I 0),(I 0),(I 0),(I 0),(I 0),(I 0),(I 0),(I 0)],[(I 0),(I 0),(I 0),(I 0),(I 0),(I 0),(I 0),(I 0),(I 0),(I 0),(I 0)]] [(0,(.s 11)),(1,(.s 12))]),⟨3,(some 14),none,.build [.nilslice,.nilslice,(.str ⟨#[]⟩),(.str ⟨#[]⟩)] [(0,1,(.s 13))]⟩,o1 4 15 (.build [(I 0),(I 0)] [(0,1,(kI 3))]),cA 5 16 15 [(.s 14),(.s 15)],mS 6 10 16,eX 7 17 10 0,eX 8 18 10 1,mS 9 3 17,mS 10 4 18] [2,1,3,4])
  (sQ (rG 0 [mS 0 19 2,bI 1 20 .eql 19 0,mS 2 21 20,oG 3 22 21 true (.mv (.s 1)),⟨4,(some 23),(some (21,true)),.call ⟨true⟩ (.k (.c (.fn 26 [] []))) []⟩,oG 5 24 21 true (.p2 (.str .eql) (.s 22) (.s 23)),o1 6 25 (.pick (.s 21) (.s 24) (kB false)),mS 7 26 25,oG 8 27 26 true (.mv (.s 3)),oG 9 28 26 true (.bin .eql (.s 27) (kI 1)),o1 10 29 (.pick (.s 26) (.s 28) (kB false)),mS 11 30 29,oG 12 31 30 true (.mv (.s 4)),o1 13 32 (.pick (.s 30) (.s 31) (kB false)),mS 14 0 32] [0])
  .ret)))) }
def c_lab_Fails_l1 : CC := (sQ (rG 0 [bS 0 21 .lss 20 19] [21,2,6,18,19,20])
  (sQ (.cond (.s 21) .skip
  (.exit 0))
  (sQ (.block 1 (sQ (rG 1 [mS 0 22 20,iA 1 23 11 18 20,lT 2 24 11 23,o1 3 9 (.box 0 11 (.k (.a [(I 0),(I 0),(I 0),(I 0),(I 0),(I 0),(I 0),(I 0),(I 0),(I 0),(I 0)]))),mS 4 8 22,o0 5 (.store 11 (.s 9) (.s 24))] [9,2,6,18,19,20,8])
  (sQ (rG 0 [mS 0 25 6,lT 1 26 11 9,mS 2 27 8,fA 3 28 0 2,lF 4 29 28,lN 5 30 29,bI 6 31 .sub 30 1,bS 7 32 .eql 27 31,⟨8,(some 33),none,.call ⟨true⟩ (.s 25) [(.s 26),(.s 32)]⟩] [33,2,6,18,19,20,8])
  (.cond (.s 33) (sQ (rG 0 [mS 0 34 8,mS 1 4 34,mB 2 5 true] [4,5])
  .ret)
  .skip))))
  (rG 0 [bI 0 35 .add 20 1,mS 1 20 35] [19,18,6,2,20]))))
abbrev f_lab_Fails : Nat := 15
def c_lab_Fails : CFn := { frz := true,rnd := none,nargs := 2,ntmps := 36,res := [(.slot 4),(.slot 5)],code :=
  (sQ (rG 2 [o1 0 2 (.box 0 4 (.s 0)),o1 1 3 (.box 1 2 (.s 1)),mI 2 4 0,mB 3 5 false] [3,2])
  (sQ (rG 0 [lT 0 11 2 3,cA 1 12 40 [(.s 11)],mS 2 10 12,eX 3 13 10 0,eX 4 14 10 1,mS 5 6 13,mS 6 7 14] [7,2,6])
  (sQ (sQ (rG 0 [mS 0 15 7,o1 1 16 (.un .not (.s 15))] [16,2,6])
  (.cond (.s 16) (sQ (rG 0 [mI 0 4 0,mB 1 5 false] [4,5])
  .ret)
  .skip))
  (sQ (sQ (rG 0 [fA 0 17 0 2,lF 1 18 17,lN 2 19 18,mI 3 20 0] [19,18,6,2,20])
  (.block 0 (.loop (some [19,18,6,2,20]) c_lab_Fails_l1)))
  (sQ (rG 0 [mI 0 4 0,mB 1 5 false] [4,5])
  .ret))))) }
def c_kerbstoneref10_Fails_l1 : CC := (sQ (sQ (rG 0 [mS 0 7 6,fA 1 8 0 2,lF 2 9 8,lN 3 10 9,bS 4 11 .lss 7 10] [11,3,2,6])
  (.cond (.s 11) .skip
  (.exit 0)))
  (sQ (.block 1 (sQ (rG 0 [lT 0 14 4 2,mS 1 15 6,lT 2 16 2 3,cA 3 17 41 [(.s 14),(.s 15),(.s 16)]] [17,3,2,6])
  (.cond (.s 17) (sQ (rG 0 [mS 0 18 6,mS 1 4 18,mB 2 5 true] [4,5])
  .ret)
  .skip)))
  (rG 0 [mS 0 12 6,bI 1 13 .add 12 1,mS 2 6 13] [2,3,6])))
abbrev f_kerbstoneref10_Fails : Nat := 16
def c_kerbstoneref10_Fails : CFn := { frz := true,rnd := none,nargs := 2,ntmps := 19,res := [(.slot 4),(.slot 5)],code :=
  (sQ (rG 2 [o1 0 2 (.box 0 4 (.s 0)),o1 1 3 (.box 1 2 (.s 1)),mI 2 4 0,mB 3 5 false] [2,3])
  (sQ (sQ (rG 0 [mI 0 6 0] [2,3,6])
  (.block 0 (.loop (some [2,3,6]) c_kerbstoneref10_Fails_l1)))
  (sQ (rG 0 [mI 0 4 0,mB 1 5 false] [4,5])
  .ret))) }
def c_kerbstonekit_SameInts_l1 : CC := (sQ (sQ (rG 0 [mS 0 6 5,mS 1 7 0,lN 2 8 7,bS 3 9 .lss 6 8,mS 4 10 9,oG 5 11 10 true (.mv (.s 5)),oG 6 12 10 true (.mv (.s 1)),oG 7 13 10 true (.len (.s 12)),oG 8 14 10 true (.bin .lss (.s 11) (.s 13)),o1 9 15 (.pick (.s 10) (.s 14) (kB false))] [15,1,0,5])
  (.cond (.s 15) .skip
  (.exit 0)))
  (sQ (.block 1 (sQ (rG 0 [mS 0 18 0,mS 1 19 5,iA 2 20 1 18 19,mS 4 22 1,mS 5 23 5,iA 6 24 1 22 23,lF 3 21 20,lF 7 25 24,bS 8 26 .neq 21 25] [26,1,0,5])
  (.cond (.s 26) (sQ (rG 0 [mB 0 4 false] [4])
  .ret)
  .skip)))
  (rG 0 [mS 0 16 5,bI 1 17 .add 16 1,mS 2 5 17] [0,1,5])))
abbrev f_kerbstonekit_SameInts : Nat := 17
def c_kerbstonekit_SameInts : CFn := { frz := true,rnd := none,nargs := 2,ntmps := 32,res := [(.slot 4)],code :=
  (sQ (rG 0 [mB 0 4 false] [0,1])
  (sQ (sQ (rG 0 [mI 0 5 0] [0,1,5])
  (.block 0 (.loop (some [0,1,5]) c_kerbstonekit_SameInts_l1)))
  (sQ (rG 0 [mS 0 27 0,lN 1 28 27,mS 2 29 1,lN 3 30 29,bS 4 31 .eql 28 30,mS 5 4 31] [4])
  .ret))) }
def c_lab_Situations_l1 : CC := (sQ (rG 0 [bS 0 12 .lss 11 10] [12,3,11,10,9])
  (sQ (.cond (.s 12) .skip
  (.exit 0))
  (sQ (.block 1 (sQ (rG 1 [iA 0 13 11 9 11,lT 1 14 11 13,o1 2 5 (.box 0 11 (.k (.a [(I 0),(I 0),(I 0),(I 0),(I 0),(I 0),(I 0),(I 0),(I 0),(I 0),(I 0)]))),o0 3 (.store 11 (.s 5) (.s 14))] [5,3,11,10,9])
  (sQ (rG 0 [lT 0 16 11 5,cA 1 17 42 [(.s 16)],mS 2 15 17,eX 3 18 15 0,eX 4 19 15 1,mS 5 6 18,mS 6 7 19] [7,3,6,11,10,9])
  (sQ (rG 0 [mS 0 20 7] [20,3,6,11,10,9])
  (.cond (.s 20) (rG 1 [mS 0 21 3,mS 1 22 6,o1 2 23 (.lit 0 1 [[(I 0)]] [(0,(.s 22))]),o1 3 24 (.append 1 8 (.s 21) (.s 23)),mS 4 3 24] [11,3,10,9])
  .skip)))))
  (rG 0 [bI 0 25 .add 11 1,mS 1 11 25] [3,11,10,9]))))
abbrev f_lab_Situations : Nat := 18
def c_lab_Situations : CFn := { frz := true,rnd := none,nargs := 1,ntmps := 30,res := [(.slot 2)],code :=
  (sQ (rG 2 [o1 0 1 (.box 0 4 (.s 0)),o1 1 2 (.newsl 1 1)] [1])
  (sQ (rG 1 [o1 0 3 (.newsl 0 1)] [1,3])
  (sQ (sQ (rG 0 [fA 0 8 0 1,lF 1 9 8,lN 2 10 9,mI 3 11 0] [3,11,10,9])
  (.block 0 (.loop (some [3,11,10,9]) c_lab_Situations_l1)))
  (sQ (rG 0 [mS 0 26 3,⟨1,(some 27),none,.call ⟨false⟩ (.k (.c (.fn 43 [] []))) [(.s 26)]⟩] [3])
  (sQ (rG 0 [mS 0 28 3,⟨1,(some 29),none,.call ⟨false⟩ (.k (.c (.fn 44 [] []))) [(.s 28)]⟩,mS 2 2 29] [2])
  .ret))))) }
abbrev f_kerbstoneref10_Situations : Nat := 19
def c_kerbstoneref10_Situations : CFn := { frz := true,rnd := none,nargs := 1,ntmps := 6,res := [(.slot 2)],code :=
  (sQ (rG 2 [o1 0 1 (.box 0 4 (.s 0)),o1 1 2 (.newsl 1 1)] [1])
  (sQ (rG 1 [lT 0 3 4 1,⟨1,(some 4),none,.lit 0 4 [[.nilslice,.nilslice,(.str ⟨#[]⟩),(.str ⟨#[]⟩)]] [(0,(.s 3))]⟩,cA 2 5 21 [(.s 4)],mS 3 2 5] [2])
  .ret)) }
def c_lab_Cover_l1 : CC := (sQ (rG 0 [bS 0 9 .lss 8 7] [9,8,7,6,3])
  (sQ (.cond (.s 9) .skip
  (.exit 0))
  (sQ (.block 1 (sQ (rG 1 [iA 0 10 4 6 8,lT 1 11 4 10,⟨2,(some 5),none,.box 0 4 (.k (.a [.nilslice,.nilslice,(.str ⟨#[]⟩),(.str ⟨#[]⟩)]))⟩,o0 3 (.store 4 (.s 5) (.s 11))] [5,8,7,6,3])
  (rG 0 [fA 0 12 0 3,lF 1 13 12,fA 2 14 0 5,lF 3 15 14,o1 4 16 (.append 11 88 (.s 13) (.s 15)),fA 5 17 0 3,o0 6 (.store 1 (.s 17) (.s 16))] [8,7,6,3])))
  (rG 0 [bI 0 18 .add 8 1,mS 1 8 18] [8,7,6,3]))))
abbrev f_lab_Cover : Nat := 20
def c_lab_Cover : CFn := { frz := true,rnd := none,nargs := 1,ntmps := 21,res := [(.slot 2)],code :=
  (sQ (rG 1 [o1 0 2 (.newsl 0 1)] [0])
  (sQ (rG 1 [⟨0,(some 3),none,.box 0 4 (.k (.a [.nilslice,.nilslice,(.str ⟨#[]⟩),(.str ⟨#[]⟩)]))⟩] [0,3])
  (sQ (sQ (rG 0 [mS 0 6 0,lN 1 7 6,mI 2 8 0] [8,7,6,3])
  (.block 0 (.loop (some [8,7,6,3]) c_lab_Cover_l1)))
  (sQ (rG 0 [lT 0 19 4 3,cA 1 20 18 [(.s 19)],mS 2 2 20] [2])
  .ret)))) }
def c_kerbstoneref10_Cover_l1 : CC := (sQ (sQ (rG 0 [mS 0 15 5,mS 1 16 0,mS 2 17 4,iA 3 18 4 16 17,fA 4 19 0 18,lF 5 20 19,lN 6 21 20,bS 7 22 .lss 15 21] [22,5,0,4,3])
  (.cond (.s 22) .skip
  (.exit 2)))
  (sQ (.block 3 (sQ (rG 0 [mS 0 25 0,mS 1 26 4,iA 2 27 4 25 26,fA 3 28 0 27,lF 4 29 28,mS 5 30 5,iA 6 31 11 29 30,lT 7 32 11 31,cA 8 33 45 [(.s 32)],mS 9 6 33] [6,5,0,4,3])
  (sQ (rG 0 [mS 0 34 6,bI 1 35 .geq 34 0] [35,6,5,0,4,3])
  (.cond (.s 35) (rG 0 [mS 0 36 6,o1 1 37 (.aaddr 72 1 (.s 3) (.s 36)),o0 2 (.store 1 (.s 37) (kB true))] [5,0,4,3])
  .skip))))
  (rG 0 [mS 0 23 5,bI 1 24 .add 23 1,mS 2 5 24] [5,0,4,3])))
def c_kerbstoneref10_Cover_l2 : CC := (sQ (sQ (rG 0 [mS 0 9 4,mS 1 10 0,lN 2 11 10,bS 3 12 .lss 9 11] [12,0,4,3])
  (.cond (.s 12) .skip
  (.exit 0)))
  (sQ (.block 1 (sQ (rG 0 [mI 0 5 0] [5,0,4,3])
  (.block 2 (.loop (some [5,0,4,3]) c_kerbstoneref10_Cover_l1))))
  (rG 0 [mS 0 13 4,bI 1 14 .add 13 1,mS 2 4 14] [0,4,3])))
def c_kerbstoneref10_Cover_l3 : CC := (sQ (sQ (rG 0 [mS 0 38 8,bI 1 39 .lss 38 72] [39,7,8,3])
  (.cond (.s 39) .skip
  (.exit 4)))
  (sQ (.block 5 (sQ (rG 0 [mS 0 42 8,o1 1 43 (.aaddr 72 1 (.s 3) (.s 42)),lF 2 44 43] [44,7,8,3])
  (.cond (.s 44) (rG 1 [mS 0 45 7,mS 1 46 8,o1 2 47 (.lit 0 1 [[(I 0)]] [(0,(.s 46))]),o1 3 48 (.append 1 8 (.s 45) (.s 47)),mS 4 7 48] [8,7,3])
  .skip)))
  (rG 0 [mS 0 40 8,bI 1 41 .add 40 1,mS 2 8 41] [7,8,3])))
abbrev f_kerbstoneref10_Cover : Nat := 21
def c_kerbstoneref10_Cover : CFn := { frz := true,rnd := none,nargs := 1,ntmps := 50,res := [(.slot 2)],code :=
  (sQ (rG 1 [o1 0 2 (.newsl 0 1)] [0])
  (sQ (rG 1 [o1 0 3 (.box 0 72 (.k (.a [(.bool false),(.bool false),(.bool false),(.bool false),(.bool false),(.bool false),(.bool false),(.bool false),(.bool false),(.bool false),(.bool false),(.bool false),(.bool false),(.bool false),(.bool false),(.bool false),(.bool false),(.bool false),(.bool false),(.bool false),(.bool false),(.bool false),(.bool false),(.bool false),(.bool false),(.bool false),(.bool false),(.bool false),(.bool false),(.bool false),(.bool false),(.bool false),(.bool false),(.bool false),(.bool false),(.bool false),(.bool false),(.bool false),(.bool false),(.bool false),(.bool false),(.bool false),(.bool false),(.bool false),(.bool false),(.bool false),(.bool false),(.bool false),(.bool false),(.bool false),(.bool false),(.bool false),(.bool false),(.bool false),(.bool false),(.bool false),(.bool false),(.bool false),(.bool false),(.bool false),(.bool false),(.bool false),(.bool false),(.bool false),(.bool false),(.bool false),(.bool false),(.bool false),(.bool false),(.bool false),(.bool false),(.bool false)])))] [0,3])
  (sQ (sQ (rG 0 [mI 0 4 0] [0,4,3])
  (.block 0 (.loop (some [0,4,3]) c_kerbstoneref10_Cover_l2)))
  (sQ (rG 1 [o1 0 7 (.newsl 0 1)] [7,3])
  (sQ (sQ (rG 0 [mI 0 8 0] [7,8,3])
  (.block 4 (.loop (some [7,8,3]) c_kerbstoneref10_Cover_l3)))
  (sQ (rG 0 [mS 0 49 7,mS 1 2 49] [2])
  .ret)))))) }
def c_kerbstonekit_SameFrames_l1 : CC := (sQ (sQ (rG 0 [mS 0 11 5,mS 1 12 0,lN 2 13 12,bS 3 14 .lss 11 13] [14,1,0,5])
  (.cond (.s 14) .skip
  (.exit 0)))
  (sQ (.block 1 (sQ (rG 0 [mS 0 17 0,mS 1 18 5,iA 2 19 11 17 18,mS 4 21 1,mS 5 22 5,iA 6 23 11 21 22,lT 3 20 11 19,lT 7 24 11 23,o1 8 25 (.eqa true [false,false,false,false,false,false,false,false,false,false,false] (.s 20) (.s 24))] [25,1,0,5])
  (.cond (.s 25) (sQ (rG 0 [mB 0 4 false] [4])
  .ret)
  .skip)))
  (rG 0 [mS 0 15 5,bI 1 16 .add 15 1,mS 2 5 16] [0,1,5])))
abbrev f_kerbstonekit_SameFrames : Nat := 22
def c_kerbstonekit_SameFrames : CFn := { frz := true,rnd := none,nargs := 2,ntmps := 26,res := [(.slot 4)],code :=
  (sQ (rG 0 [mB 0 4 false] [1,0])
  (sQ (sQ (rG 0 [mS 0 6 0,lN 1 7 6,mS 2 8 1,lN 3 9 8,bS 4 10 .neq 7 9] [10,1,0])
  (.cond (.s 10) (sQ (rG 0 [mB 0 4 false] [4])
  .ret)
  .skip))
  (sQ (sQ (rG 0 [mI 0 5 0] [0,1,5])
  (.block 0 (.loop (some [0,1,5]) c_kerbstonekit_SameFrames_l1)))
  (sQ (rG 0 [mB 0 4 true] [4])
  .ret)))) }
def c_kerbstonekit_HasInt_l1 : CC := (sQ (sQ (rG 0 [mS 0 6 5,mS 1 7 0,lN 2 8 7,bS 3 9 .lss 6 8] [9,1,0,5])
  (.cond (.s 9) .skip
  (.exit 0)))
  (sQ (.block 1 (sQ (rG 0 [mS 0 12 0,mS 1 13 5,iA 2 14 1 12 13,lF 3 15 14,mS 4 16 1,bS 5 17 .eql 15 16] [17,1,0,5])
  (.cond (.s 17) (sQ (rG 0 [mB 0 4 true] [4])
  .ret)
  .skip)))
  (rG 0 [mS 0 10 5,bI 1 11 .add 10 1,mS 2 5 11] [0,1,5])))
abbrev f_kerbstonekit_HasInt : Nat := 23
def c_kerbstonekit_HasInt : CFn := { frz := true,rnd := none,nargs := 2,ntmps := 18,res := [(.slot 4)],code :=
  (sQ (rG 0 [mB 0 4 false] [0,1])
  (sQ (sQ (rG 0 [mI 0 5 0] [0,1,5])
  (.block 0 (.loop (some [0,1,5]) c_kerbstonekit_HasInt_l1)))
  (sQ (rG 0 [mB 0 4 false] [4])
  .ret))) }
abbrev f_lab_Text : Nat := 24
def c_lab_Text : CFn := { frz := true,rnd := none,nargs := 1,ntmps := 12,res := [(.slot 2),(.slot 3)],code :=
  (sQ (rG 1 [o1 0 1 (.box 0 18 (.s 0)),⟨1,(some 2),none,.mv (.k (.c (.str ⟨#[]⟩)))⟩,mI 2 3 0] [1])
  (sQ (sQ (rG 0 [lT 0 5 18 1,cA 1 6 46 [(.s 5)],mS 2 4 6] [1,4])
  (sQ (rG 0 [mS 0 7 4,bI 1 8 .neq 7 0] [8,1,4])
  (.cond (.s 8) (sQ (rG 0 [mS 0 9 4,⟨1,(some 2),none,.mv (.k (.c (.str ⟨#[]⟩)))⟩,mS 2 3 9] [2,3])
  .ret)
  .skip)))
  (sQ (rG 0 [lT 0 10 18 1,cA 1 11 47 [(.s 10)],mS 2 2 11,mI 3 3 0] [2,3])
  .ret))) }
abbrev f_kerbstonelaw10_shown : Nat := 25
def c_kerbstonelaw10_shown : CFn := { frz := true,rnd := none,nargs := 0,ntmps := 14,res := [(.cell 0 true 18)],code :=
  (sQ (rG 1 [o1 0 0 (.box 0 18 (.k (.a [(I 0),.nilslice,.nilslice,.nilslice,.nilslice,(I 0),(I 0),(I 0),(I 0),(I 0),.nilslice,(I 0),(I 0),(.bool false),(I 0),(I 0),(I 0),.nilslice])))] [0])
  (sQ (rG 1 [cA 0 2 48 [],o1 1 1 (.box 0 5 (.k (.a [(I 0),.nilslice,.nilslice,.nilslice,.nilslice]))),o0 2 (.store 5 (.s 1) (.s 2))] [1,0])
  (sQ (rG 0 [fA 0 3 1 1,lF 1 4 3,o1 2 5 (.slice 5 (.s 4) none (some (kI 1)) none),fA 3 6 1 1,o0 4 (.store 1 (.s 6) (.s 5)),fA 5 7 2 1,o0 6 (.store 1 (.s 7) (.k (.c .nilslice)))] [1,0])
  (sQ (rG 2 [lT 0 8 5 1,o1 1 9 (.build [(I 0),(I 0),(I 0),(I 0),(I 0)] [(0,1,(kI 4000)),(1,1,(kI 20)),(2,1,(kI 60)),(3,1,(kI 30))]),o1 2 10 (.lit 0 1 [[(I 0)]] [(0,(kI 0))]),o1 3 11 (.build [.nilslice,(I 0),(I 0),(I 0),(I 0),(.bool false),(.bool false)] [(0,1,(.s 10)),(1,1,(kI 10000)),(3,1,(kI 4000))]),o1 4 12 (.lit 1 7 [[.nilslice,(I 0),(I 0),(I 0),(I 0),(.bool false),(.bool false)]] [(0,(.s 11))]),o1 5 13 (.build [(I 0),.nilslice,.nilslice,.nilslice,.nilslice,(I 0),(I 0),(I 0),(I 0),(I 0),.nilslice,(I 0),(I 0),(.bool false),(I 0),(I 0),(I 0),.nilslice] [(0,5,(.s 8)),(5,5,(.s 9)),(10,1,(.s 12)),(11,1,(kI 8)),(12,1,(kI 5)),(13,1,(kB true)),(14,1,(kI 3)),(15,1,(kI 60000)),(16,1,(kI 1))]),o0 6 (.store 18 (.s 0) (.s 13))] [0])
  .ret)))) }
abbrev f_kerbstonelaw10_text : Nat := 26
def c_kerbstonelaw10_text : CFn := { frz := true,rnd := none,nargs := 0,ntmps := 1,res := [(.slot 0)],code :=
  (sQ (rG 0 [⟨0,(some 0),none,.mv (.k (.c (.str ⟨#[]⟩)))⟩] [])
  (sQ (rG 0 [⟨0,(some 0),none,.mv (.k (.c (.str ⟨#[114,117,110,32,51,32,54,48,48,48,48,32,49,10,99,97,114,32,52,48,48,48,32,50,48,32,54,48,32,51,48,32,48,10,110,111,100,101,32,56,32,53,32,49,10,97,103,101,110,116,32,49,48,48,48,48,32,48,32,52,48,48,48,32,48,32,48,32,48,10]⟩)))⟩] [0])
  .ret)) }
abbrev f_roads_Copy : Nat := 29
def c_roads_Copy : CFn := { frz := true,rnd := none,nargs := 1,ntmps := 18,res := [(.cell 2 true 5)],code :=
  (sQ (rG 2 [o1 0 1 (.box 0 5 (.s 0)),o1 1 2 (.box 1 5 (.k (.a [(I 0),.nilslice,.nilslice,.nilslice,.nilslice])))] [1,2])
  (sQ (.region 0 [fA 0 3 0 1,fA 2 5 1 1,fA 5 8 2 1,fA 8 11 3 1,fA 11 14 4 1,lF 1 4 3,lF 3 6 5,lF 6 9 8,lF 9 12 11,lF 12 15 14,⟨4,(some 7),none,.call ⟨true⟩ (.k (.c (.fn 52 [] []))) [(.s 6),(.k (.c (.fn 53 [] [])))]⟩,⟨7,(some 10),none,.call ⟨true⟩ (.k (.c (.fn 54 [] []))) [(.s 9),(.k (.c (.fn 55 [] [])))]⟩,⟨10,(some 13),none,.call ⟨true⟩ (.k (.c (.fn 56 [] []))) [(.s 12),(.k (.c (.fn 57 [] [])))]⟩,⟨13,(some 16),none,.call ⟨true⟩ (.k (.c (.fn 58 [] []))) [(.s 15),(.k (.c (.fn 59 [] [])))]⟩,o1 14 17 (.build [(I 0),.nilslice,.nilslice,.nilslice,.nilslice] [(0,1,(.s 4)),(1,1,(.s 7)),(2,1,(.s 10)),(3,1,(.s 13)),(4,1,(.s 16))]),o0 15 (.store 5 (.s 2) (.s 17))] [(5,10),(5,11),(5,12),(5,13),(7,10),(8,10),(8,11),(9,10),(9,11),(9,12)] (some [2]))
  .ret)) }
abbrev f_slices_Clone_int : Nat := 32
abbrev f_lab_fails : Nat := 40
def c_lab_fails : CFn := { frz := true,rnd := none,nargs := 1,ntmps := 19,res := [(.slot 2),(.slot 3)],code :=
  (sQ (rG 1 [o1 0 1 (.box 0 2 (.s 0)),o1 1 2 (.mv (.k (.c .nilfn))),mB 2 3 false] [1])
  (sQ (rG 1 [o1 0 7 (.mlay (.mk false) 0 []),o0 1 (.mop (.set false) [(.s 7),(kI 1),(.k (.c (.fn 69 [] [])))]),o0 2 (.mop (.set false) [(.s 7),(kI 2),(.k (.c (.fn 70 [] [])))]),o0 3 (.mop (.set false) [(.s 7),(kI 3),(.k (.c (.fn 71 [] [])))]),o0 4 (.mop (.set false) [(.s 7),(kI 4),(.k (.c (.fn 72 [] [])))]),o1 5 8 (.mkfn 73 [] [(.s 1)]),o0 6 (.mop (.set false) [(.s 7),(kI 5),(.s 8)]),mS 7 9 7,mS 8 4 9] [4,1])
  (sQ (rG 0 [mS 0 11 4,fA 1 12 0 1,lF 2 13 12,o1 3 14 (.mop (.get true false (.c .nilfn)) [(.s 11),(.s 13)]),mS 4 10 14,eX 5 15 10 0,eX 6 16 10 1,mS 7 5 15,mS 8 6 16] [5,6])
  (sQ (rG 0 [mS 0 17 5,mS 1 18 6,mS 2 2 17,mS 3 3 18] [2,3])
  .ret)))) }
abbrev f_kerbstoneref10_bad : Nat := 41
def c_kerbstoneref10_bad : CFn := { frz := true,rnd := none,nargs := 3,ntmps := 50,res := [(.slot 6)],code :=
  (sQ (rG 2 [o1 0 3 (.box 0 4 (.s 0)),o1 1 5 (.box 1 2 (.s 2)),mB 2 6 false] [1,3,5])
  (sQ (rG 1 [fA 0 8 0 3,lF 1 9 8,mS 2 10 1,iA 3 11 11 9 10,lT 4 12 11 11,o1 5 7 (.box 0 11 (.k (.a [(I 0),(I 0),(I 0),(I 0),(I 0),(I 0),(I 0),(I 0),(I 0),(I 0),(I 0)]))),o0 6 (.store 11 (.s 7) (.s 12))] [1,3,5,7])
  (sQ (sQ (rG 0 [fA 0 13 0 5,lF 1 14 13] [14,1,3,5,7])
  (.block 0 (sQ (rG 0 [bI 0 16 .eql 14 1,mS 1 15 16] [15,14,1,3,5,7])
  (.cond (.s 15) (sQ (rG 0 [fA 0 17 10 7,lF 1 18 17,bI 2 19 .gtr 18 0,mS 3 6 19] [6])
  .ret)
  (sQ (rG 0 [bI 0 21 .eql 14 2,mS 1 20 21] [20,5,3,1,14,7])
  (.cond (.s 20) (sQ (rG 0 [fA 0 22 9 7,lF 1 23 22,bI 2 24 .gtr 23 0,mS 3 6 24] [6])
  .ret)
  (sQ (rG 0 [bI 0 26 .eql 14 3,mS 1 25 26] [25,14,1,3,5,7])
  (.cond (.s 25) (sQ (rG 0 [fA 0 27 1 7,lF 1 28 27,bI 2 29 .eql 28 2,mS 3 6 29] [6])
  .ret)
  (sQ (rG 0 [bI 0 31 .eql 14 4,mS 1 30 31] [30,5,3,1,14,7])
  (.cond (.s 30) (sQ (rG 0 [fA 0 32 3 7,lF 1 33 32,bI 2 34 .neq 33 0,mS 3 6 34] [6])
  .ret)
  (sQ (rG 0 [bI 0 36 .eql 14 5,mS 1 35 36] [35,1,3,7,5])
  (.cond (.s 35) (sQ (rG 0 [mS 0 37 1,fA 1 38 0 3,lF 2 39 38,lN 3 40 39,bI 4 41 .sub 40 1,bS 5 42 .eql 37 41,mS 6 43 42,oG 7 44 43 true (.faddr 6 (.s 7)),oG 8 45 43 true (.load false 1 (.s 44)),oG 9 46 43 true (.faddr 1 (.s 5)),oG 10 47 43 true (.load false 1 (.s 46)),oG 11 48 43 true (.bin .lss (.s 45) (.s 47)),o1 12 49 (.pick (.s 43) (.s 48) (kB false)),mS 13 6 49] [6])
  .ret)
  .skip))))))))))))
  (sQ (rG 0 [mB 0 6 false] [6])
  .ret)))) }
def c_lab_situation_l1 : CC := (sQ (rG 0 [bI 0 28 .lss 27 3] [28,26,4,27,1])
  (sQ (.cond (.s 28) .skip
  (.exit 0))
  (sQ (.block 1 (sQ (rG 0 [mS 0 29 27,o1 1 30 (.aidx false 3 1 (.s 26) (.s 27)),mS 2 5 29,mS 3 6 30] [6,26,4,27,5,1])
  (sQ (rG 0 [fA 0 31 7 1,lF 1 32 31,mS 2 33 6,bS 3 34 .lss 32 33] [34,26,4,27,5,1])
  (.cond (.s 34) (sQ (rG 0 [mS 0 35 5,mS 1 4 35] [4,1])
  (.exit 0))
  .skip))))
  (rG 0 [bI 0 36 .add 27 1,mS 1 27 36] [4,26,27,1]))))
abbrev f_lab_situation : Nat := 42
def c_lab_situation : CFn := { frz := true,rnd := none,nargs := 1,ntmps := 59,res := [(.slot 2),(.slot 3)],code :=
  (sQ (rG 1 [o1 0 1 (.box 0 11 (.s 0)),mI 1 2 0,mB 2 3 false] [1])
  (sQ (sQ (rG 0 [fA 0 8 1 1,lF 1 9 8,bI 2 10 .lss 9 1,mS 3 11 10,oG 4 12 11 false (.faddr 1 (.s 1)),oG 5 13 11 false (.load false 1 (.s 12)),oG 6 14 11 false (.bin .gtr (.s 13) (kI 2)),o1 7 15 (.pick (.s 11) (kB true) (.s 14)),mS 8 16 15,oG 9 17 16 false (.faddr 7 (.s 1)),oG 10 18 16 false (.load false 1 (.s 17)),oG 11 19 16 false (.bin .lss (.s 18) (kI 0)),o1 12 20 (.pick (.s 16) (kB true) (.s 19)),mS 13 21 20,oG 14 22 21 false (.faddr 8 (.s 1)),oG 15 23 21 false (.load false 1 (.s 22)),oG 16 24 21 false (.bin .lss (.s 23) (kI 0)),o1 17 25 (.pick (.s 21) (kB true) (.s 24))] [25,1])
  (.cond (.s 25) (sQ (rG 0 [mI 0 2 0,mB 1 3 false] [2,3])
  .ret)
  .skip))
  (sQ (rG 0 [mI 0 4 3] [4,1])
  (sQ (sQ (rG 0 [o1 0 26 (.build [(I 0),(I 0),(I 0)] [(0,1,(kI 1)),(1,1,(kI 500)),(2,1,(kI 1000))]),mI 1 27 0] [4,26,27,1])
  (.block 0 (.loop (some [4,26,27,1]) c_lab_situation_l1)))
  (sQ (rG 0 [mI 0 7 1] [7,4,1])
  (sQ (.block 2 (sQ (rG 0 [fA 0 38 5 1,lF 1 39 38,bI 2 40 .lss 39 0,mS 3 37 40] [37,7,4,1])
  (.cond (.s 37) (rG 0 [mI 0 7 0] [4,1,7])
  (sQ (rG 0 [fA 0 42 5 1,lF 1 43 42,bI 2 44 .gtr 43 0,mS 3 41 44] [41,7,4,1])
  (.cond (.s 41) (rG 0 [mI 0 7 2] [4,1,7])
  .skip)))))
  (sQ (rG 0 [fA 0 45 1 1,lF 1 46 45,bI 2 47 .sub 46 1,o1 3 48 (.bin .mul (kI 36) (.s 47)),mS 4 49 4,o1 5 50 (.bin .mul (kI 9) (.s 49)),bS 6 51 .add 48 50,fA 7 52 8 1,lF 8 53 52,o1 9 54 (.minmax false [(.s 53),(kI 2)]),o1 10 55 (.bin .mul (kI 3) (.s 54)),bS 11 56 .add 51 55,mS 12 57 7,bS 13 58 .add 56 57,mS 14 2 58,mB 15 3 true] [2,3])
  .ret))))))) }
abbrev f_slices_Sort_int : Nat := 43
def c_slices_Compact_int_l1 : CC := (sQ (sQ (rG 0 [mS 0 29 5,mS 1 30 4,lN 2 31 30,bS 3 32 .lss 29 31] [32,3,5,0,4])
  (.cond (.s 32) .skip
  (.exit 2)))
  (sQ (.block 3 (sQ (rG 0 [mS 0 35 4,mS 1 36 5,iA 2 37 1 35 36,mS 4 39 4,mS 5 40 5,bI 6 41 .sub 40 1,iA 7 42 1 39 41,lF 3 38 37,lF 8 43 42,bS 9 44 .neq 38 43] [44,3,5,0,4])
  (.cond (.s 44) (sQ (rG 0 [mS 0 45 0,mS 1 46 3,mS 2 47 4,mS 3 48 5,iA 4 49 1 47 48,lF 5 50 49,iA 6 51 1 45 46,o0 7 (.store 1 (.s 51) (.s 50))] [3,5,0,4])
  (rG 0 [mS 0 52 3,bI 1 53 .add 52 1,mS 2 3 53] [5,3,0,4]))
  .skip)))
  (rG 0 [mS 0 33 5,bI 1 34 .add 33 1,mS 2 5 34] [3,5,0,4])))
def c_slices_Compact_int_l2 : CC := (sQ (sQ (rG 0 [mS 0 10 3,mS 1 11 0,lN 2 12 11,bS 3 13 .lss 10 12] [13,3,0])
  (.cond (.s 13) .skip
  (.exit 0)))
  (sQ (.block 1 (sQ (rG 0 [mS 0 16 0,mS 1 17 3,iA 2 18 1 16 17,mS 4 20 0,mS 5 21 3,bI 6 22 .sub 21 1,iA 7 23 1 20 22,lF 3 19 18,lF 8 24 23,bS 9 25 .eql 19 24] [25,3,0])
  (.cond (.s 25) (sQ (rG 0 [mS 0 26 0,mS 1 27 3,o1 2 28 (.slice 1 (.s 26) (some (.s 27)) none none),mS 3 4 28] [3,0,4])
  (sQ (sQ (rG 0 [mI 0 5 1] [3,5,0,4])
  (.block 2 (.loop (some [3,5,0,4]) c_slices_Compact_int_l1)))
  (sQ (rG 0 [mS 0 54 0,mS 1 55 3,o1 2 56 (.slice 1 (.s 54) (some (.s 55)) none none),o0 3 (.clear [(I 0)] (.s 56))] [0,3])
  (sQ (rG 0 [mS 0 57 0,mS 1 58 3,o1 2 59 (.slice 1 (.s 57) none (some (.s 58)) none),mS 3 2 59] [2])
  .ret))))
  .skip)))
  (rG 0 [mS 0 14 3,bI 1 15 .add 14 1,mS 2 3 15] [3,0])))
abbrev f_slices_Compact_int : Nat := 44
def c_slices_Compact_int : CFn := { frz := false,rnd := none,nargs := 1,ntmps := 61,res := [(.slot 2)],code :=
  (sQ (rG 1 [o1 0 2 (.newsl 0 1)] [0])
  (sQ (sQ (rG 0 [mS 0 6 0,lN 1 7 6,bI 2 8 .lss 7 2] [8,0])
  (.cond (.s 8) (sQ (rG 0 [mS 0 9 0,mS 1 2 9] [2])
  .ret)
  .skip))
  (sQ (sQ (rG 0 [mI 0 3 1] [3,0])
  (.block 0 (.loop (some [3,0]) c_slices_Compact_int_l2)))
  (sQ (rG 0 [mS 0 60 0,mS 1 2 60] [2])
  .ret)))) }
abbrev f_kerbstoneref10_situation : Nat := 45
def c_kerbstoneref10_situation : CFn := { frz := true,rnd := none,nargs := 1,ntmps := 55,res := [(.slot 2)],code :=
  (sQ (rG 1 [o1 0 1 (.box 0 11 (.s 0)),mI 1 2 0] [1])
  (sQ (sQ (rG 0 [fA 0 5 1 1,lF 1 6 5,bI 2 7 .neq 6 1,mS 3 8 7,oG 4 9 8 true (.faddr 1 (.s 1)),oG 5 10 8 true (.load false 1 (.s 9)),oG 6 11 8 true (.bin .neq (.s 10) (kI 2)),o1 7 12 (.pick (.s 8) (.s 11) (kB false)),mS 8 13 12,oG 9 14 13 false (.faddr 7 (.s 1)),oG 10 15 13 false (.load false 1 (.s 14)),oG 11 16 13 false (.bin .lss (.s 15) (kI 0)),o1 12 17 (.pick (.s 13) (kB true) (.s 16)),mS 13 18 17,oG 14 19 18 false (.faddr 8 (.s 1)),oG 15 20 18 false (.load false 1 (.s 19)),oG 16 21 18 false (.bin .lss (.s 20) (kI 0)),o1 17 22 (.pick (.s 18) (kB true) (.s 21))] [22,1])
  (.cond (.s 22) (sQ (rG 0 [mI 0 2 (-1)] [2])
  .ret)
  .skip))
  (sQ (rG 0 [mI 0 3 3,mI 1 4 1] [3,4,1])
  (sQ (.block 0 (sQ (rG 0 [fA 0 24 7 1,lF 1 25 24,bI 2 26 .eql 25 0,mS 3 23 26] [23,3,4,1])
  (.cond (.s 23) (rG 0 [mI 0 3 0] [4,3,1])
  (sQ (rG 0 [fA 0 28 7 1,lF 1 29 28,bI 2 30 .lss 29 500,mS 3 27 30] [27,3,4,1])
  (.cond (.s 27) (rG 0 [mI 0 3 1] [4,3,1])
  (sQ (rG 0 [fA 0 32 7 1,lF 1 33 32,bI 2 34 .lss 33 1000,mS 3 31 34] [31,3,4,1])
  (.cond (.s 31) (rG 0 [mI 0 3 2] [4,3,1])
  .skip)))))))
  (sQ (sQ (rG 0 [fA 0 35 5 1,lF 1 36 35,bI 2 37 .lss 36 0] [37,4,3,1])
  (.cond (.s 37) (rG 0 [mI 0 4 0] [4,3,1])
  .skip))
  (sQ (sQ (rG 0 [fA 0 38 5 1,lF 1 39 38,bI 2 40 .gtr 39 0] [40,4,3,1])
  (.cond (.s 40) (rG 0 [mI 0 4 2] [3,1,4])
  .skip))
  (sQ (rG 0 [fA 0 41 1 1,lF 1 42 41,bI 2 43 .sub 42 1,o1 3 44 (.bin .mul (kI 36) (.s 43)),mS 4 45 3,o1 5 46 (.bin .mul (kI 9) (.s 45)),bS 6 47 .add 44 46,fA 7 48 8 1,lF 8 49 48,o1 9 50 (.minmax false [(.s 49),(kI 2)]),o1 10 51 (.bin .mul (kI 3) (.s 50)),bS 11 52 .add 47 51,mS 12 53 4,bS 13 54 .add 52 53,mS 14 2 54] [2])
  .ret))))))) }
def c_lab_Check_l1 : CC := (sQ (rG 0 [bS 0 72 .lss 71 70] [72,1,69,70,71])
  (sQ (.cond (.s 72) .skip
  (.exit 1))
  (sQ (.block 2 (sQ (rG 1 [iA 0 73 5 69 71,lT 1 74 5 73,o1 2 8 (.box 0 5 (.k (.a [(I 0),(I 0),(I 0),(I 0),(I 0)]))),o0 3 (.store 5 (.s 8) (.s 74))] [8,1,69,70,71])
  (sQ (rG 0 [lT 0 75 5 8,fA 1 76 10 1,lF 2 77 76,lN 3 78 77,cA 4 79 80 [(.s 75),(.s 78)],mS 5 9 79] [1,69,70,71,9])
  (sQ (rG 0 [mS 0 80 9,bI 1 81 .neq 80 0] [81,1,69,70,71,9])
  (.cond (.s 81) (sQ (rG 0 [mS 0 82 9,mS 1 2 82] [2])
  .ret)
  .skip)))))
  (rG 0 [bI 0 83 .add 71 1,mS 1 71 83] [70,69,1,71]))))
abbrev f_lab_Check : Nat := 46
def c_lab_Check : CFn := { frz := true,rnd := none,nargs := 1,ntmps := 84,res := [(.slot 2)],code :=
  (sQ (rG 1 [o1 0 1 (.box 0 18 (.s 0)),mI 1 2 0] [1])
  (sQ (.block 0 (sQ (rG 0 [fA 0 11 14 1,lF 1 12 11,cA 2 13 76 [(.s 12),(kI 1),(kI 200)],o1 3 14 (.un .not (.s 13)),mS 4 15 14,oG 5 16 15 false (.faddr 15 (.s 1)),oG 6 17 15 false (.load false 1 (.s 16)),⟨7,(some 18),(some (15,false)),.call ⟨true⟩ (.k (.c (.fn 76 [] []))) [(.s 17),(kI 0),(kI 16777216)]⟩,oG 8 19 15 false (.un .not (.s 18)),o1 9 20 (.pick (.s 15) (kB true) (.s 19)),mS 10 21 20,oG 11 22 21 false (.faddr 16 (.s 1)),oG 12 23 21 false (.load false 1 (.s 22)),⟨13,(some 24),(some (21,false)),.call ⟨true⟩ (.k (.c (.fn 76 [] []))) [(.s 23),(kI 0),(kI 1099511627776)]⟩,oG 14 25 21 false (.un .not (.s 24)),o1 15 26 (.pick (.s 21) (kB true) (.s 25)),mS 16 10 26] [10,1])
  (.cond (.s 10) (sQ (rG 0 [mI 0 2 2] [2])
  .ret)
  (sQ (rG 0 [fA 0 28 17 1,lF 1 29 28,lN 2 30 29,bI 3 31 .gtr 30 20,mS 4 27 31] [27,1])
  (.cond (.s 27) (sQ (rG 0 [mI 0 2 8] [2])
  .ret)
  .skip)))))
  (sQ (sQ (rG 1 [fA 0 33 0 1,lT 1 34 5 33,fA 2 35 10 1,lF 3 36 35,cA 4 37 77 [(.s 34),(.s 36)],mS 5 32 37,eX 6 38 32 0,eX 7 39 32 1,o1 8 3 (.box 0 3 (.k (.a [(I 0),.nilslice,.nilslice]))),o0 9 (.store 3 (.s 3) (.s 38)),mS 10 4 39] [1,4])
  (sQ (rG 0 [mS 0 40 4,bI 1 41 .neq 40 0] [41,1,4])
  (.cond (.s 41) (sQ (rG 0 [mS 0 42 4,mS 1 2 42] [2])
  .ret)
  .skip)))
  (sQ (sQ (rG 1 [fA 0 43 10 1,lF 1 44 43,o1 2 45 (.iaddr 7 (.s 44) (kI 0)),lT 3 46 7 45,o1 4 5 (.box 0 7 (.k (.a [.nilslice,(I 0),(I 0),(I 0),(I 0),(.bool false),(.bool false)]))),o0 5 (.store 7 (.s 5) (.s 46))] [5,1])
  (sQ (rG 0 [fA 0 47 2 5,lF 1 48 47,bI 2 49 .neq 48 0,mS 3 50 49,oG 4 51 50 false (.faddr 3 (.s 5)),oG 5 52 50 false (.load false 1 (.s 51)),oG 6 53 50 false (.faddr 5 (.s 1)),oG 7 54 50 false (.faddr 0 (.s 53)),oG 8 55 50 false (.load false 1 (.s 54)),oG 9 56 50 false (.bin .neq (.s 52) (.s 55)),o1 10 57 (.pick (.s 50) (kB true) (.s 56)),mS 11 58 57,oG 12 59 58 false (.faddr 5 (.s 5)),oG 13 60 58 false (.load false 1 (.s 59)),o1 14 61 (.pick (.s 58) (kB true) (.s 60))] [61,1])
  (.cond (.s 61) (sQ (rG 0 [mI 0 2 10] [2])
  .ret)
  .skip)))
  (sQ (sQ (rG 0 [lT 0 62 18 1,cA 1 63 79 [(.s 62)],cA 2 64 78 [(.s 63)],mS 3 6 64] [1,6])
  (sQ (rG 0 [mS 0 65 6,bI 1 66 .neq 65 0] [66,1,6])
  (.cond (.s 66) (sQ (rG 0 [mS 0 67 6,mS 1 2 67] [2])
  .ret)
  .skip)))
  (sQ (sQ (rG 0 [fA 0 68 17 1,lF 1 69 68,lN 2 70 69,mI 3 71 0] [70,69,1,71])
  (.block 1 (.loop (some [70,69,1,71]) c_lab_Check_l1)))
  (sQ (rG 0 [mI 0 2 0] [2])
  .ret))))))) }
def c_lab_text_l1 : CC := (sQ (rG 0 [bS 0 70 .lss 69 68] [70,6,69,68,48,1,49,50,3,67])
  (sQ (.cond (.s 70) .skip
  (.exit 2))
  (sQ (.block 3 (sQ (rG 0 [iA 0 71 1 67 69,lF 1 72 71,mS 2 8 72] [6,8,69,68,48,1,49,50,3,67])
  (rG 1 [mS 0 73 6,mS 1 74 8,o1 2 75 (.lit 0 1 [[(I 0)]] [(0,(.s 74))]),o1 3 76 (.append 1 8 (.s 73) (.s 75)),mS 4 6 76] [69,6,68,48,1,49,50,3,67])))
  (rG 0 [bI 0 77 .add 69 1,mS 1 69 77] [6,69,68,48,1,49,50,3,67]))))
def c_lab_text_l2 : CC := (sQ (rG 0 [bS 0 51 .lss 50 49] [51,48,1,49,50,3])
  (sQ (.cond (.s 51) .skip
  (.exit 0))
  (sQ (.block 1 (sQ (rG 1 [iA 0 52 7 48 50,lT 1 53 7 52,o1 2 5 (.box 0 7 (.k (.a [.nilslice,(I 0),(I 0),(I 0),(I 0),(.bool false),(.bool false)]))),o0 3 (.store 7 (.s 5) (.s 53))] [5,48,1,49,50,3])
  (sQ (.region 1 [fA 0 54 1 5,fA 2 56 2 5,fA 4 58 3 5,fA 6 60 4 5,fA 8 62 5 5,lF 1 55 54,lF 3 57 56,lF 5 59 58,lF 7 61 60,lF 9 63 62,cA 10 64 82 [(.s 63)],o1 11 65 (.lit 0 1 [[(I 0)],[(I 0)],[(I 0)],[(I 0)],[(I 0)]] [(0,(.s 55)),(1,(.s 57)),(2,(.s 59)),(3,(.s 61)),(4,(.s 64))]),mS 12 6 65] [(5,10),(6,10),(7,10),(8,10)] (some [5,6,48,1,49,50,3]))
  (sQ (sQ (rG 0 [fA 0 66 0 5,lF 1 67 66,lN 2 68 67,mI 3 69 0] [6,69,68,48,1,49,50,3,67])
  (.block 2 (.loop (some [6,69,68,48,1,49,50,3,67]) c_lab_text_l1)))
  (rG 0 [mS 0 78 3,mS 1 79 6,⟨2,(some 80),none,.call ⟨true⟩ (.k (.c (.fn 81 [] []))) [(.k (.c (.str ⟨#[97,103,101,110,116]⟩))),(.s 79)]⟩,o1 3 81 (.p2 (.str .add) (.s 78) (.s 80)),mS 4 3 81] [50,49,1,48,3])))))
  (rG 0 [bI 0 82 .add 50 1,mS 1 50 82] [49,1,48,50,3]))))
def c_lab_text_l3 : CC := (sQ (rG 0 [bS 0 87 .lss 86 85] [87,3,86,85,84])
  (sQ (.cond (.s 87) .skip
  (.exit 4))
  (sQ (.block 5 (sQ (rG 1 [iA 0 88 5 84 86,lT 1 89 5 88,o1 2 10 (.box 0 5 (.k (.a [(I 0),(I 0),(I 0),(I 0),(I 0)]))),o0 3 (.store 5 (.s 10) (.s 89))] [3,10,86,85,84])
  (rG 1 [mS 0 90 3,fA 1 91 0 10,lF 2 92 91,fA 3 93 1 10,lF 4 94 93,fA 5 95 2 10,lF 6 96 95,fA 7 97 3 10,lF 8 98 97,fA 9 99 4 10,lF 10 100 99,o1 11 101 (.lit 0 1 [[(I 0)],[(I 0)],[(I 0)],[(I 0)],[(I 0)]] [(0,(.s 92)),(1,(.s 94)),(2,(.s 96)),(3,(.s 98)),(4,(.s 100))]),⟨12,(some 102),none,.call ⟨true⟩ (.k (.c (.fn 81 [] []))) [(.k (.c (.str ⟨#[101,118,101,110,116]⟩))),(.s 101)]⟩,o1 13 103 (.p2 (.str .add) (.s 90) (.s 102)),mS 14 3 103] [86,3,85,84])))
  (rG 0 [bI 0 104 .add 86 1,mS 1 86 104] [3,86,85,84]))))
abbrev f_lab_text : Nat := 47
def c_lab_text : CFn := { frz := true,rnd := none,nargs := 1,ntmps := 106,res := [(.slot 2)],code :=
  (sQ (rG 1 [o1 0 1 (.box 0 18 (.s 0)),⟨1,(some 2),none,.mv (.k (.c (.str ⟨#[]⟩)))⟩] [1])
  (sQ (.region 3 [fA 0 11 14 1,fA 2 13 15 1,fA 4 15 16 1,fA 8 19 5 1,fA 9 20 0 19,fA 11 22 5 1,fA 12 23 1 22,fA 14 25 5 1,fA 15 26 2 25,fA 17 28 5 1,fA 18 29 3 28,fA 20 31 5 1,fA 21 32 4 31,fA 26 37 11 1,fA 28 39 12 1,fA 30 41 13 1,lF 1 12 11,lF 3 14 13,lF 5 16 15,lF 10 21 20,lF 13 24 23,lF 16 27 26,lF 19 30 29,lF 22 33 32,lF 27 38 37,lF 29 40 39,lF 31 42 41,o1 6 17 (.lit 0 1 [[(I 0)],[(I 0)],[(I 0)]] [(0,(.s 12)),(1,(.s 14)),(2,(.s 16))]),⟨7,(some 18),none,.call ⟨true⟩ (.k (.c (.fn 81 [] []))) [(.k (.c (.str ⟨#[114,117,110]⟩))),(.s 17)]⟩,o1 23 34 (.lit 1 1 [[(I 0)],[(I 0)],[(I 0)],[(I 0)],[(I 0)]] [(0,(.s 21)),(1,(.s 24)),(2,(.s 27)),(3,(.s 30)),(4,(.s 33))]),⟨24,(some 35),none,.call ⟨true⟩ (.k (.c (.fn 81 [] []))) [(.k (.c (.str ⟨#[99,97,114]⟩))),(.s 34)]⟩,o1 25 36 (.p2 (.str .add) (.s 18) (.s 35)),cA 32 43 82 [(.s 42)],o1 33 44 (.lit 2 1 [[(I 0)],[(I 0)],[(I 0)]] [(0,(.s 38)),(1,(.s 40)),(2,(.s 43))]),⟨34,(some 45),none,.call ⟨true⟩ (.k (.c (.fn 81 [] []))) [(.k (.c (.str ⟨#[110,111,100,101]⟩))),(.s 44)]⟩,o1 35 46 (.p2 (.str .add) (.s 36) (.s 45)),mS 36 3 46] [(16,29),(17,29),(18,29),(19,27),(19,28),(20,27),(20,28),(21,27),(21,28),(22,27),(22,28),(23,27),(23,28),(24,27),(24,28),(24,29),(24,30),(24,32),(25,27),(25,28),(25,29),(25,30),(25,32),(26,27),(26,28),(26,29),(26,30),(27,29),(28,29)] (some [1,3]))
  (sQ (sQ (rG 0 [fA 0 47 10 1,lF 1 48 47,lN 2 49 48,mI 3 50 0] [49,1,48,50,3])
  (.block 0 (.loop (some [49,1,48,50,3]) c_lab_text_l2)))
  (sQ (sQ (rG 0 [fA 0 83 17 1,lF 1 84 83,lN 2 85 84,mI 3 86 0] [3,86,85,84])
  (.block 4 (.loop (some [3,86,85,84]) c_lab_text_l3)))
  (sQ (rG 0 [mS 0 105 3,mS 1 2 105] [2])
  .ret))))) }
abbrev f_kerbstonekit_Cross : Nat := 48
def c_kerbstonekit_Cross : CFn := { frz := true,rnd := none,nargs := 0,ntmps := 12,res := [(.cell 0 true 5)],code :=
  (sQ (rG 1 [o1 0 0 (.box 0 5 (.k (.a [(I 0),.nilslice,.nilslice,.nilslice,.nilslice])))] [0])
  (sQ (rG 5 [o1 0 1 (.lit 0 1 [[(I 0)],[(I 0)],[(I 0)],[(I 0)]] [(0,(kI 0)),(1,(kI 0)),(2,(kI 100000)),(3,(kI 0))]),cA 1 2 83 [(kI 1),(kI 1500),(.k (.c .nilslice)),(.s 1)],o1 2 3 (.lit 1 1 [[(I 0)],[(I 0)],[(I 0)],[(I 0)]] [(0,(kI 50000)),(1,(kI (-50000))),(2,(kI 50000)),(3,(kI 50000))]),cA 3 4 83 [(kI 1),(kI 1500),(.k (.c .nilslice)),(.s 3)],o1 4 5 (.lit 2 5 [[(I 0),.nilslice,(I 0),(I 0),.nilslice],[(I 0),.nilslice,(I 0),(I 0),.nilslice]] [(0,(.s 2)),(1,(.s 4))]),o1 5 6 (.build [(I 0),(I 0),(I 0),(I 0)] [(0,1,(kI 0)),(1,1,(kI 48000)),(2,1,(kI 52000)),(3,1,(kI 1))]),o1 6 7 (.build [(I 0),(I 0),(I 0),(I 0)] [(0,1,(kI 1)),(1,1,(kI 48000)),(2,1,(kI 52000))]),o1 7 8 (.lit 3 4 [[(I 0),(I 0),(I 0),(I 0)],[(I 0),(I 0),(I 0),(I 0)]] [(0,(.s 6)),(1,(.s 7))]),o1 8 9 (.build [.nilslice,(I 0)] [(0,1,(.s 8))]),o1 9 10 (.lit 4 2 [[.nilslice,(I 0)]] [(0,(.s 9))]),o1 10 11 (.build [(I 0),.nilslice,.nilslice,.nilslice,.nilslice] [(1,1,(.s 5)),(2,1,(.s 10))]),o0 11 (.store 5 (.s 0) (.s 11))] [0])
  .ret)) }
def c_roads_each_Lane_l1 : CC := (sQ (rG 0 [bS 0 11 .lss 10 9] [11,5,10,9,8,1])
  (sQ (.cond (.s 11) .skip
  (.exit 0))
  (sQ (.block 1 (sQ (rG 1 [iA 0 12 5 8 10,lT 1 13 5 12,o1 2 7 (.box 0 5 (.k (.a [(I 0),.nilslice,(I 0),(I 0),.nilslice]))),o0 3 (.store 5 (.s 7) (.s 13))] [5,7,10,9,8,1])
  (rG 1 [mS 0 14 5,mS 1 15 1,lT 2 16 5 7,⟨3,(some 17),none,.call ⟨true⟩ (.s 15) [(.s 16)]⟩,o1 4 18 (.lit 0 5 [[(I 0),.nilslice,(I 0),(I 0),.nilslice]] [(0,(.s 17))]),o1 5 19 (.append 5 72 (.s 14) (.s 18)),mS 6 5 19] [10,5,9,8,1])))
  (rG 0 [bI 0 20 .add 10 1,mS 1 10 20] [5,10,9,8,1]))))
abbrev f_roads_each_Lane : Nat := 52
def c_roads_each_Lane : CFn := { frz := true,rnd := none,nargs := 2,ntmps := 22,res := [(.slot 4)],code :=
  (sQ (rG 1 [o1 0 4 (.newsl 0 5)] [0,1])
  (sQ (rG 1 [o1 0 5 (.newsl 0 5)] [0,5,1])
  (sQ (sQ (rG 0 [mS 0 8 0,lN 1 9 8,mI 2 10 0] [5,10,9,8,1])
  (.block 0 (.loop (some [5,10,9,8,1]) c_roads_each_Lane_l1)))
  (sQ (rG 0 [mS 0 21 5,mS 1 4 21] [4])
  .ret)))) }
abbrev f_roads_ownLane : Nat := 53
def c_roads_ownLane : CFn := { frz := true,rnd := none,nargs := 1,ntmps := 12,res := [(.cell 2 true 5)],code :=
  (sQ (rG 2 [o1 0 1 (.box 0 5 (.s 0)),o1 1 2 (.box 1 5 (.k (.a [(I 0),.nilslice,(I 0),(I 0),.nilslice])))] [1,2])
  (sQ (.region 0 [fA 0 3 1 1,fA 3 6 4 1,lT 1 4 1 3,lF 4 7 6,cA 2 5 86 [(.s 4)],fA 6 9 1 1,cA 5 8 32 [(.s 7)],o0 7 (.store 1 (.s 9) (.s 5)),fA 8 10 4 1,o0 9 (.store 1 (.s 10) (.s 8))] [(3,4)] (some [1,2]))
  (sQ (rG 0 [lT 0 11 5 1,o0 1 (.store 5 (.s 2) (.s 11))] [2])
  .ret))) }
def c_roads_each_Zone_l1 : CC := (sQ (rG 0 [bS 0 11 .lss 10 9] [11,5,10,9,8,1])
  (sQ (.cond (.s 11) .skip
  (.exit 0))
  (sQ (.block 1 (sQ (rG 1 [iA 0 12 2 8 10,lT 1 13 2 12,o1 2 7 (.box 0 2 (.k (.a [.nilslice,(I 0)]))),o0 3 (.store 2 (.s 7) (.s 13))] [5,7,10,9,8,1])
  (rG 1 [mS 0 14 5,mS 1 15 1,lT 2 16 2 7,⟨3,(some 17),none,.call ⟨true⟩ (.s 15) [(.s 16)]⟩,o1 4 18 (.lit 0 2 [[.nilslice,(I 0)]] [(0,(.s 17))]),o1 5 19 (.append 2 32 (.s 14) (.s 18)),mS 6 5 19] [10,5,9,8,1])))
  (rG 0 [bI 0 20 .add 10 1,mS 1 10 20] [5,10,9,8,1]))))
abbrev f_roads_each_Zone : Nat := 54
def c_roads_each_Zone : CFn := { frz := true,rnd := none,nargs := 2,ntmps := 22,res := [(.slot 4)],code :=
  (sQ (rG 1 [o1 0 4 (.newsl 0 2)] [0,1])
  (sQ (rG 1 [o1 0 5 (.newsl 0 2)] [0,5,1])
  (sQ (sQ (rG 0 [mS 0 8 0,lN 1 9 8,mI 2 10 0] [5,10,9,8,1])
  (.block 0 (.loop (some [5,10,9,8,1]) c_roads_each_Zone_l1)))
  (sQ (rG 0 [mS 0 21 5,mS 1 4 21] [4])
  .ret)))) }
abbrev f_roads_ownZone : Nat := 55
def c_roads_ownZone : CFn := { frz := true,rnd := none,nargs := 1,ntmps := 8,res := [(.cell 2 true 2)],code :=
  (sQ (rG 2 [o1 0 1 (.box 0 2 (.s 0)),o1 1 2 (.box 1 2 (.k (.a [.nilslice,(I 0)])))] [1,2])
  (sQ (rG 0 [fA 0 3 0 1,lF 1 4 3,cA 2 5 87 [(.s 4)],fA 3 6 0 1,o0 4 (.store 1 (.s 6) (.s 5))] [1,2])
  (sQ (rG 0 [lT 0 7 2 1,o0 1 (.store 2 (.s 2) (.s 7))] [2])
  .ret))) }
def c_roads_each_Signal_l1 : CC := (sQ (rG 0 [bS 0 11 .lss 10 9] [11,5,10,9,8,1])
  (sQ (.cond (.s 11) .skip
  (.exit 0))
  (sQ (.block 1 (sQ (rG 1 [iA 0 12 2 8 10,lT 1 13 2 12,o1 2 7 (.box 0 2 (.k (.a [(I 0),.nilslice]))),o0 3 (.store 2 (.s 7) (.s 13))] [5,7,10,9,8,1])
  (rG 1 [mS 0 14 5,mS 1 15 1,lT 2 16 2 7,⟨3,(some 17),none,.call ⟨true⟩ (.s 15) [(.s 16)]⟩,o1 4 18 (.lit 0 2 [[(I 0),.nilslice]] [(0,(.s 17))]),o1 5 19 (.append 2 32 (.s 14) (.s 18)),mS 6 5 19] [10,5,9,8,1])))
  (rG 0 [bI 0 20 .add 10 1,mS 1 10 20] [5,10,9,8,1]))))
abbrev f_roads_each_Signal : Nat := 56
def c_roads_each_Signal : CFn := { frz := true,rnd := none,nargs := 2,ntmps := 22,res := [(.slot 4)],code :=
  (sQ (rG 1 [o1 0 4 (.newsl 0 2)] [0,1])
  (sQ (rG 1 [o1 0 5 (.newsl 0 2)] [0,5,1])
  (sQ (sQ (rG 0 [mS 0 8 0,lN 1 9 8,mI 2 10 0] [5,10,9,8,1])
  (.block 0 (.loop (some [5,10,9,8,1]) c_roads_each_Signal_l1)))
  (sQ (rG 0 [mS 0 21 5,mS 1 4 21] [4])
  .ret)))) }
def c_roads_ownSignal_l1 : CC := (sQ (rG 0 [bS 0 12 .lss 11 10] [12,11,10,2,1])
  (sQ (.cond (.s 12) .skip
  (.exit 0))
  (sQ (.block 1 (sQ (rG 0 [mS 0 13 11,mS 1 3 13] [3,11,10,2,1])
  (.region 0 [fA 0 14 1 1,mS 2 16 3,fA 3 17 1 1,mS 5 19 3,lF 1 15 14,lF 4 18 17,iA 6 20 2 18 19,fA 7 21 1 20,lF 8 22 21,cA 9 23 32 [(.s 22)],iA 10 24 2 15 16,fA 11 25 1 24,o0 12 (.store 1 (.s 25) (.s 23))] [(4,9)] (some [11,10,2,1]))))
  (rG 0 [bI 0 26 .add 11 1,mS 1 11 26] [11,10,2,1]))))
abbrev f_roads_ownSignal : Nat := 57
def c_roads_ownSignal : CFn := { frz := true,rnd := none,nargs := 1,ntmps := 28,res := [(.cell 2 true 2)],code :=
  (sQ (rG 2 [o1 0 1 (.box 0 2 (.s 0)),o1 1 2 (.box 1 2 (.k (.a [(I 0),.nilslice])))] [2,1])
  (sQ (rG 0 [fA 0 4 1 1,lF 1 5 4,cA 2 6 88 [(.s 5)],fA 3 7 1 1,o0 4 (.store 1 (.s 7) (.s 6))] [2,1])
  (sQ (sQ (rG 0 [fA 0 8 1 1,lF 1 9 8,lN 2 10 9,mI 3 11 0] [11,10,2,1])
  (.block 0 (.loop (some [11,10,2,1]) c_roads_ownSignal_l1)))
  (sQ (rG 0 [lT 0 27 2 1,o0 1 (.store 2 (.s 2) (.s 27))] [2])
  .ret)))) }
def c_roads_each_Work_l1 : CC := (sQ (rG 0 [bS 0 11 .lss 10 9] [11,5,10,9,8,1])
  (sQ (.cond (.s 11) .skip
  (.exit 0))
  (sQ (.block 1 (sQ (rG 1 [iA 0 12 6 8 10,lT 1 13 6 12,o1 2 7 (.box 0 6 (.k (.a [(I 0),(I 0),(I 0),(I 0),(I 0),(I 0)]))),o0 3 (.store 6 (.s 7) (.s 13))] [5,7,10,9,8,1])
  (rG 1 [mS 0 14 5,mS 1 15 1,lT 2 16 6 7,⟨3,(some 17),none,.call ⟨true⟩ (.s 15) [(.s 16)]⟩,o1 4 18 (.lit 0 6 [[(I 0),(I 0),(I 0),(I 0),(I 0),(I 0)]] [(0,(.s 17))]),o1 5 19 (.append 6 48 (.s 14) (.s 18)),mS 6 5 19] [10,5,9,8,1])))
  (rG 0 [bI 0 20 .add 10 1,mS 1 10 20] [5,10,9,8,1]))))
abbrev f_roads_each_Work : Nat := 58
def c_roads_each_Work : CFn := { frz := true,rnd := none,nargs := 2,ntmps := 22,res := [(.slot 4)],code :=
  (sQ (rG 1 [o1 0 4 (.newsl 0 6)] [0,1])
  (sQ (rG 1 [o1 0 5 (.newsl 0 6)] [0,5,1])
  (sQ (sQ (rG 0 [mS 0 8 0,lN 1 9 8,mI 2 10 0] [5,10,9,8,1])
  (.block 0 (.loop (some [5,10,9,8,1]) c_roads_each_Work_l1)))
  (sQ (rG 0 [mS 0 21 5,mS 1 4 21] [4])
  .ret)))) }
abbrev f_roads_ownWork : Nat := 59
def c_roads_ownWork : CFn := { frz := true,rnd := none,nargs := 1,ntmps := 4,res := [(.cell 2 true 6)],code :=
  (sQ (rG 2 [o1 0 1 (.box 0 6 (.s 0)),o1 1 2 (.box 1 6 (.k (.a [(I 0),(I 0),(I 0),(I 0),(I 0),(I 0)])))] [1,2])
  (sQ (rG 0 [lT 0 3 6 1,o0 1 (.store 6 (.s 2) (.s 3))] [2])
  .ret)) }
abbrev f_lab_fails_1 : Nat := 69
def c_lab_fails_1 : CFn := { frz := true,rnd := none,nargs := 2,ntmps := 8,res := [(.slot 4)],code :=
  (sQ (rG 1 [o1 0 2 (.box 0 11 (.s 0)),mB 1 4 false] [2])
  (sQ (rG 0 [fA 0 5 10 2,lF 1 6 5,bI 2 7 .gtr 6 0,mS 3 4 7] [4])
  .ret)) }
abbrev f_lab_fails_2 : Nat := 70
def c_lab_fails_2 : CFn := { frz := true,rnd := none,nargs := 2,ntmps := 8,res := [(.slot 4)],code :=
  (sQ (rG 1 [o1 0 2 (.box 0 11 (.s 0)),mB 1 4 false] [2])
  (sQ (rG 0 [fA 0 5 9 2,lF 1 6 5,bI 2 7 .gtr 6 0,mS 3 4 7] [4])
  .ret)) }
abbrev f_lab_fails_3 : Nat := 71
def c_lab_fails_3 : CFn := { frz := true,rnd := none,nargs := 2,ntmps := 8,res := [(.slot 4)],code :=
  (sQ (rG 1 [o1 0 2 (.box 0 11 (.s 0)),mB 1 4 false] [2])
  (sQ (rG 0 [fA 0 5 1 2,lF 1 6 5,bI 2 7 .eql 6 2,mS 3 4 7] [4])
  .ret)) }
abbrev f_lab_fails_4 : Nat := 72
def c_lab_fails_4 : CFn := { frz := true,rnd := none,nargs := 2,ntmps := 8,res := [(.slot 4)],code :=
  (sQ (rG 1 [o1 0 2 (.box 0 11 (.s 0)),mB 1 4 false] [2])
  (sQ (rG 0 [fA 0 5 3 2,lF 1 6 5,bI 2 7 .neq 6 0,mS 3 4 7] [4])
  .ret)) }
abbrev f_lab_fails_5 : Nat := 73
def c_lab_fails_5 : CFn := { frz := true,rnd := none,nargs := 3,ntmps := 14,res := [(.slot 5)],code :=
  (sQ (rG 1 [o1 0 3 (.box 0 11 (.s 0)),mB 1 5 false] [1,3,2])
  (sQ (rG 0 [mS 0 6 1,mS 1 7 6,oG 2 8 7 true (.faddr 6 (.s 3)),oG 3 9 7 true (.load false 1 (.s 8)),oG 4 10 7 true (.faddr 1 (.s 2)),oG 5 11 7 true (.load false 1 (.s 10)),oG 6 12 7 true (.bin .lss (.s 9) (.s 11)),o1 7 13 (.pick (.s 7) (.s 12) (kB false)),mS 8 5 13] [5])
  .ret)) }
abbrev f_lab_within : Nat := 76
def c_lab_within : CFn := { frz := true,rnd := none,nargs := 3,ntmps := 15,res := [(.slot 6)],code :=
  (sQ (rG 0 [mB 0 6 false] [1,0,2])
  (sQ (rG 0 [mS 0 7 1,mS 1 8 0,bS 2 9 .leq 7 8,mS 3 10 9,oG 4 11 10 true (.mv (.s 0)),oG 5 12 10 true (.mv (.s 2)),oG 6 13 10 true (.bin .leq (.s 11) (.s 12)),o1 7 14 (.pick (.s 10) (.s 13) (kB false)),mS 8 6 14] [6])
  .ret)) }
abbrev f_world_New : Nat := 77
def c_world_New : CFn := { frz := true,rnd := none,nargs := 2,ntmps := 65,res := [(.cell 4 true 3),(.cell 5 false 1)],code :=
  (sQ (rG 4 [o1 0 2 (.box 0 5 (.s 0)),o1 1 3 (.box 1 1 (.s 1)),o1 2 4 (.box 2 3 (.k (.a [(I 0),.nilslice,.nilslice]))),o1 3 5 (.box 3 1 (.k (.a [(I 0)])))] [2,3,4,5])
  (sQ (rG 1 [lF 0 12 3,o1 1 13 (.build [(I 0),.nilslice,.nilslice] [(1,1,(.s 12))]),cA 2 14 107 [(.s 13)],o1 3 6 (.box 0 3 (.k (.a [(I 0),.nilslice,.nilslice]))),o0 4 (.store 3 (.s 6) (.s 14))] [6,2,3,4,5])
  (sQ (sQ (rG 0 [lT 0 15 5 2,lT 1 16 3 6,cA 2 17 108 [(.s 15),(.s 16)],mS 3 7 17] [6,2,3,7,4,5])
  (sQ (rG 0 [mS 0 18 7,bI 1 19 .neq 18 0] [19,6,2,3,7,4,5])
  (.cond (.s 19) (sQ (rG 0 [o1 0 20 (.build [(I 0),.nilslice,.nilslice] []),mS 1 21 7,o0 2 (.store 3 (.s 4) (.s 20)),o0 3 (.store 1 (.s 5) (.s 21))] [4,5])
  .ret)
  .skip)))
  (sQ (sQ (rG 0 [lF 0 22 3,⟨1,(some 23),none,.call ⟨true⟩ (.k (.c (.fn 109 [] []))) [(.s 22),(.k (.c (.fn 110 [] [])))]⟩] [23,3,2,6,4,5])
  (.cond (.s 23) (sQ (rG 0 [o1 0 24 (.build [(I 0),.nilslice,.nilslice] []),o0 1 (.store 3 (.s 4) (.s 24)),o0 2 (.store 1 (.s 5) (kI 10))] [4,5])
  .ret)
  .skip))
  (sQ (.region 2 [lT 0 25 5 2,lT 1 26 3 6,lT 2 27 3 6,cA 3 28 107 [(.s 27)],o1 4 29 (.build [(I 0),.nilslice,.nilslice,.nilslice,.nilslice,(I 0),.nilslice,.nilslice,(I 0),.nilslice,.nilslice,.nilslice,.nilslice] [(0,5,(.s 25)),(5,3,(.s 26)),(8,3,(.s 28))]),o1 5 30 (.box 0 13 (.s 29)),o1 6 8 (.box 1 1 (.k (.a [.nilptr]))),o0 7 (.store 1 (.s 8) (.s 30))] [(0,3),(0,6),(1,3),(1,6),(2,6),(3,6),(5,6)] (some [2,3,8,4,5]))
  (sQ (rG 0 [lF 0 31 8,cA 1 32 111 [(.s 31)]] [2,3,8,4,5])
  (sQ (sQ (rG 0 [lF 0 33 8,cA 1 34 112 [(.s 33)]] [34,2,3,8,4,5])
  (.block 0 (.rng (.s 34) 1506 [3,8,2,4,5])))
  (sQ (rG 0 [lF 0 61 8,nC 1 62 61,fA 2 63 8 62,lT 3 64 3 63,o0 4 (.store 3 (.s 4) (.s 64)),o0 5 (.store 1 (.s 5) (kI 0))] [4,5])
  .ret)))))))) }
def c_world_New_r1_l1 : CC := (sQ (rG 0 [bS 0 52 .lss 51 50] [52,10,9,8,50,51,4,5])
  (sQ (.cond (.s 52) .skip
  (.exit 2))
  (sQ (.block 3 (sQ (rG 0 [mS 0 53 51,mS 1 11 53] [11,10,9,8,50,51,4,5])
  (sQ (rG 0 [lF 0 54 8,mS 1 55 9,mS 2 56 10,mS 3 57 11,cA 4 58 114 [(.s 54),(.s 55),(.s 56),(.s 57)]] [58,10,9,8,50,51,4,5])
  (.cond (.s 58) (sQ (rG 0 [o1 0 59 (.build [(I 0),.nilslice,.nilslice] []),o0 1 (.store 3 (.s 4) (.s 59)),o0 2 (.store 1 (.s 5) (kI 12))] [])
  .ret)
  .skip))))
  (rG 0 [bI 0 60 .add 51 1,mS 1 51 60] [50,8,9,10,51,4,5]))))
abbrev f_world_New_r1 : Nat := 1506
def c_world_New_r1 : CFn := { frz := false,rnd := (some ([35,36],(sQ (rG 0 [mS 0 9 35] [36,3,9,8,2,4,5])
  (rG 0 [mS 0 10 36] [3,10,9,8,2,4,5])))),nargs := 3,ntmps := 65,res := [],code :=
  (.block 1 (sQ (sQ (rG 0 [mS 2 39 9,mS 6 43 10,lT 0 37 5 2,lF 1 38 3,iA 3 40 7 38 39,lT 4 41 7 40,lF 5 42 3,iA 7 44 7 42 43,lT 8 45 7 44,cA 9 46 113 [(.s 37),(.s 41),(.s 45)]] [46,10,9,8,2,4,5])
  (.cond (.s 46) (sQ (rG 0 [o1 0 47 (.build [(I 0),.nilslice,.nilslice] []),o0 1 (.store 3 (.s 4) (.s 47)),o0 2 (.store 1 (.s 5) (kI 12))] [])
  .ret)
  .skip))
  (sQ (rG 0 [fA 0 48 2 2,lF 1 49 48,lN 2 50 49,mI 3 51 0] [50,8,9,10,51,4,5])
  (.block 2 (.loop (some [50,8,9,10,51,4,5]) c_world_New_r1_l1))))) }
abbrev f_drive_CheckSetup : Nat := 78
def c_drive_CheckSetup : CFn := { frz := true,rnd := none,nargs := 1,ntmps := 59,res := [(.slot 2)],code :=
  (sQ (rG 1 [o1 0 1 (.box 0 19 (.s 0)),mI 1 2 0] [1])
  (sQ (sQ (rG 0 [fA 0 4 0 1,lT 1 5 5 4,cA 2 6 115 [(.s 5)],mS 3 3 6] [1,3])
  (sQ (rG 0 [mS 0 7 3,bI 1 8 .neq 7 0] [8,1,3])
  (.cond (.s 8) (sQ (rG 0 [mS 0 9 3,mS 1 2 9] [2])
  .ret)
  .skip)))
  (sQ (sQ (rG 0 [fA 0 10 0 1,lT 1 11 5 10,cA 2 12 116 [(.s 11)],o1 3 13 (.un .not (.s 12))] [13,1])
  (.cond (.s 13) (sQ (rG 0 [mI 0 2 12] [2])
  .ret)
  .skip))
  (sQ (sQ (rG 0 [fA 0 14 0 1,lT 1 15 5 14,fA 2 16 5 1,lF 3 17 16,cA 4 18 117 [(.s 15),(.s 17)],bI 5 19 .neq 18 0] [19,1])
  (.cond (.s 19) (sQ (rG 0 [mI 0 2 13] [2])
  .ret)
  .skip))
  (sQ (.block 0 (sQ (rG 0 [fA 0 21 0 1,fA 1 22 1 21,fA 3 24 5 1,lF 2 23 22,lF 4 25 24,o1 5 26 (.iaddr 1 (.s 25) (kI 0)),lF 6 27 26,iA 7 28 5 23 27,fA 8 29 0 28,lF 9 30 29,bI 10 31 .neq 30 1,mS 11 20 31] [20,1])
  (.cond (.s 20) (sQ (rG 0 [mI 0 2 4] [2])
  .ret)
  (sQ (sQ (rG 0 [fA 0 33 6 1,lT 1 34 5 33,cA 2 35 118 [(.s 34)],bI 3 36 .neq 35 0,mS 4 32 36] [32,1])
  (.cond (.s 32) .skip
  (sQ (rG 0 [fA 0 37 15 1,lF 1 38 37,bI 2 39 .lss 38 0,mS 3 32 39] [32,1])
  (.cond (.s 32) .skip
  (sQ (rG 0 [fA 0 40 15 1,lF 1 41 40,bI 2 42 .gtr 41 1099510627776,mS 3 32 42] [32,1])
  (.cond (.s 32) .skip
  (sQ (rG 0 [fA 0 43 16 1,lF 1 44 43,bI 2 45 .lss 44 0,mS 3 32 45] [32,1])
  (.cond (.s 32) .skip
  (sQ (rG 0 [fA 0 46 16 1,lF 1 47 46,bI 2 48 .gtr 47 8,mS 3 32 48] [32,1])
  (.cond (.s 32) .skip
  (sQ (rG 0 [fA 0 49 17 1,lF 1 50 49,bI 2 51 .lss 50 0,mS 3 32 51] [32,1])
  (.cond (.s 32) .skip
  (rG 0 [fA 0 52 17 1,lF 1 53 52,bI 2 54 .gtr 53 1000,mS 3 32 54] [32,1])))))))))))))
  (.cond (.s 32) (sQ (rG 0 [mI 0 2 2] [2])
  .ret)
  (sQ (rG 0 [lT 0 56 19 1,cA 1 57 119 [(.s 56)],o1 2 58 (.un .not (.s 57)),mS 3 55 58] [55])
  (.cond (.s 55) (sQ (rG 0 [mI 0 2 10] [2])
  .ret)
  .skip)))))))
  (sQ (rG 0 [mI 0 2 0] [2])
  .ret)))))) }
abbrev f_lab_setup : Nat := 79
def c_lab_setup : CFn := { frz := true,rnd := none,nargs := 1,ntmps := 28,res := [(.cell 2 true 19)],code :=
  (sQ (rG 2 [o1 0 1 (.box 0 18 (.s 0)),o1 1 2 (.box 1 19 (.k (.a [(I 0),.nilslice,.nilslice,.nilslice,.nilslice,.nilslice,(I 0),(I 0),(I 0),(I 0),(I 0),(I 0),(I 0),(I 0),(I 0),(I 0),(I 0),(I 0),(.bool false)])))] [1,2])
  (sQ (rG 1 [fA 0 4 10 1,lF 1 5 4,o1 2 6 (.iaddr 7 (.s 5) (kI 0)),lT 3 7 7 6,o1 4 3 (.box 0 7 (.k (.a [.nilslice,(I 0),(I 0),(I 0),(I 0),(.bool false),(.bool false)]))),o0 5 (.store 7 (.s 3) (.s 7))] [3,1,2])
  (sQ (.region 0 [fA 0 8 0 1,fA 3 11 0 3,fA 6 14 5 1,fA 8 16 1 3,fA 10 18 1 3,fA 13 21 11 1,fA 15 23 12 1,fA 17 25 13 1,lT 1 9 5 8,lF 4 12 11,lT 7 15 5 14,lF 9 17 16,lF 11 19 18,o1 12 20 (.build [(I 0),(I 0),(I 0),(I 0)] [(0,1,(.s 17)),(1,1,(.s 19))]),lF 14 22 21,lF 16 24 23,lF 18 26 25,cA 2 10 29 [(.s 9)],cA 5 13 32 [(.s 12)],o1 19 27 (.build [(I 0),.nilslice,.nilslice,.nilslice,.nilslice,.nilslice,(I 0),(I 0),(I 0),(I 0),(I 0),(I 0),(I 0),(I 0),(I 0),(I 0),(I 0),(I 0),(.bool false)] [(0,5,(.s 10)),(5,1,(.s 13)),(6,5,(.s 15)),(11,4,(.s 20)),(16,1,(.s 22)),(17,1,(.s 24)),(18,1,(.s 26))]),o0 20 (.store 19 (.s 2) (.s 27))] [(9,17),(10,17),(10,18),(11,17),(11,18),(12,17),(12,18),(14,17),(14,18),(15,17),(15,18),(16,17),(16,18)] (some [2]))
  .ret))) }
abbrev f_lab_checkEvent : Nat := 80
def c_lab_checkEvent : CFn := { frz := true,rnd := none,nargs := 2,ntmps := 62,res := [(.slot 4)],code :=
  (sQ (rG 1 [o1 0 2 (.box 0 5 (.s 0)),mI 1 4 0] [2,1])
  (sQ (sQ (rG 0 [fA 0 7 0 2,lF 1 8 7,bI 2 9 .lss 8 1,mS 3 10 9,oG 4 11 10 false (.faddr 0 (.s 2)),oG 5 12 10 false (.load false 1 (.s 11)),oG 6 13 10 false (.bin .geq (.s 12) (kI 8)),o1 7 14 (.pick (.s 10) (kB true) (.s 13))] [14,2,1])
  (.cond (.s 14) (sQ (rG 0 [mI 0 4 4] [4])
  .ret)
  .skip))
  (sQ (rG 0 [fA 0 15 3 2,lF 1 16 15,bI 2 17 .eql 16 0,mS 3 5 17] [5,1,2])
  (sQ (sQ (rG 0 [fA 0 18 0 2,lF 1 19 18,bI 2 20 .eql 19 1] [20,5,1,2])
  (.cond (.s 20) (rG 0 [fA 0 21 3 2,lF 1 22 21,bI 2 23 .geq 22 1,mS 3 24 23,oG 4 25 24 true (.faddr 3 (.s 2)),oG 5 26 24 true (.load false 1 (.s 25)),oG 6 27 24 true (.mv (.s 1)),oG 7 28 24 true (.bin .lss (.s 26) (.s 27)),o1 8 29 (.pick (.s 24) (.s 28) (kB false)),mS 9 5 29] [5,2])
  .skip))
  (sQ (rG 1 [fA 0 30 0 2,lF 1 31 30,cA 2 32 120 [(.s 31)],o1 3 6 (.box 0 2 (.k (.a [(I 0),(I 0)]))),o0 4 (.store 2 (.s 6) (.s 32))] [5,2,6])
  (sQ (sQ (rG 0 [mS 0 33 5,o1 1 34 (.un .not (.s 33)),mS 2 35 34,oG 3 36 35 false (.faddr 1 (.s 2)),oG 4 37 35 false (.load false 1 (.s 36)),oG 5 38 35 false (.bin .lss (.s 37) (kI 0)),o1 6 39 (.pick (.s 35) (kB true) (.s 38)),mS 7 40 39,oG 8 41 40 false (.faddr 1 (.s 2)),oG 9 42 40 false (.load false 1 (.s 41)),oG 10 43 40 false (.faddr 2 (.s 2)),oG 11 44 40 false (.load false 1 (.s 43)),oG 12 45 40 false (.bin .geq (.s 42) (.s 44)),o1 13 46 (.pick (.s 40) (kB true) (.s 45)),mS 14 47 46,oG 15 48 47 false (.faddr 2 (.s 2)),oG 16 49 47 false (.load false 1 (.s 48)),oG 17 50 47 false (.bin .gtr (.s 49) (kI 200)),o1 18 51 (.pick (.s 47) (kB true) (.s 50)),mS 19 52 51,oG 20 53 52 false (.faddr 4 (.s 2)),oG 21 54 52 false (.load false 1 (.s 53)),oG 22 55 52 false (.aaddr 2 1 (.s 6) (kI 0)),oG 23 56 52 false (.load false 1 (.s 55)),oG 24 57 52 false (.aaddr 2 1 (.s 6) (kI 1)),oG 25 58 52 false (.load false 1 (.s 57)),⟨26,(some 59),(some (52,false)),.call ⟨true⟩ (.k (.c (.fn 76 [] []))) [(.s 54),(.s 56),(.s 58)]⟩,oG 27 60 52 false (.un .not (.s 59)),o1 28 61 (.pick (.s 52) (kB true) (.s 60))] [61])
  (.cond (.s 61) (sQ (rG 0 [mI 0 4 2] [4])
  .ret)
  .skip))
  (sQ (rG 0 [mI 0 4 0] [4])
  .ret))))))) }
def c_lab_row_l1 : CC := (sQ (rG 0 [bS 0 10 .lss 9 8] [10,0,9,8,7])
  (sQ (.cond (.s 10) .skip
  (.exit 0))
  (sQ (.block 1 (sQ (rG 0 [iA 0 11 1 7 9,lF 1 12 11,mS 2 6 12] [0,6,9,8,7])
  (rG 0 [mS 0 13 0,mS 1 14 6,cA 2 15 121 [(.s 14),(kI 10)],⟨3,(some 16),none,.p2 (.str .add) (.k (.c (.str ⟨#[32]⟩))) (.s 15)⟩,o1 4 17 (.p2 (.str .add) (.s 13) (.s 16)),mS 5 0 17] [9,0,8,7])))
  (rG 0 [bI 0 18 .add 9 1,mS 1 9 18] [0,9,8,7]))))
abbrev f_lab_row : Nat := 81
def c_lab_row : CFn := { frz := true,rnd := none,nargs := 2,ntmps := 21,res := [(.slot 4)],code :=
  (sQ (rG 0 [⟨0,(some 4),none,.mv (.k (.c (.str ⟨#[]⟩)))⟩] [1,0])
  (sQ (sQ (rG 0 [mS 0 7 1,lN 1 8 7,mI 2 9 0] [0,9,8,7])
  (.block 0 (.loop (some [0,9,8,7]) c_lab_row_l1)))
  (sQ (rG 0 [mS 0 19 0,⟨1,(some 20),none,.p2 (.str .add) (.s 19) (.k (.c (.str ⟨#[10]⟩)))⟩,mS 2 4 20] [4])
  .ret))) }
abbrev f_lab_one : Nat := 82
def c_lab_one : CFn := { frz := true,rnd := none,nargs := 1,ntmps := 4,res := [(.slot 2)],code :=
  (sQ (rG 0 [mI 0 2 0] [0])
  (sQ (sQ (rG 0 [mS 0 3 0] [3])
  (.cond (.s 3) (sQ (rG 0 [mI 0 2 1] [2])
  .ret)
  .skip))
  (sQ (rG 0 [mI 0 2 0] [2])
  .ret))) }
def c_kerbstonekit_road_l1 : CC := (sQ (sQ (rG 0 [mS 0 15 10,bI 1 16 .add 15 1,mS 2 17 3,lN 3 18 17,bS 4 19 .lss 16 18] [19,10,8,0,3,9])
  (.cond (.s 19) .skip
  (.exit 0)))
  (sQ (.block 1 (.region 1 [fA 0 22 1 9,fA 1 23 0 22,mS 3 25 3,mS 4 26 10,iA 5 27 1 25 26,mS 7 29 3,mS 8 30 10,bI 9 31 .add 30 1,iA 10 32 1 29 31,lF 2 24 23,lF 6 28 27,lF 11 33 32,o1 12 34 (.build [(I 0),(I 0)] [(0,1,(.s 28)),(1,1,(.s 33))]),o1 13 35 (.lit 0 2 [[(I 0),(I 0)]] [(0,(.s 34))]),o1 14 36 (.append 2 16 (.s 24) (.s 35)),fA 15 37 1 9,fA 16 38 0 37,o0 17 (.store 1 (.s 38) (.s 36))] [(9,13)] (some [10,8,0,3,9])))
  (rG 0 [mS 0 20 10,bI 1 21 .add 20 2,mS 2 10 21] [10,8,0,3,9])))
abbrev f_kerbstonekit_road : Nat := 83
def c_kerbstonekit_road : CFn := { frz := true,rnd := none,nargs := 4,ntmps := 43,res := [(.cell 8 true 5)],code :=
  (sQ (rG 1 [o1 0 8 (.box 0 5 (.k (.a [(I 0),.nilslice,(I 0),(I 0),.nilslice])))] [1,2,8,0,3])
  (sQ (rG 1 [mS 0 11 0,mS 1 12 1,mS 2 13 2,o1 3 14 (.build [(I 0),.nilslice,(I 0),(I 0),.nilslice] [(0,1,(.s 11)),(2,1,(kI 1500)),(3,1,(.s 12)),(4,1,(.s 13))]),o1 4 9 (.box 0 5 (.k (.a [(I 0),.nilslice,(I 0),(I 0),.nilslice]))),o0 5 (.store 5 (.s 9) (.s 14))] [8,0,3,9])
  (sQ (sQ (rG 0 [mI 0 10 0] [10,8,0,3,9])
  (.block 0 (.loop (some [10,8,0,3,9]) c_kerbstonekit_road_l1)))
  (sQ (sQ (rG 0 [mS 0 39 0,bI 1 40 .eql 39 3] [40,9,8])
  (.cond (.s 40) (rG 0 [fA 0 41 2 9,o0 1 (.store 1 (.s 41) (kI 500))] [9,8])
  .skip))
  (sQ (rG 0 [lT 0 42 5 9,o0 1 (.store 5 (.s 8) (.s 42))] [8])
  .ret))))) }
abbrev f_curve_Copy : Nat := 86
def c_curve_Copy : CFn := { frz := true,rnd := none,nargs := 1,ntmps := 6,res := [(.cell 2 true 1)],code :=
  (sQ (rG 2 [o1 0 1 (.box 0 1 (.s 0)),o1 1 2 (.box 1 1 (.k (.a [.nilslice])))] [1,2])
  (sQ (rG 0 [fA 0 3 0 1,lF 1 4 3,cA 2 5 122 [(.s 4)],o0 3 (.store 1 (.s 2) (.s 5))] [2])
  .ret)) }
abbrev f_slices_Clone_Part : Nat := 87
abbrev f_slices_Clone_Phase : Nat := 88
abbrev f_math_bits_Len64 : Nat := 106
def c_math_bits_Len64 : CFn := { frz := true,rnd := none,nargs := 1,ntmps := 25,res := [(.slot 2)],code :=
  (sQ (rG 0 [mI 0 2 0] [2,0])
  (sQ (sQ (rG 0 [mS 0 3 0,o1 1 4 (.bin .geq (.s 3) (.k (.c (.int .u64 4294967296))))] [4,2,0])
  (.cond (.s 4) (sQ (rG 0 [mS 0 5 0,o1 1 6 (.bin .shr (.s 5) (.k (.c (.int .u64 32)))),mS 2 0 6] [0])
  (rG 0 [mI 0 2 32] [0,2]))
  .skip))
  (sQ (sQ (rG 0 [mS 0 7 0,o1 1 8 (.bin .geq (.s 7) (.k (.c (.int .u64 65536))))] [8,0,2])
  (.cond (.s 8) (sQ (rG 0 [mS 0 9 0,o1 1 10 (.bin .shr (.s 9) (.k (.c (.int .u64 16)))),mS 2 0 10] [2,0])
  (rG 0 [mS 0 11 2,bI 1 12 .add 11 16,mS 2 2 12] [0,2]))
  .skip))
  (sQ (sQ (rG 0 [mS 0 13 0,o1 1 14 (.bin .geq (.s 13) (.k (.c (.int .u64 256))))] [14,0,2])
  (.cond (.s 14) (sQ (rG 0 [mS 0 15 0,o1 1 16 (.bin .shr (.s 15) (.k (.c (.int .u64 8)))),mS 2 0 16] [2,0])
  (rG 0 [mS 0 17 2,bI 1 18 .add 17 8,mS 2 2 18] [2,0]))
  .skip))
  (sQ (rG 0 [mS 0 19 2,mS 1 20 0,o1 2 21 (.conv .u8 (.s 20)),⟨3,(some 22),none,.p2 .sidx (.k (.c (.str ⟨#[0,1,2,2,3,3,3,3,4,4,4,4,4,4,4,4,5,5,5,5,5,5,5,5,5,5,5,5,5,5,5,5,6,6,6,6,6,6,6,6,6,6,6,6,6,6,6,6,6,6,6,6,6,6,6,6,6,6,6,6,6,6,6,6,7,7,7,7,7,7,7,7,7,7,7,7,7,7,7,7,7,7,7,7,7,7,7,7,7,7,7,7,7,7,7,7,7,7,7,7,7,7,7,7,7,7,7,7,7,7,7,7,7,7,7,7,7,7,7,7,7,7,7,7,7,7,7,7,8,8,8,8,8,8,8,8,8,8,8,8,8,8,8,8,8,8,8,8,8,8,8,8,8,8,8,8,8,8,8,8,8,8,8,8,8,8,8,8,8,8,8,8,8,8,8,8,8,8,8,8,8,8,8,8,8,8,8,8,8,8,8,8,8,8,8,8,8,8,8,8,8,8,8,8,8,8,8,8,8,8,8,8,8,8,8,8,8,8,8,8,8,8,8,8,8,8,8,8,8,8,8,8,8,8,8,8,8,8,8,8,8,8,8,8,8,8,8,8,8,8,8,8,8,8,8,8]⟩))) (.s 21)⟩,o1 4 23 (.conv .i64 (.s 22)),bS 5 24 .add 19 23,mS 6 2 24] [2])
  .ret))))) }
def c_world_Copy_l1 : CC := (sQ (rG 0 [bS 0 16 .lss 15 14] [16,15,14,2,13,3])
  (sQ (.cond (.s 16) .skip
  (.exit 0))
  (sQ (.block 1 (sQ (rG 1 [iA 0 17 7 13 15,lT 1 18 7 17,o1 2 5 (.box 0 7 (.k (.a [.nilslice,(I 0),(I 0),(I 0),(I 0),(.bool false),(.bool false)]))),o0 3 (.store 7 (.s 5) (.s 18))] [5,15,14,2,13,3])
  (.region 1 [fA 0 19 1 3,lF 1 20 19,lT 2 21 7 5,cA 3 22 133 [(.s 21)],o1 4 23 (.lit 0 7 [[.nilslice,(I 0),(I 0),(I 0),(I 0),(.bool false),(.bool false)]] [(0,(.s 22))]),o1 5 24 (.append 7 64 (.s 20) (.s 23)),fA 6 25 1 3,o0 7 (.store 1 (.s 25) (.s 24))] [(1,3),(1,4)] (some [15,14,2,13,3]))))
  (rG 0 [bI 0 26 .add 15 1,mS 1 15 26] [15,14,2,13,3]))))
abbrev f_world_Copy : Nat := 107
def c_world_Copy : CFn := { frz := true,rnd := none,nargs := 1,ntmps := 28,res := [(.cell 2 true 3)],code :=
  (sQ (rG 2 [o1 0 1 (.box 0 3 (.s 0)),o1 1 2 (.box 1 3 (.k (.a [(I 0),.nilslice,.nilslice])))] [1,2])
  (sQ (.region 1 [fA 0 6 0 1,fA 2 8 2 1,lF 1 7 6,lF 3 9 8,cA 4 10 132 [(.s 9)],o1 5 11 (.build [(I 0),.nilslice,.nilslice] [(0,1,(.s 7)),(2,1,(.s 10))]),o1 6 3 (.box 0 3 (.k (.a [(I 0),.nilslice,.nilslice]))),o0 7 (.store 3 (.s 3) (.s 11))] [(2,4),(2,6),(3,6),(4,6)] (some [1,2,3]))
  (sQ (sQ (rG 0 [fA 0 12 1 1,lF 1 13 12,lN 2 14 13,mI 3 15 0] [15,14,2,13,3])
  (.block 0 (.loop (some [15,14,2,13,3]) c_world_Copy_l1)))
  (sQ (rG 0 [lT 0 27 3 3,o0 1 (.store 3 (.s 2) (.s 27))] [2])
  .ret)))) }
def c_world_Check_l1 : CC := (sQ (rG 0 [bS 0 38 .lss 37 36] [38,3,2,36,37])
  (sQ (.cond (.s 38) .skip
  (.exit 1))
  (sQ (.block 2 (sQ (rG 0 [mS 0 39 37,mS 1 7 39] [7,3,2,36,37])
  (sQ (rG 0 [lT 0 40 5 2,lT 1 41 3 3,mS 2 42 7,cA 3 43 134 [(.s 40),(.s 41),(.s 42)],mS 4 8 43] [3,2,36,37,8])
  (sQ (rG 0 [mS 0 44 8,bI 1 45 .neq 44 0] [45,3,2,36,37,8])
  (.cond (.s 45) (sQ (rG 0 [mS 0 46 8,mS 1 4 46] [4])
  .ret)
  .skip)))))
  (rG 0 [bI 0 47 .add 37 1,mS 1 37 47] [36,2,3,37]))))
def c_world_Check_l2 : CC := (sQ (rG 0 [bS 0 52 .lss 51 50] [52,3,2,49,50,51])
  (sQ (.cond (.s 52) .skip
  (.exit 3))
  (sQ (.block 4 (sQ (rG 1 [mS 0 53 51,iA 1 54 4 49 51,lT 2 55 4 54,o1 3 10 (.box 0 4 (.k (.a [(I 0),(I 0),(I 0),(I 0)]))),mS 4 9 53,o0 5 (.store 4 (.s 10) (.s 55))] [9,10,3,2,49,50,51])
  (sQ (rG 0 [fA 0 56 0 10,lF 1 57 56,bI 2 58 .lss 57 0,mS 3 59 58,oG 4 60 59 false (.faddr 0 (.s 10)),oG 6 62 59 false (.faddr 1 (.s 3)),oG 5 61 59 false (.load false 1 (.s 60)),oG 7 63 59 false (.load false 1 (.s 62)),oG 8 64 59 false (.len (.s 63)),oG 9 65 59 false (.bin .geq (.s 61) (.s 64)),o1 10 66 (.pick (.s 59) (kB true) (.s 65)),mS 11 67 66,oG 12 68 67 false (.faddr 1 (.s 10)),oG 13 69 67 false (.load false 1 (.s 68)),oG 14 70 67 false (.bin .lss (.s 69) (kI 0)),o1 15 71 (.pick (.s 67) (kB true) (.s 70)),mS 16 72 71,oG 17 73 72 false (.faddr 1 (.s 10)),oG 19 75 72 false (.faddr 2 (.s 2)),oG 18 74 72 false (.load false 1 (.s 73)),oG 20 76 72 false (.load false 1 (.s 75)),oG 21 77 72 false (.len (.s 76)),oG 22 78 72 false (.bin .geq (.s 74) (.s 77)),o1 23 79 (.pick (.s 72) (kB true) (.s 78)),mS 24 80 79,oG 25 81 80 false (.mv (.s 9)),oG 26 82 80 false (.bin .gtr (.s 81) (kI 0)),oG 27 83 80 false (.mv (.s 82)),oG 28 84 83 true (.faddr 2 (.s 3)),oG 30 86 83 true (.mv (.s 9)),oG 31 87 83 true (.bin .sub (.s 86) (kI 1)),oG 29 85 83 true (.load false 1 (.s 84)),oG 32 88 83 true (.iaddr 4 (.s 85) (.s 87)),oG 33 89 83 true (.load true 4 (.s 88)),oG 34 90 83 true (.load true 4 (.s 10)),⟨35,(some 91),(some (83,true)),.call ⟨true⟩ (.k (.c (.fn 135 [] []))) [(.s 89),(.s 90)]⟩,oG 36 92 83 true (.bin .geq (.s 91) (kI 0)),oG 37 93 80 false (.pick (.s 83) (.s 92) (kB false)),o1 38 94 (.pick (.s 80) (kB true) (.s 93))] [94,3,2,49,50,51])
  (.cond (.s 94) (sQ (rG 0 [mI 0 4 11] [4])
  .ret)
  .skip))))
  (rG 0 [bI 0 95 .add 51 1,mS 1 51 95] [50,49,2,3,51]))))
abbrev f_world_Check : Nat := 108
def c_world_Check : CFn := { frz := true,rnd := none,nargs := 2,ntmps := 100,res := [(.slot 4)],code :=
  (sQ (rG 2 [o1 0 2 (.box 0 5 (.s 0)),o1 1 3 (.box 1 3 (.s 1)),mI 2 4 0] [2,3])
  (sQ (sQ (rG 0 [lT 0 11 5 2,cA 1 12 115 [(.s 11)],mS 2 5 12] [2,3,5])
  (sQ (rG 0 [mS 0 13 5,bI 1 14 .neq 13 0] [14,2,3,5])
  (.cond (.s 14) (sQ (rG 0 [mS 0 15 5,mS 1 4 15] [4])
  .ret)
  .skip)))
  (sQ (sQ (rG 0 [fA 0 16 1 3,lF 1 17 16,lN 2 18 17,mS 3 6 18] [6,3,2])
  (.block 0 (sQ (rG 0 [fA 0 20 0 3,lF 1 21 20,bI 2 22 .lss 21 0,mS 3 23 22,oG 4 24 23 false (.faddr 0 (.s 3)),oG 5 25 23 false (.load false 1 (.s 24)),oG 6 26 23 false (.bin .gtr (.s 25) (kI 1099511627776)),o1 7 27 (.pick (.s 23) (kB true) (.s 26)),mS 8 19 27] [19,6,3,2])
  (.cond (.s 19) (sQ (rG 0 [mI 0 4 2] [4])
  .ret)
  (sQ (rG 0 [mS 0 29 6,bI 1 30 .eql 29 0,mS 2 28 30] [28,2,3,6])
  (.cond (.s 28) (sQ (rG 0 [mI 0 4 6] [4])
  .ret)
  (sQ (rG 0 [mS 0 32 6,bI 1 33 .gtr 32 8,mS 2 31 33] [31,3,2])
  (.cond (.s 31) (sQ (rG 0 [mI 0 4 8] [4])
  .ret)
  .skip))))))))
  (sQ (sQ (rG 0 [fA 0 34 1 3,lF 1 35 34,lN 2 36 35,mI 3 37 0] [36,2,3,37])
  (.block 1 (.loop (some [36,2,3,37]) c_world_Check_l1)))
  (sQ (sQ (rG 0 [fA 0 48 2 3,lF 1 49 48,lN 2 50 49,mI 3 51 0] [50,49,2,3,51])
  (.block 3 (.loop (some [50,49,2,3,51]) c_world_Check_l2)))
  (sQ (sQ (rG 0 [fA 0 96 2 3,lF 1 97 96,o1 2 98 (.mkfn 137 [] [(.s 3)]),cA 3 99 136 [(.s 97),(.s 98)]] [99])
  (.cond (.s 99) (sQ (rG 0 [mI 0 4 2] [4])
  .ret)
  .skip))
  (sQ (rG 0 [mI 0 4 0] [4])
  .ret))))))) }
abbrev f_slices_ContainsFunc_Agent : Nat := 109
def c_slices_ContainsFunc_Agent : CFn := { frz := true,rnd := none,nargs := 2,ntmps := 9,res := [(.slot 4)],code :=
  (sQ (rG 0 [mB 0 4 false] [0,1])
  (sQ (rG 0 [mS 0 5 0,mS 1 6 1,cA 2 7 138 [(.s 5),(.s 6)],bI 3 8 .geq 7 0,mS 4 4 8] [4])
  .ret)) }
abbrev f_world_New_1 : Nat := 110
def c_world_New_1 : CFn := { frz := true,rnd := none,nargs := 1,ntmps := 5,res := [(.slot 2)],code :=
  (sQ (rG 1 [o1 0 1 (.box 0 7 (.s 0)),mB 1 2 false] [1])
  (sQ (rG 0 [fA 0 3 6 1,lF 1 4 3,mS 2 2 4] [2])
  .ret)) }
def c_world_scene_stays_l1 : CC := (sQ (rG 0 [bS 0 30 .lss 29 28] [30,29,28,16,17,18,0,3,2])
  (sQ (.cond (.s 30) .skip
  (.exit 2))
  (sQ (.block 3 (sQ (rG 0 [mS 0 31 29,mS 1 4 31] [4,29,28,16,17,18,0,3,2])
  (sQ (sQ (rG 0 [mS 0 32 0,mS 1 33 2,mS 2 34 4,cA 3 35 139 [(.s 32),(.s 33),(.s 34)],o1 4 36 (.un .not (.s 35))] [36,4,29,28,16,17,18,0,3,2])
  (.cond (.s 36) (.exit 3)
  .skip))
  (sQ (rG 1 [mS 0 37 2,mS 1 38 4,mS 2 39 0,nC 3 40 39,fA 4 41 5 40,fA 5 42 0 41,lF 6 43 42,o1 7 44 (.build [(I 0),(I 0),(I 0),(I 0)] [(0,1,(.s 37)),(1,1,(.s 38)),(2,1,(.s 43))]),o1 8 5 (.box 0 4 (.k (.a [(I 0),(I 0),(I 0),(I 0)]))),o0 9 (.store 4 (.s 5) (.s 44))] [4,5,29,28,16,17,18,0,3,2])
  (sQ (sQ (rG 0 [mS 0 46 0,nC 1 47 46,fA 2 48 5 47,fA 3 49 2 48,lF 4 50 49,lT 5 51 4 5,⟨6,(some 52),none,.call ⟨true⟩ (.k (.c (.fn 140 [] []))) [(.s 50),(.s 51),(.k (.c (.fn 135 [] [])))]⟩,mS 7 45 52,eX 8 53 45 0,eX 9 54 45 1,mS 10 6 53,mS 11 7 54] [7,4,6,5,29,28,16,17,18,0,3,2])
  (sQ (rG 0 [mS 0 55 7] [55,4,6,5,29,28,16,17,18,0,3,2])
  (.cond (.s 55) (rG 0 [mS 0 56 0,nC 1 57 56,fA 2 58 5 57,fA 3 59 2 58,lF 4 60 59,mS 5 61 6,iA 6 62 4 60 61,lT 7 63 4 62,o0 8 (.store 4 (.s 5) (.s 63))] [5,29,28,16,17,18,0,3,2])
  (rG 0 [mS 0 64 0,nC 1 65 64,fA 2 66 0 65,mS 5 69 4,mS 6 70 0,nC 7 71 70,fA 8 72 5 71,fA 9 73 0 72,lT 3 67 5 66,lT 4 68 7 3,lF 10 74 73,cA 11 75 141 [(.s 67),(.s 68),(.s 69),(.s 74)],fA 12 76 3 5,o0 13 (.store 1 (.s 76) (.s 75))] [5,29,28,16,17,18,0,3,2]))))
  (.region 1 [mS 0 77 0,mS 1 78 0,nC 2 79 78,fA 3 80 8 79,fA 4 81 2 80,lF 5 82 81,lT 6 83 4 5,o1 7 84 (.lit 0 4 [[(I 0),(I 0),(I 0),(I 0)]] [(0,(.s 83))]),o1 8 85 (.append 4 32 (.s 82) (.s 84)),nC 9 86 77,fA 10 87 8 86,fA 11 88 2 87,o0 12 (.store 1 (.s 88) (.s 85))] [(5,7)] (some [29,28,16,17,18,0,3,2])))))))
  (rG 0 [bI 0 89 .add 29 1,mS 1 29 89] [29,28,16,17,18,0,3,2]))))
def c_world_scene_stays_l2 : CC := (sQ (rG 0 [bS 0 19 .lss 18 17] [19,16,17,18,0])
  (sQ (.cond (.s 19) .skip
  (.exit 0))
  (sQ (.block 1 (sQ (rG 1 [mS 0 20 18,iA 1 21 7 16 18,lT 2 22 7 21,o1 3 3 (.box 0 7 (.k (.a [.nilslice,(I 0),(I 0),(I 0),(I 0),(.bool false),(.bool false)]))),mS 4 2 20,o0 5 (.store 7 (.s 3) (.s 22))] [16,17,18,0,3,2])
  (sQ (rG 0 [mS 0 23 0,nC 1 24 23,fA 2 25 0 24,fA 3 26 2 25,lF 4 27 26,lN 5 28 27,mI 6 29 0] [29,28,16,17,18,0,3,2])
  (.block 2 (.loop (some [29,28,16,17,18,0,3,2]) c_world_scene_stays_l1)))))
  (rG 0 [bI 0 90 .add 18 1,mS 1 18 90] [17,16,18,0]))))
abbrev f_world_scene_stays : Nat := 111
def c_world_scene_stays : CFn := { frz := true,rnd := none,nargs := 1,ntmps := 91,res := [],code :=
  (sQ (rG 0 [mS 0 8 0,nC 1 9 8,fA 2 10 8 9,fA 3 11 2 10,o0 4 (.store 1 (.s 11) (.k (.c .nilslice)))] [0])
  (sQ (rG 0 [mS 0 12 0,nC 1 13 12,fA 2 14 5 13,fA 3 15 1 14,lF 4 16 15,lN 5 17 16,mI 6 18 0] [17,16,18,0])
  (.block 0 (.loop (some [17,16,18,0]) c_world_scene_stays_l2)))) }
abbrev f_world_scene_pairs : Nat := 112
def c_world_scene_pairs : CFn := { frz := true,rnd := none,nargs := 1,ntmps := 4,res := [(.slot 2)],code :=
  (sQ (rG 1 [o1 0 1 (.box 0 1 (.s 0)),o1 1 2 (.mv (.k (.c .nilfn)))] [1])
  (sQ (rG 0 [o1 0 3 (.mkfn 142 [] [(.s 1)]),mS 1 2 3] [2])
  .ret)) }
abbrev f_world_Touching : Nat := 113
def c_world_Touching : CFn := { frz := true,rnd := none,nargs := 3,ntmps := 16,res := [(.slot 6)],code :=
  (sQ (rG 3 [o1 0 3 (.box 0 5 (.s 0)),o1 1 4 (.box 1 7 (.s 1)),o1 2 5 (.box 2 7 (.s 2)),mB 3 6 false] [5,3,4])
  (sQ (rG 1 [lT 0 8 5 3,lT 1 9 7 5,cA 2 10 144 [(.s 8),(.s 9)],o1 3 7 (.box 0 1 (.k (.a [.nilslice]))),o0 4 (.store 1 (.s 7) (.s 10))] [3,4,7])
  (sQ (rG 0 [lT 0 11 5 3,lT 1 12 7 4,cA 2 13 144 [(.s 11),(.s 12)],o1 3 14 (.mkfn 146 [] [(.s 7)]),cA 4 15 145 [(.s 13),(.s 14)],mS 5 6 15] [6])
  .ret))) }
abbrev f_world_scene_clash : Nat := 114
def c_world_scene_clash : CFn := { frz := true,rnd := none,nargs := 4,ntmps := 52,res := [(.slot 8)],code :=
  (sQ (rG 0 [mB 0 8 false] [1,0,2,3])
  (sQ (.region 0 [mS 0 9 0,mS 1 10 1,mS 2 11 3,cA 3 12 139 [(.s 9),(.s 10),(.s 11)],mS 4 13 12,oG 5 14 13 true (.mv (.s 0)),oG 6 15 13 true (.mv (.s 2)),oG 7 16 13 true (.mv (.s 3)),⟨8,(some 17),(some (13,true)),.call ⟨true⟩ (.k (.c (.fn 139 [] []))) [(.s 14),(.s 15),(.s 16)]⟩,o1 9 18 (.pick (.s 13) (.s 17) (kB false)),mS 10 19 18,oG 11 20 19 true (.mv (.s 0)),oG 12 21 19 true (.nilck (.s 20)),oG 13 22 19 true (.faddr 0 (.s 21)),oG 15 24 19 true (.mv (.s 0)),oG 16 25 19 true (.nilck (.s 24)),oG 17 26 19 true (.faddr 5 (.s 25)),oG 18 27 19 true (.faddr 1 (.s 26)),oG 20 29 19 true (.mv (.s 1)),oG 24 33 19 true (.mv (.s 3)),oG 26 35 19 true (.mv (.s 0)),oG 27 36 19 true (.nilck (.s 35)),oG 28 37 19 true (.faddr 0 (.s 36)),oG 30 39 19 true (.mv (.s 0)),oG 31 40 19 true (.nilck (.s 39)),oG 32 41 19 true (.faddr 5 (.s 40)),oG 33 42 19 true (.faddr 1 (.s 41)),oG 35 44 19 true (.mv (.s 2)),oG 39 48 19 true (.mv (.s 3)),oG 14 23 19 true (.load true 5 (.s 22)),oG 19 28 19 true (.load false 1 (.s 27)),oG 21 30 19 true (.iaddr 7 (.s 28) (.s 29)),oG 22 31 19 true (.faddr 0 (.s 30)),oG 23 32 19 true (.load false 1 (.s 31)),oG 29 38 19 true (.load true 5 (.s 37)),oG 34 43 19 true (.load false 1 (.s 42)),oG 36 45 19 true (.iaddr 7 (.s 43) (.s 44)),oG 37 46 19 true (.faddr 0 (.s 45)),oG 38 47 19 true (.load false 1 (.s 46)),⟨25,(some 34),(some (19,true)),.call ⟨true⟩ (.k (.c (.fn 150 [] []))) [(.s 23),(.s 32),(.s 33)]⟩,⟨40,(some 49),(some (19,true)),.call ⟨true⟩ (.k (.c (.fn 150 [] []))) [(.s 38),(.s 47),(.s 48)]⟩,oG 41 50 19 true (.bin .neq (.s 34) (.s 49)),o1 42 51 (.pick (.s 19) (.s 50) (kB false)),mS 43 8 51] [(34,39),(35,39),(38,39)] (some [8]))
  .ret)) }
def c_roads_Check_l1 : CC := (sQ (rG 0 [bS 0 9 .lss 8 7] [9,1,6,7,8])
  (sQ (.cond (.s 9) .skip
  (.exit 0))
  (sQ (.block 1 (sQ (rG 0 [iA 0 10 1 6 8,lF 1 11 10,mS 2 4 11] [4,1,6,7,8])
  (sQ (rG 0 [mS 0 12 4,lT 1 13 5 1,o1 2 14 (.build [(I 0),.nilslice,.nilslice,.nilslice,.nilslice] [(0,5,(.s 13))]),⟨3,(some 15),none,.call ⟨true⟩ (.s 12) [(.s 14)]⟩,mS 4 5 15] [1,6,7,8,5])
  (sQ (rG 0 [mS 0 16 5,bI 1 17 .neq 16 0] [17,1,6,7,8,5])
  (.cond (.s 17) (sQ (rG 0 [mS 0 18 5,mS 1 2 18] [2])
  .ret)
  .skip)))))
  (rG 0 [bI 0 19 .add 8 1,mS 1 8 19] [7,6,1,8]))))
abbrev f_roads_Check : Nat := 115
def c_roads_Check : CFn := { frz := true,rnd := none,nargs := 1,ntmps := 20,res := [(.slot 2)],code :=
  (sQ (rG 1 [o1 0 1 (.box 0 5 (.s 0)),mI 1 2 0] [1])
  (sQ (sQ (rG 1 [o1 0 6 (.mlay .litf 0 [(.k (.c (.fn 151 [] []))),(.k (.c (.fn 152 [] []))),(.k (.c (.fn 153 [] []))),(.k (.c (.fn 154 [] []))),(.k (.c (.fn 155 [] []))),(.k (.c (.fn 156 [] [])))]),lN 1 7 6,mI 2 8 0] [7,6,1,8])
  (.block 0 (.loop (some [7,6,1,8]) c_roads_Check_l1)))
  (sQ (rG 0 [mI 0 2 0] [2])
  .ret))) }
abbrev f_roads_Fit : Nat := 116
def c_roads_Fit : CFn := { frz := true,rnd := none,nargs := 1,ntmps := 24,res := [(.slot 2)],code :=
  (sQ (rG 1 [o1 0 1 (.box 0 5 (.s 0)),mB 1 2 false] [1])
  (sQ (.region 0 [lT 0 3 5 1,cA 1 4 115 [(.s 3)],bI 2 5 .eql 4 0,mS 3 6 5,oG 4 7 6 true (.load true 5 (.s 1)),oG 7 10 6 true (.load true 5 (.s 1)),oG 11 14 6 true (.load true 5 (.s 1)),oG 15 18 6 true (.load true 5 (.s 1)),⟨5,(some 8),(some (6,true)),.call ⟨true⟩ (.k (.c (.fn 157 [] []))) [(.s 7)]⟩,oG 6 9 6 true (.len (.s 8)),⟨8,(some 11),(some (6,true)),.call ⟨true⟩ (.k (.c (.fn 158 [] []))) [(.s 10)]⟩,oG 9 12 6 true (.len (.s 11)),oG 10 13 6 true (.bin .add (.s 9) (.s 12)),⟨12,(some 15),(some (6,true)),.call ⟨true⟩ (.k (.c (.fn 159 [] []))) [(.s 14)]⟩,oG 13 16 6 true (.len (.s 15)),oG 14 17 6 true (.bin .add (.s 13) (.s 16)),⟨16,(some 19),(some (6,true)),.call ⟨true⟩ (.k (.c (.fn 160 [] []))) [(.s 18)]⟩,oG 17 20 6 true (.len (.s 19)),oG 18 21 6 true (.bin .add (.s 17) (.s 20)),oG 19 22 6 true (.bin .eql (.s 21) (kI 0)),o1 20 23 (.pick (.s 6) (.s 22) (kB false)),mS 21 2 23] [(5,8),(6,8),(6,10),(7,8),(7,10),(7,13)] (some [2]))
  .ret)) }
def c_roads_CheckRoute_l1 : CC := (sQ (rG 0 [bS 0 53 .lss 52 51] [53,6,2,50,51,52])
  (sQ (.cond (.s 53) .skip
  (.exit 0))
  (sQ (.block 1 (sQ (rG 0 [iA 0 54 1 50 52,lF 1 55 54,mS 2 8 55] [6,2,50,51,52,8])
  (sQ (sQ (rG 0 [fA 0 56 1 2,lF 1 57 56,mS 2 58 6,iA 3 59 5 57 58,fA 4 60 4 59,lF 5 61 60,mS 6 62 8,cA 7 63 162 [(.s 61),(.s 62)],o1 8 64 (.un .not (.s 63))] [64,2,50,51,52,8])
  (.cond (.s 64) (sQ (rG 0 [mI 0 4 13] [4])
  .ret)
  .skip))
  (rG 0 [mS 0 65 8,mS 1 6 65] [52,6,51,50,2]))))
  (rG 0 [bI 0 66 .add 52 1,mS 1 52 66] [6,51,50,2,52]))))
abbrev f_roads_CheckRoute : Nat := 117
def c_roads_CheckRoute : CFn := { frz := true,rnd := none,nargs := 2,ntmps := 67,res := [(.slot 4)],code :=
  (sQ (rG 1 [o1 0 2 (.box 0 5 (.s 0)),mI 1 4 0] [1,2])
  (sQ (sQ (rG 0 [lT 0 9 5 2,cA 1 10 115 [(.s 9)],mS 2 5 10] [1,2,5])
  (sQ (rG 0 [mS 0 11 5,bI 1 12 .neq 11 0] [12,1,2,5])
  (.cond (.s 12) (sQ (rG 0 [mS 0 13 5,mS 1 4 13] [4])
  .ret)
  .skip)))
  (sQ (sQ (rG 0 [mS 0 14 1,lN 1 15 14,bI 2 16 .eql 15 0,mS 3 17 16,oG 4 18 17 false (.mv (.s 1)),oG 5 19 17 false (.len (.s 18)),oG 6 20 17 false (.bin .gtr (.s 19) (kI 8)),o1 7 21 (.pick (.s 17) (kB true) (.s 20)),mS 8 22 21,oG 9 23 22 false (.mv (.s 1)),oG 10 24 22 false (.iaddr 1 (.s 23) (kI 0)),oG 11 25 22 false (.load false 1 (.s 24)),oG 12 26 22 false (.bin .lss (.s 25) (kI 0)),o1 13 27 (.pick (.s 22) (kB true) (.s 26)),mS 14 28 27,oG 15 29 28 false (.mv (.s 1)),oG 16 30 28 false (.iaddr 1 (.s 29) (kI 0)),oG 18 32 28 false (.faddr 1 (.s 2)),oG 17 31 28 false (.load false 1 (.s 30)),oG 19 33 28 false (.load false 1 (.s 32)),oG 20 34 28 false (.len (.s 33)),oG 21 35 28 false (.bin .geq (.s 31) (.s 34)),o1 22 36 (.pick (.s 28) (kB true) (.s 35)),mS 23 37 36,oG 25 39 37 false (.mv (.s 1)),oG 26 40 37 false (.iaddr 1 (.s 39) (kI 0)),oG 24 38 37 false (.load true 5 (.s 2)),oG 27 41 37 false (.load false 1 (.s 40)),⟨28,(some 42),(some (37,false)),.call ⟨true⟩ (.k (.c (.fn 161 [] []))) [(.s 38),(.s 41)]⟩,oG 29 43 37 false (.len (.s 42)),oG 30 44 37 false (.bin .gtr (.s 43) (kI 0)),o1 31 45 (.pick (.s 37) (kB true) (.s 44))] [45,2,1])
  (.cond (.s 45) (sQ (rG 0 [mI 0 4 13] [4])
  .ret)
  .skip))
  (sQ (rG 0 [mS 0 46 1,o1 1 47 (.iaddr 1 (.s 46) (kI 0)),lF 2 48 47,mS 3 6 48] [1,6,2])
  (sQ (sQ (rG 0 [mS 0 49 1,o1 1 50 (.slice 1 (.s 49) (some (kI 1)) none none),lN 2 51 50,mI 3 52 0] [6,51,50,2,52])
  (.block 0 (.loop (some [6,51,50,2,52]) c_roads_CheckRoute_l1)))
  (sQ (rG 0 [mI 0 4 0] [4])
  .ret)))))) }
abbrev f_plan_CheckCar : Nat := 118
def c_plan_CheckCar : CFn := { frz := true,rnd := none,nargs := 1,ntmps := 26,res := [(.slot 2)],code :=
  (sQ (rG 1 [o1 0 1 (.box 0 5 (.s 0)),mI 1 2 0] [1])
  (sQ (sQ (rG 0 [fA 0 3 0 1,lF 1 4 3,cA 2 5 163 [(.s 4),(kI 300),(kI 20000)],mS 3 6 5,oG 4 7 6 true (.faddr 1 (.s 1)),oG 5 8 6 true (.load false 1 (.s 7)),⟨6,(some 9),(some (6,true)),.call ⟨true⟩ (.k (.c (.fn 163 [] []))) [(.s 8),(kI 1),(kI 30)]⟩,o1 7 10 (.pick (.s 6) (.s 9) (kB false)),mS 8 11 10,oG 9 12 11 true (.faddr 2 (.s 1)),oG 10 13 11 true (.load false 1 (.s 12)),⟨11,(some 14),(some (11,true)),.call ⟨true⟩ (.k (.c (.fn 163 [] []))) [(.s 13),(kI 20),(kI 90)]⟩,o1 12 15 (.pick (.s 11) (.s 14) (kB false)),mS 13 16 15,oG 14 17 16 true (.faddr 3 (.s 1)),oG 15 18 16 true (.load false 1 (.s 17)),⟨16,(some 19),(some (16,true)),.call ⟨true⟩ (.k (.c (.fn 163 [] []))) [(.s 18),(kI 5),(kI 120)]⟩,o1 17 20 (.pick (.s 16) (.s 19) (kB false)),mS 18 21 20,oG 19 22 21 true (.faddr 4 (.s 1)),oG 20 23 21 true (.load false 1 (.s 22)),⟨21,(some 24),(some (21,true)),.call ⟨true⟩ (.k (.c (.fn 163 [] []))) [(.s 23),(kI 0),(kI 5)]⟩,o1 22 25 (.pick (.s 21) (.s 24) (kB false))] [25])
  (.cond (.s 25) (sQ (rG 0 [mI 0 2 0] [2])
  .ret)
  .skip))
  (sQ (rG 0 [mI 0 2 2] [2])
  .ret))) }
def c_drive_parked_l1 : CC := (sQ (rG 0 [bS 0 84 .lss 83 82] [84,83,82,66,65,3,1,4,7,81,6,8])
  (sQ (.cond (.s 84) .skip
  (.exit 2))
  (sQ (.block 3 (sQ (rG 1 [iA 0 85 4 81 83,lT 1 86 4 85,o1 2 10 (.box 0 4 (.k (.a [(I 0),(I 0),(I 0),(I 0)]))),o0 3 (.store 4 (.s 10) (.s 86))] [10,83,82,66,65,3,1,4,7,81,6,8])
  (sQ (rG 0 [mS 0 87 6,lT 1 88 4 10,⟨2,(some 89),none,.call ⟨true⟩ (.s 87) [(.s 88)]⟩] [89,10,83,82,66,65,3,1,4,7,81,6,8])
  (.cond (.s 89) (rG 0 [lT 0 90 4 10,o0 1 (.store 4 (.s 8) (.s 90))] [83,82,66,65,3,1,4,7,81,6,8])
  .skip))))
  (rG 0 [bI 0 91 .add 83 1,mS 1 83 91] [83,82,66,65,3,1,4,7,81,6,8]))))
def c_drive_parked_l2 : CC := (sQ (rG 0 [bS 0 67 .lss 66 65] [67,66,65,3,1,4])
  (sQ (.cond (.s 67) .skip
  (.exit 0))
  (sQ (.block 1 (sQ (rG 1 [mS 0 68 66,o1 1 5 (.box 0 1 (.k (.a [(I 0)]))),o0 2 (.store 1 (.s 5) (.s 68))] [5,66,65,3,1,4])
  (sQ (rG 0 [o1 0 69 (.mkfn 166 [] [(.s 5)]),mS 1 6 69] [6,66,65,3,1,4])
  (sQ (sQ (rG 0 [mS 0 70 4,mS 1 71 6,cA 2 72 167 [(.s 70),(.s 71)],o1 3 73 (.un .not (.s 72))] [73,6,66,65,3,1,4])
  (.cond (.s 73) (.exit 1)
  .skip))
  (sQ (rG 1 [mS 0 74 4,mS 1 75 4,mS 2 76 6,cA 3 77 168 [(.s 75),(.s 76)],iA 4 78 4 74 77,lT 5 79 4 78,o1 6 7 (.box 0 4 (.k (.a [(I 0),(I 0),(I 0),(I 0)]))),o0 7 (.store 4 (.s 7) (.s 79))] [66,65,3,1,4,7,6])
  (sQ (rG 1 [lT 0 80 4 7,o1 1 8 (.box 0 4 (.k (.a [(I 0),(I 0),(I 0),(I 0)]))),o0 2 (.store 4 (.s 8) (.s 80))] [66,65,3,1,4,7,6,8])
  (sQ (sQ (rG 0 [mS 0 81 4,lN 1 82 81,mI 2 83 0] [83,82,66,65,3,1,4,7,81,6,8])
  (.block 2 (.loop (some [83,82,66,65,3,1,4,7,81,6,8]) c_drive_parked_l1)))
  (sQ (rG 0 [fA 0 92 1 3,lF 1 93 92,fA 2 94 2 7,lF 3 95 94,bS 4 96 .geq 93 95,mS 5 97 96,oG 6 98 97 true (.faddr 0 (.s 3)),oG 7 99 97 true (.load false 1 (.s 98)),oG 8 100 97 true (.faddr 6 (.s 1)),oG 9 101 97 true (.faddr 0 (.s 100)),oG 10 102 97 true (.load false 1 (.s 101)),oG 11 103 97 true (.bin .sub (.s 99) (.s 102)),oG 12 104 97 true (.faddr 3 (.s 8)),oG 13 105 97 true (.load false 1 (.s 104)),oG 14 106 97 true (.bin .leq (.s 103) (.s 105)),o1 15 107 (.pick (.s 97) (.s 106) (kB false))] [107,4,1,3,65,66])
  (.cond (.s 107) (sQ (rG 0 [mB 0 2 false] [2])
  .ret)
  .skip)))))))))
  (rG 0 [bI 0 108 .add 66 1,mS 1 66 108] [66,65,3,1,4]))))
abbrev f_drive_parked : Nat := 119
def c_drive_parked : CFn := { frz := true,rnd := none,nargs := 1,ntmps := 109,res := [(.slot 2)],code :=
  (sQ (rG 1 [o1 0 1 (.box 0 19 (.s 0)),mB 1 2 false] [1])
  (sQ (rG 1 [fA 0 11 11 1,lT 1 12 4 11,o1 2 3 (.box 0 4 (.k (.a [(I 0),(I 0),(I 0),(I 0)]))),o0 3 (.store 4 (.s 3) (.s 12))] [1,3])
  (sQ (sQ (.region 0 [fA 0 13 2 3,lF 1 14 13,bI 2 15 .neq 14 0,mS 3 16 15,oG 4 17 16 false (.faddr 3 (.s 3)),oG 5 18 16 false (.load false 1 (.s 17)),oG 6 19 16 false (.bin .neq (.s 18) (kI 0)),o1 7 20 (.pick (.s 16) (kB true) (.s 19)),mS 8 21 20,oG 9 22 21 false (.faddr 0 (.s 3)),oG 11 24 21 false (.faddr 1 (.s 3)),oG 10 23 21 false (.load false 1 (.s 22)),oG 12 25 21 false (.load false 1 (.s 24)),oG 13 26 21 false (.bin .gtr (.s 23) (.s 25)),o1 14 27 (.pick (.s 21) (kB true) (.s 26)),mS 15 28 27,oG 16 29 28 false (.faddr 0 (.s 3)),oG 18 31 28 false (.faddr 6 (.s 1)),oG 19 32 28 false (.faddr 0 (.s 31)),oG 17 30 28 false (.load false 1 (.s 29)),oG 20 33 28 false (.load false 1 (.s 32)),oG 21 34 28 false (.bin .leq (.s 30) (.s 33)),o1 22 35 (.pick (.s 28) (kB true) (.s 34)),mS 23 36 35,oG 24 37 36 false (.faddr 1 (.s 3)),oG 26 39 36 false (.faddr 0 (.s 3)),oG 29 42 36 false (.faddr 6 (.s 1)),oG 30 43 36 false (.faddr 0 (.s 42)),oG 25 38 36 false (.load false 1 (.s 37)),oG 27 40 36 false (.load false 1 (.s 39)),oG 28 41 36 false (.bin .sub (.s 38) (.s 40)),oG 31 44 36 false (.load false 1 (.s 43)),oG 32 45 36 false (.bin .geq (.s 41) (.s 44)),o1 33 46 (.pick (.s 36) (kB true) (.s 45)),mS 34 47 46,oG 35 48 47 false (.faddr 1 (.s 3)),oG 37 50 47 false (.faddr 0 (.s 1)),oG 39 52 47 false (.faddr 5 (.s 1)),oG 36 49 47 false (.load false 1 (.s 48)),oG 38 51 47 false (.load true 5 (.s 50)),oG 40 53 47 false (.load false 1 (.s 52)),⟨41,(some 54),(some (47,false)),.call ⟨true⟩ (.k (.c (.fn 164 [] []))) [(.s 51),(.s 53)]⟩,oG 42 55 47 false (.bin .gtr (.s 49) (.s 54)),o1 43 56 (.pick (.s 47) (kB true) (.s 55))] [(38,41)] (some [56,1,3]))
  (.cond (.s 56) (sQ (rG 0 [mB 0 2 false] [2])
  .ret)
  .skip))
  (sQ (rG 0 [fA 0 57 0 1,lT 1 58 5 57,fA 2 59 5 1,lF 3 60 59,cA 4 61 165 [(.s 58),(.s 60)],mS 5 4 61] [3,1,4])
  (sQ (sQ (rG 0 [fA 0 62 0 1,fA 1 63 2 62,lF 2 64 63,lN 3 65 64,mI 4 66 0] [66,65,3,1,4])
  (.block 0 (.loop (some [66,65,3,1,4]) c_drive_parked_l2)))
  (sQ (rG 0 [mB 0 2 true] [2])
  .ret)))))) }
abbrev f_lab_ranges : Nat := 120
def c_lab_ranges : CFn := { frz := true,rnd := none,nargs := 1,ntmps := 13,res := [(.cell 2 true 2)],code :=
  (sQ (rG 1 [o1 0 2 (.box 0 2 (.k (.a [(I 0),(I 0)])))] [0,2])
  (sQ (rG 0 [o1 0 3 (.build [(I 0),(I 0)] [(0,1,(kI (-300))),(1,1,(kI 300))]),o1 1 4 (.build [(I 0),(I 0)] [(0,1,(kI 0)),(1,1,(kI 16777216))]),o1 2 5 (.build [(I 0),(I 0)] []),o1 3 6 (.build [(I 0),(I 0)] [(0,1,(kI 0)),(1,1,(kI 4))]),o1 4 7 (.build [(I 0),(I 0)] []),o1 5 8 (.build [(I 0),(I 0)] [(0,1,(kI 0)),(1,1,(kI 2))]),o1 6 9 (.build [(I 0),(I 0)] [(0,1,(kI 0)),(1,1,(kI 90))]),o1 7 10 (.build [(I 0),(I 0),(I 0),(I 0),(I 0),(I 0),(I 0),(I 0),(I 0),(I 0),(I 0),(I 0),(I 0),(I 0),(I 0),(I 0)] [(2,2,(.s 3)),(4,2,(.s 4)),(6,2,(.s 5)),(8,2,(.s 6)),(10,2,(.s 7)),(12,2,(.s 8)),(14,2,(.s 9))]),mS 8 11 0,o1 9 12 (.aidx true 8 2 (.s 10) (.s 11)),o0 10 (.store 2 (.s 2) (.s 12))] [2])
  .ret)) }
abbrev f_strconv_FormatInt : Nat := 121
def c_strconv_FormatInt : CFn := { frz := true,rnd := none,nargs := 2,ntmps := 8,res := [(.slot 4)],code :=
  (sQ (rG 0 [⟨0,(some 4),none,.mv (.k (.c (.str ⟨#[]⟩)))⟩] [0,1])
  (sQ (rG 0 [mS 0 5 0,mS 1 6 1,cA 2 7 169 [(.s 5),(.s 6)],mS 3 4 7] [4])
  .ret)) }
abbrev f_curve_through : Nat := 122
def c_curve_through : CFn := { frz := true,rnd := none,nargs := 1,ntmps := 6,res := [(.cell 2 true 1)],code :=
  (sQ (rG 1 [o1 0 2 (.box 0 1 (.k (.a [.nilslice])))] [0,2])
  (sQ (rG 0 [mS 0 3 0,cA 1 4 170 [(.s 3)],o1 2 5 (.build [.nilslice] [(0,1,(.s 4))]),o0 3 (.store 1 (.s 2) (.s 5))] [2])
  .ret)) }
abbrev f_cmp_isNaN_int : Nat := 131
def c_cmp_isNaN_int : CFn := { frz := true,rnd := none,nargs := 1,ntmps := 6,res := [(.slot 2)],code :=
  (sQ (rG 0 [mB 0 2 false] [0])
  (sQ (rG 0 [mS 0 3 0,mS 1 4 0,bS 2 5 .neq 3 4,mS 3 2 5] [2])
  .ret)) }
abbrev f_slices_Clone_Stay : Nat := 132
abbrev f_world_ownAgent : Nat := 133
def c_world_ownAgent : CFn := { frz := true,rnd := none,nargs := 1,ntmps := 8,res := [(.cell 2 true 7)],code :=
  (sQ (rG 2 [o1 0 1 (.box 0 7 (.s 0)),o1 1 2 (.box 1 7 (.k (.a [.nilslice,(I 0),(I 0),(I 0),(I 0),(.bool false),(.bool false)])))] [1,2])
  (sQ (rG 0 [fA 0 3 0 1,lF 1 4 3,cA 2 5 32 [(.s 4)],fA 3 6 0 1,o0 4 (.store 1 (.s 6) (.s 5))] [1,2])
  (sQ (rG 0 [lT 0 7 7 1,o0 1 (.store 7 (.s 2) (.s 7))] [2])
  .ret))) }
abbrev f_world_checkAgent : Nat := 134
def c_world_checkAgent : CFn := { frz := true,rnd := none,nargs := 3,ntmps := 114,res := [(.slot 6)],code :=
  (sQ (rG 2 [o1 0 3 (.box 0 5 (.s 0)),o1 1 4 (.box 1 3 (.s 1)),mI 2 6 0] [3,2,4])
  (sQ (rG 1 [fA 0 14 1 4,lF 1 15 14,mS 2 16 2,iA 3 17 7 15 16,lT 4 18 7 17,o1 5 7 (.box 0 7 (.k (.a [.nilslice,(I 0),(I 0),(I 0),(I 0),(.bool false),(.bool false)]))),o0 6 (.store 7 (.s 7) (.s 18))] [7,3,2,4])
  (sQ (sQ (rG 0 [lT 0 19 5 3,fA 1 20 0 7,lF 2 21 20,cA 3 22 117 [(.s 19),(.s 21)],bI 4 23 .neq 22 0] [23,7,3,2,4])
  (.cond (.s 23) (sQ (rG 0 [mI 0 6 13] [6])
  .ret)
  .skip))
  (sQ (sQ (.region 0 [fA 0 24 3 7,lF 1 25 24,bI 2 26 .lss 25 300,mS 3 27 26,oG 4 28 27 false (.faddr 3 (.s 7)),oG 5 29 27 false (.load false 1 (.s 28)),oG 6 30 27 false (.bin .gtr (.s 29) (kI 20000)),o1 7 31 (.pick (.s 27) (kB true) (.s 30)),mS 8 32 31,oG 9 33 32 false (.faddr 4 (.s 7)),oG 10 34 32 false (.load false 1 (.s 33)),oG 11 35 32 false (.bin .lss (.s 34) (kI 0)),o1 12 36 (.pick (.s 32) (kB true) (.s 35)),mS 13 37 36,oG 14 38 37 false (.faddr 4 (.s 7)),oG 15 39 37 false (.load false 1 (.s 38)),oG 16 40 37 false (.bin .gtr (.s 39) (kI 1099511627776)),o1 17 41 (.pick (.s 37) (kB true) (.s 40)),mS 18 42 41,oG 19 43 42 false (.faddr 1 (.s 7)),oG 20 44 42 false (.load false 1 (.s 43)),oG 21 45 42 false (.bin .lss (.s 44) (kI 0)),o1 22 46 (.pick (.s 42) (kB true) (.s 45)),mS 23 47 46,oG 24 48 47 false (.faddr 1 (.s 7)),oG 27 51 47 false (.faddr 0 (.s 7)),oG 30 54 47 false (.faddr 3 (.s 7)),oG 25 49 47 false (.load false 1 (.s 48)),oG 26 50 47 false (.load true 5 (.s 3)),oG 28 52 47 false (.load false 1 (.s 51)),oG 31 55 47 false (.load false 1 (.s 54)),⟨29,(some 53),(some (47,false)),.call ⟨true⟩ (.k (.c (.fn 164 [] []))) [(.s 50),(.s 52)]⟩,oG 32 56 47 false (.bin .add (.s 53) (.s 55)),oG 33 57 47 false (.bin .add (.s 56) (kI 2000)),oG 34 58 47 false (.bin .gtr (.s 49) (.s 57)),o1 35 59 (.pick (.s 47) (kB true) (.s 58))] [(27,31),(30,31)] (some [59,4,2,3,7]))
  (.cond (.s 59) (sQ (rG 0 [mI 0 6 2] [6])
  .ret)
  .skip))
  (sQ (rG 0 [lT 0 61 5 3,lT 1 62 7 7,cA 2 63 172 [(.s 61),(.s 62)],mS 3 60 63,eX 4 64 60 0,eX 5 65 60 1,mS 6 8 64,mS 7 9 65] [8,7,3,2,4])
  (sQ (sQ (rG 0 [fA 0 67 1 3,lF 1 68 67,mS 2 69 8,iA 3 70 5 68 69,fA 4 71 0 70,lF 5 72 71,cA 6 73 173 [(.s 72)],mS 7 66 73,eX 8 74 66 0,eX 9 75 66 1,eX 10 76 66 2,mS 11 10 74,mS 12 11 75,mS 13 12 76] [10,7,3,2,4])
  (sQ (rG 0 [fA 0 77 2 7,lF 1 78 77,bI 2 79 .lss 78 0,mS 3 80 79,oG 4 81 80 false (.faddr 2 (.s 7)),oG 5 82 80 false (.load false 1 (.s 81)),oG 6 83 80 false (.mv (.s 10)),oG 7 84 80 false (.bin .gtr (.s 82) (.s 83)),o1 8 85 (.pick (.s 80) (kB true) (.s 84))] [85,7,3,2,4])
  (.cond (.s 85) (sQ (rG 0 [mI 0 6 2] [6])
  .ret)
  .skip)))
  (sQ (rG 0 [fA 0 86 4 7,lF 1 87 86,fA 2 88 0 4,lF 3 89 88,bS 4 90 .gtr 87 89,mS 5 91 90,oG 6 92 91 true (.faddr 1 (.s 7)),oG 7 93 91 true (.load false 1 (.s 92)),oG 8 94 91 true (.bin .neq (.s 93) (kI 0)),o1 9 95 (.pick (.s 91) (.s 94) (kB false)),mS 10 96 95,oG 11 97 96 false (.mv (.s 2)),oG 12 98 96 false (.bin .eql (.s 97) (kI 0)),oG 13 99 96 false (.mv (.s 98)),oG 14 100 99 true (.faddr 4 (.s 7)),oG 15 101 99 true (.load false 1 (.s 100)),oG 16 102 99 true (.bin .neq (.s 101) (kI 0)),oG 17 103 96 false (.pick (.s 99) (.s 102) (kB false)),o1 18 104 (.pick (.s 96) (kB true) (.s 103)),mS 19 13 104] [3,7,13])
  (sQ (sQ (.region 0 [fA 0 105 6 7,lF 1 106 105,lT 2 107 5 3,lT 3 108 7 7,cA 4 109 174 [(.s 107),(.s 108)],o1 5 110 (.eqb true (.s 106) (.s 109)),mS 6 111 110,oG 7 112 111 false (.mv (.s 13)),o1 8 113 (.pick (.s 111) (kB true) (.s 112))] [(1,4)] (some [113]))
  (.cond (.s 113) (sQ (rG 0 [mI 0 6 10] [6])
  .ret)
  .skip))
  (sQ (rG 0 [mI 0 6 0] [6])
  .ret))))))))) }
abbrev f_world_order : Nat := 135
def c_world_order : CFn := { frz := true,rnd := none,nargs := 2,ntmps := 17,res := [(.slot 4)],code :=
  (sQ (rG 2 [o1 0 2 (.box 0 4 (.s 0)),o1 1 3 (.box 1 4 (.s 1)),mI 2 4 0] [2,3])
  (sQ (.region 1 [fA 0 5 0 2,fA 2 7 0 3,fA 5 10 1 2,fA 7 12 1 3,lF 1 6 5,lF 3 8 7,lF 6 11 10,lF 8 13 12,cA 4 9 176 [(.s 6),(.s 8)],cA 9 14 176 [(.s 11),(.s 13)],o1 10 15 (.lit 0 1 [[(I 0)],[(I 0)]] [(0,(.s 9)),(1,(.s 14))]),cA 11 16 175 [(.s 15)],mS 12 4 16] [(6,8),(7,8)] (some [4]))
  .ret)) }
abbrev f_slices_ContainsFunc_Stay : Nat := 136
def c_slices_ContainsFunc_Stay : CFn := { frz := true,rnd := none,nargs := 2,ntmps := 9,res := [(.slot 4)],code :=
  (sQ (rG 0 [mB 0 4 false] [0,1])
  (sQ (rG 0 [mS 0 5 0,mS 1 6 1,cA 2 7 177 [(.s 5),(.s 6)],bI 3 8 .geq 7 0,mS 4 4 8] [4])
  .ret)) }
abbrev f_world_Check_1 : Nat := 137
def c_world_Check_1 : CFn := { frz := true,rnd := none,nargs := 2,ntmps := 24,res := [(.slot 3)],code :=
  (sQ (rG 1 [o1 0 2 (.box 0 4 (.s 0)),mB 1 3 false] [1,2])
  (sQ (rG 0 [fA 0 4 2 2,lF 1 5 4,bI 2 6 .lss 5 0,mS 3 7 6,oG 4 8 7 false (.faddr 2 (.s 2)),oG 5 9 7 false (.load false 1 (.s 8)),oG 6 10 7 false (.faddr 0 (.s 1)),oG 7 11 7 false (.load false 1 (.s 10)),oG 8 12 7 false (.bin .gtr (.s 9) (.s 11)),o1 9 13 (.pick (.s 7) (kB true) (.s 12)),mS 10 14 13,oG 11 15 14 false (.faddr 3 (.s 2)),oG 12 16 14 false (.load false 1 (.s 15)),oG 13 17 14 false (.bin .lss (.s 16) (kI 0)),o1 14 18 (.pick (.s 14) (kB true) (.s 17)),mS 15 19 18,oG 16 20 19 false (.faddr 3 (.s 2)),oG 17 21 19 false (.load false 1 (.s 20)),oG 18 22 19 false (.bin .gtr (.s 21) (kI 100)),o1 19 23 (.pick (.s 19) (kB true) (.s 22)),mS 20 3 23] [3])
  .ret)) }
def c_slices_IndexFunc_Agent_l1 : CC := (sQ (rG 0 [bS 0 9 .lss 8 7] [9,0,1,7,8])
  (sQ (.cond (.s 9) .skip
  (.exit 0))
  (sQ (.block 1 (sQ (rG 0 [mS 0 10 8,mS 1 5 10] [0,1,7,8,5])
  (sQ (rG 0 [mS 0 11 1,mS 1 12 0,mS 2 13 5,iA 3 14 7 12 13,lT 4 15 7 14,⟨5,(some 16),none,.call ⟨true⟩ (.s 11) [(.s 15)]⟩] [16,0,1,7,8,5])
  (.cond (.s 16) (sQ (rG 0 [mS 0 17 5,mS 1 4 17] [4])
  .ret)
  .skip))))
  (rG 0 [bI 0 18 .add 8 1,mS 1 8 18] [7,1,0,8]))))
abbrev f_slices_IndexFunc_Agent : Nat := 138
def c_slices_IndexFunc_Agent : CFn := { frz := true,rnd := none,nargs := 2,ntmps := 19,res := [(.slot 4)],code :=
  (sQ (rG 0 [mI 0 4 0] [1,0])
  (sQ (sQ (rG 0 [mS 0 6 0,lN 1 7 6,mI 2 8 0] [7,1,0,8])
  (.block 0 (.loop (some [7,1,0,8]) c_slices_IndexFunc_Agent_l1)))
  (sQ (rG 0 [mI 0 4 (-1)] [4])
  .ret))) }
abbrev f_world_scene_present : Nat := 139
def c_world_scene_present : CFn := { frz := true,rnd := none,nargs := 3,ntmps := 37,res := [(.slot 6)],code :=
  (sQ (rG 0 [mB 0 6 false] [0,1,2])
  (sQ (rG 0 [mS 0 7 0,nC 1 8 7,fA 2 9 5 8,mS 4 11 1,lT 3 10 3 9,cA 5 12 143 [(.s 10),(.s 11)],mS 6 13 12,oG 7 14 13 true (.mv (.s 0)),oG 8 15 13 true (.nilck (.s 14)),oG 9 16 13 true (.faddr 0 (.s 15)),oG 11 18 13 true (.mv (.s 0)),oG 12 19 13 true (.nilck (.s 18)),oG 13 20 13 true (.faddr 5 (.s 19)),oG 14 21 13 true (.faddr 1 (.s 20)),oG 16 23 13 true (.mv (.s 1)),oG 19 26 13 true (.mv (.s 0)),oG 20 27 13 true (.nilck (.s 26)),oG 21 28 13 true (.faddr 8 (.s 27)),oG 22 29 13 true (.faddr 1 (.s 28)),oG 24 31 13 true (.mv (.s 1)),oG 27 34 13 true (.mv (.s 2)),oG 10 17 13 true (.load true 5 (.s 16)),oG 15 22 13 true (.load false 1 (.s 21)),oG 17 24 13 true (.iaddr 7 (.s 22) (.s 23)),oG 18 25 13 true (.load true 7 (.s 24)),oG 23 30 13 true (.load false 1 (.s 29)),oG 25 32 13 true (.iaddr 7 (.s 30) (.s 31)),oG 26 33 13 true (.load true 7 (.s 32)),⟨28,(some 35),(some (13,true)),.call ⟨true⟩ (.k (.c (.fn 178 [] []))) [(.s 17),(.s 25),(.s 33),(.s 34)]⟩,o1 29 36 (.pick (.s 13) (.s 35) (kB false)),mS 30 6 36] [6])
  .ret)) }
def c_slices_BinarySearchFunc_Stay_l1 : CC := (sQ (sQ (rG 0 [mS 0 15 9,mS 1 16 10,bS 2 17 .lss 15 16] [17,9,8,10,2,0,4])
  (.cond (.s 17) .skip
  (.exit 0)))
  (.block 1 (sQ (rG 0 [mS 0 18 9,mS 1 19 10,bS 2 20 .add 18 19,o1 3 21 (.conv .u64 (.s 20)),o1 4 22 (.bin .shr (.s 21) (.k (.c (.int .u64 1)))),o1 5 23 (.conv .i64 (.s 22)),mS 6 11 23] [9,11,8,10,2,0,4])
  (sQ (rG 0 [mS 0 24 2,mS 1 25 0,mS 2 26 11,iA 3 27 4 25 26,lT 4 28 4 27,lT 5 29 4 4,⟨6,(some 30),none,.call ⟨true⟩ (.s 24) [(.s 28),(.s 29)]⟩,bI 7 31 .lss 30 0] [31,9,11,8,10,2,0,4])
  (.cond (.s 31) (rG 0 [mS 0 32 11,bI 1 33 .add 32 1,mS 2 9 33] [9,8,10,2,0,4])
  (rG 0 [mS 0 34 11,mS 1 10 34] [9,8,10,2,0,4]))))))
abbrev f_slices_BinarySearchFunc_Stay : Nat := 140
def c_slices_BinarySearchFunc_Stay : CFn := { frz := true,rnd := none,nargs := 3,ntmps := 49,res := [(.slot 6),(.slot 7)],code :=
  (sQ (rG 1 [o1 0 4 (.box 0 4 (.s 1)),mI 1 6 0,mB 2 7 false] [2,0,4])
  (sQ (rG 0 [mS 0 12 0,lN 1 13 12,mS 2 8 13] [8,2,0,4])
  (sQ (rG 0 [mS 0 14 8,mI 1 9 0,mS 2 10 14] [9,8,10,2,0,4])
  (sQ (.block 0 (.loop (some [9,8,10,2,0,4]) c_slices_BinarySearchFunc_Stay_l1))
  (sQ (rG 0 [mS 0 35 9,mS 1 36 9,mS 2 37 8,bS 3 38 .lss 36 37,mS 4 39 38,oG 5 40 39 true (.mv (.s 2)),oG 6 41 39 true (.mv (.s 0)),oG 7 42 39 true (.mv (.s 9)),oG 8 43 39 true (.iaddr 4 (.s 41) (.s 42)),oG 9 44 39 true (.load true 4 (.s 43)),oG 10 45 39 true (.load true 4 (.s 4)),⟨11,(some 46),(some (39,true)),.call ⟨true⟩ (.s 40) [(.s 44),(.s 45)]⟩,oG 12 47 39 true (.bin .eql (.s 46) (kI 0)),o1 13 48 (.pick (.s 39) (.s 47) (kB false)),mS 14 6 35,mS 15 7 48] [6,7])
  .ret))))) }
abbrev f_world_Rank : Nat := 141
def c_world_Rank : CFn := { frz := true,rnd := none,nargs := 4,ntmps := 49,res := [(.slot 8)],code :=
  (sQ (rG 2 [o1 0 4 (.box 0 5 (.s 0)),o1 1 5 (.box 1 7 (.s 1)),mI 2 8 0] [5,3,4,2])
  (sQ (rG 1 [lT 0 11 5 4,fA 1 12 0 5,lF 2 13 12,mS 3 14 2,cA 4 15 150 [(.s 11),(.s 13),(.s 14)],o1 5 9 (.box 0 1 (.k (.a [(I 0)]))),o0 6 (.store 1 (.s 9) (.s 15))] [9,3,4,2])
  (sQ (sQ (rG 0 [lF 0 16 9,bI 1 17 .lss 16 0] [17,9,3,4,2])
  (.cond (.s 17) (sQ (rG 0 [mI 0 8 0] [8])
  .ret)
  .skip))
  (sQ (rG 1 [fA 0 18 2 4,lF 1 19 18,mS 2 20 2,iA 3 21 2 19 20,lT 4 22 2 21,o1 5 10 (.box 0 2 (.k (.a [.nilslice,(I 0)]))),o0 6 (.store 2 (.s 10) (.s 22))] [4,3,10,9])
  (sQ (.block 0 (sQ (rG 0 [fA 0 24 1 10,lF 1 25 24,bI 2 26 .gtr 25 0,mS 3 27 26,oG 4 28 27 true (.load true 5 (.s 4)),oG 5 29 27 true (.faddr 1 (.s 10)),oG 6 30 27 true (.load false 1 (.s 29)),oG 7 31 27 true (.bin .sub (.s 30) (kI 1)),oG 8 32 27 true (.load false 1 (.s 9)),oG 9 33 27 true (.mv (.s 3)),⟨10,(some 34),(some (27,true)),.call ⟨true⟩ (.k (.c (.fn 179 [] []))) [(.s 28),(.s 31),(.s 32),(.s 33)]⟩,o1 11 35 (.pick (.s 27) (.s 34) (kB false)),mS 12 23 35] [23,10,9])
  (.cond (.s 23) (sQ (rG 0 [mI 0 8 2] [8])
  .ret)
  (sQ (rG 0 [fA 0 37 1 10,lF 1 38 37,bI 2 39 .gtr 38 0,mS 3 36 39] [36,9,10])
  (.cond (.s 36) (sQ (rG 0 [mI 0 8 0] [8])
  .ret)
  .skip)))))
  (sQ (.region 0 [fA 0 40 0 10,fA 2 42 0 10,o1 4 44 (.mkfn 181 [] [(.s 9)]),lF 1 41 40,lF 3 43 42,cA 5 45 180 [(.s 43),(.s 44)],iA 6 46 4 41 45,fA 7 47 3 46,lF 8 48 47,mS 9 8 48] [(3,5)] (some [8]))
  .ret)))))) }
def c_world_scene_pairs_1_l1 : CC := (sQ (sQ (rG 0 [mS 0 16 4,lF 1 17 1,nC 2 18 17,fA 3 19 5 18,fA 4 20 1 19,lF 5 21 20,lN 6 22 21,bS 7 23 .lss 16 22] [23,3,0,1,11,10,4])
  (.cond (.s 23) .skip
  (.exit 2)))
  (sQ (.block 3 (sQ (rG 0 [lF 0 26 1,nC 1 27 26,fA 2 28 5 27,lT 3 29 3 28,mS 4 30 3,cA 5 31 143 [(.s 29),(.s 30)],mS 6 32 31,oG 7 33 32 true (.load false 1 (.s 1)),oG 8 34 32 true (.nilck (.s 33)),oG 9 35 32 true (.faddr 5 (.s 34)),oG 10 36 32 true (.load true 3 (.s 35)),oG 11 37 32 true (.mv (.s 4)),⟨12,(some 38),(some (32,true)),.call ⟨true⟩ (.k (.c (.fn 143 [] []))) [(.s 36),(.s 37)]⟩,o1 13 39 (.pick (.s 32) (.s 38) (kB false)),mS 14 40 39,oG 15 41 40 true (.mv (.s 0)),oG 16 42 40 true (.mv (.s 3)),oG 17 43 40 true (.mv (.s 4)),⟨18,(some 44),(some (40,true)),.call ⟨true⟩ (.s 41) [(.s 42),(.s 43)]⟩,oG 19 45 40 true (.un .not (.s 44)),o1 20 46 (.pick (.s 40) (.s 45) (kB false))] [46,3,0,1,11,10,4])
  (.cond (.s 46) .ret
  .skip)))
  (rG 0 [mS 0 24 4,bI 1 25 .add 24 1,mS 2 4 25] [10,11,1,0,3,4])))
def c_world_scene_pairs_1_l2 : CC := (sQ (rG 0 [bS 0 12 .lss 11 10] [12,10,11,1,0])
  (sQ (.cond (.s 12) .skip
  (.exit 0))
  (sQ (.block 1 (sQ (rG 0 [mS 0 13 11,mS 1 3 13] [10,11,1,0,3])
  (sQ (rG 0 [mS 0 14 3,bI 1 15 .add 14 1,mS 2 4 15] [10,11,1,0,3,4])
  (.block 2 (.loop (some [10,11,1,0,3,4]) c_world_scene_pairs_1_l1)))))
  (rG 0 [bI 0 47 .add 11 1,mS 1 11 47] [10,11,1,0]))))
abbrev f_world_scene_pairs_1 : Nat := 142
def c_world_scene_pairs_1 : CFn := { frz := true,rnd := none,nargs := 2,ntmps := 48,res := [],code :=
  (sQ (rG 0 [lF 0 5 1,nC 1 6 5,fA 2 7 5 6,fA 3 8 1 7,lF 4 9 8,lN 5 10 9,mI 6 11 0] [10,11,1,0])
  (.block 0 (.loop (some [10,11,1,0]) c_world_scene_pairs_1_l2))) }
abbrev f_world_There : Nat := 143
def c_world_There : CFn := { frz := true,rnd := none,nargs := 2,ntmps := 34,res := [(.slot 4)],code :=
  (sQ (rG 1 [o1 0 2 (.box 0 3 (.s 0)),mB 1 4 false] [1,2])
  (sQ (rG 0 [mS 0 5 1,bI 1 6 .geq 5 0,mS 2 7 6,oG 3 8 7 true (.mv (.s 1)),oG 4 9 7 true (.faddr 1 (.s 2)),oG 5 10 7 true (.load false 1 (.s 9)),oG 6 11 7 true (.len (.s 10)),oG 7 12 7 true (.bin .lss (.s 8) (.s 11)),o1 8 13 (.pick (.s 7) (.s 12) (kB false)),mS 9 14 13,oG 10 15 14 true (.faddr 1 (.s 2)),oG 12 17 14 true (.mv (.s 1)),oG 11 16 14 true (.load false 1 (.s 15)),oG 13 18 14 true (.iaddr 7 (.s 16) (.s 17)),oG 14 19 14 true (.faddr 6 (.s 18)),oG 15 20 14 true (.load false 1 (.s 19)),oG 16 21 14 true (.un .not (.s 20)),o1 17 22 (.pick (.s 14) (.s 21) (kB false)),mS 18 23 22,oG 19 24 23 true (.faddr 1 (.s 2)),oG 21 26 23 true (.mv (.s 1)),oG 25 30 23 true (.faddr 0 (.s 2)),oG 20 25 23 true (.load false 1 (.s 24)),oG 22 27 23 true (.iaddr 7 (.s 25) (.s 26)),oG 23 28 23 true (.faddr 4 (.s 27)),oG 24 29 23 true (.load false 1 (.s 28)),oG 26 31 23 true (.load false 1 (.s 30)),oG 27 32 23 true (.bin .leq (.s 29) (.s 31)),o1 28 33 (.pick (.s 23) (.s 32) (kB false)),mS 29 4 33] [4])
  .ret)) }
def c_world_Body_l1 : CC := (sQ (rG 0 [bS 0 19 .lss 18 17] [19,5,18,17,16,3,2])
  (sQ (.cond (.s 19) .skip
  (.exit 0))
  (sQ (.block 1 (sQ (rG 0 [mS 0 20 18,iA 1 21 1 16 18,lF 2 22 21,mS 3 6 20,mS 4 7 22] [6,7,5,18,17,16,3,2])
  (sQ (rG 0 [fA 0 23 0 3,lF 1 24 23,mS 2 25 6,iA 3 26 1 24 25,lF 4 27 26,mS 5 8 27] [7,5,8,18,17,16,3,2])
  (sQ (.region 1 [mS 2 30 7,mS 5 33 8,lT 0 28 7 3,lT 4 32 5 2,cA 1 29 184 [(.s 28)],cA 3 31 185 [(.s 29),(.s 30)],cA 6 34 186 [(.s 32),(.s 33)],o1 7 35 (.build [(I 0),(I 0)] [(0,1,(kI 0)),(1,1,(.s 34))]),cA 8 36 148 [(.s 31),(.s 35)],o1 9 9 (.box 0 2 (.k (.a [(I 0),(I 0)]))),o0 10 (.store 2 (.s 9) (.s 36))] [(2,9),(3,4),(3,5),(3,9),(4,9),(5,9),(6,9),(8,9)] (some [5,8,9,18,17,16,3,2]))
  (sQ (rG 0 [lT 0 37 2 9,cA 1 38 149 [(.s 37)],o1 2 39 (.un .not (.s 38))] [39,5,8,9,18,17,16,3,2])
  (.cond (.s 39) (rG 1 [mS 0 40 5,mS 1 41 8,fA 2 42 0 9,lF 3 43 42,fA 4 44 1 9,lF 5 45 44,o1 6 46 (.build [(I 0),(I 0),(I 0)] [(0,1,(.s 41)),(1,1,(.s 43)),(2,1,(.s 45))]),o1 7 47 (.lit 0 3 [[(I 0),(I 0),(I 0)]] [(0,(.s 46))]),o1 8 48 (.append 3 24 (.s 40) (.s 47)),mS 9 5 48] [18,5,17,16,3,2])
  .skip))))))
  (rG 0 [bI 0 49 .add 18 1,mS 1 18 49] [5,18,17,16,3,2]))))
abbrev f_world_Body : Nat := 144
def c_world_Body : CFn := { frz := true,rnd := none,nargs := 2,ntmps := 51,res := [(.slot 4)],code :=
  (sQ (rG 3 [o1 0 2 (.box 0 5 (.s 0)),o1 1 3 (.box 1 7 (.s 1)),o1 2 4 (.newsl 2 3)] [2,3])
  (sQ (sQ (rG 0 [lT 0 10 7 3,cA 1 11 182 [(.s 10)],o1 2 12 (.un .not (.s 11))] [12,2,3])
  (.cond (.s 12) (sQ (rG 1 [o1 0 4 (.newsl 0 3)] [4])
  .ret)
  .skip))
  (sQ (rG 1 [o1 0 5 (.newsl 0 3)] [5,3,2])
  (sQ (sQ (rG 0 [lT 0 13 5 2,fA 1 14 0 3,lF 2 15 14,cA 3 16 183 [(.s 13),(.s 15)],lN 4 17 16,mI 5 18 0] [5,18,17,16,3,2])
  (.block 0 (.loop (some [5,18,17,16,3,2]) c_world_Body_l1)))
  (sQ (rG 0 [mS 0 50 5,mS 1 4 50] [4])
  .ret))))) }
abbrev f_slices_ContainsFunc_Span : Nat := 145
def c_slices_ContainsFunc_Span : CFn := { frz := true,rnd := none,nargs := 2,ntmps := 9,res := [(.slot 4)],code :=
  (sQ (rG 0 [mB 0 4 false] [0,1])
  (sQ (rG 0 [mS 0 5 0,mS 1 6 1,cA 2 7 187 [(.s 5),(.s 6)],bI 3 8 .geq 7 0,mS 4 4 8] [4])
  .ret)) }
abbrev f_world_Touching_1 : Nat := 146
def c_world_Touching_1 : CFn := { frz := true,rnd := none,nargs := 2,ntmps := 7,res := [(.slot 3)],code :=
  (sQ (rG 1 [o1 0 2 (.box 0 3 (.s 0)),mB 1 3 false] [1,2])
  (sQ (rG 0 [lF 0 4 1,o1 1 5 (.mkfn 147 [] [(.s 2)]),cA 2 6 145 [(.s 4),(.s 5)],mS 3 3 6] [3])
  .ret)) }
abbrev f_world_Touching_1_1 : Nat := 147
def c_world_Touching_1_1 : CFn := { frz := true,rnd := none,nargs := 2,ntmps := 24,res := [(.slot 3)],code :=
  (sQ (rG 1 [o1 0 2 (.box 0 3 (.s 0)),mB 1 3 false] [1,2])
  (sQ (rG 0 [fA 0 4 0 1,lF 1 5 4,fA 2 6 0 2,lF 3 7 6,bS 4 8 .eql 5 7,mS 5 9 8,oG 6 10 9 true (.faddr 1 (.s 1)),oG 7 11 9 true (.load false 1 (.s 10)),oG 8 12 9 true (.faddr 2 (.s 1)),oG 9 13 9 true (.load false 1 (.s 12)),oG 10 14 9 true (.build [(I 0),(I 0)] [(0,1,(.s 11)),(1,1,(.s 13))]),oG 11 15 9 true (.faddr 1 (.s 2)),oG 12 16 9 true (.load false 1 (.s 15)),oG 13 17 9 true (.faddr 2 (.s 2)),oG 14 18 9 true (.load false 1 (.s 17)),oG 15 19 9 true (.build [(I 0),(I 0)] [(0,1,(.s 16)),(1,1,(.s 18))]),⟨16,(some 20),(some (9,true)),.call ⟨true⟩ (.k (.c (.fn 148 [] []))) [(.s 14),(.s 19)]⟩,⟨17,(some 21),(some (9,true)),.call ⟨true⟩ (.k (.c (.fn 149 [] []))) [(.s 20)]⟩,oG 18 22 9 true (.un .not (.s 21)),o1 19 23 (.pick (.s 9) (.s 22) (kB false)),mS 20 3 23] [3])
  .ret)) }
abbrev f_world_span_and : Nat := 148
def c_world_span_and : CFn := { frz := true,rnd := none,nargs := 2,ntmps := 16,res := [(.cell 4 true 2)],code :=
  (sQ (rG 3 [o1 0 2 (.box 0 2 (.s 0)),o1 1 3 (.box 1 2 (.s 1)),o1 2 4 (.box 2 2 (.k (.a [(I 0),(I 0)])))] [2,3,4])
  (sQ (rG 0 [fA 0 5 0 2,lF 1 6 5,fA 2 7 0 3,lF 3 8 7,o1 4 9 (.minmax true [(.s 6),(.s 8)]),fA 5 10 1 2,lF 6 11 10,fA 7 12 1 3,lF 8 13 12,o1 9 14 (.minmax false [(.s 11),(.s 13)]),o1 10 15 (.build [(I 0),(I 0)] [(0,1,(.s 9)),(1,1,(.s 14))]),o0 11 (.store 2 (.s 4) (.s 15))] [4])
  .ret)) }
abbrev f_world_span_empty : Nat := 149
def c_world_span_empty : CFn := { frz := true,rnd := none,nargs := 1,ntmps := 8,res := [(.slot 2)],code :=
  (sQ (rG 1 [o1 0 1 (.box 0 2 (.s 0)),mB 1 2 false] [1])
  (sQ (rG 0 [fA 0 3 0 1,lF 1 4 3,fA 2 5 1 1,lF 3 6 5,bS 4 7 .gtr 4 6,mS 5 2 7] [2])
  .ret)) }
abbrev f_world_entry : Nat := 150
def c_world_entry : CFn := { frz := true,rnd := none,nargs := 3,ntmps := 18,res := [(.slot 6)],code :=
  (sQ (rG 1 [o1 0 3 (.box 0 5 (.s 0)),mI 1 6 0] [3,2,1])
  (sQ (sQ (rG 0 [lT 0 8 5 3,mS 1 9 1,mS 2 10 2,cA 3 11 188 [(.s 8),(.s 9),(.s 10)],mS 4 7 11] [1,7])
  (sQ (rG 0 [mS 0 12 7,bI 1 13 .geq 12 0] [13,1,7])
  (.cond (.s 13) (sQ (rG 0 [mS 0 14 1,mS 1 15 7,iA 2 16 1 14 15,lF 3 17 16,mS 4 6 17] [6])
  .ret)
  .skip)))
  (sQ (rG 0 [mI 0 6 (-1)] [6])
  .ret))) }
abbrev f_roads_check_numbers : Nat := 151
def c_roads_check_numbers : CFn := { frz := true,rnd := none,nargs := 1,ntmps := 42,res := [(.slot 2)],code :=
  (sQ (rG 1 [o1 0 1 (.box 0 5 (.s 0)),mI 1 2 0] [1])
  (sQ (.block 0 (sQ (rG 0 [fA 0 4 0 1,fA 1 5 0 4,lF 2 6 5,cA 3 7 189 [(.s 6),(kI 0),(kI 1099511627776)],o1 4 8 (.un .not (.s 7)),mS 5 3 8] [3,1])
  (.cond (.s 3) (sQ (rG 0 [mI 0 2 2] [2])
  .ret)
  (sQ (rG 0 [fA 0 10 0 1,fA 1 11 1 10,lF 2 12 11,lN 3 13 12,bI 4 14 .eql 13 0,mS 5 9 14] [9,1])
  (.cond (.s 9) (sQ (rG 0 [mI 0 2 6] [2])
  .ret)
  (sQ (rG 0 [fA 0 16 0 1,fA 1 17 1 16,lF 2 18 17,lN 3 19 18,bI 4 20 .gtr 19 12,mS 5 21 20,oG 6 22 21 false (.faddr 0 (.s 1)),oG 7 23 21 false (.faddr 2 (.s 22)),oG 8 24 21 false (.load false 1 (.s 23)),oG 9 25 21 false (.len (.s 24)),oG 10 26 21 false (.bin .gtr (.s 25) (kI 12)),o1 11 27 (.pick (.s 21) (kB true) (.s 26)),mS 12 28 27,oG 13 29 28 false (.faddr 0 (.s 1)),oG 14 30 28 false (.faddr 3 (.s 29)),oG 15 31 28 false (.load false 1 (.s 30)),oG 16 32 28 false (.len (.s 31)),oG 17 33 28 false (.bin .gtr (.s 32) (kI 4)),o1 18 34 (.pick (.s 28) (kB true) (.s 33)),mS 19 35 34,oG 20 36 35 false (.faddr 0 (.s 1)),oG 21 37 35 false (.faddr 4 (.s 36)),oG 22 38 35 false (.load false 1 (.s 37)),oG 23 39 35 false (.len (.s 38)),oG 24 40 35 false (.bin .gtr (.s 39) (kI 8)),o1 25 41 (.pick (.s 35) (kB true) (.s 40)),mS 26 15 41] [15])
  (.cond (.s 15) (sQ (rG 0 [mI 0 2 8] [2])
  .ret)
  .skip)))))))
  (sQ (rG 0 [mI 0 2 0] [2])
  .ret))) }
def c_roads_check_lanes_l1 : CC := (sQ (rG 0 [bS 0 14 .lss 13 12] [14,1,11,12,13])
  (sQ (.cond (.s 14) .skip
  (.exit 0))
  (sQ (.block 1 (sQ (rG 1 [mS 0 15 13,iA 1 16 5 11 13,lT 2 17 5 16,o1 3 4 (.box 0 5 (.k (.a [(I 0),.nilslice,(I 0),(I 0),.nilslice]))),mS 4 3 15,o0 5 (.store 5 (.s 4) (.s 17))] [4,3,1,11,12,13])
  (sQ (rG 0 [fA 0 19 0 4,lF 1 20 19,cA 2 21 173 [(.s 20)],mS 3 18 21,eX 4 22 18 0,eX 5 23 18 1,eX 6 24 18 2,mS 7 5 22,mS 8 6 23,mS 9 7 24] [5,4,3,1,11,12,13])
  (sQ (sQ (rG 0 [mS 0 25 5,bI 1 26 .eql 25 0] [26,5,4,3,1,11,12,13])
  (.cond (.s 26) (sQ (rG 0 [mI 0 2 4] [2])
  .ret)
  .skip))
  (sQ (sQ (rG 0 [fA 0 27 1 4,lT 1 28 1 27,cA 2 29 190 [(.s 28)],mS 3 8 29] [13,12,11,1,3,4,5,8])
  (sQ (rG 0 [mS 0 30 8,bI 1 31 .neq 30 0] [31,13,12,11,1,3,4,5,8])
  (.cond (.s 31) (sQ (rG 0 [mS 0 32 8,mS 1 2 32] [2])
  .ret)
  .skip)))
  (.block 2 (sQ (rG 0 [fA 0 34 2 4,lF 1 35 34,cA 2 36 189 [(.s 35),(kI 200),(kI 4000)],o1 3 37 (.un .not (.s 36)),mS 4 38 37,oG 5 39 38 false (.faddr 3 (.s 4)),oG 6 40 38 false (.load false 1 (.s 39)),oG 7 41 38 false (.mv (.s 5)),⟨8,(some 42),(some (38,false)),.call ⟨true⟩ (.k (.c (.fn 189 [] []))) [(.s 40),(kI 1),(.s 41)]⟩,oG 9 43 38 false (.un .not (.s 42)),o1 10 44 (.pick (.s 38) (kB true) (.s 43)),mS 11 33 44] [33,4,3,1,11,12,13])
  (.cond (.s 33) (sQ (rG 0 [mI 0 2 2] [2])
  .ret)
  (sQ (rG 0 [fA 0 46 4 4,lF 1 47 46,lN 2 48 47,bI 3 49 .gtr 48 3,mS 4 45 49] [45,13,12,11,1,3,4])
  (.cond (.s 45) (sQ (rG 0 [mI 0 2 8] [2])
  .ret)
  (sQ (rG 0 [fA 0 51 4 4,lF 1 52 51,mS 2 53 3,bI 3 54 .add 53 1,fA 4 55 0 1,fA 5 56 1 55,lF 6 57 56,lN 7 58 57,cA 8 59 191 [(.s 52),(.s 54),(.s 58)],o1 9 60 (.un .not (.s 59)),mS 10 50 60] [50,1,11,12,13])
  (.cond (.s 50) (sQ (rG 0 [mI 0 2 11] [2])
  .ret)
  .skip))))))))))))
  (rG 0 [bI 0 61 .add 13 1,mS 1 13 61] [12,11,1,13]))))
abbrev f_roads_check_lanes : Nat := 152
def c_roads_check_lanes : CFn := { frz := true,rnd := none,nargs := 1,ntmps := 62,res := [(.slot 2)],code :=
  (sQ (rG 1 [o1 0 1 (.box 0 5 (.s 0)),mI 1 2 0] [1])
  (sQ (sQ (rG 0 [fA 0 9 0 1,fA 1 10 1 9,lF 2 11 10,lN 3 12 11,mI 4 13 0] [12,11,1,13])
  (.block 0 (.loop (some [12,11,1,13]) c_roads_check_lanes_l1)))
  (sQ (rG 0 [mI 0 2 0] [2])
  .ret))) }
def c_roads_check_joints_l1 : CC := (sQ (rG 0 [bS 0 30 .lss 29 28] [30,29,28,10,11,12,27,4,5,1])
  (sQ (.cond (.s 30) .skip
  (.exit 2))
  (sQ (.block 3 (sQ (rG 0 [iA 0 31 1 27 29,lF 1 32 31,mS 2 7 32] [29,28,10,11,12,27,4,5,1,7])
  (sQ (sQ (rG 0 [fA 0 33 0 1,fA 1 34 1 33,mS 3 36 7,fA 7 40 0 4,lF 2 35 34,iA 4 37 5 35 36,fA 5 38 0 37,lF 6 39 38,lF 8 41 40,bS 9 42 .neq 39 41] [42,29,28,10,11,12,27,4,5,1,7])
  (.cond (.s 42) (sQ (rG 0 [mI 0 2 4] [2])
  .ret)
  .skip))
  (sQ (rG 0 [fA 0 43 0 1,fA 1 44 1 43,mS 3 46 7,lF 2 45 44,iA 4 47 5 45 46,fA 5 48 1 47,fA 6 49 0 48,lF 7 50 49,o1 8 51 (.iaddr 2 (.s 50) (kI 0)),lT 9 52 2 51,lT 10 53 2 5,o1 11 54 (.eqa true [false,false] (.s 52) (.s 53))] [54,1,5,4,27,12,11,10,28,29])
  (.cond (.s 54) (sQ (rG 0 [mI 0 2 3] [2])
  .ret)
  .skip)))))
  (rG 0 [bI 0 55 .add 29 1,mS 1 29 55] [29,28,10,11,12,27,4,5,1]))))
def c_roads_check_joints_l2 : CC := (sQ (rG 0 [bS 0 13 .lss 12 11] [13,10,11,12,1])
  (sQ (.cond (.s 13) .skip
  (.exit 0))
  (sQ (.block 1 (sQ (rG 1 [iA 0 14 5 10 12,lT 1 15 5 14,o1 2 4 (.box 0 5 (.k (.a [(I 0),.nilslice,(I 0),(I 0),.nilslice]))),o0 3 (.store 5 (.s 4) (.s 15))] [10,11,12,4,1])
  (sQ (rG 1 [fA 0 16 1 4,fA 1 17 0 16,lF 2 18 17,fA 3 19 1 4,fA 4 20 0 19,lF 5 21 20,lN 6 22 21,bI 7 23 .sub 22 1,iA 8 24 2 18 23,lT 9 25 2 24,o1 10 5 (.box 0 2 (.k (.a [(I 0),(I 0)]))),o0 11 (.store 2 (.s 5) (.s 25))] [10,11,12,4,5,1])
  (sQ (rG 0 [fA 0 26 4 4,lF 1 27 26,lN 2 28 27,mI 3 29 0] [29,28,10,11,12,27,4,5,1])
  (.block 2 (.loop (some [29,28,10,11,12,27,4,5,1]) c_roads_check_joints_l1))))))
  (rG 0 [bI 0 56 .add 12 1,mS 1 12 56] [11,10,12,1]))))
abbrev f_roads_check_joints : Nat := 153
def c_roads_check_joints : CFn := { frz := true,rnd := none,nargs := 1,ntmps := 57,res := [(.slot 2)],code :=
  (sQ (rG 1 [o1 0 1 (.box 0 5 (.s 0)),mI 1 2 0] [1])
  (sQ (sQ (rG 0 [fA 0 8 0 1,fA 1 9 1 8,lF 2 10 9,lN 3 11 10,mI 4 12 0] [11,10,12,1])
  (.block 0 (.loop (some [11,10,12,1]) c_roads_check_joints_l2)))
  (sQ (rG 0 [mI 0 2 0] [2])
  .ret))) }
def c_roads_check_signals_l1 : CC := (sQ (rG 0 [bS 0 11 .lss 10 9] [11,1,8,9,10])
  (sQ (.cond (.s 11) .skip
  (.exit 0))
  (sQ (.block 1 (sQ (rG 1 [iA 0 12 2 8 10,lT 1 13 2 12,o1 2 4 (.box 0 2 (.k (.a [(I 0),.nilslice]))),o0 3 (.store 2 (.s 4) (.s 13))] [4,1,8,9,10])
  (sQ (rG 0 [fA 0 14 1 4,lF 1 15 14,lN 2 16 15,mS 3 5 16] [4,1,8,9,10,5])
  (.block 2 (sQ (rG 0 [mS 0 18 5,bI 1 19 .eql 18 0,mS 2 17 19] [17,4,1,8,9,10,5])
  (.cond (.s 17) (sQ (rG 0 [mI 0 2 6] [2])
  .ret)
  (sQ (rG 0 [mS 0 21 5,bI 1 22 .gtr 21 6,mS 2 20 22] [20,10,9,8,1,4])
  (.cond (.s 20) (sQ (rG 0 [mI 0 2 8] [2])
  .ret)
  (sQ (rG 0 [fA 0 24 0 4,lF 1 25 24,cA 2 26 189 [(.s 25),(kI 0),(kI 1099511627776)],o1 3 27 (.un .not (.s 26)),mS 4 23 27] [23,4,1,8,9,10])
  (.cond (.s 23) (sQ (rG 0 [mI 0 2 2] [2])
  .ret)
  (sQ (rG 0 [fA 0 29 1 4,lF 1 30 29,⟨2,(some 31),none,.call ⟨true⟩ (.k (.c (.fn 192 [] []))) [(.s 30),(.k (.c (.fn 193 [] [])))]⟩,mS 3 28 31] [28,10,9,8,1,4])
  (.cond (.s 28) (sQ (rG 0 [mI 0 2 2] [2])
  .ret)
  (sQ (rG 0 [fA 0 33 1 4,lF 1 34 33,o1 2 35 (.mkfn 194 [] [(.s 1)]),cA 3 36 192 [(.s 34),(.s 35)],mS 4 32 36] [32,1,8,9,10])
  (.cond (.s 32) (sQ (rG 0 [mI 0 2 11] [2])
  .ret)
  .skip))))))))))))))
  (rG 0 [bI 0 37 .add 10 1,mS 1 10 37] [9,8,1,10]))))
abbrev f_roads_check_signals : Nat := 154
def c_roads_check_signals : CFn := { frz := true,rnd := none,nargs := 1,ntmps := 38,res := [(.slot 2)],code :=
  (sQ (rG 1 [o1 0 1 (.box 0 5 (.s 0)),mI 1 2 0] [1])
  (sQ (sQ (rG 0 [fA 0 6 0 1,fA 1 7 3 6,lF 2 8 7,lN 3 9 8,mI 4 10 0] [9,8,1,10])
  (.block 0 (.loop (some [9,8,1,10]) c_roads_check_signals_l1)))
  (sQ (rG 0 [mI 0 2 0] [2])
  .ret))) }
def c_roads_check_zones_l1 : CC := (sQ (rG 0 [bS 0 45 .lss 44 43] [45,6,44,43,4,13,14,15,1,42])
  (sQ (.cond (.s 45) .skip
  (.exit 3))
  (sQ (.block 4 (sQ (rG 1 [iA 0 46 4 42 44,lT 1 47 4 46,o1 2 8 (.box 0 4 (.k (.a [(I 0),(I 0),(I 0),(I 0)]))),o0 3 (.store 4 (.s 8) (.s 47))] [6,8,44,43,4,13,14,15,1,42])
  (rG 1 [mS 0 48 6,fA 1 49 0 8,lF 2 50 49,o1 3 51 (.lit 0 1 [[(I 0)]] [(0,(.s 50))]),o1 4 52 (.append 1 8 (.s 48) (.s 51)),mS 5 6 52] [44,6,43,4,13,14,15,1,42])))
  (rG 0 [bI 0 53 .add 44 1,mS 1 44 53] [6,44,43,4,13,14,15,1,42]))))
def c_roads_check_zones_l2 : CC := (sQ (rG 0 [bS 0 65 .lss 64 63] [65,1,62,15,14,13,63,64])
  (sQ (.cond (.s 65) .skip
  (.exit 5))
  (sQ (.block 6 (sQ (rG 1 [iA 0 66 4 62 64,lT 1 67 4 66,o1 2 10 (.box 0 4 (.k (.a [(I 0),(I 0),(I 0),(I 0)]))),o0 3 (.store 4 (.s 10) (.s 67))] [10,1,62,15,14,13,63,64])
  (sQ (.region 0 [fA 0 68 1 10,lF 1 69 68,bI 2 70 .lss 69 0,mS 3 71 70,oG 4 72 71 false (.faddr 1 (.s 10)),oG 6 74 71 false (.faddr 2 (.s 10)),oG 5 73 71 false (.load false 1 (.s 72)),oG 7 75 71 false (.load false 1 (.s 74)),oG 8 76 71 false (.bin .geq (.s 73) (.s 75)),o1 9 77 (.pick (.s 71) (kB true) (.s 76)),mS 10 78 77,oG 11 79 78 false (.faddr 2 (.s 10)),oG 13 81 78 false (.faddr 0 (.s 1)),oG 15 83 78 false (.faddr 0 (.s 10)),oG 12 80 78 false (.load false 1 (.s 79)),oG 14 82 78 false (.load true 5 (.s 81)),oG 16 84 78 false (.load false 1 (.s 83)),⟨17,(some 85),(some (78,false)),.call ⟨true⟩ (.k (.c (.fn 195 [] []))) [(.s 82),(.s 84)]⟩,oG 18 86 78 false (.bin .gtr (.s 80) (.s 85)),o1 19 87 (.pick (.s 78) (kB true) (.s 86)),mS 20 88 87,oG 21 89 88 false (.faddr 3 (.s 10)),oG 22 90 88 false (.load false 1 (.s 89)),oG 23 91 88 false (.bin .lss (.s 90) (kI 0)),o1 24 92 (.pick (.s 88) (kB true) (.s 91)),mS 25 93 92,oG 26 94 93 false (.faddr 3 (.s 10)),oG 27 95 93 false (.load false 1 (.s 94)),oG 28 96 93 false (.bin .gtr (.s 95) (kI 100)),o1 29 97 (.pick (.s 93) (kB true) (.s 96))] [(14,17)] (some [97,1,62,15,14,13,63,64]))
  (.cond (.s 97) (sQ (rG 0 [mI 0 2 2] [2])
  .ret)
  .skip))))
  (rG 0 [bI 0 98 .add 64 1,mS 1 64 98] [63,13,14,15,62,1,64]))))
def c_roads_check_zones_l3 : CC := (sQ (rG 0 [bS 0 16 .lss 15 14] [16,1,15,14,13])
  (sQ (.cond (.s 16) .skip
  (.exit 0))
  (sQ (.block 1 (sQ (rG 1 [iA 0 17 2 13 15,lT 1 18 2 17,o1 2 4 (.box 0 2 (.k (.a [.nilslice,(I 0)]))),o0 3 (.store 2 (.s 4) (.s 18))] [1,15,14,13,4])
  (sQ (sQ (rG 0 [fA 0 19 0 4,lF 1 20 19,lN 2 21 20,mS 3 5 21] [1,15,14,13,4,5])
  (.block 2 (sQ (rG 0 [mS 0 23 5,bI 1 24 .lss 23 2,mS 2 22 24] [22,1,15,14,13,4,5])
  (.cond (.s 22) (sQ (rG 0 [mI 0 2 6] [2])
  .ret)
  (sQ (rG 0 [mS 0 26 5,bI 1 27 .gtr 26 6,mS 2 25 27] [25,4,13,14,15,1])
  (.cond (.s 25) (sQ (rG 0 [mI 0 2 8] [2])
  .ret)
  (sQ (rG 0 [fA 0 29 1 4,lF 1 30 29,bI 2 31 .lss 30 0,mS 3 32 31,oG 4 33 32 false (.faddr 1 (.s 4)),oG 5 34 32 false (.load false 1 (.s 33)),oG 6 35 32 false (.faddr 0 (.s 1)),oG 7 36 32 false (.faddr 3 (.s 35)),oG 8 37 32 false (.load false 1 (.s 36)),oG 9 38 32 false (.len (.s 37)),oG 10 39 32 false (.bin .gtr (.s 34) (.s 38)),o1 11 40 (.pick (.s 32) (kB true) (.s 39)),mS 12 28 40] [28,1,15,14,13,4])
  (.cond (.s 28) (sQ (rG 0 [mI 0 2 2] [2])
  .ret)
  .skip))))))))
  (sQ (rG 1 [o1 0 6 (.newsl 0 1)] [6,4,13,14,15,1])
  (sQ (sQ (rG 0 [fA 0 41 0 4,lF 1 42 41,lN 2 43 42,mI 3 44 0] [6,44,43,4,13,14,15,1,42])
  (.block 3 (.loop (some [6,44,43,4,13,14,15,1,42]) c_roads_check_zones_l1)))
  (sQ (sQ (rG 0 [mS 0 54 6,fA 1 55 0 1,fA 2 56 1 55,lF 3 57 56,lN 4 58 57,cA 5 59 191 [(.s 54),(kI 0),(.s 58)],o1 6 60 (.un .not (.s 59))] [60,1,15,14,13,4])
  (.cond (.s 60) (sQ (rG 0 [mI 0 2 11] [2])
  .ret)
  .skip))
  (sQ (rG 0 [fA 0 61 0 4,lF 1 62 61,lN 2 63 62,mI 3 64 0] [63,13,14,15,62,1,64])
  (.block 5 (.loop (some [63,13,14,15,62,1,64]) c_roads_check_zones_l2)))))))))
  (rG 0 [bI 0 99 .add 15 1,mS 1 15 99] [1,15,14,13]))))
abbrev f_roads_check_zones : Nat := 155
def c_roads_check_zones : CFn := { frz := true,rnd := none,nargs := 1,ntmps := 100,res := [(.slot 2)],code :=
  (sQ (rG 1 [o1 0 1 (.box 0 5 (.s 0)),mI 1 2 0] [1])
  (sQ (sQ (rG 0 [fA 0 11 0 1,fA 1 12 2 11,lF 2 13 12,lN 3 14 13,mI 4 15 0] [1,15,14,13])
  (.block 0 (.loop (some [1,15,14,13]) c_roads_check_zones_l3)))
  (sQ (rG 0 [mI 0 2 0] [2])
  .ret))) }
def c_roads_check_works_l1 : CC := (sQ (rG 0 [bS 0 13 .lss 12 11] [13,12,11,10,1])
  (sQ (.cond (.s 13) .skip
  (.exit 0))
  (sQ (.block 1 (sQ (rG 1 [iA 0 14 6 10 12,lT 1 15 6 14,o1 2 4 (.box 0 6 (.k (.a [(I 0),(I 0),(I 0),(I 0),(I 0),(I 0)]))),o0 3 (.store 6 (.s 4) (.s 15))] [12,11,10,1,4])
  (sQ (sQ (rG 0 [fA 0 16 0 4,lF 1 17 16,bI 2 18 .lss 17 0,mS 3 19 18,oG 4 20 19 false (.faddr 0 (.s 4)),oG 5 21 19 false (.load false 1 (.s 20)),oG 6 22 19 false (.faddr 0 (.s 1)),oG 7 23 19 false (.faddr 1 (.s 22)),oG 8 24 19 false (.load false 1 (.s 23)),oG 9 25 19 false (.len (.s 24)),oG 10 26 19 false (.bin .geq (.s 21) (.s 25)),o1 11 27 (.pick (.s 19) (kB true) (.s 26))] [27,12,11,10,1,4])
  (.cond (.s 27) (sQ (rG 0 [mI 0 2 7] [2])
  .ret)
  .skip))
  (sQ (rG 0 [fA 0 29 0 1,fA 1 30 1 29,lF 2 31 30,fA 3 32 0 4,lF 4 33 32,iA 5 34 5 31 33,fA 6 35 0 34,lF 7 36 35,cA 8 37 173 [(.s 36)],mS 9 28 37,eX 10 38 28 0,eX 11 39 28 1,eX 12 40 28 2,mS 13 5 38,mS 14 6 39,mS 15 7 40] [4,5,1,10,11,12])
  (sQ (.region 0 [fA 0 41 1 4,lF 1 42 41,bI 2 43 .lss 42 0,mS 3 44 43,oG 4 45 44 false (.faddr 1 (.s 4)),oG 6 47 44 false (.faddr 2 (.s 4)),oG 5 46 44 false (.load false 1 (.s 45)),oG 7 48 44 false (.load false 1 (.s 47)),oG 8 49 44 false (.bin .gtr (.s 46) (.s 48)),o1 9 50 (.pick (.s 44) (kB true) (.s 49)),mS 10 51 50,oG 11 52 51 false (.faddr 2 (.s 4)),oG 13 54 51 false (.faddr 0 (.s 1)),oG 15 56 51 false (.faddr 0 (.s 4)),oG 12 53 51 false (.load false 1 (.s 52)),oG 14 55 51 false (.load true 5 (.s 54)),oG 16 57 51 false (.load false 1 (.s 56)),⟨17,(some 58),(some (51,false)),.call ⟨true⟩ (.k (.c (.fn 195 [] []))) [(.s 55),(.s 57)]⟩,oG 18 59 51 false (.bin .gtr (.s 53) (.s 58)),o1 19 60 (.pick (.s 51) (kB true) (.s 59)),mS 20 61 60,oG 21 62 61 false (.faddr 3 (.s 4)),oG 22 63 61 false (.load false 1 (.s 62)),oG 23 64 61 false (.bin .lss (.s 63) (kI 0)),o1 24 65 (.pick (.s 61) (kB true) (.s 64)),mS 25 66 65,oG 26 67 66 false (.faddr 3 (.s 4)),oG 28 69 66 false (.faddr 4 (.s 4)),oG 27 68 66 false (.load false 1 (.s 67)),oG 29 70 66 false (.load false 1 (.s 69)),oG 30 71 66 false (.bin .geq (.s 68) (.s 70)),o1 31 72 (.pick (.s 66) (kB true) (.s 71)),mS 32 73 72,oG 33 74 73 false (.faddr 4 (.s 4)),oG 34 75 73 false (.load false 1 (.s 74)),oG 35 76 73 false (.bin .gtr (.s 75) (kI 1099511627776)),o1 36 77 (.pick (.s 73) (kB true) (.s 76)),mS 37 78 77,oG 38 79 78 false (.faddr 5 (.s 4)),oG 40 81 78 false (.mv (.s 5)),oG 39 80 78 false (.load false 1 (.s 79)),⟨41,(some 82),(some (78,false)),.call ⟨true⟩ (.k (.c (.fn 189 [] []))) [(.s 80),(kI 0),(.s 81)]⟩,oG 42 83 78 false (.un .not (.s 82)),o1 43 84 (.pick (.s 78) (kB true) (.s 83))] [(14,17)] (some [84,1,10,11,12]))
  (.cond (.s 84) (sQ (rG 0 [mI 0 2 2] [2])
  .ret)
  .skip))))))
  (rG 0 [bI 0 85 .add 12 1,mS 1 12 85] [12,11,10,1]))))
abbrev f_roads_check_works : Nat := 156
def c_roads_check_works : CFn := { frz := true,rnd := none,nargs := 1,ntmps := 86,res := [(.slot 2)],code :=
  (sQ (rG 1 [o1 0 1 (.box 0 5 (.s 0)),mI 1 2 0] [1])
  (sQ (sQ (rG 0 [fA 0 8 0 1,fA 1 9 4 8,lF 2 10 9,lN 3 11 10,mI 4 12 0] [12,11,10,1])
  (.block 0 (.loop (some [12,11,10,1]) c_roads_check_works_l1)))
  (sQ (rG 0 [mI 0 2 0] [2])
  .ret))) }
def c_roads_merges_l1 : CC := (sQ (rG 0 [bS 0 10 .lss 9 8] [10,2,9,8,1])
  (sQ (.cond (.s 10) .skip
  (.exit 0))
  (sQ (.block 1 (sQ (rG 1 [mS 0 11 9,o1 1 3 (.box 0 1 (.k (.a [(I 0)]))),o0 2 (.store 1 (.s 3) (.s 11))] [2,3,9,8,1])
  (sQ (rG 1 [lT 0 12 5 1,lF 1 13 3,cA 2 14 161 [(.s 12),(.s 13)],o1 3 4 (.box 0 1 (.k (.a [.nilslice]))),o0 4 (.store 1 (.s 4) (.s 14))] [4,2,3,9,8,1])
  (sQ (rG 0 [fA 0 15 2 1,lF 1 16 15,o1 2 17 (.mkfn 197 [] [(.s 1),(.s 3),(.s 4)]),cA 3 18 196 [(.s 16),(.s 17)],mS 4 5 18] [4,5,2,3,9,8,1])
  (sQ (rG 0 [lF 0 19 4,lN 1 20 19,bI 2 21 .gtr 20 1,mS 3 22 21,oG 4 23 22 true (.mv (.s 5)),oG 5 24 22 true (.un .not (.s 23)),o1 6 25 (.pick (.s 22) (.s 24) (kB false))] [25,2,3,9,8,1])
  (.cond (.s 25) (rG 1 [mS 0 26 2,lF 1 27 3,o1 2 28 (.build [(I 0),(I 0),(I 0),(I 0)] [(0,1,(kI 1)),(1,1,(kI (-1))),(2,1,(.s 27)),(3,1,(kI (-1)))]),o1 3 29 (.lit 0 4 [[(I 0),(I 0),(I 0),(I 0)]] [(0,(.s 28))]),o1 4 30 (.append 4 32 (.s 26) (.s 29)),mS 5 2 30] [9,2,8,1])
  .skip))))))
  (rG 0 [bI 0 31 .add 9 1,mS 1 9 31] [2,9,8,1]))))
abbrev f_roads_merges : Nat := 157
def c_roads_merges : CFn := { frz := true,rnd := none,nargs := 1,ntmps := 33,res := [(.slot 2)],code :=
  (sQ (rG 2 [o1 0 1 (.box 0 5 (.s 0)),o1 1 2 (.newsl 1 4)] [2,1])
  (sQ (sQ (rG 0 [fA 0 6 1 1,lF 1 7 6,lN 2 8 7,mI 3 9 0] [2,9,8,1])
  (.block 0 (.loop (some [2,9,8,1]) c_roads_merges_l1)))
  (sQ (rG 0 [mS 0 32 2,mS 1 2 32] [2])
  .ret))) }
def c_roads_chains_l1 : CC := (sQ (rG 0 [bS 0 19 .lss 18 17] [19,2,18,17,8,9,10,16,1,4,3])
  (sQ (.cond (.s 19) .skip
  (.exit 2))
  (sQ (.block 3 (sQ (rG 1 [iA 0 20 4 16 18,lT 1 21 4 20,o1 2 6 (.box 0 4 (.k (.a [(I 0),(I 0),(I 0),(I 0)]))),o0 3 (.store 4 (.s 6) (.s 21))] [2,6,18,17,8,9,10,16,1,4,3])
  (sQ (rG 0 [lT 0 22 5 1,lT 1 23 2 4,fA 2 24 0 6,lF 3 25 24,cA 4 26 201 [(.s 22),(.s 23),(.s 25)],o1 5 27 (.un .not (.s 26)),mS 6 28 27,oG 7 29 28 true (.load true 5 (.s 1)),oG 8 30 28 true (.load true 2 (.s 4)),oG 9 31 28 true (.faddr 0 (.s 6)),oG 10 32 28 true (.load false 1 (.s 31)),⟨11,(some 33),(some (28,true)),.call ⟨true⟩ (.k (.c (.fn 198 [] []))) [(.s 29),(.s 30),(.s 32)]⟩,oG 12 34 28 true (.un .not (.s 33)),o1 13 35 (.pick (.s 28) (.s 34) (kB false))] [35,2,6,18,17,8,9,10,16,1,4,3])
  (.cond (.s 35) (rG 1 [mS 0 36 2,mS 1 37 3,fA 2 38 0 6,lF 3 39 38,o1 4 40 (.build [(I 0),(I 0),(I 0),(I 0)] [(0,1,(kI 2)),(1,1,(.s 37)),(2,1,(.s 39)),(3,1,(kI (-1)))]),o1 5 41 (.lit 0 4 [[(I 0),(I 0),(I 0),(I 0)]] [(0,(.s 40))]),o1 6 42 (.append 4 32 (.s 36) (.s 41)),mS 7 2 42] [18,2,17,8,9,10,16,1,4,3])
  .skip))))
  (rG 0 [bI 0 43 .add 18 1,mS 1 18 43] [2,18,17,8,9,10,16,1,4,3]))))
def c_roads_chains_l2 : CC := (sQ (rG 0 [bS 0 11 .lss 10 9] [11,2,8,9,10,1])
  (sQ (.cond (.s 11) .skip
  (.exit 0))
  (sQ (.block 1 (sQ (rG 1 [mS 0 12 10,iA 1 13 2 8 10,lT 2 14 2 13,o1 3 4 (.box 0 2 (.k (.a [.nilslice,(I 0)]))),mS 4 3 12,o0 5 (.store 2 (.s 4) (.s 14))] [2,8,9,10,1,4,3])
  (sQ (rG 0 [fA 0 15 0 4,lF 1 16 15,lN 2 17 16,mI 3 18 0] [2,18,17,8,9,10,16,1,4,3])
  (.block 2 (.loop (some [2,18,17,8,9,10,16,1,4,3]) c_roads_chains_l1)))))
  (rG 0 [bI 0 44 .add 10 1,mS 1 10 44] [2,9,8,10,1]))))
abbrev f_roads_chains : Nat := 158
def c_roads_chains : CFn := { frz := true,rnd := none,nargs := 1,ntmps := 46,res := [(.slot 2)],code :=
  (sQ (rG 2 [o1 0 1 (.box 0 5 (.s 0)),o1 1 2 (.newsl 1 4)] [2,1])
  (sQ (sQ (rG 0 [fA 0 7 2 1,lF 1 8 7,lN 2 9 8,mI 3 10 0] [2,9,8,10,1])
  (.block 0 (.loop (some [2,9,8,10,1]) c_roads_chains_l2)))
  (sQ (rG 0 [mS 0 45 2,mS 1 2 45] [2])
  .ret))) }
abbrev f_roads_ranks : Nat := 159
def c_roads_ranks : CFn := { frz := true,rnd := none,nargs := 1,ntmps := 5,res := [(.slot 2)],code :=
  (sQ (rG 2 [o1 0 1 (.box 0 5 (.s 0)),o1 1 2 (.newsl 1 4)] [1])
  (sQ (rG 0 [lT 0 3 5 1,⟨1,(some 4),none,.call ⟨true⟩ (.k (.c (.fn 202 [] []))) [(.s 3),(kI 3),(.k (.c (.fn 203 [] [])))]⟩,mS 2 2 4] [2])
  .ret)) }
abbrev f_roads_greens : Nat := 160
def c_roads_greens : CFn := { frz := true,rnd := none,nargs := 1,ntmps := 6,res := [(.slot 2)],code :=
  (sQ (rG 2 [o1 0 1 (.box 0 5 (.s 0)),o1 1 2 (.newsl 1 4)] [1])
  (sQ (rG 0 [lT 0 3 5 1,o1 1 4 (.mkfn 205 [] [(.s 1)]),cA 2 5 202 [(.s 3),(kI 4),(.s 4)],mS 3 2 5] [2])
  .ret)) }
def c_roads_before_l1 : CC := (sQ (rG 0 [bS 0 12 .lss 11 10] [12,5,11,10,9,1])
  (sQ (.cond (.s 12) .skip
  (.exit 0))
  (sQ (.block 1 (sQ (rG 1 [mS 0 13 11,iA 1 14 5 9 11,lT 2 15 5 14,o1 3 7 (.box 0 5 (.k (.a [(I 0),.nilslice,(I 0),(I 0),.nilslice]))),mS 4 6 13,o0 5 (.store 5 (.s 7) (.s 15))] [7,5,6,11,10,9,1])
  (sQ (rG 0 [fA 0 16 4 7,lF 1 17 16,mS 2 18 1,cA 3 19 162 [(.s 17),(.s 18)]] [19,5,6,11,10,9,1])
  (.cond (.s 19) (rG 1 [mS 0 20 5,mS 1 21 6,o1 2 22 (.lit 0 1 [[(I 0)]] [(0,(.s 21))]),o1 3 23 (.append 1 8 (.s 20) (.s 22)),mS 4 5 23] [11,5,10,9,1])
  .skip))))
  (rG 0 [bI 0 24 .add 11 1,mS 1 11 24] [5,11,10,9,1]))))
abbrev f_roads_before : Nat := 161
def c_roads_before : CFn := { frz := true,rnd := none,nargs := 2,ntmps := 26,res := [(.slot 4)],code :=
  (sQ (rG 2 [o1 0 2 (.box 0 5 (.s 0)),o1 1 4 (.newsl 1 1)] [2,1])
  (sQ (rG 1 [o1 0 5 (.newsl 0 1)] [2,5,1])
  (sQ (sQ (rG 0 [fA 0 8 1 2,lF 1 9 8,lN 2 10 9,mI 3 11 0] [5,11,10,9,1])
  (.block 0 (.loop (some [5,11,10,9,1]) c_roads_before_l1)))
  (sQ (rG 0 [mS 0 25 5,mS 1 4 25] [4])
  .ret)))) }
abbrev f_slices_Contains_int : Nat := 162
def c_slices_Contains_int : CFn := { frz := true,rnd := none,nargs := 2,ntmps := 9,res := [(.slot 4)],code :=
  (sQ (rG 0 [mB 0 4 false] [0,1])
  (sQ (rG 0 [mS 0 5 0,mS 1 6 1,cA 2 7 207 [(.s 5),(.s 6)],bI 3 8 .geq 7 0,mS 4 4 8] [4])
  .ret)) }
abbrev f_plan_within : Nat := 163
def c_plan_within : CFn := { frz := true,rnd := none,nargs := 3,ntmps := 15,res := [(.slot 6)],code :=
  (sQ (rG 0 [mB 0 6 false] [1,0,2])
  (sQ (rG 0 [mS 0 7 1,mS 1 8 0,bS 2 9 .leq 7 8,mS 3 10 9,oG 4 11 10 true (.mv (.s 0)),oG 5 12 10 true (.mv (.s 2)),oG 6 13 10 true (.bin .leq (.s 11) (.s 12)),o1 7 14 (.pick (.s 10) (.s 13) (kB false)),mS 8 6 14] [6])
  .ret)) }
abbrev f_roads_RouteLength : Nat := 164
def c_roads_RouteLength : CFn := { frz := true,rnd := none,nargs := 2,ntmps := 9,res := [(.slot 4)],code :=
  (sQ (rG 1 [o1 0 2 (.box 0 5 (.s 0)),mI 1 4 0] [2,1])
  (sQ (rG 0 [lT 0 5 5 2,mS 1 6 1,cA 2 7 208 [(.s 5),(.s 6)],o1 3 8 (.field false 7 1 (.s 7)),mS 4 4 8] [4])
  .ret)) }
def c_roads_Passes_l1 : CC := (sQ (rG 0 [bS 0 36 .lss 35 34] [36,6,35,34,25,19,18,17,2,26,27,33,8,9,5,7])
  (sQ (.cond (.s 36) .skip
  (.exit 4))
  (sQ (.block 5 (sQ (rG 1 [mS 0 37 35,iA 1 38 4 33 35,lT 2 39 4 38,o1 3 12 (.box 0 4 (.k (.a [(I 0),(I 0),(I 0),(I 0)]))),mS 4 11 37,o0 5 (.store 4 (.s 12) (.s 39))] [6,11,12,35,34,25,19,18,17,2,26,27,33,8,9,5,7])
  (sQ (rG 0 [fA 0 40 0 12,lF 1 41 40,mS 2 42 8,bS 3 43 .eql 41 42] [43,6,11,12,35,34,25,19,18,17,2,26,27,33,8,9,5,7])
  (.cond (.s 43) (rG 1 [mS 0 44 6,mS 1 45 9,mS 2 46 11,fA 3 47 6 5,mS 5 49 7,fA 8 52 1 12,fA 11 55 6 5,mS 13 57 7,fA 16 60 2 12,lF 4 48 47,iA 6 50 1 48 49,lF 7 51 50,lF 9 53 52,bS 10 54 .add 51 53,lF 12 56 55,iA 14 58 1 56 57,lF 15 59 58,lF 17 61 60,bS 18 62 .add 59 61,o1 19 63 (.build [(I 0),(I 0),(I 0),(I 0)] [(0,1,(.s 45)),(1,1,(.s 46)),(2,1,(.s 54)),(3,1,(.s 62))]),o1 20 64 (.lit 0 4 [[(I 0),(I 0),(I 0),(I 0)]] [(0,(.s 63))]),o1 21 65 (.append 4 32 (.s 44) (.s 64)),mS 22 6 65] [35,6,34,25,19,18,17,2,26,27,33,8,9,5,7])
  .skip))))
  (rG 0 [bI 0 66 .add 35 1,mS 1 35 66] [6,35,34,25,19,18,17,2,26,27,33,8,9,5,7]))))
def c_roads_Passes_l2 : CC := (sQ (rG 0 [bS 0 28 .lss 27 26] [28,6,25,19,18,17,2,26,27,8,5,7])
  (sQ (.cond (.s 28) .skip
  (.exit 2))
  (sQ (.block 3 (sQ (rG 1 [mS 0 29 27,iA 1 30 2 25 27,lT 2 31 2 30,o1 3 10 (.box 0 2 (.k (.a [.nilslice,(I 0)]))),mS 4 9 29,o0 5 (.store 2 (.s 10) (.s 31))] [10,6,25,19,18,17,2,26,27,8,9,5,7])
  (sQ (rG 0 [fA 0 32 0 10,lF 1 33 32,lN 2 34 33,mI 3 35 0] [6,35,34,25,19,18,17,2,26,27,33,8,9,5,7])
  (.block 4 (.loop (some [6,35,34,25,19,18,17,2,26,27,33,8,9,5,7]) c_roads_Passes_l1)))))
  (rG 0 [bI 0 67 .add 27 1,mS 1 27 67] [6,26,2,17,18,19,25,27,8,5,7]))))
def c_roads_Passes_l3 : CC := (sQ (rG 0 [bS 0 20 .lss 19 18] [20,6,2,17,18,19,5])
  (sQ (.cond (.s 20) .skip
  (.exit 0))
  (sQ (.block 1 (sQ (rG 0 [mS 0 21 19,iA 1 22 1 17 19,lF 2 23 22,mS 3 7 21,mS 4 8 23] [6,2,17,18,19,8,5,7])
  (sQ (rG 0 [fA 0 24 2 2,lF 1 25 24,lN 2 26 25,mI 3 27 0] [6,26,2,17,18,19,25,27,8,5,7])
  (.block 2 (.loop (some [6,26,2,17,18,19,25,27,8,5,7]) c_roads_Passes_l2)))))
  (rG 0 [bI 0 68 .add 19 1,mS 1 19 68] [6,18,17,2,19,5]))))
abbrev f_roads_Passes : Nat := 165
def c_roads_Passes : CFn := { frz := true,rnd := none,nargs := 2,ntmps := 72,res := [(.slot 4)],code :=
  (sQ (rG 2 [o1 0 2 (.box 0 5 (.s 0)),o1 1 4 (.newsl 1 4)] [1,2])
  (sQ (rG 1 [lT 0 13 5 2,mS 1 14 1,cA 2 15 208 [(.s 13),(.s 14)],o1 3 5 (.box 0 8 (.k (.a [(I 0),.nilslice,.nilslice,.nilslice,.nilslice,.nilslice,.nilslice,(I 0)]))),o0 4 (.store 8 (.s 5) (.s 15))] [2,5])
  (sQ (rG 1 [o1 0 6 (.newsl 0 4)] [6,2,5])
  (sQ (sQ (rG 0 [fA 0 16 5 5,lF 1 17 16,lN 2 18 17,mI 3 19 0] [6,18,17,2,19,5])
  (.block 0 (.loop (some [6,18,17,2,19,5]) c_roads_Passes_l3)))
  (sQ (rG 0 [mS 0 69 6,⟨1,(some 70),none,.call ⟨false⟩ (.k (.c (.fn 209 [] []))) [(.s 69),(.k (.c (.fn 210 [] [])))]⟩] [6])
  (sQ (rG 0 [mS 0 71 6,mS 1 4 71] [4])
  .ret)))))) }
abbrev f_drive_parked_1 : Nat := 166
def c_drive_parked_1 : CFn := { frz := true,rnd := none,nargs := 2,ntmps := 8,res := [(.slot 3)],code :=
  (sQ (rG 1 [o1 0 2 (.box 0 4 (.s 0)),mB 1 3 false] [2,1])
  (sQ (rG 0 [fA 0 4 0 2,lF 1 5 4,lF 2 6 1,bS 3 7 .eql 5 6,mS 4 3 7] [3])
  .ret)) }
abbrev f_slices_ContainsFunc_Pass : Nat := 167
def c_slices_ContainsFunc_Pass : CFn := { frz := true,rnd := none,nargs := 2,ntmps := 9,res := [(.slot 4)],code :=
  (sQ (rG 0 [mB 0 4 false] [0,1])
  (sQ (rG 0 [mS 0 5 0,mS 1 6 1,cA 2 7 168 [(.s 5),(.s 6)],bI 3 8 .geq 7 0,mS 4 4 8] [4])
  .ret)) }
def c_slices_IndexFunc_Pass_l1 : CC := (sQ (rG 0 [bS 0 9 .lss 8 7] [9,0,1,7,8])
  (sQ (.cond (.s 9) .skip
  (.exit 0))
  (sQ (.block 1 (sQ (rG 0 [mS 0 10 8,mS 1 5 10] [0,1,7,8,5])
  (sQ (rG 0 [mS 0 11 1,mS 1 12 0,mS 2 13 5,iA 3 14 4 12 13,lT 4 15 4 14,⟨5,(some 16),none,.call ⟨true⟩ (.s 11) [(.s 15)]⟩] [16,0,1,7,8,5])
  (.cond (.s 16) (sQ (rG 0 [mS 0 17 5,mS 1 4 17] [4])
  .ret)
  .skip))))
  (rG 0 [bI 0 18 .add 8 1,mS 1 8 18] [7,1,0,8]))))
abbrev f_slices_IndexFunc_Pass : Nat := 168
def c_slices_IndexFunc_Pass : CFn := { frz := true,rnd := none,nargs := 2,ntmps := 19,res := [(.slot 4)],code :=
  (sQ (rG 0 [mI 0 4 0] [1,0])
  (sQ (sQ (rG 0 [mS 0 6 0,lN 1 7 6,mI 2 8 0] [7,1,0,8])
  (.block 0 (.loop (some [7,1,0,8]) c_slices_IndexFunc_Pass_l1)))
  (sQ (rG 0 [mI 0 4 (-1)] [4])
  .ret))) }
abbrev f_internal_strconv_FormatInt : Nat := 169
def c_internal_strconv_FormatInt : CFn := { frz := true,rnd := none,nargs := 2,ntmps := 54,res := [(.slot 4)],code :=
  (sQ (rG 0 [⟨0,(some 4),none,.mv (.k (.c (.str ⟨#[]⟩)))⟩] [1,0])
  (sQ (sQ (rG 0 [mS 0 10 1,bI 1 11 .eql 10 10] [11,1,0])
  (.cond (.s 11) (sQ (sQ (rG 0 [mS 0 12 0,o1 1 13 (.bin .leq (kI 0) (.s 12)),mS 2 14 13,oG 3 15 14 true (.mv (.s 0)),oG 4 16 14 true (.bin .lss (.s 15) (kI 100)),o1 5 17 (.pick (.s 14) (.s 16) (kB false))] [17,0])
  (.cond (.s 17) (sQ (rG 0 [mS 0 18 0,cA 1 19 212 [(.s 18)],mS 2 4 19] [4])
  .ret)
  .skip))
  (sQ (rG 1 [o1 0 5 (.box 0 24 (.k (.a [(.int .u8 0),(.int .u8 0),(.int .u8 0),(.int .u8 0),(.int .u8 0),(.int .u8 0),(.int .u8 0),(.int .u8 0),(.int .u8 0),(.int .u8 0),(.int .u8 0),(.int .u8 0),(.int .u8 0),(.int .u8 0),(.int .u8 0),(.int .u8 0),(.int .u8 0),(.int .u8 0),(.int .u8 0),(.int .u8 0),(.int .u8 0),(.int .u8 0),(.int .u8 0),(.int .u8 0)])))] [0,5])
  (sQ (rG 0 [mS 0 20 0,o1 1 21 (.conv .u64 (.s 20)),mS 2 6 21] [6,0,5])
  (sQ (sQ (rG 0 [mS 0 22 0,bI 1 23 .lss 22 0] [23,6,0,5])
  (.cond (.s 23) (rG 0 [mS 0 24 6,o1 1 25 (.un .neg (.s 24)),mS 2 6 25] [6,0,5])
  .skip))
  (sQ (rG 0 [mS 0 26 6,cA 1 27 213 [(.s 26)],mS 2 7 27] [6,0,7,5])
  (sQ (rG 0 [mS 0 28 7,o1 1 29 (.bin .add (kI 1) (.s 28)),o1 2 30 (.pop (.aslice 24 1 true true) [(.s 5),(kI 1),(.s 29)]),mS 3 31 6,cA 4 32 214 [(.s 30),(.s 31)]] [0,7,5])
  (sQ (sQ (rG 0 [mS 0 33 0,bI 1 34 .lss 33 0] [34,7,5])
  (.cond (.s 34) (sQ (rG 0 [o1 0 35 (.aaddr 24 1 (.s 5) (kI 0)),o0 1 (.store 1 (.s 35) (.k (.c (.int .u8 45))))] [7,5])
  (sQ (rG 0 [mS 0 36 7,o1 1 37 (.bin .add (kI 1) (.s 36)),o1 2 38 (.pop (.aslice 24 1 false true) [(.s 5),(.s 37)]),o1 3 39 (.mop .tostr [(.s 38)]),mS 4 4 39] [4])
  .ret))
  .skip))
  (sQ (rG 0 [mS 0 40 7,o1 1 41 (.bin .add (kI 1) (.s 40)),o1 2 42 (.pop (.aslice 24 1 true true) [(.s 5),(kI 1),(.s 41)]),o1 3 43 (.mop .tostr [(.s 42)]),mS 4 4 43] [4])
  .ret))))))))
  .skip))
  (sQ (rG 0 [mS 0 45 0,o1 1 46 (.conv .u64 (.s 45)),mS 2 47 1,mS 3 48 0,bI 4 49 .lss 48 0,cA 5 50 215 [(.k (.c .nilslice)),(.s 46),(.s 47),(.s 49),(kB false)],mS 6 44 50,eX 7 51 44 0,eX 8 52 44 1,mS 9 8 51,mS 10 9 52] [9])
  (sQ (rG 0 [mS 0 53 9,mS 1 4 53] [4])
  .ret)))) }
abbrev f_slices_Clone_Spot : Nat := 170
def c_world_lane_l1 : CC := (sQ (sQ (rG 0 [mS 0 15 6,mS 1 16 7,iA 2 17 1 15 16,fA 4 19 1 3,lF 3 18 17,lF 5 20 19,bS 6 21 .gtr 18 20] [21,7,6,3])
  (.cond (.s 21) .skip
  (.exit 0)))
  (.block 1 (rG 0 [mS 0 22 7,bI 1 23 .sub 22 1,mS 2 7 23] [7,6,3])))
abbrev f_world_lane : Nat := 172
def c_world_lane : CFn := { frz := true,rnd := none,nargs := 2,ntmps := 36,res := [(.slot 4),(.slot 5)],code :=
  (sQ (rG 2 [o1 0 2 (.box 0 5 (.s 0)),o1 1 3 (.box 1 7 (.s 1)),mI 2 4 0,mI 3 5 0] [2,3])
  (sQ (rG 0 [lT 0 8 5 2,fA 1 9 0 3,lF 2 10 9,cA 3 11 183 [(.s 8),(.s 10)],mS 4 6 11] [6,3])
  (sQ (rG 0 [mS 0 12 6,lN 1 13 12,bI 2 14 .sub 13 1,mS 3 7 14] [7,6,3])
  (sQ (.block 0 (.loop (some [7,6,3]) c_world_lane_l1))
  (sQ (rG 0 [fA 0 24 0 3,mS 2 26 7,fA 5 29 1 3,mS 7 31 6,mS 8 32 7,iA 9 33 1 31 32,lF 1 25 24,iA 3 27 1 25 26,lF 4 28 27,mS 12 4 28,lF 6 30 29,lF 10 34 33,bS 11 35 .sub 30 34,mS 13 5 35] [4,5])
  .ret))))) }
abbrev f_roads_Bounds : Nat := 173
def c_roads_Bounds : CFn := { frz := true,rnd := none,nargs := 1,ntmps := 26,res := [(.slot 2),(.slot 3),(.slot 4)],code :=
  (sQ (rG 0 [mI 0 2 0,mI 1 3 0,mI 2 4 0] [0])
  (sQ (rG 1 [o1 0 7 (.build [(I 0),(I 0),(I 0)] [(0,1,(kI 2000)),(1,1,(kI 30)),(2,1,(kI 90))]),o1 1 8 (.build [(I 0),(I 0),(I 0)] [(0,1,(kI 1000)),(1,1,(kI 20)),(2,1,(kI 60))]),o1 2 9 (.build [(I 0),(I 0),(I 0)] [(0,1,(kI 300)),(1,1,(kI 100)),(2,1,(kI 300))]),o1 3 10 (.build [(I 0),(I 0),(I 0),(I 0),(I 0),(I 0),(I 0),(I 0),(I 0),(I 0),(I 0),(I 0)] [(3,3,(.s 7)),(6,3,(.s 8)),(9,3,(.s 9))]),o1 4 5 (.box 0 12 (.k (.a [(I 0),(I 0),(I 0),(I 0),(I 0),(I 0),(I 0),(I 0),(I 0),(I 0),(I 0),(I 0)]))),o0 5 (.store 12 (.s 5) (.s 10))] [5,0])
  (sQ (sQ (rG 0 [mS 0 11 0,bI 1 12 .lss 11 0,mS 2 13 12,oG 3 14 13 false (.mv (.s 0)),oG 4 15 13 false (.bin .geq (.s 14) (kI 4)),o1 5 16 (.pick (.s 13) (kB true) (.s 15))] [16,5,0])
  (.cond (.s 16) (sQ (rG 0 [mI 0 2 0,mI 1 3 0,mI 2 4 0] [2,3,4])
  .ret)
  .skip))
  (sQ (rG 1 [mS 0 17 0,o1 1 18 (.aaddr 4 3 (.s 5) (.s 17)),lT 2 19 3 18,o1 3 6 (.box 0 3 (.k (.a [(I 0),(I 0),(I 0)]))),o0 4 (.store 3 (.s 6) (.s 19))] [6])
  (sQ (rG 0 [o1 0 20 (.aaddr 3 1 (.s 6) (kI 0)),o1 2 22 (.aaddr 3 1 (.s 6) (kI 1)),o1 4 24 (.aaddr 3 1 (.s 6) (kI 2)),lF 1 21 20,mS 6 2 21,lF 3 23 22,mS 7 3 23,lF 5 25 24,mS 8 4 25] [2,3,4])
  .ret))))) }
abbrev f_world_left : Nat := 174
def c_world_left : CFn := { frz := true,rnd := none,nargs := 2,ntmps := 13,res := [(.slot 4)],code :=
  (sQ (rG 2 [o1 0 2 (.box 0 5 (.s 0)),o1 1 3 (.box 1 7 (.s 1)),mB 2 4 false] [3,2])
  (sQ (.region 0 [fA 4 9 0 3,lT 0 5 7 3,lT 3 8 5 2,lF 5 10 9,cA 1 6 184 [(.s 5)],o1 2 7 (.field false 0 1 (.s 6)),cA 6 11 164 [(.s 8),(.s 10)],bS 7 12 .gtr 7 11,mS 8 4 12] [(2,4),(3,4)] (some [4]))
  .ret)) }
def c_cmp_Or_int_l1 : CC := (sQ (rG 0 [bS 0 9 .lss 8 7] [9,3,6,7,8])
  (sQ (.cond (.s 9) .skip
  (.exit 0))
  (sQ (.block 1 (sQ (rG 0 [iA 0 10 1 6 8,lF 1 11 10,mS 2 5 11] [3,6,7,8,5])
  (sQ (rG 0 [mS 0 12 5,mS 1 13 3,bS 2 14 .neq 12 13] [14,3,6,7,8,5])
  (.cond (.s 14) (sQ (rG 0 [mS 0 15 5,mS 1 2 15] [2])
  .ret)
  .skip))))
  (rG 0 [bI 0 16 .add 8 1,mS 1 8 16] [7,6,3,8]))))
abbrev f_cmp_Or_int : Nat := 175
def c_cmp_Or_int : CFn := { frz := true,rnd := none,nargs := 1,ntmps := 18,res := [(.slot 2)],code :=
  (sQ (rG 0 [mI 0 2 0] [0])
  (sQ (rG 0 [mI 0 3 0] [0,3])
  (sQ (sQ (rG 0 [mS 0 6 0,lN 1 7 6,mI 2 8 0] [7,6,3,8])
  (.block 0 (.loop (some [7,6,3,8]) c_cmp_Or_int_l1)))
  (sQ (rG 0 [mS 0 17 3,mS 1 2 17] [2])
  .ret)))) }
abbrev f_cmp_Compare_int : Nat := 176
def c_cmp_Compare_int : CFn := { frz := true,rnd := none,nargs := 2,ntmps := 20,res := [(.slot 4)],code :=
  (sQ (rG 0 [mI 0 4 0] [1,0])
  (sQ (rG 0 [mS 0 7 0,cA 1 8 131 [(.s 7)],mS 2 5 8] [5,1,0])
  (sQ (rG 0 [mS 0 9 1,cA 1 10 131 [(.s 9)],mS 2 6 10] [5,1,0,6])
  (sQ (sQ (rG 0 [mS 0 11 5] [11,1,0,6])
  (.cond (.s 11) (sQ (sQ (rG 0 [mS 0 12 6] [12])
  (.cond (.s 12) (sQ (rG 0 [mI 0 4 0] [4])
  .ret)
  .skip))
  (sQ (rG 0 [mI 0 4 (-1)] [4])
  .ret))
  .skip))
  (sQ (sQ (rG 0 [mS 0 13 6] [13,0,1])
  (.cond (.s 13) (sQ (rG 0 [mI 0 4 1] [4])
  .ret)
  .skip))
  (sQ (sQ (rG 0 [mS 0 14 0,mS 1 15 1,bS 2 16 .lss 14 15] [16,1,0])
  (.cond (.s 16) (sQ (rG 0 [mI 0 4 (-1)] [4])
  .ret)
  .skip))
  (sQ (sQ (rG 0 [mS 0 17 0,mS 1 18 1,bS 2 19 .gtr 17 18] [19])
  (.cond (.s 19) (sQ (rG 0 [mI 0 4 1] [4])
  .ret)
  .skip))
  (sQ (rG 0 [mI 0 4 0] [4])
  .ret)))))))) }
def c_slices_IndexFunc_Stay_l1 : CC := (sQ (rG 0 [bS 0 9 .lss 8 7] [9,0,1,7,8])
  (sQ (.cond (.s 9) .skip
  (.exit 0))
  (sQ (.block 1 (sQ (rG 0 [mS 0 10 8,mS 1 5 10] [0,1,7,8,5])
  (sQ (rG 0 [mS 0 11 1,mS 1 12 0,mS 2 13 5,iA 3 14 4 12 13,lT 4 15 4 14,⟨5,(some 16),none,.call ⟨true⟩ (.s 11) [(.s 15)]⟩] [16,0,1,7,8,5])
  (.cond (.s 16) (sQ (rG 0 [mS 0 17 5,mS 1 4 17] [4])
  .ret)
  .skip))))
  (rG 0 [bI 0 18 .add 8 1,mS 1 8 18] [7,1,0,8]))))
abbrev f_slices_IndexFunc_Stay : Nat := 177
def c_slices_IndexFunc_Stay : CFn := { frz := true,rnd := none,nargs := 2,ntmps := 19,res := [(.slot 4)],code :=
  (sQ (rG 0 [mI 0 4 0] [1,0])
  (sQ (sQ (rG 0 [mS 0 6 0,lN 1 7 6,mI 2 8 0] [7,1,0,8])
  (.block 0 (.loop (some [7,1,0,8]) c_slices_IndexFunc_Stay_l1)))
  (sQ (rG 0 [mI 0 4 (-1)] [4])
  .ret))) }
abbrev f_world_Present : Nat := 178
def c_world_Present : CFn := { frz := true,rnd := none,nargs := 4,ntmps := 30,res := [(.slot 8)],code :=
  (sQ (rG 4 [o1 0 4 (.box 0 5 (.s 0)),o1 1 5 (.box 1 7 (.s 1)),o1 2 6 (.box 2 7 (.s 2)),o1 3 7 (.box 3 1 (.s 3)),mB 4 8 false] [7,5,4,6])
  (sQ (sQ (rG 0 [lT 0 10 7 5,cA 1 11 182 [(.s 10)],o1 2 12 (.un .not (.s 11)),mS 3 13 12,oG 4 14 13 false (.load true 7 (.s 6)),⟨5,(some 15),(some (13,false)),.call ⟨true⟩ (.k (.c (.fn 182 [] []))) [(.s 14)]⟩,oG 6 16 13 false (.un .not (.s 15)),o1 7 17 (.pick (.s 13) (kB true) (.s 16))] [17,7,5,4,6])
  (.cond (.s 17) (sQ (rG 0 [mB 0 8 false] [8])
  .ret)
  .skip))
  (sQ (.region 1 [fA 3 21 1 6,lT 0 18 7 5,lF 4 22 21,cA 1 19 184 [(.s 18)],o1 2 20 (.field false 0 1 (.s 19)),o1 5 23 (.build [(I 0),(I 0)] [(0,1,(.s 20)),(1,1,(.s 22))]),o1 6 9 (.box 0 2 (.k (.a [(I 0),(I 0)]))),o0 7 (.store 2 (.s 9) (.s 23))] [(1,6),(2,3),(2,6),(3,6)] (some [4,5,9,7]))
  (sQ (rG 0 [lT 0 24 5 4,fA 1 25 0 5,lF 2 26 25,cA 3 27 165 [(.s 24),(.s 26)],o1 4 28 (.mkfn 216 [] [(.s 7),(.s 9)]),cA 5 29 167 [(.s 27),(.s 28)],mS 6 8 29] [8])
  .ret)))) }
abbrev f_roads_Green : Nat := 179
def c_roads_Green : CFn := { frz := true,rnd := none,nargs := 4,ntmps := 37,res := [(.slot 8)],code :=
  (sQ (rG 1 [o1 0 4 (.box 0 5 (.s 0)),mB 1 8 false] [4,1,2,3])
  (sQ (rG 0 [mS 0 9 3,bI 1 10 .geq 9 0,mS 2 11 10,oG 3 12 11 true (.mv (.s 1)),oG 4 13 11 true (.bin .geq (.s 12) (kI 0)),o1 5 14 (.pick (.s 11) (.s 13) (kB false)),mS 6 15 14,oG 7 16 15 true (.mv (.s 1)),oG 8 17 15 true (.faddr 3 (.s 4)),oG 9 18 15 true (.load false 1 (.s 17)),oG 10 19 15 true (.len (.s 18)),oG 11 20 15 true (.bin .lss (.s 16) (.s 19)),o1 12 21 (.pick (.s 15) (.s 20) (kB false)),mS 13 22 21,oG 14 23 22 true (.load true 5 (.s 4)),oG 15 24 22 true (.mv (.s 2)),⟨16,(some 25),(some (22,true)),.call ⟨true⟩ (.k (.c (.fn 217 [] []))) [(.s 23),(.s 24)]⟩,o1 17 26 (.pick (.s 22) (.s 25) (kB false)),mS 18 27 26,oG 19 28 27 true (.faddr 3 (.s 4)),oG 20 29 27 true (.load false 1 (.s 28)),oG 21 30 27 true (.mv (.s 1)),oG 22 31 27 true (.iaddr 2 (.s 29) (.s 30)),oG 23 32 27 true (.load true 2 (.s 31)),oG 24 33 27 true (.mv (.s 2)),oG 25 34 27 true (.mv (.s 3)),⟨26,(some 35),(some (27,true)),.call ⟨true⟩ (.k (.c (.fn 218 [] []))) [(.s 32),(.s 33),(.s 34)]⟩,o1 27 36 (.pick (.s 27) (.s 35) (kB false)),mS 28 8 36] [8])
  .ret)) }
def c_slices_IndexFunc_Part_l1 : CC := (sQ (rG 0 [bS 0 9 .lss 8 7] [9,0,1,7,8])
  (sQ (.cond (.s 9) .skip
  (.exit 0))
  (sQ (.block 1 (sQ (rG 0 [mS 0 10 8,mS 1 5 10] [0,1,7,8,5])
  (sQ (rG 0 [mS 0 11 1,mS 1 12 0,mS 2 13 5,iA 3 14 4 12 13,lT 4 15 4 14,⟨5,(some 16),none,.call ⟨true⟩ (.s 11) [(.s 15)]⟩] [16,0,1,7,8,5])
  (.cond (.s 16) (sQ (rG 0 [mS 0 17 5,mS 1 4 17] [4])
  .ret)
  .skip))))
  (rG 0 [bI 0 18 .add 8 1,mS 1 8 18] [7,1,0,8]))))
abbrev f_slices_IndexFunc_Part : Nat := 180
def c_slices_IndexFunc_Part : CFn := { frz := true,rnd := none,nargs := 2,ntmps := 19,res := [(.slot 4)],code :=
  (sQ (rG 0 [mI 0 4 0] [1,0])
  (sQ (sQ (rG 0 [mS 0 6 0,lN 1 7 6,mI 2 8 0] [7,1,0,8])
  (.block 0 (.loop (some [7,1,0,8]) c_slices_IndexFunc_Part_l1)))
  (sQ (rG 0 [mI 0 4 (-1)] [4])
  .ret))) }
abbrev f_world_Rank_1 : Nat := 181
def c_world_Rank_1 : CFn := { frz := true,rnd := none,nargs := 2,ntmps := 8,res := [(.slot 3)],code :=
  (sQ (rG 1 [o1 0 2 (.box 0 4 (.s 0)),mB 1 3 false] [2,1])
  (sQ (rG 0 [fA 0 4 0 2,lF 1 5 4,lF 2 6 1,bS 3 7 .eql 5 6,mS 4 3 7] [3])
  .ret)) }
abbrev f_world_sane : Nat := 182
def c_world_sane : CFn := { frz := true,rnd := none,nargs := 1,ntmps := 21,res := [(.slot 2)],code :=
  (sQ (rG 1 [o1 0 1 (.box 0 7 (.s 0)),mB 1 2 false] [1])
  (sQ (rG 0 [fA 0 3 1 1,lF 1 4 3,bI 2 5 .geq 4 0,mS 3 6 5,oG 4 7 6 true (.faddr 1 (.s 1)),oG 5 8 6 true (.load false 1 (.s 7)),oG 6 9 6 true (.bin .leq (.s 8) (kI 1099511627776)),o1 7 10 (.pick (.s 6) (.s 9) (kB false)),mS 8 11 10,oG 9 12 11 true (.faddr 3 (.s 1)),oG 10 13 11 true (.load false 1 (.s 12)),oG 11 14 11 true (.bin .geq (.s 13) (kI 0)),o1 12 15 (.pick (.s 11) (.s 14) (kB false)),mS 13 16 15,oG 14 17 16 true (.faddr 3 (.s 1)),oG 15 18 16 true (.load false 1 (.s 17)),oG 16 19 16 true (.bin .leq (.s 18) (kI 1099511627776)),o1 17 20 (.pick (.s 16) (.s 19) (kB false)),mS 18 2 20] [2])
  .ret)) }
abbrev f_roads_Starts : Nat := 183
def c_roads_Starts : CFn := { frz := true,rnd := none,nargs := 2,ntmps := 9,res := [(.slot 4)],code :=
  (sQ (rG 2 [o1 0 2 (.box 0 5 (.s 0)),o1 1 4 (.newsl 1 1)] [2,1])
  (sQ (rG 0 [lT 0 5 5 2,mS 1 6 1,cA 2 7 208 [(.s 5),(.s 6)],o1 3 8 (.field false 6 1 (.s 7)),mS 4 4 8] [4])
  .ret)) }
abbrev f_world_body : Nat := 184
def c_world_body : CFn := { frz := true,rnd := none,nargs := 1,ntmps := 11,res := [(.cell 2 true 2)],code :=
  (sQ (rG 2 [o1 0 1 (.box 0 7 (.s 0)),o1 1 2 (.box 1 2 (.k (.a [(I 0),(I 0)])))] [1,2])
  (sQ (rG 0 [fA 0 3 1 1,lF 1 4 3,fA 2 5 3 1,lF 3 6 5,bS 4 7 .sub 4 6,fA 5 8 1 1,lF 6 9 8,o1 7 10 (.build [(I 0),(I 0)] [(0,1,(.s 7)),(1,1,(.s 9))]),o0 8 (.store 2 (.s 2) (.s 10))] [2])
  .ret)) }
abbrev f_world_span_less : Nat := 185
def c_world_span_less : CFn := { frz := true,rnd := none,nargs := 2,ntmps := 14,res := [(.cell 4 true 2)],code :=
  (sQ (rG 2 [o1 0 2 (.box 0 2 (.s 0)),o1 1 4 (.box 1 2 (.k (.a [(I 0),(I 0)])))] [2,1,4])
  (sQ (rG 0 [fA 0 5 0 2,lF 1 6 5,mS 2 7 1,bS 3 8 .sub 6 7,fA 4 9 1 2,lF 5 10 9,mS 6 11 1,bS 7 12 .sub 10 11,o1 8 13 (.build [(I 0),(I 0)] [(0,1,(.s 8)),(1,1,(.s 12))]),o0 9 (.store 2 (.s 4) (.s 13))] [4])
  .ret)) }
abbrev f_roads_Length : Nat := 186
def c_roads_Length : CFn := { frz := true,rnd := none,nargs := 2,ntmps := 12,res := [(.slot 4)],code :=
  (sQ (rG 1 [o1 0 2 (.box 0 5 (.s 0)),mI 1 4 0] [1,2])
  (sQ (sQ (rG 0 [lT 0 5 5 2,mS 1 6 1,cA 2 7 217 [(.s 5),(.s 6)],o1 3 8 (.un .not (.s 7))] [8,1,2])
  (.cond (.s 8) (sQ (rG 0 [mI 0 4 0] [4])
  .ret)
  .skip))
  (sQ (rG 0 [lT 0 9 5 2,mS 1 10 1,cA 2 11 195 [(.s 9),(.s 10)],mS 3 4 11] [4])
  .ret))) }
def c_slices_IndexFunc_Span_l1 : CC := (sQ (rG 0 [bS 0 9 .lss 8 7] [9,0,1,7,8])
  (sQ (.cond (.s 9) .skip
  (.exit 0))
  (sQ (.block 1 (sQ (rG 0 [mS 0 10 8,mS 1 5 10] [0,1,7,8,5])
  (sQ (rG 0 [mS 0 11 1,mS 1 12 0,mS 2 13 5,iA 3 14 3 12 13,lT 4 15 3 14,⟨5,(some 16),none,.call ⟨true⟩ (.s 11) [(.s 15)]⟩] [16,0,1,7,8,5])
  (.cond (.s 16) (sQ (rG 0 [mS 0 17 5,mS 1 4 17] [4])
  .ret)
  .skip))))
  (rG 0 [bI 0 18 .add 8 1,mS 1 8 18] [7,1,0,8]))))
abbrev f_slices_IndexFunc_Span : Nat := 187
def c_slices_IndexFunc_Span : CFn := { frz := true,rnd := none,nargs := 2,ntmps := 19,res := [(.slot 4)],code :=
  (sQ (rG 0 [mI 0 4 0] [1,0])
  (sQ (sQ (rG 0 [mS 0 6 0,lN 1 7 6,mI 2 8 0] [7,1,0,8])
  (.block 0 (.loop (some [7,1,0,8]) c_slices_IndexFunc_Span_l1)))
  (sQ (rG 0 [mI 0 4 (-1)] [4])
  .ret))) }
abbrev f_roads_Entry : Nat := 188
def c_roads_Entry : CFn := { frz := true,rnd := none,nargs := 3,ntmps := 24,res := [(.slot 6)],code :=
  (sQ (rG 2 [o1 0 3 (.box 0 5 (.s 0)),o1 1 5 (.box 1 1 (.s 2)),mI 2 6 0] [1,3,5])
  (sQ (rG 1 [lT 0 8 5 3,mS 1 9 1,cA 2 10 208 [(.s 8),(.s 9)],o1 3 7 (.box 0 8 (.k (.a [(I 0),.nilslice,.nilslice,.nilslice,.nilslice,.nilslice,.nilslice,(I 0)]))),o0 4 (.store 8 (.s 7) (.s 10))] [3,5,7])
  (sQ (sQ (rG 0 [lF 0 11 5,bI 1 12 .lss 11 0,mS 2 13 12,oG 3 14 13 false (.load false 1 (.s 5)),oG 4 15 13 false (.faddr 2 (.s 3)),oG 5 16 13 false (.load false 1 (.s 15)),oG 6 17 13 false (.len (.s 16)),oG 7 18 13 false (.bin .geq (.s 14) (.s 17)),o1 8 19 (.pick (.s 13) (kB true) (.s 18))] [19,3,5,7])
  (.cond (.s 19) (sQ (rG 0 [mI 0 6 (-1)] [6])
  .ret)
  .skip))
  (sQ (rG 0 [fA 0 20 5 7,lF 1 21 20,o1 2 22 (.mkfn 220 [] [(.s 3),(.s 5)]),cA 3 23 219 [(.s 21),(.s 22)],mS 4 6 23] [6])
  .ret)))) }
abbrev f_roads_within : Nat := 189
def c_roads_within : CFn := { frz := true,rnd := none,nargs := 3,ntmps := 15,res := [(.slot 6)],code :=
  (sQ (rG 0 [mB 0 6 false] [1,0,2])
  (sQ (rG 0 [mS 0 7 1,mS 1 8 0,bS 2 9 .leq 7 8,mS 3 10 9,oG 4 11 10 true (.mv (.s 0)),oG 5 12 10 true (.mv (.s 2)),oG 6 13 10 true (.bin .leq (.s 11) (.s 12)),o1 7 14 (.pick (.s 10) (.s 13) (kB false)),mS 8 6 14] [6])
  .ret)) }
def c_curve_Check_l1 : CC := (sQ (rG 0 [bS 0 28 .lss 27 26] [28,3,1,26,27])
  (sQ (.cond (.s 28) .skip
  (.exit 1))
  (sQ (.block 2 (sQ (rG 0 [mS 0 29 27,mS 1 4 29] [4,3,1,26,27])
  (sQ (.region 1 [fA 0 30 0 1,mS 2 32 4,fA 5 35 0 1,mS 7 37 4,bI 8 38 .add 37 1,lF 1 31 30,iA 3 33 2 31 32,lT 4 34 2 33,lF 6 36 35,iA 9 39 2 36 38,lT 10 40 2 39,cA 11 41 222 [(.s 34),(.s 40)],o1 12 5 (.box 0 2 (.k (.a [(I 0),(I 0)]))),o0 13 (.store 2 (.s 5) (.s 41))] [(5,12),(7,12),(8,12),(10,12),(11,12)] (some [4,3,1,26,27,5]))
  (sQ (rG 0 [lT 0 43 2 5,lT 1 44 2 5,cA 2 45 224 [(.s 43),(.s 44)],cA 3 46 223 [(.s 45)],mS 4 42 46,eX 5 47 42 0,eX 6 48 42 1,mS 7 6 47,mS 8 7 48] [7,4,3,1,26,27,5,6])
  (sQ (.block 3 (sQ (rG 0 [mS 0 50 7,o1 1 51 (.un .not (.s 50)),mS 2 49 51] [49,4,3,1,26,27,5,6])
  (.cond (.s 49) (sQ (rG 0 [mI 0 2 3] [2])
  .ret)
  (sQ (rG 0 [mS 0 53 6,bI 1 54 .lss 53 1000,mS 2 55 54,oG 3 56 55 false (.mv (.s 6)),oG 4 57 55 false (.bin .gtr (.s 56) (kI 1048576)),o1 5 58 (.pick (.s 55) (kB true) (.s 57)),mS 6 52 58] [52,5,27,26,1,3,4])
  (.cond (.s 52) (sQ (rG 0 [mI 0 2 2] [2])
  .ret)
  (sQ (rG 0 [mS 0 60 4,bI 1 61 .gtr 60 0,mS 2 62 61,oG 3 63 62 true (.load true 2 (.s 3)),oG 4 64 62 true (.load true 2 (.s 5)),⟨5,(some 65),(some (62,true)),.call ⟨true⟩ (.k (.c (.fn 224 [] []))) [(.s 63),(.s 64)]⟩,oG 6 66 62 true (.bin .leq (.s 65) (kI 0)),o1 7 67 (.pick (.s 62) (.s 66) (kB false)),mS 8 59 67] [59,3,1,26,27,5])
  (.cond (.s 59) (sQ (rG 0 [mI 0 2 12] [2])
  .ret)
  .skip)))))))
  (rG 0 [lT 0 68 2 5,o0 1 (.store 2 (.s 3) (.s 68))] [27,26,1,3]))))))
  (rG 0 [bI 0 69 .add 27 1,mS 1 27 69] [26,1,3,27]))))
abbrev f_curve_Check : Nat := 190
def c_curve_Check : CFn := { frz := true,rnd := none,nargs := 1,ntmps := 70,res := [(.slot 2)],code :=
  (sQ (rG 1 [o1 0 1 (.box 0 1 (.s 0)),mI 1 2 0] [1])
  (sQ (.block 0 (sQ (rG 0 [fA 0 9 0 1,lF 1 10 9,lN 2 11 10,bI 3 12 .lss 11 2,mS 4 8 12] [8,1])
  (.cond (.s 8) (sQ (rG 0 [mI 0 2 6] [2])
  .ret)
  (sQ (rG 0 [fA 0 14 0 1,lF 1 15 14,lN 2 16 15,bI 3 17 .gtr 16 16,mS 4 13 17] [13,1])
  (.cond (.s 13) (sQ (rG 0 [mI 0 2 5] [2])
  .ret)
  (sQ (rG 0 [fA 0 19 0 1,lF 1 20 19,cA 2 21 221 [(.s 20)],o1 3 22 (.un .not (.s 21)),mS 4 18 22] [18,1])
  (.cond (.s 18) (sQ (rG 0 [mI 0 2 2] [2])
  .ret)
  .skip)))))))
  (sQ (rG 1 [o1 0 3 (.box 0 2 (.k (.a [(I 0),(I 0)])))] [1,3])
  (sQ (sQ (rG 0 [fA 0 23 0 1,lF 1 24 23,lN 2 25 24,bI 3 26 .sub 25 1,mI 4 27 0] [26,1,3,27])
  (.block 1 (.loop (some [26,1,3,27]) c_curve_Check_l1)))
  (sQ (rG 0 [mI 0 2 0] [2])
  .ret))))) }
def c_roads_rising_l1 : CC := (sQ (rG 0 [bS 0 12 .lss 11 10] [12,1,2,9,10,11])
  (sQ (.cond (.s 12) .skip
  (.exit 0))
  (sQ (.block 1 (sQ (rG 0 [iA 0 13 1 9 11,lF 1 14 13,mS 2 8 14] [1,2,9,10,11,8])
  (sQ (sQ (rG 0 [mS 0 15 8,mS 1 16 1,bS 2 17 .lss 15 16,mS 3 18 17,oG 4 19 18 false (.mv (.s 8)),oG 5 20 18 false (.mv (.s 2)),oG 6 21 18 false (.bin .geq (.s 19) (.s 20)),o1 7 22 (.pick (.s 18) (kB true) (.s 21))] [22,2,9,10,11,8])
  (.cond (.s 22) (sQ (rG 0 [mB 0 6 false] [6])
  .ret)
  .skip))
  (rG 0 [mS 0 23 8,bI 1 24 .add 23 1,mS 2 1 24] [11,1,10,9,2]))))
  (rG 0 [bI 0 25 .add 11 1,mS 1 11 25] [1,10,9,2,11]))))
abbrev f_roads_rising : Nat := 191
def c_roads_rising : CFn := { frz := true,rnd := none,nargs := 3,ntmps := 26,res := [(.slot 6)],code :=
  (sQ (rG 0 [mB 0 6 false] [0,1,2])
  (sQ (sQ (rG 0 [mS 0 9 0,lN 1 10 9,mI 2 11 0] [1,10,9,2,11])
  (.block 0 (.loop (some [1,10,9,2,11]) c_roads_rising_l1)))
  (sQ (rG 0 [mB 0 6 true] [6])
  .ret))) }
abbrev f_slices_ContainsFunc_Phase : Nat := 192
def c_slices_ContainsFunc_Phase : CFn := { frz := true,rnd := none,nargs := 2,ntmps := 9,res := [(.slot 4)],code :=
  (sQ (rG 0 [mB 0 4 false] [0,1])
  (sQ (rG 0 [mS 0 5 0,mS 1 6 1,cA 2 7 225 [(.s 5),(.s 6)],bI 3 8 .geq 7 0,mS 4 4 8] [4])
  .ret)) }
abbrev f_roads_check_signals_1 : Nat := 193
def c_roads_check_signals_1 : CFn := { frz := true,rnd := none,nargs := 1,ntmps := 7,res := [(.slot 2)],code :=
  (sQ (rG 1 [o1 0 1 (.box 0 2 (.s 0)),mB 1 2 false] [1])
  (sQ (rG 0 [fA 0 3 0 1,lF 1 4 3,cA 2 5 189 [(.s 4),(kI 1),(kI 10000)],o1 3 6 (.un .not (.s 5)),mS 4 2 6] [2])
  .ret)) }
abbrev f_roads_check_signals_2 : Nat := 194
def c_roads_check_signals_2 : CFn := { frz := true,rnd := none,nargs := 2,ntmps := 12,res := [(.slot 3)],code :=
  (sQ (rG 1 [o1 0 2 (.box 0 2 (.s 0)),mB 1 3 false] [2,1])
  (sQ (rG 0 [fA 0 4 1 2,lF 1 5 4,fA 2 6 0 1,fA 3 7 1 6,lF 4 8 7,lN 5 9 8,cA 6 10 191 [(.s 5),(kI 0),(.s 9)],o1 7 11 (.un .not (.s 10)),mS 8 3 11] [3])
  .ret)) }
abbrev f_roads_long : Nat := 195
def c_roads_long : CFn := { frz := true,rnd := none,nargs := 2,ntmps := 12,res := [(.slot 4)],code :=
  (sQ (rG 1 [o1 0 2 (.box 0 5 (.s 0)),mI 1 4 0] [2,1])
  (sQ (rG 0 [fA 0 5 1 2,lF 1 6 5,mS 2 7 1,iA 3 8 5 6 7,fA 4 9 1 8,lT 5 10 1 9,cA 6 11 226 [(.s 10)],mS 7 4 11] [4])
  .ret)) }
abbrev f_slices_ContainsFunc_Zone : Nat := 196
def c_slices_ContainsFunc_Zone : CFn := { frz := true,rnd := none,nargs := 2,ntmps := 9,res := [(.slot 4)],code :=
  (sQ (rG 0 [mB 0 4 false] [0,1])
  (sQ (rG 0 [mS 0 5 0,mS 1 6 1,cA 2 7 227 [(.s 5),(.s 6)],bI 3 8 .geq 7 0,mS 4 4 8] [4])
  .ret)) }
abbrev f_roads_merges_1 : Nat := 197
def c_roads_merges_1 : CFn := { frz := true,rnd := none,nargs := 4,ntmps := 16,res := [(.slot 5)],code :=
  (sQ (rG 1 [o1 0 4 (.box 0 2 (.s 0)),mB 1 5 false] [2,3,4,1])
  (sQ (rG 0 [lT 0 6 5 1,lT 1 7 2 4,lF 2 8 2,cA 3 9 198 [(.s 6),(.s 7),(.s 8)],mS 4 10 9,oG 5 11 10 true (.load false 1 (.s 3)),oG 6 12 10 true (.mkfn 200 [] [(.s 1),(.s 4)]),⟨7,(some 13),(some (10,true)),.call ⟨true⟩ (.k (.c (.fn 199 [] []))) [(.s 11),(.s 12)]⟩,oG 8 14 10 true (.un .not (.s 13)),o1 9 15 (.pick (.s 10) (.s 14) (kB false)),mS 10 5 15] [5])
  .ret)) }
def c_roads_closed_l1 : CC := (sQ (rG 0 [bS 0 31 .lss 30 29] [31,3,4,28,29,30])
  (sQ (.cond (.s 31) .skip
  (.exit 0))
  (sQ (.block 1 (sQ (rG 0 [iA 0 32 1 28 30,lF 1 33 32,mS 2 10 33] [10,3,4,28,29,30])
  (sQ (rG 1 [lT 0 35 2 4,mS 1 36 10,cA 2 37 204 [(.s 35),(.s 36)],mS 3 34 37,eX 4 38 34 0,eX 5 39 34 1,o1 6 11 (.box 0 4 (.k (.a [(I 0),(I 0),(I 0),(I 0)]))),o0 7 (.store 4 (.s 11) (.s 38)),mS 8 12 39] [12,11,10,3,4,28,29,30])
  (sQ (.region 0 [mS 0 40 12,o1 1 41 (.un .not (.s 40)),mS 2 42 41,oG 3 43 42 false (.faddr 2 (.s 11)),oG 6 46 42 false (.mv (.s 10)),oG 4 44 42 false (.load false 1 (.s 43)),oG 5 45 42 false (.load true 5 (.s 3)),⟨7,(some 47),(some (42,false)),.call ⟨true⟩ (.k (.c (.fn 195 [] []))) [(.s 45),(.s 46)]⟩,oG 8 48 42 false (.bin .neq (.s 44) (.s 47)),o1 9 49 (.pick (.s 42) (kB true) (.s 48))] [(5,7)] (some [49,3,4,28,29,30]))
  (.cond (.s 49) (sQ (rG 0 [mB 0 6 false] [6])
  .ret)
  .skip)))))
  (rG 0 [bI 0 50 .add 30 1,mS 1 30 50] [29,28,4,3,30]))))
abbrev f_roads_closed : Nat := 198
def c_roads_closed : CFn := { frz := true,rnd := none,nargs := 3,ntmps := 51,res := [(.slot 6)],code :=
  (sQ (rG 2 [o1 0 3 (.box 0 5 (.s 0)),o1 1 4 (.box 1 2 (.s 1)),mB 2 6 false] [3,4,2])
  (sQ (rG 1 [lT 0 14 2 4,mS 1 15 2,cA 2 16 204 [(.s 14),(.s 15)],mS 3 13 16,eX 4 17 13 0,eX 5 18 13 1,o1 6 7 (.box 0 4 (.k (.a [(I 0),(I 0),(I 0),(I 0)]))),o0 7 (.store 4 (.s 7) (.s 17)),mS 8 8 18] [8,7,3,4,2])
  (sQ (sQ (rG 0 [mS 0 19 8,o1 1 20 (.un .not (.s 19)),mS 2 21 20,oG 3 22 21 false (.faddr 1 (.s 7)),oG 4 23 21 false (.load false 1 (.s 22)),oG 5 24 21 false (.bin .neq (.s 23) (kI 0)),o1 6 25 (.pick (.s 21) (kB true) (.s 24))] [25,3,4,2])
  (.cond (.s 25) (sQ (rG 0 [mB 0 6 false] [6])
  .ret)
  .skip))
  (sQ (sQ (rG 0 [lT 0 26 5 3,mS 1 27 2,cA 2 28 161 [(.s 26),(.s 27)],lN 3 29 28,mI 4 30 0] [29,28,4,3,30])
  (.block 0 (.loop (some [29,28,4,3,30]) c_roads_closed_l1)))
  (sQ (rG 0 [mB 0 6 true] [6])
  .ret))))) }
abbrev f_slices_ContainsFunc_int : Nat := 199
def c_slices_ContainsFunc_int : CFn := { frz := true,rnd := none,nargs := 2,ntmps := 9,res := [(.slot 4)],code :=
  (sQ (rG 0 [mB 0 4 false] [0,1])
  (sQ (rG 0 [mS 0 5 0,mS 1 6 1,cA 2 7 219 [(.s 5),(.s 6)],bI 3 8 .geq 7 0,mS 4 4 8] [4])
  .ret)) }
abbrev f_roads_merges_1_1 : Nat := 200
def c_roads_merges_1_1 : CFn := { frz := true,rnd := none,nargs := 3,ntmps := 10,res := [(.slot 4)],code :=
  (sQ (rG 0 [mB 0 4 false] [1,2,0])
  (sQ (rG 0 [lT 0 5 5 1,lT 1 6 2 2,mS 2 7 0,cA 3 8 201 [(.s 5),(.s 6),(.s 7)],o1 4 9 (.un .not (.s 8)),mS 5 4 9] [4])
  .ret)) }
abbrev f_roads_entry : Nat := 201
def c_roads_entry : CFn := { frz := true,rnd := none,nargs := 3,ntmps := 15,res := [(.slot 6)],code :=
  (sQ (rG 3 [o1 0 3 (.box 0 5 (.s 0)),o1 1 4 (.box 1 2 (.s 1)),o1 2 5 (.box 2 1 (.s 2)),mB 3 6 false] [3,4,5])
  (sQ (rG 1 [lT 0 8 5 3,cA 1 9 228 [(.s 8)],o1 2 7 (.box 0 12 (.k (.a [(.int .u32 0),(.int .u32 0),(.int .u32 0),(.int .u32 0),(.int .u32 0),(.int .u32 0),(.int .u32 0),(.int .u32 0),(.int .u32 0),(.int .u32 0),(.int .u32 0),(.int .u32 0)]))),o0 3 (.store 12 (.s 7) (.s 9))] [4,5,7])
  (sQ (rG 0 [fA 0 10 0 4,lF 1 11 10,o1 2 12 (.mkfn 230 [] [(.s 7),(.s 5)]),cA 3 13 229 [(.s 11),(.s 12)],o1 4 14 (.un .not (.s 13)),mS 5 6 14] [6])
  .ret))) }
def c_roads_pairs_l1 : CC := (sQ (rG 0 [bS 0 38 .lss 37 36] [38,6,37,36,9,25,17,16,15,3,26,27,35,2,8,1,7,11])
  (sQ (.cond (.s 38) .skip
  (.exit 4))
  (sQ (.block 5 (sQ (rG 0 [iA 0 39 1 35 37,lF 1 40 39,mS 2 13 40] [6,13,37,36,9,25,17,16,15,3,26,27,35,2,8,1,7,11])
  (sQ (rG 0 [mS 0 41 2,lT 1 42 2 8,mS 2 43 11,mS 3 44 13,⟨4,(some 45),none,.call ⟨true⟩ (.s 41) [(.s 42),(.s 43),(.s 44)]⟩] [45,6,13,37,36,9,25,17,16,15,3,26,27,35,2,8,1,7,11])
  (.cond (.s 45) (rG 1 [mS 0 46 6,mS 1 47 1,mS 2 48 7,mS 3 49 11,mS 4 50 13,o1 5 51 (.build [(I 0),(I 0),(I 0),(I 0)] [(0,1,(.s 47)),(1,1,(.s 48)),(2,1,(.s 49)),(3,1,(.s 50))]),o1 6 52 (.lit 0 4 [[(I 0),(I 0),(I 0),(I 0)]] [(0,(.s 51))]),o1 7 53 (.append 4 32 (.s 46) (.s 52)),mS 8 6 53] [37,6,36,9,25,17,16,15,3,26,27,35,2,8,1,7,11])
  .skip))))
  (rG 0 [bI 0 54 .add 37 1,mS 1 37 54] [6,37,36,9,25,17,16,15,3,26,27,35,2,8,1,7,11]))))
def c_roads_pairs_l2 : CC := (sQ (rG 0 [bS 0 28 .lss 27 26] [28,6,9,25,17,16,15,3,26,27,2,8,1,7])
  (sQ (.cond (.s 28) .skip
  (.exit 2))
  (sQ (.block 3 (sQ (rG 0 [mS 0 29 27,iA 1 30 1 25 27,lF 2 31 30,mS 3 10 29,mS 4 11 31] [10,6,9,25,17,16,15,3,26,27,2,8,1,7,11])
  (sQ (rG 0 [mS 0 32 9,mS 1 33 10,bI 2 34 .add 33 1,o1 3 35 (.slice 1 (.s 32) (some (.s 34)) none none),lN 4 36 35,mI 5 37 0] [6,37,36,9,25,17,16,15,3,26,27,35,2,8,1,7,11])
  (.block 4 (.loop (some [6,37,36,9,25,17,16,15,3,26,27,35,2,8,1,7,11]) c_roads_pairs_l1)))))
  (rG 0 [bI 0 55 .add 27 1,mS 1 27 55] [6,26,3,15,16,17,25,9,27,2,8,1,7]))))
def c_roads_pairs_l3 : CC := (sQ (rG 0 [bS 0 18 .lss 17 16] [18,6,3,15,16,17,2,1])
  (sQ (.cond (.s 18) .skip
  (.exit 0))
  (sQ (.block 1 (sQ (rG 1 [mS 0 19 17,iA 1 20 2 15 17,lT 2 21 2 20,o1 3 8 (.box 0 2 (.k (.a [.nilslice,(I 0)]))),mS 4 7 19,o0 5 (.store 2 (.s 8) (.s 21))] [6,3,15,16,17,2,8,1,7])
  (sQ (rG 0 [lT 0 22 5 3,lT 1 23 2 8,cA 2 24 232 [(.s 22),(.s 23)],mS 3 9 24] [6,3,15,16,17,9,2,8,1,7])
  (sQ (rG 0 [mS 0 25 9,lN 1 26 25,mI 2 27 0] [6,26,3,15,16,17,25,9,27,2,8,1,7])
  (.block 2 (.loop (some [6,26,3,15,16,17,25,9,27,2,8,1,7]) c_roads_pairs_l2))))))
  (rG 0 [bI 0 56 .add 17 1,mS 1 17 56] [6,16,15,3,17,2,1]))))
abbrev f_roads_pairs : Nat := 202
def c_roads_pairs : CFn := { frz := true,rnd := none,nargs := 3,ntmps := 58,res := [(.slot 6)],code :=
  (sQ (rG 2 [o1 0 3 (.box 0 5 (.s 0)),o1 1 6 (.newsl 1 4)] [6,3,2,1])
  (sQ (sQ (rG 0 [fA 0 14 2 3,lF 1 15 14,lN 2 16 15,mI 3 17 0] [6,16,15,3,17,2,1])
  (.block 0 (.loop (some [6,16,15,3,17,2,1]) c_roads_pairs_l3)))
  (sQ (rG 0 [mS 0 57 6,mS 1 6 57] [6])
  .ret))) }
abbrev f_roads_ranks_1 : Nat := 203
def c_roads_ranks_1 : CFn := { frz := true,rnd := none,nargs := 3,ntmps := 33,res := [(.slot 6)],code :=
  (sQ (rG 1 [o1 0 3 (.box 0 2 (.s 0)),mB 1 6 false] [1,2,3])
  (sQ (rG 1 [lT 0 12 2 3,mS 1 13 1,cA 2 14 204 [(.s 12),(.s 13)],mS 3 11 14,eX 4 15 11 0,eX 5 16 11 1,o1 6 7 (.box 0 4 (.k (.a [(I 0),(I 0),(I 0),(I 0)]))),o0 7 (.store 4 (.s 7) (.s 15)),mS 8 8 16] [2,3,7])
  (sQ (rG 1 [lT 0 18 2 3,mS 1 19 2,cA 2 20 204 [(.s 18),(.s 19)],mS 3 17 20,eX 4 21 17 0,eX 5 22 17 1,o1 6 9 (.box 0 4 (.k (.a [(I 0),(I 0),(I 0),(I 0)]))),o0 7 (.store 4 (.s 9) (.s 21)),mS 8 10 22] [3,7,9])
  (sQ (rG 0 [fA 0 23 1 3,lF 1 24 23,bI 2 25 .eql 24 0,mS 3 26 25,oG 4 27 26 true (.faddr 3 (.s 7)),oG 5 28 26 true (.load false 1 (.s 27)),oG 6 29 26 true (.faddr 3 (.s 9)),oG 7 30 26 true (.load false 1 (.s 29)),oG 8 31 26 true (.bin .eql (.s 28) (.s 30)),o1 9 32 (.pick (.s 26) (.s 31) (kB false)),mS 10 6 32] [6])
  .ret)))) }
abbrev f_roads_part : Nat := 204
def c_roads_part : CFn := { frz := true,rnd := none,nargs := 2,ntmps := 19,res := [(.cell 4 true 4),(.slot 5)],code :=
  (sQ (rG 3 [o1 0 2 (.box 0 2 (.s 0)),o1 1 3 (.box 1 1 (.s 1)),o1 2 4 (.box 2 4 (.k (.a [(I 0),(I 0),(I 0),(I 0)]))),mB 3 5 false] [3,2,4])
  (sQ (rG 0 [fA 0 7 0 2,lF 1 8 7,o1 2 9 (.mkfn 233 [] [(.s 3)]),cA 3 10 180 [(.s 8),(.s 9)],mS 4 6 10] [6,2,4])
  (sQ (sQ (rG 0 [mS 0 11 6,bI 1 12 .lss 11 0] [12,6,2,4])
  (.cond (.s 12) (sQ (rG 0 [o1 0 13 (.build [(I 0),(I 0),(I 0),(I 0)] []),o0 1 (.store 4 (.s 4) (.s 13)),mB 2 5 false] [4,5])
  .ret)
  .skip))
  (sQ (rG 0 [fA 0 14 0 2,lF 1 15 14,mS 2 16 6,iA 3 17 4 15 16,lT 4 18 4 17,o0 5 (.store 4 (.s 4) (.s 18)),mB 6 5 true] [4,5])
  .ret)))) }
abbrev f_roads_greens_1 : Nat := 205
def c_roads_greens_1 : CFn := { frz := true,rnd := none,nargs := 4,ntmps := 23,res := [(.slot 7)],code :=
  (sQ (rG 3 [o1 0 4 (.box 0 2 (.s 0)),o1 1 5 (.box 1 1 (.s 1)),o1 2 6 (.box 2 1 (.s 2)),mB 3 7 false] [3,4,6,5])
  (sQ (rG 0 [fA 0 8 1 4,lF 1 9 8,bI 2 10 .gtr 9 0,mS 3 11 10,oG 4 12 11 true (.faddr 3 (.s 3)),oG 5 13 11 true (.load false 1 (.s 12)),oG 6 14 11 true (.faddr 1 (.s 4)),oG 7 15 11 true (.load false 1 (.s 14)),oG 8 16 11 true (.bin .sub (.s 15) (kI 1)),oG 9 17 11 true (.iaddr 2 (.s 13) (.s 16)),oG 10 18 11 true (.faddr 1 (.s 17)),oG 11 19 11 true (.load false 1 (.s 18)),oG 12 20 11 true (.mkfn 206 [] [(.s 5),(.s 6)]),⟨13,(some 21),(some (11,true)),.call ⟨true⟩ (.k (.c (.fn 192 [] []))) [(.s 19),(.s 20)]⟩,o1 14 22 (.pick (.s 11) (.s 21) (kB false)),mS 15 7 22] [7])
  .ret)) }
abbrev f_roads_greens_1_1 : Nat := 206
def c_roads_greens_1_1 : CFn := { frz := true,rnd := none,nargs := 3,ntmps := 15,res := [(.slot 4)],code :=
  (sQ (rG 1 [o1 0 3 (.box 0 2 (.s 0)),mB 1 4 false] [1,3,2])
  (sQ (rG 0 [fA 0 5 1 3,lF 1 6 5,lF 2 7 1,cA 3 8 162 [(.s 6),(.s 7)],mS 4 9 8,oG 5 10 9 true (.faddr 1 (.s 3)),oG 6 11 9 true (.load false 1 (.s 10)),oG 7 12 9 true (.load false 1 (.s 2)),⟨8,(some 13),(some (9,true)),.call ⟨true⟩ (.k (.c (.fn 162 [] []))) [(.s 11),(.s 12)]⟩,o1 9 14 (.pick (.s 9) (.s 13) (kB false)),mS 10 4 14] [4])
  .ret)) }
def c_slices_Index_int_l1 : CC := (sQ (rG 0 [bS 0 9 .lss 8 7] [9,0,1,7,8])
  (sQ (.cond (.s 9) .skip
  (.exit 0))
  (sQ (.block 1 (sQ (rG 0 [mS 0 10 8,mS 1 5 10] [0,1,7,8,5])
  (sQ (rG 0 [mS 0 11 1,mS 1 12 0,mS 2 13 5,iA 3 14 1 12 13,lF 4 15 14,bS 5 16 .eql 11 15] [16,0,1,7,8,5])
  (.cond (.s 16) (sQ (rG 0 [mS 0 17 5,mS 1 4 17] [4])
  .ret)
  .skip))))
  (rG 0 [bI 0 18 .add 8 1,mS 1 8 18] [7,1,0,8]))))
abbrev f_slices_Index_int : Nat := 207
def c_slices_Index_int : CFn := { frz := true,rnd := none,nargs := 2,ntmps := 19,res := [(.slot 4)],code :=
  (sQ (rG 0 [mI 0 4 0] [1,0])
  (sQ (sQ (rG 0 [mS 0 6 0,lN 1 7 6,mI 2 8 0] [7,1,0,8])
  (.block 0 (.loop (some [7,1,0,8]) c_slices_Index_int_l1)))
  (sQ (rG 0 [mI 0 4 (-1)] [4])
  .ret))) }
def c_roads_follow_l1 : CC := (sQ (rG 0 [bS 0 19 .lss 18 17] [19,18,17,4,16,2,5])
  (sQ (.cond (.s 19) .skip
  (.exit 0))
  (sQ (.block 1 (sQ (rG 0 [iA 0 20 1 16 18,lF 1 21 20,mS 2 7 21] [7,18,17,4,16,2,5])
  (sQ (rG 1 [fA 0 22 6 5,lF 1 23 22,fA 2 24 7 5,lF 3 25 24,o1 4 26 (.lit 0 1 [[(I 0)]] [(0,(.s 25))]),o1 5 27 (.append 1 8 (.s 23) (.s 26)),fA 6 28 6 5,o0 7 (.store 1 (.s 28) (.s 27))] [7,18,17,4,16,2,5])
  (.region 0 [fA 0 29 7 5,mS 3 32 7,lF 1 30 29,lT 2 31 5 2,cA 4 33 195 [(.s 31),(.s 32)],bS 5 34 .add 30 33,fA 6 35 7 5,o0 7 (.store 1 (.s 35) (.s 34))] [(2,4)] (some [18,17,4,16,2,5])))))
  (rG 0 [bI 0 36 .add 18 1,mS 1 18 36] [18,17,4,16,2,5]))))
abbrev f_roads_follow : Nat := 208
def c_roads_follow : CFn := { frz := true,rnd := none,nargs := 2,ntmps := 38,res := [(.cell 4 true 8)],code :=
  (sQ (rG 2 [o1 0 2 (.box 0 5 (.s 0)),o1 1 4 (.box 1 8 (.k (.a [(I 0),.nilslice,.nilslice,.nilslice,.nilslice,.nilslice,.nilslice,(I 0)])))] [2,1,4])
  (sQ (sQ (rG 0 [lT 0 8 5 2,mS 1 9 1,cA 2 10 117 [(.s 8),(.s 9)],bI 3 11 .neq 10 0] [11,2,1,4])
  (.cond (.s 11) (sQ (rG 0 [o1 0 12 (.build [(I 0),.nilslice,.nilslice,.nilslice,.nilslice,.nilslice,.nilslice,(I 0)] []),o0 1 (.store 8 (.s 4) (.s 12))] [4])
  .ret)
  .skip))
  (sQ (rG 1 [lT 0 13 5 2,mS 1 14 1,o1 2 15 (.build [(I 0),.nilslice,.nilslice,.nilslice,.nilslice,.nilslice,.nilslice,(I 0)] [(0,5,(.s 13)),(5,1,(.s 14))]),o1 3 5 (.box 0 8 (.k (.a [(I 0),.nilslice,.nilslice,.nilslice,.nilslice,.nilslice,.nilslice,(I 0)]))),o0 4 (.store 8 (.s 5) (.s 15))] [1,4,2,5])
  (sQ (sQ (rG 0 [mS 0 16 1,lN 1 17 16,mI 2 18 0] [18,17,4,16,2,5])
  (.block 0 (.loop (some [18,17,4,16,2,5]) c_roads_follow_l1)))
  (sQ (rG 0 [lT 0 37 8 5,o0 1 (.store 8 (.s 4) (.s 37))] [4])
  .ret))))) }
abbrev f_slices_SortStableFunc_Pass : Nat := 209
def c_slices_SortStableFunc_Pass : CFn := { frz := true,rnd := none,nargs := 2,ntmps := 9,res := [],code :=
  (rG 0 [mS 0 4 0,mS 1 5 0,lN 2 6 5,mS 3 7 1,⟨4,(some 8),none,.call ⟨false⟩ (.k (.c (.fn 234 [] []))) [(.s 4),(.s 6),(.s 7)]⟩] []) }
abbrev f_roads_Passes_1 : Nat := 210
def c_roads_Passes_1 : CFn := { frz := true,rnd := none,nargs := 2,ntmps := 17,res := [(.slot 4)],code :=
  (sQ (rG 2 [o1 0 2 (.box 0 4 (.s 0)),o1 1 3 (.box 1 4 (.s 1)),mI 2 4 0] [2,3])
  (sQ (.region 1 [fA 0 5 2 2,fA 2 7 2 3,fA 5 10 0 2,fA 7 12 0 3,lF 1 6 5,lF 3 8 7,lF 6 11 10,lF 8 13 12,cA 4 9 211 [(.s 6),(.s 8)],cA 9 14 176 [(.s 11),(.s 13)],o1 10 15 (.lit 0 1 [[(I 0)],[(I 0)]] [(0,(.s 9)),(1,(.s 14))]),cA 11 16 175 [(.s 15)],mS 12 4 16] [(6,8),(7,8)] (some [4]))
  .ret)) }
abbrev f_cmp_Compare_int64 : Nat := 211
def c_cmp_Compare_int64 : CFn := { frz := true,rnd := none,nargs := 2,ntmps := 20,res := [(.slot 4)],code :=
  (sQ (rG 0 [mI 0 4 0] [1,0])
  (sQ (rG 0 [mS 0 7 0,cA 1 8 235 [(.s 7)],mS 2 5 8] [5,1,0])
  (sQ (rG 0 [mS 0 9 1,cA 1 10 235 [(.s 9)],mS 2 6 10] [5,1,0,6])
  (sQ (sQ (rG 0 [mS 0 11 5] [11,1,0,6])
  (.cond (.s 11) (sQ (sQ (rG 0 [mS 0 12 6] [12])
  (.cond (.s 12) (sQ (rG 0 [mI 0 4 0] [4])
  .ret)
  .skip))
  (sQ (rG 0 [mI 0 4 (-1)] [4])
  .ret))
  .skip))
  (sQ (sQ (rG 0 [mS 0 13 6] [13,0,1])
  (.cond (.s 13) (sQ (rG 0 [mI 0 4 1] [4])
  .ret)
  .skip))
  (sQ (sQ (rG 0 [mS 0 14 0,mS 1 15 1,bS 2 16 .lss 14 15] [16,1,0])
  (.cond (.s 16) (sQ (rG 0 [mI 0 4 (-1)] [4])
  .ret)
  .skip))
  (sQ (sQ (rG 0 [mS 0 17 0,mS 1 18 1,bS 2 19 .gtr 17 18] [19])
  (.cond (.s 19) (sQ (rG 0 [mI 0 4 1] [4])
  .ret)
  .skip))
  (sQ (rG 0 [mI 0 4 0] [4])
  .ret)))))))) }
abbrev f_internal_strconv_small : Nat := 212
def c_internal_strconv_small : CFn := { frz := true,rnd := none,nargs := 1,ntmps := 15,res := [(.slot 2)],code :=
  (sQ (rG 0 [⟨0,(some 2),none,.mv (.k (.c (.str ⟨#[]⟩)))⟩] [0])
  (sQ (sQ (rG 0 [mS 0 3 0,bI 1 4 .lss 3 10] [4,0])
  (.cond (.s 4) (sQ (rG 0 [mS 0 5 0,mS 1 6 0,bI 2 7 .add 6 1,⟨3,(some 8),none,.pop (.sslice true true) [(.k (.c (.str ⟨#[48,49,50,51,52,53,54,55,56,57,97,98,99,100,101,102,103,104,105,106,107,108,109,110,111,112,113,114,115,116,117,118,119,120,121,122]⟩))),(.s 5),(.s 7)]⟩,mS 4 2 8] [2])
  .ret)
  .skip))
  (sQ (rG 0 [mS 0 9 0,bI 1 10 .mul 9 2,mS 2 11 0,bI 3 12 .mul 11 2,bI 4 13 .add 12 2,⟨5,(some 14),none,.pop (.sslice true true) [(.k (.c (.str ⟨#[48,48,48,49,48,50,48,51,48,52,48,53,48,54,48,55,48,56,48,57,49,48,49,49,49,50,49,51,49,52,49,53,49,54,49,55,49,56,49,57,50,48,50,49,50,50,50,51,50,52,50,53,50,54,50,55,50,56,50,57,51,48,51,49,51,50,51,51,51,52,51,53,51,54,51,55,51,56,51,57,52,48,52,49,52,50,52,51,52,52,52,53,52,54,52,55,52,56,52,57,53,48,53,49,53,50,53,51,53,52,53,53,53,54,53,55,53,56,53,57,54,48,54,49,54,50,54,51,54,52,54,53,54,54,54,55,54,56,54,57,55,48,55,49,55,50,55,51,55,52,55,53,55,54,55,55,55,56,55,57,56,48,56,49,56,50,56,51,56,52,56,53,56,54,56,55,56,56,56,57,57,48,57,49,57,50,57,51,57,52,57,53,57,54,57,55,57,56,57,57]⟩))),(.s 10),(.s 13)]⟩,mS 6 2 14] [2])
  .ret))) }
abbrev f_internal_strconv_numDigits : Nat := 213
def c_internal_strconv_numDigits : CFn := { frz := true,rnd := none,nargs := 1,ntmps := 15,res := [(.slot 2)],code :=
  (sQ (rG 0 [mI 0 2 0] [0])
  (sQ (rG 0 [mS 0 4 0,cA 1 5 106 [(.s 4)],cA 2 6 236 [(.s 5)],mS 3 3 6] [0,3])
  (sQ (rG 0 [mS 0 7 3,mS 1 8 0,mS 2 9 3,o1 3 10 (.aaddr 20 1 (.k (.c (.rptr [(.int .u64 1),(.int .u64 10),(.int .u64 100),(.int .u64 1000),(.int .u64 10000),(.int .u64 100000),(.int .u64 1000000),(.int .u64 10000000),(.int .u64 100000000),(.int .u64 1000000000),(.int .u64 10000000000),(.int .u64 100000000000),(.int .u64 1000000000000),(.int .u64 10000000000000),(.int .u64 100000000000000),(.int .u64 1000000000000000),(.int .u64 10000000000000000),(.int .u64 100000000000000000),(.int .u64 1000000000000000000),(.int .u64 10000000000000000000)] 0))) (.s 9)),lF 4 11 10,bS 5 12 .geq 8 11,cA 6 13 237 [(.s 12)],bS 7 14 .add 7 13,mS 8 2 14] [2])
  .ret))) }
def c_internal_strconv_formatBase10_l1 : CC := (sQ (sQ (rG 0 [mS 0 19 4,bI 1 20 .geq 19 8] [20,1,4,0])
  (.cond (.s 20) .skip
  (.exit 0)))
  (.block 1 (sQ (rG 0 [mS 0 21 1,o1 1 22 (.bin .rem (.s 21) (.k (.c (.int .u64 100000000)))),o1 2 23 (.conv .u32 (.s 22)),mS 3 5 23] [1,5,4,0])
  (sQ (rG 0 [mS 0 24 1,o1 1 25 (.bin .quo (.s 24) (.k (.c (.int .u64 100000000)))),mS 2 1 25] [5,4,1,0])
  (sQ (rG 0 [mS 0 26 5,o1 1 27 (.bin .quo (.s 26) (.k (.c (.int .u32 10000)))),mS 2 28 5,o1 3 29 (.bin .rem (.s 28) (.k (.c (.int .u32 10000)))),mS 4 6 27,mS 5 7 29] [7,6,4,1,0])
  (sQ (rG 0 [mS 0 30 7,o1 1 31 (.bin .quo (.s 30) (.k (.c (.int .u32 100)))),o1 2 32 (.bin .mul (.s 31) (.k (.c (.int .u32 2)))),mS 3 33 7,o1 4 34 (.bin .rem (.s 33) (.k (.c (.int .u32 100)))),o1 5 35 (.bin .mul (.s 34) (.k (.c (.int .u32 2)))),mS 6 8 32,mS 7 9 35] [6,9,8,4,1,0])
  (sQ (rG 0 [mS 0 36 6,o1 1 37 (.bin .quo (.s 36) (.k (.c (.int .u32 100)))),o1 2 38 (.bin .mul (.s 37) (.k (.c (.int .u32 2)))),mS 3 39 6,o1 4 40 (.bin .rem (.s 39) (.k (.c (.int .u32 100)))),o1 5 41 (.bin .mul (.s 40) (.k (.c (.int .u32 2)))),mS 6 10 38,mS 7 11 41] [9,8,11,10,4,1,0])
  (sQ (rG 0 [mS 0 42 0,mS 1 43 4,bI 2 44 .sub 43 1,mS 3 45 0,mS 4 46 4,bI 5 47 .sub 46 2,mS 6 48 9,o1 7 49 (.bin .add (.s 48) (.k (.c (.int .u32 1)))),⟨8,(some 50),none,.p2 .sidx (.k (.c (.str ⟨#[48,48,48,49,48,50,48,51,48,52,48,53,48,54,48,55,48,56,48,57,49,48,49,49,49,50,49,51,49,52,49,53,49,54,49,55,49,56,49,57,50,48,50,49,50,50,50,51,50,52,50,53,50,54,50,55,50,56,50,57,51,48,51,49,51,50,51,51,51,52,51,53,51,54,51,55,51,56,51,57,52,48,52,49,52,50,52,51,52,52,52,53,52,54,52,55,52,56,52,57,53,48,53,49,53,50,53,51,53,52,53,53,53,54,53,55,53,56,53,57,54,48,54,49,54,50,54,51,54,52,54,53,54,54,54,55,54,56,54,57,55,48,55,49,55,50,55,51,55,52,55,53,55,54,55,55,55,56,55,57,56,48,56,49,56,50,56,51,56,52,56,53,56,54,56,55,56,56,56,57,57,48,57,49,57,50,57,51,57,52,57,53,57,54,57,55,57,56,57,57]⟩))) (.s 49)⟩,mS 9 51 9,⟨10,(some 52),none,.p2 .sidx (.k (.c (.str ⟨#[48,48,48,49,48,50,48,51,48,52,48,53,48,54,48,55,48,56,48,57,49,48,49,49,49,50,49,51,49,52,49,53,49,54,49,55,49,56,49,57,50,48,50,49,50,50,50,51,50,52,50,53,50,54,50,55,50,56,50,57,51,48,51,49,51,50,51,51,51,52,51,53,51,54,51,55,51,56,51,57,52,48,52,49,52,50,52,51,52,52,52,53,52,54,52,55,52,56,52,57,53,48,53,49,53,50,53,51,53,52,53,53,53,54,53,55,53,56,53,57,54,48,54,49,54,50,54,51,54,52,54,53,54,54,54,55,54,56,54,57,55,48,55,49,55,50,55,51,55,52,55,53,55,54,55,55,55,56,55,57,56,48,56,49,56,50,56,51,56,52,56,53,56,54,56,55,56,56,56,57,57,48,57,49,57,50,57,51,57,52,57,53,57,54,57,55,57,56,57,57]⟩))) (.s 51)⟩,iA 11 53 1 42 44,o0 12 (.store 1 (.s 53) (.s 50)),iA 13 54 1 45 47,o0 14 (.store 1 (.s 54) (.s 52))] [8,11,10,4,1,0])
  (sQ (rG 0 [mS 0 55 0,mS 1 56 4,bI 2 57 .sub 56 3,mS 3 58 0,mS 4 59 4,bI 5 60 .sub 59 4,mS 6 61 8,o1 7 62 (.bin .add (.s 61) (.k (.c (.int .u32 1)))),⟨8,(some 63),none,.p2 .sidx (.k (.c (.str ⟨#[48,48,48,49,48,50,48,51,48,52,48,53,48,54,48,55,48,56,48,57,49,48,49,49,49,50,49,51,49,52,49,53,49,54,49,55,49,56,49,57,50,48,50,49,50,50,50,51,50,52,50,53,50,54,50,55,50,56,50,57,51,48,51,49,51,50,51,51,51,52,51,53,51,54,51,55,51,56,51,57,52,48,52,49,52,50,52,51,52,52,52,53,52,54,52,55,52,56,52,57,53,48,53,49,53,50,53,51,53,52,53,53,53,54,53,55,53,56,53,57,54,48,54,49,54,50,54,51,54,52,54,53,54,54,54,55,54,56,54,57,55,48,55,49,55,50,55,51,55,52,55,53,55,54,55,55,55,56,55,57,56,48,56,49,56,50,56,51,56,52,56,53,56,54,56,55,56,56,56,57,57,48,57,49,57,50,57,51,57,52,57,53,57,54,57,55,57,56,57,57]⟩))) (.s 62)⟩,mS 9 64 8,⟨10,(some 65),none,.p2 .sidx (.k (.c (.str ⟨#[48,48,48,49,48,50,48,51,48,52,48,53,48,54,48,55,48,56,48,57,49,48,49,49,49,50,49,51,49,52,49,53,49,54,49,55,49,56,49,57,50,48,50,49,50,50,50,51,50,52,50,53,50,54,50,55,50,56,50,57,51,48,51,49,51,50,51,51,51,52,51,53,51,54,51,55,51,56,51,57,52,48,52,49,52,50,52,51,52,52,52,53,52,54,52,55,52,56,52,57,53,48,53,49,53,50,53,51,53,52,53,53,53,54,53,55,53,56,53,57,54,48,54,49,54,50,54,51,54,52,54,53,54,54,54,55,54,56,54,57,55,48,55,49,55,50,55,51,55,52,55,53,55,54,55,55,55,56,55,57,56,48,56,49,56,50,56,51,56,52,56,53,56,54,56,55,56,56,56,57,57,48,57,49,57,50,57,51,57,52,57,53,57,54,57,55,57,56,57,57]⟩))) (.s 64)⟩,iA 11 66 1 55 57,o0 12 (.store 1 (.s 66) (.s 63)),iA 13 67 1 58 60,o0 14 (.store 1 (.s 67) (.s 65))] [11,10,4,1,0])
  (sQ (rG 0 [mS 0 68 0,mS 1 69 4,bI 2 70 .sub 69 5,mS 3 71 0,mS 4 72 4,bI 5 73 .sub 72 6,mS 6 74 11,o1 7 75 (.bin .add (.s 74) (.k (.c (.int .u32 1)))),⟨8,(some 76),none,.p2 .sidx (.k (.c (.str ⟨#[48,48,48,49,48,50,48,51,48,52,48,53,48,54,48,55,48,56,48,57,49,48,49,49,49,50,49,51,49,52,49,53,49,54,49,55,49,56,49,57,50,48,50,49,50,50,50,51,50,52,50,53,50,54,50,55,50,56,50,57,51,48,51,49,51,50,51,51,51,52,51,53,51,54,51,55,51,56,51,57,52,48,52,49,52,50,52,51,52,52,52,53,52,54,52,55,52,56,52,57,53,48,53,49,53,50,53,51,53,52,53,53,53,54,53,55,53,56,53,57,54,48,54,49,54,50,54,51,54,52,54,53,54,54,54,55,54,56,54,57,55,48,55,49,55,50,55,51,55,52,55,53,55,54,55,55,55,56,55,57,56,48,56,49,56,50,56,51,56,52,56,53,56,54,56,55,56,56,56,57,57,48,57,49,57,50,57,51,57,52,57,53,57,54,57,55,57,56,57,57]⟩))) (.s 75)⟩,mS 9 77 11,⟨10,(some 78),none,.p2 .sidx (.k (.c (.str ⟨#[48,48,48,49,48,50,48,51,48,52,48,53,48,54,48,55,48,56,48,57,49,48,49,49,49,50,49,51,49,52,49,53,49,54,49,55,49,56,49,57,50,48,50,49,50,50,50,51,50,52,50,53,50,54,50,55,50,56,50,57,51,48,51,49,51,50,51,51,51,52,51,53,51,54,51,55,51,56,51,57,52,48,52,49,52,50,52,51,52,52,52,53,52,54,52,55,52,56,52,57,53,48,53,49,53,50,53,51,53,52,53,53,53,54,53,55,53,56,53,57,54,48,54,49,54,50,54,51,54,52,54,53,54,54,54,55,54,56,54,57,55,48,55,49,55,50,55,51,55,52,55,53,55,54,55,55,55,56,55,57,56,48,56,49,56,50,56,51,56,52,56,53,56,54,56,55,56,56,56,57,57,48,57,49,57,50,57,51,57,52,57,53,57,54,57,55,57,56,57,57]⟩))) (.s 77)⟩,iA 11 79 1 68 70,o0 12 (.store 1 (.s 79) (.s 76)),iA 13 80 1 71 73,o0 14 (.store 1 (.s 80) (.s 78))] [10,4,1,0])
  (sQ (rG 0 [mS 0 81 0,mS 1 82 4,bI 2 83 .sub 82 7,mS 3 84 0,mS 4 85 4,bI 5 86 .sub 85 8,mS 6 87 10,o1 7 88 (.bin .add (.s 87) (.k (.c (.int .u32 1)))),⟨8,(some 89),none,.p2 .sidx (.k (.c (.str ⟨#[48,48,48,49,48,50,48,51,48,52,48,53,48,54,48,55,48,56,48,57,49,48,49,49,49,50,49,51,49,52,49,53,49,54,49,55,49,56,49,57,50,48,50,49,50,50,50,51,50,52,50,53,50,54,50,55,50,56,50,57,51,48,51,49,51,50,51,51,51,52,51,53,51,54,51,55,51,56,51,57,52,48,52,49,52,50,52,51,52,52,52,53,52,54,52,55,52,56,52,57,53,48,53,49,53,50,53,51,53,52,53,53,53,54,53,55,53,56,53,57,54,48,54,49,54,50,54,51,54,52,54,53,54,54,54,55,54,56,54,57,55,48,55,49,55,50,55,51,55,52,55,53,55,54,55,55,55,56,55,57,56,48,56,49,56,50,56,51,56,52,56,53,56,54,56,55,56,56,56,57,57,48,57,49,57,50,57,51,57,52,57,53,57,54,57,55,57,56,57,57]⟩))) (.s 88)⟩,mS 9 90 10,⟨10,(some 91),none,.p2 .sidx (.k (.c (.str ⟨#[48,48,48,49,48,50,48,51,48,52,48,53,48,54,48,55,48,56,48,57,49,48,49,49,49,50,49,51,49,52,49,53,49,54,49,55,49,56,49,57,50,48,50,49,50,50,50,51,50,52,50,53,50,54,50,55,50,56,50,57,51,48,51,49,51,50,51,51,51,52,51,53,51,54,51,55,51,56,51,57,52,48,52,49,52,50,52,51,52,52,52,53,52,54,52,55,52,56,52,57,53,48,53,49,53,50,53,51,53,52,53,53,53,54,53,55,53,56,53,57,54,48,54,49,54,50,54,51,54,52,54,53,54,54,54,55,54,56,54,57,55,48,55,49,55,50,55,51,55,52,55,53,55,54,55,55,55,56,55,57,56,48,56,49,56,50,56,51,56,52,56,53,56,54,56,55,56,56,56,57,57,48,57,49,57,50,57,51,57,52,57,53,57,54,57,55,57,56,57,57]⟩))) (.s 90)⟩,iA 11 92 1 81 83,o0 12 (.store 1 (.s 92) (.s 89)),iA 13 93 1 84 86,o0 14 (.store 1 (.s 93) (.s 91))] [4,1,0])
  (rG 0 [mS 0 94 4,bI 1 95 .sub 94 8,mS 2 4 95] [1,4,0]))))))))))))
abbrev f_internal_strconv_formatBase10 : Nat := 214
def c_internal_strconv_formatBase10 : CFn := { frz := true,rnd := none,nargs := 2,ntmps := 167,res := [],code :=
  (sQ (rG 0 [mS 0 17 0,lN 1 18 17,mS 2 4 18] [1,4,0])
  (sQ (.block 0 (.loop (some [1,4,0]) c_internal_strconv_formatBase10_l1))
  (sQ (rG 0 [mS 0 96 1,o1 1 97 (.conv .u32 (.s 96)),mS 2 12 97] [12,4,0])
  (sQ (sQ (rG 0 [mS 0 98 4,bI 1 99 .geq 98 4] [99,12,4,0])
  (.cond (.s 99) (sQ (rG 0 [mS 0 100 12,o1 1 101 (.bin .rem (.s 100) (.k (.c (.int .u32 10000)))),mS 2 13 101] [12,13,4,0])
  (sQ (rG 0 [mS 0 102 12,o1 1 103 (.bin .quo (.s 102) (.k (.c (.int .u32 10000)))),mS 2 12 103] [13,4,12,0])
  (sQ (rG 0 [mS 0 104 13,o1 1 105 (.bin .quo (.s 104) (.k (.c (.int .u32 100)))),o1 2 106 (.bin .mul (.s 105) (.k (.c (.int .u32 2)))),mS 3 107 13,o1 4 108 (.bin .rem (.s 107) (.k (.c (.int .u32 100)))),o1 5 109 (.bin .mul (.s 108) (.k (.c (.int .u32 2)))),mS 6 14 106,mS 7 15 109] [15,14,4,12,0])
  (sQ (rG 0 [mS 0 110 0,mS 1 111 4,bI 2 112 .sub 111 1,mS 3 113 0,mS 4 114 4,bI 5 115 .sub 114 2,mS 6 116 15,o1 7 117 (.bin .add (.s 116) (.k (.c (.int .u32 1)))),⟨8,(some 118),none,.p2 .sidx (.k (.c (.str ⟨#[48,48,48,49,48,50,48,51,48,52,48,53,48,54,48,55,48,56,48,57,49,48,49,49,49,50,49,51,49,52,49,53,49,54,49,55,49,56,49,57,50,48,50,49,50,50,50,51,50,52,50,53,50,54,50,55,50,56,50,57,51,48,51,49,51,50,51,51,51,52,51,53,51,54,51,55,51,56,51,57,52,48,52,49,52,50,52,51,52,52,52,53,52,54,52,55,52,56,52,57,53,48,53,49,53,50,53,51,53,52,53,53,53,54,53,55,53,56,53,57,54,48,54,49,54,50,54,51,54,52,54,53,54,54,54,55,54,56,54,57,55,48,55,49,55,50,55,51,55,52,55,53,55,54,55,55,55,56,55,57,56,48,56,49,56,50,56,51,56,52,56,53,56,54,56,55,56,56,56,57,57,48,57,49,57,50,57,51,57,52,57,53,57,54,57,55,57,56,57,57]⟩))) (.s 117)⟩,mS 9 119 15,⟨10,(some 120),none,.p2 .sidx (.k (.c (.str ⟨#[48,48,48,49,48,50,48,51,48,52,48,53,48,54,48,55,48,56,48,57,49,48,49,49,49,50,49,51,49,52,49,53,49,54,49,55,49,56,49,57,50,48,50,49,50,50,50,51,50,52,50,53,50,54,50,55,50,56,50,57,51,48,51,49,51,50,51,51,51,52,51,53,51,54,51,55,51,56,51,57,52,48,52,49,52,50,52,51,52,52,52,53,52,54,52,55,52,56,52,57,53,48,53,49,53,50,53,51,53,52,53,53,53,54,53,55,53,56,53,57,54,48,54,49,54,50,54,51,54,52,54,53,54,54,54,55,54,56,54,57,55,48,55,49,55,50,55,51,55,52,55,53,55,54,55,55,55,56,55,57,56,48,56,49,56,50,56,51,56,52,56,53,56,54,56,55,56,56,56,57,57,48,57,49,57,50,57,51,57,52,57,53,57,54,57,55,57,56,57,57]⟩))) (.s 119)⟩,iA 11 121 1 110 112,o0 12 (.store 1 (.s 121) (.s 118)),iA 13 122 1 113 115,o0 14 (.store 1 (.s 122) (.s 120))] [14,4,12,0])
  (sQ (rG 0 [mS 0 123 0,mS 1 124 4,bI 2 125 .sub 124 3,mS 3 126 0,mS 4 127 4,bI 5 128 .sub 127 4,mS 6 129 14,o1 7 130 (.bin .add (.s 129) (.k (.c (.int .u32 1)))),⟨8,(some 131),none,.p2 .sidx (.k (.c (.str ⟨#[48,48,48,49,48,50,48,51,48,52,48,53,48,54,48,55,48,56,48,57,49,48,49,49,49,50,49,51,49,52,49,53,49,54,49,55,49,56,49,57,50,48,50,49,50,50,50,51,50,52,50,53,50,54,50,55,50,56,50,57,51,48,51,49,51,50,51,51,51,52,51,53,51,54,51,55,51,56,51,57,52,48,52,49,52,50,52,51,52,52,52,53,52,54,52,55,52,56,52,57,53,48,53,49,53,50,53,51,53,52,53,53,53,54,53,55,53,56,53,57,54,48,54,49,54,50,54,51,54,52,54,53,54,54,54,55,54,56,54,57,55,48,55,49,55,50,55,51,55,52,55,53,55,54,55,55,55,56,55,57,56,48,56,49,56,50,56,51,56,52,56,53,56,54,56,55,56,56,56,57,57,48,57,49,57,50,57,51,57,52,57,53,57,54,57,55,57,56,57,57]⟩))) (.s 130)⟩,mS 9 132 14,⟨10,(some 133),none,.p2 .sidx (.k (.c (.str ⟨#[48,48,48,49,48,50,48,51,48,52,48,53,48,54,48,55,48,56,48,57,49,48,49,49,49,50,49,51,49,52,49,53,49,54,49,55,49,56,49,57,50,48,50,49,50,50,50,51,50,52,50,53,50,54,50,55,50,56,50,57,51,48,51,49,51,50,51,51,51,52,51,53,51,54,51,55,51,56,51,57,52,48,52,49,52,50,52,51,52,52,52,53,52,54,52,55,52,56,52,57,53,48,53,49,53,50,53,51,53,52,53,53,53,54,53,55,53,56,53,57,54,48,54,49,54,50,54,51,54,52,54,53,54,54,54,55,54,56,54,57,55,48,55,49,55,50,55,51,55,52,55,53,55,54,55,55,55,56,55,57,56,48,56,49,56,50,56,51,56,52,56,53,56,54,56,55,56,56,56,57,57,48,57,49,57,50,57,51,57,52,57,53,57,54,57,55,57,56,57,57]⟩))) (.s 132)⟩,iA 11 134 1 123 125,o0 12 (.store 1 (.s 134) (.s 131)),iA 13 135 1 126 128,o0 14 (.store 1 (.s 135) (.s 133))] [4,12,0])
  (rG 0 [mS 0 136 4,bI 1 137 .sub 136 4,mS 2 4 137] [12,4,0]))))))
  .skip))
  (sQ (sQ (rG 0 [mS 0 138 4,bI 1 139 .geq 138 2] [139,12,4,0])
  (.cond (.s 139) (sQ (rG 0 [mS 0 140 12,o1 1 141 (.bin .rem (.s 140) (.k (.c (.int .u32 100)))),o1 2 142 (.bin .mul (.s 141) (.k (.c (.int .u32 2)))),mS 3 16 142] [12,16,4,0])
  (sQ (rG 0 [mS 0 143 12,o1 1 144 (.bin .quo (.s 143) (.k (.c (.int .u32 100)))),mS 2 12 144] [16,4,0,12])
  (sQ (rG 0 [mS 0 145 0,mS 1 146 4,bI 2 147 .sub 146 1,mS 3 148 0,mS 4 149 4,bI 5 150 .sub 149 2,mS 6 151 16,o1 7 152 (.bin .add (.s 151) (.k (.c (.int .u32 1)))),⟨8,(some 153),none,.p2 .sidx (.k (.c (.str ⟨#[48,48,48,49,48,50,48,51,48,52,48,53,48,54,48,55,48,56,48,57,49,48,49,49,49,50,49,51,49,52,49,53,49,54,49,55,49,56,49,57,50,48,50,49,50,50,50,51,50,52,50,53,50,54,50,55,50,56,50,57,51,48,51,49,51,50,51,51,51,52,51,53,51,54,51,55,51,56,51,57,52,48,52,49,52,50,52,51,52,52,52,53,52,54,52,55,52,56,52,57,53,48,53,49,53,50,53,51,53,52,53,53,53,54,53,55,53,56,53,57,54,48,54,49,54,50,54,51,54,52,54,53,54,54,54,55,54,56,54,57,55,48,55,49,55,50,55,51,55,52,55,53,55,54,55,55,55,56,55,57,56,48,56,49,56,50,56,51,56,52,56,53,56,54,56,55,56,56,56,57,57,48,57,49,57,50,57,51,57,52,57,53,57,54,57,55,57,56,57,57]⟩))) (.s 152)⟩,mS 9 154 16,⟨10,(some 155),none,.p2 .sidx (.k (.c (.str ⟨#[48,48,48,49,48,50,48,51,48,52,48,53,48,54,48,55,48,56,48,57,49,48,49,49,49,50,49,51,49,52,49,53,49,54,49,55,49,56,49,57,50,48,50,49,50,50,50,51,50,52,50,53,50,54,50,55,50,56,50,57,51,48,51,49,51,50,51,51,51,52,51,53,51,54,51,55,51,56,51,57,52,48,52,49,52,50,52,51,52,52,52,53,52,54,52,55,52,56,52,57,53,48,53,49,53,50,53,51,53,52,53,53,53,54,53,55,53,56,53,57,54,48,54,49,54,50,54,51,54,52,54,53,54,54,54,55,54,56,54,57,55,48,55,49,55,50,55,51,55,52,55,53,55,54,55,55,55,56,55,57,56,48,56,49,56,50,56,51,56,52,56,53,56,54,56,55,56,56,56,57,57,48,57,49,57,50,57,51,57,52,57,53,57,54,57,55,57,56,57,57]⟩))) (.s 154)⟩,iA 11 156 1 145 147,o0 12 (.store 1 (.s 156) (.s 153)),iA 13 157 1 148 150,o0 14 (.store 1 (.s 157) (.s 155))] [4,0,12])
  (rG 0 [mS 0 158 4,bI 1 159 .sub 158 2,mS 2 4 159] [4,0,12]))))
  .skip))
  (sQ (rG 0 [mS 0 160 4,bI 1 161 .gtr 160 0] [161,0,12])
  (.cond (.s 161) (rG 0 [mS 0 162 0,mS 1 163 12,o1 2 164 (.bin .add (.k (.c (.int .u32 48))) (.s 163)),o1 3 165 (.conv .u8 (.s 164)),o1 4 166 (.iaddr 1 (.s 162) (kI 0)),o0 5 (.store 1 (.s 166) (.s 165))] [])
  .skip))))))) }
def c_internal_strconv_formatBits_l1 : CC := (sQ (sQ (rG 0 [mS 0 44 1,mS 1 45 15,bS 2 46 .geq 44 45] [46,13,1,15,11,0,10,4,3,16,12,14])
  (.cond (.s 46) .skip
  (.exit 0)))
  (.block 1 (sQ (rG 0 [mS 0 47 13,bI 1 48 .sub 47 1,mS 2 13 48] [1,13,15,11,0,10,4,3,16,12,14])
  (sQ (rG 0 [mS 0 49 13,mS 1 50 1,mS 2 51 16,bS 3 52 .and 50 51,⟨4,(some 53),none,.p2 .sidx (.k (.c (.str ⟨#[48,49,50,51,52,53,54,55,56,57,97,98,99,100,101,102,103,104,105,106,107,108,109,110,111,112,113,114,115,116,117,118,119,120,121,122]⟩))) (.s 52)⟩,o1 5 54 (.aaddr 65 1 (.s 12) (.s 49)),o0 6 (.store 1 (.s 54) (.s 53))] [1,13,15,11,0,10,4,3,16,12,14])
  (rG 0 [mS 0 55 1,mS 1 56 14,bS 2 57 .shr 55 56,mS 3 1 57] [13,1,15,11,0,10,4,3,16,12,14])))))
def c_internal_strconv_formatBits_l2 : CC := (sQ (sQ (rG 0 [mS 0 66 1,mS 1 67 17,bS 2 68 .geq 66 67] [68,13,1,11,0,10,4,3,17,12])
  (.cond (.s 68) .skip
  (.exit 2)))
  (.block 3 (sQ (rG 0 [mS 0 69 13,bI 1 70 .sub 69 1,mS 2 13 70] [1,13,11,0,10,4,3,17,12])
  (sQ (rG 0 [mS 0 71 1,mS 1 72 17,bS 2 73 .quo 71 72,mS 3 18 73] [1,18,13,11,0,10,4,3,17,12])
  (sQ (rG 0 [mS 0 74 13,mS 1 75 1,mS 2 76 18,mS 3 77 17,bS 4 78 .mul 76 77,bS 5 79 .sub 75 78,⟨6,(some 80),none,.p2 .sidx (.k (.c (.str ⟨#[48,49,50,51,52,53,54,55,56,57,97,98,99,100,101,102,103,104,105,106,107,108,109,110,111,112,113,114,115,116,117,118,119,120,121,122]⟩))) (.s 79)⟩,o1 7 81 (.aaddr 65 1 (.s 12) (.s 74)),o0 8 (.store 1 (.s 81) (.s 80))] [18,13,11,0,10,4,3,17,12])
  (rG 0 [mS 0 82 18,mS 1 1 82] [13,1,11,0,10,4,3,17,12]))))))
abbrev f_internal_strconv_formatBits : Nat := 215
def c_internal_strconv_formatBits : CFn := { frz := true,rnd := none,nargs := 5,ntmps := 102,res := [(.slot 10),(.slot 11)],code :=
  (sQ (rG 1 [o1 0 10 (.newsl 0 1),⟨1,(some 11),none,.mv (.k (.c (.str ⟨#[]⟩)))⟩] [1,2,11,0,10,4,3])
  (sQ (sQ (rG 0 [mS 0 19 2,bI 1 20 .lss 19 2,mS 2 21 20,oG 3 22 21 false (.mv (.s 2)),oG 4 23 21 false (.bin .eql (.s 22) (kI 10)),o1 5 24 (.pick (.s 21) (kB true) (.s 23)),mS 6 25 24,oG 7 26 25 false (.mv (.s 2)),oG 8 27 25 false (.bin .gtr (.s 26) (kI 36)),o1 9 28 (.pick (.s 25) (kB true) (.s 27))] [28,1,2,11,0,10,4,3])
  (.cond (.s 28) (rG 0 [⟨0,(some 29),none,.p1 (.mkif 9) (.k (.c (.str ⟨#[115,116,114,99,111,110,118,58,32,105,108,108,101,103,97,108,32,65,112,112,101,110,100,73,110,116,47,70,111,114,109,97,116,73,110,116,32,98,97,115,101]⟩)))⟩,o0 1 (.bad)] [1,2,11,0,10,4,3])
  .skip))
  (sQ (rG 1 [o1 0 12 (.box 0 65 (.k (.a [(.int .u8 0),(.int .u8 0),(.int .u8 0),(.int .u8 0),(.int .u8 0),(.int .u8 0),(.int .u8 0),(.int .u8 0),(.int .u8 0),(.int .u8 0),(.int .u8 0),(.int .u8 0),(.int .u8 0),(.int .u8 0),(.int .u8 0),(.int .u8 0),(.int .u8 0),(.int .u8 0),(.int .u8 0),(.int .u8 0),(.int .u8 0),(.int .u8 0),(.int .u8 0),(.int .u8 0),(.int .u8 0),(.int .u8 0),(.int .u8 0),(.int .u8 0),(.int .u8 0),(.int .u8 0),(.int .u8 0),(.int .u8 0),(.int .u8 0),(.int .u8 0),(.int .u8 0),(.int .u8 0),(.int .u8 0),(.int .u8 0),(.int .u8 0),(.int .u8 0),(.int .u8 0),(.int .u8 0),(.int .u8 0),(.int .u8 0),(.int .u8 0),(.int .u8 0),(.int .u8 0),(.int .u8 0),(.int .u8 0),(.int .u8 0),(.int .u8 0),(.int .u8 0),(.int .u8 0),(.int .u8 0),(.int .u8 0),(.int .u8 0),(.int .u8 0),(.int .u8 0),(.int .u8 0),(.int .u8 0),(.int .u8 0),(.int .u8 0),(.int .u8 0),(.int .u8 0),(.int .u8 0)])))] [1,2,11,0,10,4,3,12])
  (sQ (rG 0 [mI 0 13 65] [1,2,13,11,0,10,4,3,12])
  (sQ (sQ (rG 0 [mS 0 30 3] [30,1,2,13,11,0,10,4,3,12])
  (.cond (.s 30) (rG 0 [mS 0 31 1,o1 1 32 (.un .neg (.s 31)),mS 2 1 32] [2,13,1,11,0,10,4,3,12])
  .skip))
  (sQ (sQ (rG 0 [mS 0 33 2,cA 1 34 238 [(.s 33)]] [34,2,13,1,11,0,10,4,3,12])
  (.cond (.s 34) (sQ (rG 0 [mS 0 35 2,o1 1 36 (.conv .u64 (.s 35)),cA 2 37 239 [(.s 36)],o1 3 38 (.conv .u64 (.s 37)),mS 4 14 38] [2,13,1,11,0,10,4,3,12,14])
  (sQ (rG 0 [mS 0 39 2,o1 1 40 (.conv .u64 (.s 39)),mS 2 15 40] [2,13,1,15,11,0,10,4,3,12,14])
  (sQ (rG 0 [mS 0 41 2,o1 1 42 (.conv .u64 (.s 41)),o1 2 43 (.bin .sub (.s 42) (.k (.c (.int .u64 1)))),mS 3 16 43] [13,1,15,11,0,10,4,3,16,12,14])
  (sQ (.block 0 (.loop (some [13,1,15,11,0,10,4,3,16,12,14]) c_internal_strconv_formatBits_l1))
  (sQ (rG 0 [mS 0 58 13,bI 1 59 .sub 58 1,mS 2 13 59] [1,3,13,4,10,0,12,11])
  (rG 0 [mS 0 60 13,mS 1 61 1,⟨2,(some 62),none,.p2 .sidx (.k (.c (.str ⟨#[48,49,50,51,52,53,54,55,56,57,97,98,99,100,101,102,103,104,105,106,107,108,109,110,111,112,113,114,115,116,117,118,119,120,121,122]⟩))) (.s 61)⟩,o1 3 63 (.aaddr 65 1 (.s 12) (.s 60)),o0 4 (.store 1 (.s 63) (.s 62))] [3,13,4,10,0,12,11]))))))
  (sQ (rG 0 [mS 0 64 2,o1 1 65 (.conv .u64 (.s 64)),mS 2 17 65] [13,1,11,0,10,4,3,17,12])
  (sQ (.block 2 (.loop (some [13,1,11,0,10,4,3,17,12]) c_internal_strconv_formatBits_l2))
  (sQ (rG 0 [mS 0 83 13,bI 1 84 .sub 83 1,mS 2 13 84] [1,3,13,4,10,0,12,11])
  (rG 0 [mS 0 85 13,mS 1 86 1,⟨2,(some 87),none,.p2 .sidx (.k (.c (.str ⟨#[48,49,50,51,52,53,54,55,56,57,97,98,99,100,101,102,103,104,105,106,107,108,109,110,111,112,113,114,115,116,117,118,119,120,121,122]⟩))) (.s 86)⟩,o1 3 88 (.aaddr 65 1 (.s 12) (.s 85)),o0 4 (.store 1 (.s 88) (.s 87))] [3,13,4,10,0,12,11]))))))
  (sQ (sQ (rG 0 [mS 0 89 3] [89,13,4,10,0,12,11])
  (.cond (.s 89) (sQ (rG 0 [mS 0 90 13,bI 1 91 .sub 90 1,mS 2 13 91] [4,10,0,13,12,11])
  (rG 0 [mS 0 92 13,o1 1 93 (.aaddr 65 1 (.s 12) (.s 92)),o0 2 (.store 1 (.s 93) (.k (.c (.int .u8 45))))] [4,10,0,13,12,11]))
  .skip))
  (sQ (sQ (rG 0 [mS 0 94 4] [94,10,0,13,12,11])
  (.cond (.s 94) (sQ (rG 0 [mS 0 95 0,mS 1 96 13,o1 2 97 (.pop (.aslice 65 1 true false) [(.s 12),(.s 96)]),o1 3 98 (.append 1 1 (.s 95) (.s 97)),mS 4 10 98] [10,11])
  .ret)
  .skip))
  (sQ (rG 0 [mS 0 99 13,o1 1 100 (.pop (.aslice 65 1 true false) [(.s 12),(.s 99)]),o1 2 101 (.mop .tostr [(.s 100)]),mS 3 11 101] [10,11])
  .ret))))))))) }
abbrev f_world_Present_1 : Nat := 216
def c_world_Present_1 : CFn := { frz := true,rnd := none,nargs := 3,ntmps := 23,res := [(.slot 4)],code :=
  (sQ (rG 1 [o1 0 3 (.box 0 4 (.s 0)),mB 1 4 false] [1,2,3])
  (sQ (rG 0 [fA 0 5 0 3,lF 1 6 5,lF 2 7 1,bS 3 8 .eql 6 7,mS 4 9 8,oG 5 10 9 true (.faddr 2 (.s 3)),oG 6 11 9 true (.load false 1 (.s 10)),oG 7 12 9 true (.faddr 1 (.s 2)),oG 8 13 9 true (.load false 1 (.s 12)),oG 9 14 9 true (.bin .leq (.s 11) (.s 13)),o1 10 15 (.pick (.s 9) (.s 14) (kB false)),mS 11 16 15,oG 12 17 16 true (.faddr 0 (.s 2)),oG 13 18 16 true (.load false 1 (.s 17)),oG 14 19 16 true (.faddr 3 (.s 3)),oG 15 20 16 true (.load false 1 (.s 19)),oG 16 21 16 true (.bin .leq (.s 18) (.s 20)),o1 17 22 (.pick (.s 16) (.s 21) (kB false)),mS 18 4 22] [4])
  .ret)) }
abbrev f_roads_is : Nat := 217
def c_roads_is : CFn := { frz := true,rnd := none,nargs := 2,ntmps := 19,res := [(.slot 4)],code :=
  (sQ (rG 1 [o1 0 2 (.box 0 5 (.s 0)),mB 1 4 false] [1,2])
  (sQ (rG 0 [mS 0 5 1,bI 1 6 .geq 5 0,mS 2 7 6,oG 3 8 7 true (.mv (.s 1)),oG 4 9 7 true (.faddr 1 (.s 2)),oG 5 10 7 true (.load false 1 (.s 9)),oG 6 11 7 true (.len (.s 10)),oG 7 12 7 true (.bin .lss (.s 8) (.s 11)),o1 8 13 (.pick (.s 7) (.s 12) (kB false)),mS 9 14 13,oG 10 15 14 true (.load true 5 (.s 2)),⟨11,(some 16),(some (14,true)),.call ⟨true⟩ (.k (.c (.fn 115 [] []))) [(.s 15)]⟩,oG 12 17 14 true (.bin .eql (.s 16) (kI 0)),o1 13 18 (.pick (.s 14) (.s 17) (kB false)),mS 14 4 18] [4])
  .ret)) }
def c_signs_Green_l1 : CC := (sQ (rG 0 [bS 0 17 .lss 16 15] [17,7,16,15,1,3,2,14])
  (sQ (.cond (.s 17) .skip
  (.exit 0))
  (sQ (.block 1 (sQ (rG 1 [iA 0 18 2 14 16,lT 1 19 2 18,o1 2 9 (.box 0 2 (.k (.a [(I 0),.nilslice]))),o0 3 (.store 2 (.s 9) (.s 19))] [7,9,16,15,1,3,2,14])
  (rG 0 [mS 0 20 7,fA 1 21 0 9,lF 2 22 21,bS 3 23 .add 20 22,mS 4 7 23] [16,7,15,1,3,2,14])))
  (rG 0 [bI 0 24 .add 16 1,mS 1 16 24] [7,16,15,1,3,2,14]))))
def c_signs_Green_l2 : CC := (sQ (rG 0 [bS 0 39 .lss 38 37] [39,10,38,37,36,1])
  (sQ (.cond (.s 39) .skip
  (.exit 2))
  (sQ (.block 3 (sQ (rG 1 [iA 0 40 2 36 38,lT 1 41 2 40,o1 2 12 (.box 0 2 (.k (.a [(I 0),.nilslice]))),o0 3 (.store 2 (.s 12) (.s 41))] [10,12,38,37,36,1])
  (sQ (sQ (rG 0 [mS 0 42 10,fA 1 43 0 12,lF 2 44 43,bS 3 45 .geq 42 44] [45,10,12,38,37,36,1])
  (.cond (.s 45) (sQ (rG 0 [mS 0 46 10,fA 1 47 0 12,lF 2 48 47,bS 3 49 .sub 46 48,mS 4 10 49] [38,10,37,36,1])
  (.exit 3))
  .skip))
  (sQ (rG 0 [fA 0 50 1 12,lF 1 51 50,mS 2 52 1,cA 3 53 162 [(.s 51),(.s 52)],mS 4 6 53] [6])
  .ret))))
  (rG 0 [bI 0 54 .add 38 1,mS 1 38 54] [10,38,37,36,1]))))
abbrev f_signs_Green : Nat := 218
def c_signs_Green : CFn := { frz := true,rnd := none,nargs := 3,ntmps := 55,res := [(.slot 6)],code :=
  (sQ (rG 1 [o1 0 3 (.box 0 2 (.s 0)),mB 1 6 false] [1,3,2])
  (sQ (sQ (rG 0 [mI 0 7 0] [7,1,3,2])
  (sQ (sQ (rG 0 [fA 0 13 1 3,lF 1 14 13,lN 2 15 14,mI 3 16 0] [7,16,15,1,3,2,14])
  (.block 0 (.loop (some [7,16,15,1,3,2,14]) c_signs_Green_l1)))
  (sQ (rG 0 [fA 0 25 0 3,mS 2 27 7,mS 4 29 2,mS 5 30 7,bS 6 31 .rem 29 30,mS 8 33 7,lF 1 26 25,bS 3 28 .rem 26 27,bS 7 32 .add 28 31,bS 9 34 .rem 32 33,mS 10 10 34] [3,10,1])
  (sQ .skip
  (sQ (sQ (rG 0 [fA 0 35 1 3,lF 1 36 35,lN 2 37 36,mI 3 38 0] [10,38,37,36,1])
  (.block 2 (.loop (some [10,38,37,36,1]) c_signs_Green_l2)))
  (sQ (rG 0 [mB 0 6 false] [6])
  .ret))))))
  .skip)) }
def c_slices_IndexFunc_int_l1 : CC := (sQ (rG 0 [bS 0 9 .lss 8 7] [9,0,1,7,8])
  (sQ (.cond (.s 9) .skip
  (.exit 0))
  (sQ (.block 1 (sQ (rG 0 [mS 0 10 8,mS 1 5 10] [0,1,7,8,5])
  (sQ (rG 0 [mS 0 11 1,mS 1 12 0,mS 2 13 5,iA 3 14 1 12 13,lF 4 15 14,⟨5,(some 16),none,.call ⟨true⟩ (.s 11) [(.s 15)]⟩] [16,0,1,7,8,5])
  (.cond (.s 16) (sQ (rG 0 [mS 0 17 5,mS 1 4 17] [4])
  .ret)
  .skip))))
  (rG 0 [bI 0 18 .add 8 1,mS 1 8 18] [7,1,0,8]))))
abbrev f_slices_IndexFunc_int : Nat := 219
def c_slices_IndexFunc_int : CFn := { frz := true,rnd := none,nargs := 2,ntmps := 19,res := [(.slot 4)],code :=
  (sQ (rG 0 [mI 0 4 0] [1,0])
  (sQ (sQ (rG 0 [mS 0 6 0,lN 1 7 6,mI 2 8 0] [7,1,0,8])
  (.block 0 (.loop (some [7,1,0,8]) c_slices_IndexFunc_int_l1)))
  (sQ (rG 0 [mI 0 4 (-1)] [4])
  .ret))) }
abbrev f_roads_Entry_1 : Nat := 220
def c_roads_Entry_1 : CFn := { frz := true,rnd := none,nargs := 3,ntmps := 18,res := [(.slot 4)],code :=
  (sQ (rG 0 [mB 0 4 false] [1,2,0])
  (sQ (rG 1 [fA 0 8 2 1,lF 1 9 8,lF 2 10 2,iA 3 11 2 9 10,lT 4 12 2 11,mS 5 13 0,cA 6 14 204 [(.s 12),(.s 13)],mS 7 7 14,eX 8 15 7 0,eX 9 16 7 1,o1 10 5 (.box 0 4 (.k (.a [(I 0),(I 0),(I 0),(I 0)]))),o0 11 (.store 4 (.s 5) (.s 15)),mS 12 6 16] [6])
  (sQ (rG 0 [mS 0 17 6,mS 1 4 17] [4])
  .ret))) }
def c_curve_fair_l1 : CC := (sQ (rG 0 [bS 0 8 .lss 7 6] [8,5,6,7])
  (sQ (.cond (.s 8) .skip
  (.exit 0))
  (sQ (.block 1 (sQ (rG 1 [iA 0 9 2 5 7,lT 1 10 2 9,o1 2 4 (.box 0 2 (.k (.a [(I 0),(I 0)]))),o0 3 (.store 2 (.s 4) (.s 10))] [4,5,6,7])
  (sQ (rG 0 [fA 0 11 0 4,lF 1 12 11,fA 2 13 1 4,lF 3 14 13,o1 4 15 (.minmax false [(.s 12),(.s 14)]),bI 5 16 .lss 15 (-16777216),mS 6 17 16,oG 7 18 17 false (.faddr 0 (.s 4)),oG 8 19 17 false (.load false 1 (.s 18)),oG 9 20 17 false (.faddr 1 (.s 4)),oG 10 21 17 false (.load false 1 (.s 20)),oG 11 22 17 false (.minmax true [(.s 19),(.s 21)]),oG 12 23 17 false (.bin .gtr (.s 22) (kI 16777216)),o1 13 24 (.pick (.s 17) (kB true) (.s 23))] [24,5,6,7])
  (.cond (.s 24) (sQ (rG 0 [mB 0 2 false] [2])
  .ret)
  .skip))))
  (rG 0 [bI 0 25 .add 7 1,mS 1 7 25] [6,5,7]))))
abbrev f_curve_fair : Nat := 221
def c_curve_fair : CFn := { frz := true,rnd := none,nargs := 1,ntmps := 26,res := [(.slot 2)],code :=
  (sQ (rG 0 [mB 0 2 false] [0])
  (sQ (sQ (rG 0 [mS 0 5 0,lN 1 6 5,mI 2 7 0] [6,5,7])
  (.block 0 (.loop (some [6,5,7]) c_curve_fair_l1)))
  (sQ (rG 0 [mB 0 2 true] [2])
  .ret))) }
abbrev f_curve_from : Nat := 222
def c_curve_from : CFn := { frz := true,rnd := none,nargs := 2,ntmps := 16,res := [(.cell 4 true 2)],code :=
  (sQ (rG 3 [o1 0 2 (.box 0 2 (.s 0)),o1 1 3 (.box 1 2 (.s 1)),o1 2 4 (.box 2 2 (.k (.a [(I 0),(I 0)])))] [3,2,4])
  (sQ (rG 0 [fA 0 5 0 3,lF 1 6 5,fA 2 7 0 2,lF 3 8 7,bS 4 9 .sub 6 8,fA 5 10 1 3,lF 6 11 10,fA 7 12 1 2,lF 8 13 12,bS 9 14 .sub 11 13,o1 10 15 (.build [(I 0),(I 0)] [(0,1,(.s 9)),(1,1,(.s 14))]),o0 11 (.store 2 (.s 4) (.s 15))] [4])
  .ret)) }
def c_curve_root_l1 : CC := (sQ (sQ (rG 0 [mS 0 7 4,mS 1 8 5,bS 2 9 .lss 7 8] [9,4,5,0])
  (.cond (.s 9) .skip
  (.exit 0)))
  (.block 1 (sQ (rG 0 [mS 0 10 4,mS 1 11 5,bS 2 12 .add 10 11,bI 3 13 .quo 12 2,mS 4 6 13] [4,6,5,0])
  (sQ (rG 0 [mS 0 14 6,mS 1 15 6,bS 2 16 .mul 14 15,mS 3 17 0,bS 4 18 .lss 16 17] [18,4,6,5,0])
  (.cond (.s 18) (rG 0 [mS 0 19 6,bI 1 20 .add 19 1,mS 2 4 20] [4,5,0])
  (rG 0 [mS 0 21 6,mS 1 5 21] [4,5,0]))))))
abbrev f_curve_root : Nat := 223
def c_curve_root : CFn := { frz := true,rnd := none,nargs := 1,ntmps := 28,res := [(.slot 2),(.slot 3)],code :=
  (sQ (rG 0 [mI 0 2 0,mB 1 3 false] [0])
  (sQ (rG 0 [mI 0 4 0,mI 1 5 67108864] [4,5,0])
  (sQ (.block 0 (.loop (some [4,5,0]) c_curve_root_l1))
  (sQ (rG 0 [mS 0 22 4,mS 1 23 4,mS 2 24 4,bS 3 25 .mul 23 24,mS 4 26 0,bS 5 27 .eql 25 26,mS 6 2 22,mS 7 3 27] [2,3])
  .ret)))) }
abbrev f_curve_vector_dot : Nat := 224
def c_curve_vector_dot : CFn := { frz := true,rnd := none,nargs := 2,ntmps := 16,res := [(.slot 4)],code :=
  (sQ (rG 2 [o1 0 2 (.box 0 2 (.s 0)),o1 1 3 (.box 1 2 (.s 1)),mI 2 4 0] [2,3])
  (sQ (rG 0 [fA 0 5 0 2,lF 1 6 5,fA 2 7 0 3,lF 3 8 7,bS 4 9 .mul 6 8,fA 5 10 1 2,lF 6 11 10,fA 7 12 1 3,lF 8 13 12,bS 9 14 .mul 11 13,bS 10 15 .add 9 14,mS 11 4 15] [4])
  .ret)) }
def c_slices_IndexFunc_Phase_l1 : CC := (sQ (rG 0 [bS 0 9 .lss 8 7] [9,0,1,7,8])
  (sQ (.cond (.s 9) .skip
  (.exit 0))
  (sQ (.block 1 (sQ (rG 0 [mS 0 10 8,mS 1 5 10] [0,1,7,8,5])
  (sQ (rG 0 [mS 0 11 1,mS 1 12 0,mS 2 13 5,iA 3 14 2 12 13,lT 4 15 2 14,⟨5,(some 16),none,.call ⟨true⟩ (.s 11) [(.s 15)]⟩] [16,0,1,7,8,5])
  (.cond (.s 16) (sQ (rG 0 [mS 0 17 5,mS 1 4 17] [4])
  .ret)
  .skip))))
  (rG 0 [bI 0 18 .add 8 1,mS 1 8 18] [7,1,0,8]))))
abbrev f_slices_IndexFunc_Phase : Nat := 225
def c_slices_IndexFunc_Phase : CFn := { frz := true,rnd := none,nargs := 2,ntmps := 19,res := [(.slot 4)],code :=
  (sQ (rG 0 [mI 0 4 0] [1,0])
  (sQ (sQ (rG 0 [mS 0 6 0,lN 1 7 6,mI 2 8 0] [7,1,0,8])
  (.block 0 (.loop (some [7,1,0,8]) c_slices_IndexFunc_Phase_l1)))
  (sQ (rG 0 [mI 0 4 (-1)] [4])
  .ret))) }
def c_curve_Length_l1 : CC := (sQ (rG 0 [bS 0 10 .lss 9 8] [10,3,9,8,7])
  (sQ (.cond (.s 10) .skip
  (.exit 0))
  (sQ (.block 1 (sQ (rG 0 [iA 0 11 1 7 9,lF 1 12 11,mS 2 5 12] [3,5,9,8,7])
  (rG 0 [mS 0 13 3,mS 1 14 5,bS 2 15 .add 13 14,mS 3 3 15] [9,3,8,7])))
  (rG 0 [bI 0 16 .add 9 1,mS 1 9 16] [3,9,8,7]))))
abbrev f_curve_Length : Nat := 226
def c_curve_Length : CFn := { frz := true,rnd := none,nargs := 1,ntmps := 18,res := [(.slot 2)],code :=
  (sQ (rG 1 [o1 0 1 (.box 0 1 (.s 0)),mI 1 2 0] [1])
  (sQ (rG 0 [mI 0 3 0] [1,3])
  (sQ (sQ (rG 0 [lT 0 6 1 1,cA 1 7 240 [(.s 6)],lN 2 8 7,mI 3 9 0] [3,9,8,7])
  (.block 0 (.loop (some [3,9,8,7]) c_curve_Length_l1)))
  (sQ (rG 0 [mS 0 17 3,mS 1 2 17] [2])
  .ret)))) }
def c_slices_IndexFunc_Zone_l1 : CC := (sQ (rG 0 [bS 0 9 .lss 8 7] [9,0,1,7,8])
  (sQ (.cond (.s 9) .skip
  (.exit 0))
  (sQ (.block 1 (sQ (rG 0 [mS 0 10 8,mS 1 5 10] [0,1,7,8,5])
  (sQ (rG 0 [mS 0 11 1,mS 1 12 0,mS 2 13 5,iA 3 14 2 12 13,lT 4 15 2 14,⟨5,(some 16),none,.call ⟨true⟩ (.s 11) [(.s 15)]⟩] [16,0,1,7,8,5])
  (.cond (.s 16) (sQ (rG 0 [mS 0 17 5,mS 1 4 17] [4])
  .ret)
  .skip))))
  (rG 0 [bI 0 18 .add 8 1,mS 1 8 18] [7,1,0,8]))))
abbrev f_slices_IndexFunc_Zone : Nat := 227
def c_slices_IndexFunc_Zone : CFn := { frz := true,rnd := none,nargs := 2,ntmps := 19,res := [(.slot 4)],code :=
  (sQ (rG 0 [mI 0 4 0] [1,0])
  (sQ (sQ (rG 0 [mS 0 6 0,lN 1 7 6,mI 2 8 0] [7,1,0,8])
  (.block 0 (.loop (some [7,1,0,8]) c_slices_IndexFunc_Zone_l1)))
  (sQ (rG 0 [mI 0 4 (-1)] [4])
  .ret))) }
def c_roads_reach_l1 : CC := (sQ (rG 0 [bS 0 23 .lss 22 21] [23,22,21,1,2,20,4,3])
  (sQ (.cond (.s 23) .skip
  (.exit 2))
  (sQ (.block 3 (sQ (rG 0 [iA 0 24 1 20 22,lF 1 25 24,mS 2 6 25] [6,22,21,1,2,20,4,3])
  (rG 0 [mS 0 26 4,o1 1 27 (.aaddr 12 1 (.s 3) (.s 26)),mS 3 29 6,o1 4 30 (.aaddr 12 1 (.s 3) (.s 29)),mS 6 32 6,o1 7 33 (.conv .u64 (.s 32)),o1 8 34 (.bin .shl (.k (.c (.int .u32 1))) (.s 33)),lF 2 28 27,lF 5 31 30,bS 9 35 .or 31 34,bS 10 36 .or 28 35,o1 11 37 (.aaddr 12 1 (.s 3) (.s 26)),o0 12 (.store 1 (.s 37) (.s 36))] [22,21,1,2,20,4,3])))
  (rG 0 [bI 0 38 .add 22 1,mS 1 22 38] [22,21,1,2,20,4,3]))))
def c_roads_reach_l2 : CC := (sQ (sQ (rG 0 [mS 0 11 4,bI 1 12 .geq 11 0] [12,1,2,4,3])
  (.cond (.s 12) .skip
  (.exit 0)))
  (sQ (.block 1 (sQ (rG 0 [fA 0 15 1 1,lF 1 16 15,mS 2 17 4,iA 3 18 5 16 17,fA 4 19 4 18,lF 5 20 19,lN 6 21 20,mI 7 22 0] [22,21,1,2,20,4,3])
  (.block 2 (.loop (some [22,21,1,2,20,4,3]) c_roads_reach_l1))))
  (rG 0 [mS 0 13 4,bI 1 14 .sub 13 1,mS 2 4 14] [2,1,4,3])))
abbrev f_roads_reach : Nat := 228
def c_roads_reach : CFn := { frz := true,rnd := none,nargs := 1,ntmps := 40,res := [(.cell 2 true 12)],code :=
  (sQ (rG 2 [o1 0 1 (.box 0 5 (.s 0)),o1 1 2 (.box 1 12 (.k (.a [(.int .u32 0),(.int .u32 0),(.int .u32 0),(.int .u32 0),(.int .u32 0),(.int .u32 0),(.int .u32 0),(.int .u32 0),(.int .u32 0),(.int .u32 0),(.int .u32 0),(.int .u32 0)])))] [2,1])
  (sQ (rG 1 [o1 0 3 (.box 0 12 (.k (.a [(.int .u32 0),(.int .u32 0),(.int .u32 0),(.int .u32 0),(.int .u32 0),(.int .u32 0),(.int .u32 0),(.int .u32 0),(.int .u32 0),(.int .u32 0),(.int .u32 0),(.int .u32 0)])))] [2,1,3])
  (sQ (sQ (rG 0 [fA 0 7 1 1,lF 1 8 7,lN 2 9 8,bI 3 10 .sub 9 1,mS 4 4 10] [2,1,4,3])
  (.block 0 (.loop (some [2,1,4,3]) c_roads_reach_l2)))
  (sQ (rG 0 [lT 0 39 12 3,o0 1 (.store 12 (.s 2) (.s 39))] [2])
  .ret)))) }
abbrev f_slices_ContainsFunc_Part : Nat := 229
def c_slices_ContainsFunc_Part : CFn := { frz := true,rnd := none,nargs := 2,ntmps := 9,res := [(.slot 4)],code :=
  (sQ (rG 0 [mB 0 4 false] [0,1])
  (sQ (rG 0 [mS 0 5 0,mS 1 6 1,cA 2 7 180 [(.s 5),(.s 6)],bI 3 8 .geq 7 0,mS 4 4 8] [4])
  .ret)) }
abbrev f_roads_entry_1 : Nat := 230
def c_roads_entry_1 : CFn := { frz := true,rnd := none,nargs := 3,ntmps := 11,res := [(.slot 4)],code :=
  (sQ (rG 1 [o1 0 3 (.box 0 4 (.s 0)),mB 1 4 false] [3,1,2])
  (sQ (rG 0 [fA 0 5 0 3,lF 1 6 5,o1 2 7 (.aaddr 12 1 (.s 1) (.s 6)),lF 3 8 7,lF 4 9 2,cA 5 10 231 [(.s 8),(.s 9)],mS 6 4 10] [4])
  .ret)) }
abbrev f_roads_set_has : Nat := 231
def c_roads_set_has : CFn := { frz := true,rnd := none,nargs := 2,ntmps := 11,res := [(.slot 4)],code :=
  (sQ (rG 0 [mB 0 4 false] [0,1])
  (sQ (rG 0 [mS 0 5 0,mS 1 6 1,o1 2 7 (.conv .u64 (.s 6)),bS 3 8 .shr 5 7,o1 4 9 (.bin .and (.s 8) (.k (.c (.int .u32 1)))),o1 5 10 (.bin .eql (.s 9) (.k (.c (.int .u32 1)))),mS 6 4 10] [4])
  .ret)) }
def c_roads_entries_l1 : CC := (sQ (rG 0 [bS 0 12 .lss 11 10] [12,5,11,10,9,2,3])
  (sQ (.cond (.s 12) .skip
  (.exit 0))
  (sQ (.block 1 (sQ (rG 1 [iA 0 13 4 9 11,lT 1 14 4 13,o1 2 7 (.box 0 4 (.k (.a [(I 0),(I 0),(I 0),(I 0)]))),o0 3 (.store 4 (.s 7) (.s 14))] [5,7,11,10,9,2,3])
  (sQ (rG 0 [lT 0 15 5 2,lT 1 16 2 3,fA 2 17 0 7,lF 3 18 17,cA 4 19 201 [(.s 15),(.s 16),(.s 18)]] [19,5,7,11,10,9,2,3])
  (.cond (.s 19) (rG 1 [mS 0 20 5,fA 1 21 0 7,lF 2 22 21,o1 3 23 (.lit 0 1 [[(I 0)]] [(0,(.s 22))]),o1 4 24 (.append 1 8 (.s 20) (.s 23)),mS 5 5 24] [11,5,10,9,2,3])
  .skip))))
  (rG 0 [bI 0 25 .add 11 1,mS 1 11 25] [5,11,10,9,2,3]))))
abbrev f_roads_entries : Nat := 232
def c_roads_entries : CFn := { frz := true,rnd := none,nargs := 2,ntmps := 27,res := [(.slot 4)],code :=
  (sQ (rG 3 [o1 0 2 (.box 0 5 (.s 0)),o1 1 3 (.box 1 2 (.s 1)),o1 2 4 (.newsl 2 1)] [2,3])
  (sQ (rG 1 [o1 0 5 (.newsl 0 1)] [5,2,3])
  (sQ (sQ (rG 0 [fA 0 8 0 3,lF 1 9 8,lN 2 10 9,mI 3 11 0] [5,11,10,9,2,3])
  (.block 0 (.loop (some [5,11,10,9,2,3]) c_roads_entries_l1)))
  (sQ (rG 0 [mS 0 26 5,mS 1 4 26] [4])
  .ret)))) }
abbrev f_roads_part_1 : Nat := 233
def c_roads_part_1 : CFn := { frz := true,rnd := none,nargs := 2,ntmps := 8,res := [(.slot 3)],code :=
  (sQ (rG 1 [o1 0 2 (.box 0 4 (.s 0)),mB 1 3 false] [2,1])
  (sQ (rG 0 [fA 0 4 0 2,lF 1 5 4,lF 2 6 1,bS 3 7 .eql 5 6,mS 4 3 7] [3])
  .ret)) }
def c_slices_stableCmpFunc_Pass_l1 : CC := (sQ (sQ (rG 0 [mS 0 11 8,mS 1 12 1,bS 2 13 .leq 11 12] [13,7,8,1,0,2,6])
  (.cond (.s 13) .skip
  (.exit 0)))
  (.block 1 (sQ (rG 0 [mS 0 14 0,mS 1 15 7,mS 2 16 8,mS 3 17 2,⟨4,(some 18),none,.call ⟨false⟩ (.k (.c (.fn 241 [] []))) [(.s 14),(.s 15),(.s 16),(.s 17)]⟩] [8,1,0,2,6])
  (sQ (rG 0 [mS 0 19 8,mS 1 7 19] [8,7,1,0,2,6])
  (rG 0 [mS 0 20 8,mS 1 21 6,bS 2 22 .add 20 21,mS 3 8 22] [7,8,1,0,2,6])))))
def c_slices_stableCmpFunc_Pass_l2 : CC := (sQ (sQ (rG 0 [mS 0 33 8,mS 1 34 1,bS 2 35 .leq 33 34] [35,7,8,1,0,2,6])
  (.cond (.s 35) .skip
  (.exit 4)))
  (.block 5 (sQ (rG 0 [mS 0 36 0,mS 1 37 7,mS 2 38 7,mS 3 39 6,bS 4 40 .add 38 39,mS 5 41 8,mS 6 42 2,⟨7,(some 43),none,.call ⟨false⟩ (.k (.c (.fn 242 [] []))) [(.s 36),(.s 37),(.s 40),(.s 41),(.s 42)]⟩] [8,1,0,2,6])
  (sQ (rG 0 [mS 0 44 8,mS 1 7 44] [8,7,1,0,2,6])
  (rG 0 [mS 0 45 8,mS 1 46 6,o1 2 47 (.bin .mul (kI 2) (.s 46)),bS 3 48 .add 45 47,mS 4 8 48] [7,8,1,0,2,6])))))
def c_slices_stableCmpFunc_Pass_l3 : CC := (sQ (sQ (rG 0 [mS 0 28 6,mS 1 29 1,bS 2 30 .lss 28 29] [30,1,0,2,6])
  (.cond (.s 30) .skip
  (.exit 2)))
  (.block 3 (sQ (rG 0 [mS 0 31 6,o1 1 32 (.bin .mul (kI 2) (.s 31)),mI 2 7 0,mS 3 8 32] [7,8,1,0,2,6])
  (sQ (.block 4 (.loop (some [7,8,1,0,2,6]) c_slices_stableCmpFunc_Pass_l2))
  (sQ (sQ (rG 0 [mS 0 49 7,mS 1 50 6,bS 2 51 .add 49 50,mS 3 9 51] [7,9,6,1,0,2])
  (sQ (rG 0 [mS 0 52 9,mS 1 53 1,bS 2 54 .lss 52 53] [54,7,9,6,1,0,2])
  (.cond (.s 54) (rG 0 [mS 0 55 0,mS 1 56 7,mS 2 57 9,mS 3 58 1,mS 4 59 2,⟨5,(some 60),none,.call ⟨false⟩ (.k (.c (.fn 242 [] []))) [(.s 55),(.s 56),(.s 57),(.s 58),(.s 59)]⟩] [6,1,0,2])
  .skip)))
  (rG 0 [mS 0 61 6,bI 1 62 .mul 61 2,mS 2 6 62] [1,0,2,6]))))))
abbrev f_slices_stableCmpFunc_Pass : Nat := 234
def c_slices_stableCmpFunc_Pass : CFn := { frz := true,rnd := none,nargs := 3,ntmps := 63,res := [],code :=
  (sQ (rG 0 [mI 0 6 20] [1,0,2,6])
  (sQ (rG 0 [mS 0 10 6,mI 1 7 0,mS 2 8 10] [7,8,1,0,2,6])
  (sQ (.block 0 (.loop (some [7,8,1,0,2,6]) c_slices_stableCmpFunc_Pass_l1))
  (sQ (rG 0 [mS 0 23 0,mS 1 24 7,mS 2 25 1,mS 3 26 2,⟨4,(some 27),none,.call ⟨false⟩ (.k (.c (.fn 241 [] []))) [(.s 23),(.s 24),(.s 25),(.s 26)]⟩] [1,0,2,6])
  (.block 2 (.loop (some [1,0,2,6]) c_slices_stableCmpFunc_Pass_l3)))))) }
abbrev f_cmp_isNaN_int64 : Nat := 235
def c_cmp_isNaN_int64 : CFn := { frz := true,rnd := none,nargs := 1,ntmps := 6,res := [(.slot 2)],code :=
  (sQ (rG 0 [mB 0 2 false] [0])
  (sQ (rG 0 [mS 0 3 0,mS 1 4 0,bS 2 5 .neq 3 4,mS 3 2 5] [2])
  .ret)) }
abbrev f_internal_strconv_log10Pow2 : Nat := 236
def c_internal_strconv_log10Pow2 : CFn := { frz := true,rnd := none,nargs := 1,ntmps := 6,res := [(.slot 2)],code :=
  (sQ (rG 0 [mI 0 2 0] [0])
  (sQ (rG 0 [mS 0 3 0,bI 1 4 .mul 3 78913,o1 2 5 (.bin .shr (.s 4) (.k (.c (.int .u64 18)))),mS 3 2 5] [2])
  .ret)) }
abbrev f_internal_strconv_bool2_int : Nat := 237
def c_internal_strconv_bool2_int : CFn := { frz := true,rnd := none,nargs := 1,ntmps := 4,res := [(.slot 2)],code :=
  (sQ (rG 0 [mI 0 2 0] [0])
  (sQ (sQ (rG 0 [mS 0 3 0] [3])
  (.cond (.s 3) (sQ (rG 0 [mI 0 2 1] [2])
  .ret)
  .skip))
  (sQ (rG 0 [mI 0 2 0] [2])
  .ret))) }
abbrev f_internal_strconv_isPowerOfTwo : Nat := 238
def c_internal_strconv_isPowerOfTwo : CFn := { frz := true,rnd := none,nargs := 1,ntmps := 8,res := [(.slot 2)],code :=
  (sQ (rG 0 [mB 0 2 false] [0])
  (sQ (rG 0 [mS 0 3 0,mS 1 4 0,bI 2 5 .sub 4 1,bS 3 6 .and 3 5,bI 4 7 .eql 6 0,mS 5 2 7] [2])
  .ret)) }
abbrev f_math_bits_TrailingZeros : Nat := 239
def c_math_bits_TrailingZeros : CFn := { frz := true,rnd := none,nargs := 1,ntmps := 8,res := [(.slot 2)],code :=
  (sQ (rG 0 [mI 0 2 0] [0])
  (sQ (.cond (kB false) (sQ (rG 0 [mS 0 3 0,o1 1 4 (.conv .u32 (.s 3)),cA 2 5 243 [(.s 4)],mS 3 2 5] [2])
  .ret)
  .skip)
  (sQ (rG 0 [mS 0 6 0,cA 1 7 244 [(.s 6)],mS 2 2 7] [2])
  .ret))) }
abbrev f_curve_Pieces : Nat := 240
def c_curve_Pieces : CFn := { frz := true,rnd := none,nargs := 1,ntmps := 19,res := [(.slot 2)],code :=
  (sQ (rG 2 [o1 0 1 (.box 0 1 (.s 0)),o1 1 2 (.newsl 1 1)] [2,1])
  (sQ (sQ (rG 0 [lT 0 6 1 1,cA 1 7 190 [(.s 6)],bI 2 8 .neq 7 0] [8,2,1])
  (.cond (.s 8) (sQ (rG 1 [o1 0 2 (.newsl 0 1)] [2])
  .ret)
  .skip))
  (sQ (rG 1 [o1 0 3 (.box 0 1 (.k (.a [.nilslice])))] [1,2,3])
  (sQ (sQ (rG 0 [lT 0 9 1 1,cA 1 10 245 [(.s 9)]] [2,10,3])
  (.block 0 (.rng (.s 10) 4114 [3])))
  (sQ (rG 0 [lF 0 18 3,mS 1 2 18] [2])
  .ret))))) }
abbrev f_curve_Pieces_r1 : Nat := 4114
def c_curve_Pieces_r1 : CFn := { frz := false,rnd := (some ([11,12],(rG 1 [o1 0 5 (.box 0 6 (.k (.a [(I 0),(I 0),(I 0),(I 0),(I 0),(I 0)]))),o0 1 (.store 6 (.s 5) (.s 12))] [5,3]))),nargs := 3,ntmps := 19,res := [],code :=
  (.block 1 (rG 1 [lF 0 13 3,fA 1 14 4 5,lF 2 15 14,o1 3 16 (.lit 0 1 [[(I 0)]] [(0,(.s 15))]),o1 4 17 (.append 1 8 (.s 13) (.s 16)),o0 5 (.store 1 (.s 3) (.s 17))] [])) }
def c_slices_insertionSortCmpFunc_Pass_l1 : CC := (sQ (sQ (rG 0 [mS 0 18 9,mS 1 19 1,bS 2 20 .gtr 18 19,mS 3 21 20,oG 4 22 21 true (.mv (.s 3)),oG 5 23 21 true (.mv (.s 0)),oG 6 24 21 true (.mv (.s 9)),oG 7 25 21 true (.iaddr 4 (.s 23) (.s 24)),oG 9 27 21 true (.mv (.s 0)),oG 10 28 21 true (.mv (.s 9)),oG 11 29 21 true (.bin .sub (.s 28) (kI 1)),oG 12 30 21 true (.iaddr 4 (.s 27) (.s 29)),oG 8 26 21 true (.load true 4 (.s 25)),oG 13 31 21 true (.load true 4 (.s 30)),⟨14,(some 32),(some (21,true)),.call ⟨true⟩ (.s 22) [(.s 26),(.s 31)]⟩,oG 15 33 21 true (.bin .lss (.s 32) (kI 0)),o1 16 34 (.pick (.s 21) (.s 33) (kB false))] [34,9,3,1,2,8,0])
  (.cond (.s 34) .skip
  (.exit 2)))
  (sQ (.block 3 (rG 0 [mS 0 37 0,mS 1 38 9,mS 2 39 0,mS 3 40 9,bI 4 41 .sub 40 1,mS 5 42 0,mS 6 43 9,bI 7 44 .sub 43 1,iA 8 45 4 42 44,mS 10 47 0,mS 11 48 9,iA 12 49 4 47 48,lT 9 46 4 45,lT 13 50 4 49,iA 14 51 4 37 38,o0 15 (.store 4 (.s 51) (.s 46)),iA 16 52 4 39 41,o0 17 (.store 4 (.s 52) (.s 50))] [9,3,1,2,8,0]))
  (rG 0 [mS 0 35 9,bI 1 36 .sub 35 1,mS 2 9 36] [9,3,1,2,8,0])))
def c_slices_insertionSortCmpFunc_Pass_l2 : CC := (sQ (sQ (rG 0 [mS 0 12 8,mS 1 13 2,bS 2 14 .lss 12 13] [14,3,1,2,8,0])
  (.cond (.s 14) .skip
  (.exit 0)))
  (sQ (.block 1 (sQ (rG 0 [mS 0 17 8,mS 1 9 17] [9,3,1,2,8,0])
  (.block 2 (.loop (some [9,3,1,2,8,0]) c_slices_insertionSortCmpFunc_Pass_l1))))
  (rG 0 [mS 0 15 8,bI 1 16 .add 15 1,mS 2 8 16] [2,1,3,8,0])))
abbrev f_slices_insertionSortCmpFunc_Pass : Nat := 241
def c_slices_insertionSortCmpFunc_Pass : CFn := { frz := true,rnd := none,nargs := 4,ntmps := 53,res := [],code :=
  (sQ (rG 0 [mS 0 10 1,bI 1 11 .add 10 1,mS 2 8 11] [2,1,3,8,0])
  (.block 0 (.loop (some [2,1,3,8,0]) c_slices_insertionSortCmpFunc_Pass_l2))) }
def c_slices_symMergeCmpFunc_Pass_l1 : CC := (sQ (sQ (rG 0 [mS 0 31 10,mS 1 32 11,bS 2 33 .lss 31 32] [33,10,11,4,0,1])
  (.cond (.s 33) .skip
  (.exit 0)))
  (.block 1 (sQ (rG 0 [mS 0 34 10,mS 1 35 11,bS 2 36 .add 34 35,o1 3 37 (.conv .u64 (.s 36)),o1 4 38 (.bin .shr (.s 37) (.k (.c (.int .u64 1)))),o1 5 39 (.conv .i64 (.s 38)),mS 6 12 39] [10,12,11,4,0,1])
  (sQ (rG 0 [mS 0 40 4,mS 1 41 0,mS 2 42 12,iA 3 43 4 41 42,mS 5 45 0,mS 6 46 1,iA 7 47 4 45 46,lT 4 44 4 43,lT 8 48 4 47,⟨9,(some 49),none,.call ⟨true⟩ (.s 40) [(.s 44),(.s 48)]⟩,bI 10 50 .lss 49 0] [50,10,12,11,4,0,1])
  (.cond (.s 50) (rG 0 [mS 0 51 12,bI 1 52 .add 51 1,mS 2 10 52] [10,11,4,0,1])
  (rG 0 [mS 0 53 12,mS 1 11 53] [10,11,4,0,1]))))))
def c_slices_symMergeCmpFunc_Pass_l2 : CC := (sQ (sQ (rG 0 [mS 0 55 13,mS 1 56 10,bI 2 57 .sub 56 1,bS 3 58 .lss 55 57] [58,13,10,0])
  (.cond (.s 58) .skip
  (.exit 2)))
  (sQ (.block 3 (rG 0 [mS 0 61 0,mS 1 62 13,mS 2 63 0,mS 3 64 13,bI 4 65 .add 64 1,mS 5 66 0,mS 6 67 13,bI 7 68 .add 67 1,iA 8 69 4 66 68,mS 10 71 0,mS 11 72 13,iA 12 73 4 71 72,lT 9 70 4 69,lT 13 74 4 73,iA 14 75 4 61 62,o0 15 (.store 4 (.s 75) (.s 70)),iA 16 76 4 63 65,o0 17 (.store 4 (.s 76) (.s 74))] [13,10,0]))
  (rG 0 [mS 0 59 13,bI 1 60 .add 59 1,mS 2 13 60] [13,10,0])))
def c_slices_symMergeCmpFunc_Pass_l3 : CC := (sQ (sQ (rG 0 [mS 0 83 14,mS 1 84 15,bS 2 85 .lss 83 84] [85,14,15,4,2,0])
  (.cond (.s 85) .skip
  (.exit 4)))
  (.block 5 (sQ (rG 0 [mS 0 86 14,mS 1 87 15,bS 2 88 .add 86 87,o1 3 89 (.conv .u64 (.s 88)),o1 4 90 (.bin .shr (.s 89) (.k (.c (.int .u64 1)))),o1 5 91 (.conv .i64 (.s 90)),mS 6 16 91] [14,16,15,4,2,0])
  (sQ (rG 0 [mS 0 92 4,mS 1 93 0,mS 2 94 2,iA 3 95 4 93 94,mS 5 97 0,mS 6 98 16,iA 7 99 4 97 98,lT 4 96 4 95,lT 8 100 4 99,⟨9,(some 101),none,.call ⟨true⟩ (.s 92) [(.s 96),(.s 100)]⟩,bI 10 102 .lss 101 0,o1 11 103 (.un .not (.s 102))] [103,14,16,15,4,2,0])
  (.cond (.s 103) (rG 0 [mS 0 104 16,bI 1 105 .add 104 1,mS 2 14 105] [14,15,4,2,0])
  (rG 0 [mS 0 106 16,mS 1 15 106] [14,15,4,2,0]))))))
def c_slices_symMergeCmpFunc_Pass_l4 : CC := (sQ (sQ (rG 0 [mS 0 108 17,mS 1 109 14,bS 2 110 .gtr 108 109] [110,17,14,0])
  (.cond (.s 110) .skip
  (.exit 6)))
  (sQ (.block 7 (rG 0 [mS 0 113 0,mS 1 114 17,mS 2 115 0,mS 3 116 17,bI 4 117 .sub 116 1,mS 5 118 0,mS 6 119 17,bI 7 120 .sub 119 1,iA 8 121 4 118 120,mS 10 123 0,mS 11 124 17,iA 12 125 4 123 124,lT 9 122 4 121,lT 13 126 4 125,iA 14 127 4 113 114,o0 15 (.store 4 (.s 127) (.s 122)),iA 16 128 4 115 117,o0 17 (.store 4 (.s 128) (.s 126))] [17,14,0]))
  (rG 0 [mS 0 111 17,bI 1 112 .sub 111 1,mS 2 17 112] [17,14,0])))
def c_slices_symMergeCmpFunc_Pass_l5 : CC := (sQ (sQ (rG 0 [mS 0 149 20,mS 1 150 21,bS 2 151 .lss 149 150] [151,20,3,18,1,2,19,21,4,22,0])
  (.cond (.s 151) .skip
  (.exit 8)))
  (.block 9 (sQ (rG 0 [mS 0 152 20,mS 1 153 21,bS 2 154 .add 152 153,o1 3 155 (.conv .u64 (.s 154)),o1 4 156 (.bin .shr (.s 155) (.k (.c (.int .u64 1)))),o1 5 157 (.conv .i64 (.s 156)),mS 6 23 157] [20,23,3,18,1,2,19,21,4,22,0])
  (sQ (rG 0 [mS 0 158 4,mS 1 159 0,mS 2 160 22,mS 3 161 23,bS 4 162 .sub 160 161,iA 5 163 4 159 162,mS 7 165 0,mS 8 166 23,iA 9 167 4 165 166,lT 6 164 4 163,lT 10 168 4 167,⟨11,(some 169),none,.call ⟨true⟩ (.s 158) [(.s 164),(.s 168)]⟩,bI 12 170 .lss 169 0,o1 13 171 (.un .not (.s 170))] [171,20,23,3,18,1,2,19,21,4,22,0])
  (.cond (.s 171) (rG 0 [mS 0 172 23,bI 1 173 .add 172 1,mS 2 20 173] [20,3,18,1,2,19,21,4,22,0])
  (rG 0 [mS 0 174 23,mS 1 21 174] [20,3,18,1,2,19,21,4,22,0]))))))
abbrev f_slices_symMergeCmpFunc_Pass : Nat := 242
def c_slices_symMergeCmpFunc_Pass : CFn := { frz := true,rnd := none,nargs := 5,ntmps := 220,res := [],code :=
  (sQ (sQ (rG 0 [mS 0 25 2,mS 1 26 1,bS 2 27 .sub 25 26,bI 3 28 .eql 27 1] [28,2,3,4,0,1])
  (.cond (.s 28) (sQ (rG 0 [mS 0 29 2,mS 1 10 29] [3,10,4,0,1])
  (sQ (rG 0 [mS 0 30 3,mS 1 11 30] [10,11,4,0,1])
  (sQ (.block 0 (.loop (some [10,11,4,0,1]) c_slices_symMergeCmpFunc_Pass_l1))
  (sQ (sQ (rG 0 [mS 0 54 1,mS 1 13 54] [13,10,0])
  (.block 2 (.loop (some [13,10,0]) c_slices_symMergeCmpFunc_Pass_l2)))
  .ret))))
  .skip))
  (sQ (sQ (rG 0 [mS 0 77 3,mS 1 78 2,bS 2 79 .sub 77 78,bI 3 80 .eql 79 1] [80,3,1,4,2,0])
  (.cond (.s 80) (sQ (rG 0 [mS 0 81 1,mS 1 14 81] [14,4,2,0])
  (sQ (rG 0 [mS 0 82 2,mS 1 15 82] [14,15,4,2,0])
  (sQ (.block 4 (.loop (some [14,15,4,2,0]) c_slices_symMergeCmpFunc_Pass_l3))
  (sQ (sQ (rG 0 [mS 0 107 2,mS 1 17 107] [17,14,0])
  (.block 6 (.loop (some [17,14,0]) c_slices_symMergeCmpFunc_Pass_l4)))
  .ret))))
  .skip))
  (sQ (rG 0 [mS 0 129 1,mS 1 130 3,bS 2 131 .add 129 130,o1 3 132 (.conv .u64 (.s 131)),o1 4 133 (.bin .shr (.s 132) (.k (.c (.int .u64 1)))),o1 5 134 (.conv .i64 (.s 133)),mS 6 18 134] [3,18,1,2,4,0])
  (sQ (rG 0 [mS 0 135 18,mS 1 136 2,bS 2 137 .add 135 136,mS 3 19 137] [3,18,1,2,19,4,0])
  (sQ (rG 0 [mI 0 20 0,mI 1 21 0] [3,18,1,2,19,4,0])
  (sQ (sQ (rG 0 [mS 0 138 2,mS 1 139 18,bS 2 140 .gtr 138 139] [140,3,18,1,2,19,4,0])
  (.cond (.s 140) (sQ (rG 0 [mS 0 141 19,mS 1 142 3,bS 2 143 .sub 141 142,mS 3 20 143] [20,3,18,1,2,19,4,0])
  (rG 0 [mS 0 144 18,mS 1 21 144] [20,3,18,1,2,19,21,4,0]))
  (sQ (rG 0 [mS 0 145 1,mS 1 20 145] [20,3,18,1,2,19,4,0])
  (rG 0 [mS 0 146 2,mS 1 21 146] [20,3,18,1,2,19,21,4,0]))))
  (sQ (rG 0 [mS 0 147 19,bI 1 148 .sub 147 1,mS 2 22 148] [20,3,18,1,2,19,21,4,22,0])
  (sQ (.block 8 (.loop (some [20,3,18,1,2,19,21,4,22,0]) c_slices_symMergeCmpFunc_Pass_l5))
  (sQ (rG 0 [mS 0 175 19,mS 1 176 20,bS 2 177 .sub 175 176,mS 3 24 177] [2,1,20,0,18,24,3,4])
  (sQ (sQ (rG 0 [mS 0 178 20,mS 1 179 2,bS 2 180 .lss 178 179,mS 3 181 180,oG 4 182 181 true (.mv (.s 2)),oG 5 183 181 true (.mv (.s 24)),oG 6 184 181 true (.bin .lss (.s 182) (.s 183)),o1 7 185 (.pick (.s 181) (.s 184) (kB false))] [185,2,1,20,0,18,24,3,4])
  (.cond (.s 185) (rG 0 [mS 0 186 0,mS 1 187 20,mS 2 188 2,mS 3 189 24,mS 4 190 4,⟨5,(some 191),none,.call ⟨false⟩ (.k (.c (.fn 246 [] []))) [(.s 186),(.s 187),(.s 188),(.s 189),(.s 190)]⟩] [1,20,0,18,24,3,4])
  .skip))
  (sQ (sQ (rG 0 [mS 0 192 1,mS 1 193 20,bS 2 194 .lss 192 193,mS 3 195 194,oG 4 196 195 true (.mv (.s 20)),oG 5 197 195 true (.mv (.s 18)),oG 6 198 195 true (.bin .lss (.s 196) (.s 197)),o1 7 199 (.pick (.s 195) (.s 198) (kB false))] [199,1,20,0,18,24,3,4])
  (.cond (.s 199) (rG 0 [mS 0 200 0,mS 1 201 1,mS 2 202 20,mS 3 203 18,mS 4 204 4,⟨5,(some 205),none,.call ⟨false⟩ (.k (.c (.fn 242 [] []))) [(.s 200),(.s 201),(.s 202),(.s 203),(.s 204)]⟩] [0,18,24,3,4])
  .skip))
  (sQ (rG 0 [mS 0 206 18,mS 1 207 24,bS 2 208 .lss 206 207,mS 3 209 208,oG 4 210 209 true (.mv (.s 24)),oG 5 211 209 true (.mv (.s 3)),oG 6 212 209 true (.bin .lss (.s 210) (.s 211)),o1 7 213 (.pick (.s 209) (.s 212) (kB false))] [213,0,18,24,3,4])
  (.cond (.s 213) (rG 0 [mS 0 214 0,mS 1 215 18,mS 2 216 24,mS 3 217 3,mS 4 218 4,⟨5,(some 219),none,.call ⟨false⟩ (.k (.c (.fn 242 [] []))) [(.s 214),(.s 215),(.s 216),(.s 217),(.s 218)]⟩] [])
  .skip))))))))))))) }
abbrev f_math_bits_TrailingZeros32 : Nat := 243
def c_math_bits_TrailingZeros32 : CFn := { frz := true,rnd := none,nargs := 1,ntmps := 14,res := [(.slot 2)],code :=
  (sQ (rG 0 [mI 0 2 0] [0])
  (sQ (sQ (rG 0 [mS 0 3 0,o1 1 4 (.bin .eql (.s 3) (.k (.c (.int .u32 0))))] [4,0])
  (.cond (.s 4) (sQ (rG 0 [mI 0 2 32] [2])
  .ret)
  .skip))
  (sQ (rG 0 [mS 0 5 0,mS 1 6 0,o1 2 7 (.un .neg (.s 6)),bS 3 8 .and 5 7,o1 4 9 (.bin .mul (.s 8) (.k (.c (.int .u32 125613361)))),o1 5 10 (.bin .shr (.s 9) (.k (.c (.int .u64 27)))),o1 6 11 (.bad),lF 7 12 11,o1 8 13 (.conv .i64 (.s 12)),mS 9 2 13] [2])
  .ret))) }
abbrev f_math_bits_TrailingZeros64 : Nat := 244
def c_math_bits_TrailingZeros64 : CFn := { frz := true,rnd := none,nargs := 1,ntmps := 14,res := [(.slot 2)],code :=
  (sQ (rG 0 [mI 0 2 0] [0])
  (sQ (sQ (rG 0 [mS 0 3 0,o1 1 4 (.bin .eql (.s 3) (.k (.c (.int .u64 0))))] [4,0])
  (.cond (.s 4) (sQ (rG 0 [mI 0 2 64] [2])
  .ret)
  .skip))
  (sQ (rG 0 [mS 0 5 0,mS 1 6 0,o1 2 7 (.un .neg (.s 6)),bS 3 8 .and 5 7,o1 4 9 (.bin .mul (.s 8) (.k (.c (.int .u64 285870213051353865)))),o1 5 10 (.bin .shr (.s 9) (.k (.c (.int .u64 58)))),o1 6 11 (.bad),lF 7 12 11,o1 8 13 (.conv .i64 (.s 12)),mS 9 2 13] [2])
  .ret))) }
abbrev f_curve_pieces : Nat := 245
def c_curve_pieces : CFn := { frz := true,rnd := none,nargs := 1,ntmps := 4,res := [(.slot 2)],code :=
  (sQ (rG 1 [o1 0 1 (.box 0 1 (.s 0)),o1 1 2 (.mv (.k (.c .nilfn)))] [1])
  (sQ (rG 0 [o1 0 3 (.mkfn 247 [] [(.s 1)]),mS 1 2 3] [2])
  .ret)) }
def c_slices_rotateCmpFunc_Pass_l1 : CC := (sQ (sQ (rG 0 [mS 0 18 10,mS 1 19 11,bS 2 20 .neq 18 19] [20,10,0,2,4,11])
  (.cond (.s 20) .skip
  (.exit 0)))
  (.block 1 (sQ (rG 0 [mS 0 21 10,mS 1 22 11,bS 2 23 .gtr 21 22] [23,10,0,2,4,11])
  (.cond (.s 23) (sQ (rG 0 [mS 0 24 0,mS 1 25 2,mS 2 26 10,bS 3 27 .sub 25 26,mS 4 28 2,mS 5 29 11,mS 6 30 4,⟨7,(some 31),none,.call ⟨false⟩ (.k (.c (.fn 248 [] []))) [(.s 24),(.s 27),(.s 28),(.s 29),(.s 30)]⟩] [10,0,2,4,11])
  (rG 0 [mS 0 32 10,mS 1 33 11,bS 2 34 .sub 32 33,mS 3 10 34] [10,0,2,4,11]))
  (sQ (rG 0 [mS 0 35 0,mS 1 36 2,mS 2 37 10,bS 3 38 .sub 36 37,mS 4 39 2,mS 5 40 11,bS 6 41 .add 39 40,mS 7 42 10,bS 8 43 .sub 41 42,mS 9 44 10,mS 10 45 4,⟨11,(some 46),none,.call ⟨false⟩ (.k (.c (.fn 248 [] []))) [(.s 35),(.s 38),(.s 43),(.s 44),(.s 45)]⟩] [11,10,0,2,4])
  (rG 0 [mS 0 47 11,mS 1 48 10,bS 2 49 .sub 47 48,mS 3 11 49] [10,0,2,4,11]))))))
abbrev f_slices_rotateCmpFunc_Pass : Nat := 246
def c_slices_rotateCmpFunc_Pass : CFn := { frz := true,rnd := none,nargs := 5,ntmps := 58,res := [],code :=
  (sQ (rG 0 [mS 0 12 2,mS 1 13 1,bS 2 14 .sub 12 13,mS 3 10 14] [3,10,0,2,4])
  (sQ (rG 0 [mS 0 15 3,mS 1 16 2,bS 2 17 .sub 15 16,mS 3 11 17] [10,0,2,4,11])
  (sQ (.block 0 (.loop (some [10,0,2,4,11]) c_slices_rotateCmpFunc_Pass_l1))
  (rG 0 [mS 0 50 0,mS 1 51 2,mS 2 52 10,bS 3 53 .sub 51 52,mS 4 54 2,mS 5 55 10,mS 6 56 4,⟨7,(some 57),none,.call ⟨false⟩ (.k (.c (.fn 248 [] []))) [(.s 50),(.s 53),(.s 54),(.s 55),(.s 56)]⟩] [])))) }
def c_curve_pieces_1_l1 : CC := (sQ (rG 0 [bS 0 13 .lss 12 11] [13,1,0,11,12,3])
  (sQ (.cond (.s 13) .skip
  (.exit 0))
  (sQ (.block 1 (sQ (rG 0 [mS 0 14 12,mS 1 4 14] [4,1,0,11,12,3])
  (sQ (.region 1 [fA 0 15 0 1,mS 2 17 4,fA 5 20 0 1,mS 7 22 4,bI 8 23 .add 22 1,lF 1 16 15,iA 3 18 2 16 17,lT 4 19 2 18,lF 6 21 20,iA 9 24 2 21 23,lT 10 25 2 24,cA 11 26 222 [(.s 19),(.s 25)],o1 12 5 (.box 0 2 (.k (.a [(I 0),(I 0)]))),o0 13 (.store 2 (.s 5) (.s 26))] [(5,12),(7,12),(8,12),(10,12),(11,12)] (some [4,5,1,0,11,12,3]))
  (sQ (rG 0 [lT 0 28 2 5,lT 1 29 2 5,cA 2 30 224 [(.s 28),(.s 29)],cA 3 31 223 [(.s 30)],mS 4 27 31,eX 5 32 27 0,eX 6 33 27 1,mS 7 6 32,mS 8 7 33] [4,5,1,0,11,12,6,3])
  (sQ (sQ (rG 0 [mS 0 34 0,mS 1 35 4,fA 2 36 0 1,mS 4 38 4,mS 8 42 6,mS 9 43 3,lF 3 37 36,iA 5 39 2 37 38,lT 6 40 2 39,lT 7 41 2 5,o1 10 44 (.build [(I 0),(I 0),(I 0),(I 0),(I 0),(I 0)] [(0,2,(.s 40)),(2,2,(.s 41)),(4,1,(.s 42)),(5,1,(.s 43))]),⟨11,(some 45),none,.call ⟨true⟩ (.s 34) [(.s 35),(.s 44)]⟩,o1 12 46 (.un .not (.s 45))] [46,1,0,11,12,6,3])
  (.cond (.s 46) .ret
  .skip))
  (rG 0 [mS 0 47 3,mS 1 48 6,bS 2 49 .add 47 48,mS 3 3 49] [12,11,0,1,3]))))))
  (rG 0 [bI 0 50 .add 12 1,mS 1 12 50] [11,0,1,12,3]))))
abbrev f_curve_pieces_1 : Nat := 247
def c_curve_pieces_1 : CFn := { frz := true,rnd := none,nargs := 2,ntmps := 51,res := [],code :=
  (sQ (rG 0 [mI 0 3 0] [0,1,3])
  (sQ (rG 0 [fA 0 8 0 1,lF 1 9 8,lN 2 10 9,bI 3 11 .sub 10 1,mI 4 12 0] [11,0,1,12,3])
  (.block 0 (.loop (some [11,0,1,12,3]) c_curve_pieces_1_l1)))) }
def c_slices_swapRangeCmpFunc_Pass_l1 : CC := (sQ (sQ (rG 0 [mS 0 11 10,mS 1 12 3,bS 2 13 .lss 11 12] [13,10,3,2,0,1])
  (.cond (.s 13) .skip
  (.exit 0)))
  (sQ (.block 1 (rG 0 [mS 0 16 0,mS 1 17 1,mS 2 18 10,bS 3 19 .add 17 18,mS 4 20 0,mS 5 21 2,mS 6 22 10,bS 7 23 .add 21 22,mS 8 24 0,mS 9 25 2,mS 10 26 10,bS 11 27 .add 25 26,iA 12 28 4 24 27,mS 14 30 0,mS 15 31 1,mS 16 32 10,bS 17 33 .add 31 32,iA 18 34 4 30 33,lT 13 29 4 28,lT 19 35 4 34,iA 20 36 4 16 19,o0 21 (.store 4 (.s 36) (.s 29)),iA 22 37 4 20 23,o0 23 (.store 4 (.s 37) (.s 35))] [10,3,2,0,1]))
  (rG 0 [mS 0 14 10,bI 1 15 .add 14 1,mS 2 10 15] [10,3,2,0,1])))
abbrev f_slices_swapRangeCmpFunc_Pass : Nat := 248
def c_slices_swapRangeCmpFunc_Pass : CFn := { frz := true,rnd := none,nargs := 5,ntmps := 38,res := [],code :=
  (sQ (rG 0 [mI 0 10 0] [10,3,2,0,1])
  (.block 0 (.loop (some [10,3,2,0,1]) c_slices_swapRangeCmpFunc_Pass_l1))) }
def Cs : List (Nat × Nat × Nat × Bool) := [(32,1,8,false),(43,0,0,false),(87,4,32,false),(88,2,32,false),(132,4,32,false),(170,2,16,false)]
def L : List (Nat × CFn) := [(5,c_kerbstonelaw10_LabFails),(6,c_kerbstonelaw10_LabCovers),(9,c_kerbstonelaw10_awake),(15,c_lab_Fails),(16,c_kerbstoneref10_Fails),(17,c_kerbstonekit_SameInts),(18,c_lab_Situations),(19,c_kerbstoneref10_Situations),(20,c_lab_Cover),(21,c_kerbstoneref10_Cover),(22,c_kerbstonekit_SameFrames),(23,c_kerbstonekit_HasInt),(24,c_lab_Text),(25,c_kerbstonelaw10_shown),(26,c_kerbstonelaw10_text),(29,c_roads_Copy),(40,c_lab_fails),(41,c_kerbstoneref10_bad),(42,c_lab_situation),(44,c_slices_Compact_int),(45,c_kerbstoneref10_situation),(46,c_lab_Check),(47,c_lab_text),(48,c_kerbstonekit_Cross),(52,c_roads_each_Lane),(53,c_roads_ownLane),(54,c_roads_each_Zone),(55,c_roads_ownZone),(56,c_roads_each_Signal),(57,c_roads_ownSignal),(58,c_roads_each_Work),(59,c_roads_ownWork),(69,c_lab_fails_1),(70,c_lab_fails_2),(71,c_lab_fails_3),(72,c_lab_fails_4),(73,c_lab_fails_5),(76,c_lab_within),(77,c_world_New),(78,c_drive_CheckSetup),(79,c_lab_setup),(80,c_lab_checkEvent),(81,c_lab_row),(82,c_lab_one),(83,c_kerbstonekit_road),(86,c_curve_Copy),(106,c_math_bits_Len64),(107,c_world_Copy),(108,c_world_Check),(109,c_slices_ContainsFunc_Agent),(110,c_world_New_1),(111,c_world_scene_stays),(112,c_world_scene_pairs),(113,c_world_Touching),(114,c_world_scene_clash),(115,c_roads_Check),(116,c_roads_Fit),(117,c_roads_CheckRoute),(118,c_plan_CheckCar),(119,c_drive_parked),(120,c_lab_ranges),(121,c_strconv_FormatInt),(122,c_curve_through),(131,c_cmp_isNaN_int),(133,c_world_ownAgent),(134,c_world_checkAgent),(135,c_world_order),(136,c_slices_ContainsFunc_Stay),(137,c_world_Check_1),(138,c_slices_IndexFunc_Agent),(139,c_world_scene_present),(140,c_slices_BinarySearchFunc_Stay),(141,c_world_Rank),(142,c_world_scene_pairs_1),(143,c_world_There),(144,c_world_Body),(145,c_slices_ContainsFunc_Span),(146,c_world_Touching_1),(147,c_world_Touching_1_1),(148,c_world_span_and),(149,c_world_span_empty),(150,c_world_entry),(151,c_roads_check_numbers),(152,c_roads_check_lanes),(153,c_roads_check_joints),(154,c_roads_check_signals),(155,c_roads_check_zones),(156,c_roads_check_works),(157,c_roads_merges),(158,c_roads_chains),(159,c_roads_ranks),(160,c_roads_greens),(161,c_roads_before),(162,c_slices_Contains_int),(163,c_plan_within),(164,c_roads_RouteLength),(165,c_roads_Passes),(166,c_drive_parked_1),(167,c_slices_ContainsFunc_Pass),(168,c_slices_IndexFunc_Pass),(169,c_internal_strconv_FormatInt),(172,c_world_lane),(173,c_roads_Bounds),(174,c_world_left),(175,c_cmp_Or_int),(176,c_cmp_Compare_int),(177,c_slices_IndexFunc_Stay),(178,c_world_Present),(179,c_roads_Green),(180,c_slices_IndexFunc_Part),(181,c_world_Rank_1),(182,c_world_sane),(183,c_roads_Starts),(184,c_world_body),(185,c_world_span_less),(186,c_roads_Length),(187,c_slices_IndexFunc_Span),(188,c_roads_Entry),(189,c_roads_within),(190,c_curve_Check),(191,c_roads_rising),(192,c_slices_ContainsFunc_Phase),(193,c_roads_check_signals_1),(194,c_roads_check_signals_2),(195,c_roads_long),(196,c_slices_ContainsFunc_Zone),(197,c_roads_merges_1),(198,c_roads_closed),(199,c_slices_ContainsFunc_int),(200,c_roads_merges_1_1),(201,c_roads_entry),(202,c_roads_pairs),(203,c_roads_ranks_1),(204,c_roads_part),(205,c_roads_greens_1),(206,c_roads_greens_1_1),(207,c_slices_Index_int),(208,c_roads_follow),(209,c_slices_SortStableFunc_Pass),(210,c_roads_Passes_1),(211,c_cmp_Compare_int64),(212,c_internal_strconv_small),(213,c_internal_strconv_numDigits),(214,c_internal_strconv_formatBase10),(215,c_internal_strconv_formatBits),(216,c_world_Present_1),(217,c_roads_is),(218,c_signs_Green),(219,c_slices_IndexFunc_int),(220,c_roads_Entry_1),(221,c_curve_fair),(222,c_curve_from),(223,c_curve_root),(224,c_curve_vector_dot),(225,c_slices_IndexFunc_Phase),(226,c_curve_Length),(227,c_slices_IndexFunc_Zone),(228,c_roads_reach),(229,c_slices_ContainsFunc_Part),(230,c_roads_entry_1),(231,c_roads_set_has),(232,c_roads_entries),(233,c_roads_part_1),(234,c_slices_stableCmpFunc_Pass),(235,c_cmp_isNaN_int64),(236,c_internal_strconv_log10Pow2),(237,c_internal_strconv_bool2_int),(238,c_internal_strconv_isPowerOfTwo),(239,c_math_bits_TrailingZeros),(240,c_curve_Pieces),(241,c_slices_insertionSortCmpFunc_Pass),(242,c_slices_symMergeCmpFunc_Pass),(243,c_math_bits_TrailingZeros32),(244,c_math_bits_TrailingZeros64),(245,c_curve_pieces),(246,c_slices_rotateCmpFunc_Pass),(247,c_curve_pieces_1),(248,c_slices_swapRangeCmpFunc_Pass),(1506,c_world_New_r1),(4114,c_curve_Pieces_r1)]
def tree : Tr := (.node (.node (.node (.node (.node (.node (.node (.node .leaf 5 c_kerbstonelaw10_LabFails .leaf) 6 c_kerbstonelaw10_LabCovers .leaf) 9 c_kerbstonelaw10_awake (.node (.node .leaf 15 c_lab_Fails .leaf) 16 c_kerbstoneref10_Fails .leaf)) 17 c_kerbstonekit_SameInts (.node (.node (.node .leaf 18 c_lab_Situations .leaf) 19 c_kerbstoneref10_Situations .leaf) 20 c_lab_Cover (.node (.node .leaf 21 c_kerbstoneref10_Cover .leaf) 22 c_kerbstonekit_SameFrames .leaf))) 23 c_kerbstonekit_HasInt (.node (.node (.node (.node .leaf 24 c_lab_Text .leaf) 25 c_kerbstonelaw10_shown .leaf) 26 c_kerbstonelaw10_text (.node (.node .leaf 29 c_roads_Copy .leaf) 40 c_lab_fails .leaf)) 41 c_kerbstoneref10_bad (.node (.node (.node .leaf 42 c_lab_situation .leaf) 44 c_slices_Compact_int .leaf) 45 c_kerbstoneref10_situation (.node .leaf 46 c_lab_Check .leaf)))) 47 c_lab_text (.node (.node (.node (.node (.node .leaf 48 c_kerbstonekit_Cross .leaf) 52 c_roads_each_Lane .leaf) 53 c_roads_ownLane (.node (.node .leaf 54 c_roads_each_Zone .leaf) 55 c_roads_ownZone .leaf)) 56 c_roads_each_Signal (.node (.node (.node .leaf 57 c_roads_ownSignal .leaf) 58 c_roads_each_Work .leaf) 59 c_roads_ownWork (.node (.node .leaf 69 c_lab_fails_1 .leaf) 70 c_lab_fails_2 .leaf))) 71 c_lab_fails_3 (.node (.node (.node (.node .leaf 72 c_lab_fails_4 .leaf) 73 c_lab_fails_5 .leaf) 76 c_lab_within (.node (.node .leaf 77 c_world_New .leaf) 78 c_drive_CheckSetup .leaf)) 79 c_lab_setup (.node (.node (.node .leaf 80 c_lab_checkEvent .leaf) 81 c_lab_row .leaf) 82 c_lab_one (.node .leaf 83 c_kerbstonekit_road .leaf))))) 86 c_curve_Copy (.node (.node (.node (.node (.node (.node .leaf 106 c_math_bits_Len64 .leaf) 107 c_world_Copy .leaf) 108 c_world_Check (.node (.node .leaf 109 c_slices_ContainsFunc_Agent .leaf) 110 c_world_New_1 .leaf)) 111 c_world_scene_stays (.node (.node (.node .leaf 112 c_world_scene_pairs .leaf) 113 c_world_Touching .leaf) 114 c_world_scene_clash (.node (.node .leaf 115 c_roads_Check .leaf) 116 c_roads_Fit .leaf))) 117 c_roads_CheckRoute (.node (.node (.node (.node .leaf 118 c_plan_CheckCar .leaf) 119 c_drive_parked .leaf) 120 c_lab_ranges (.node (.node .leaf 121 c_strconv_FormatInt .leaf) 122 c_curve_through .leaf)) 131 c_cmp_isNaN_int (.node (.node (.node .leaf 133 c_world_ownAgent .leaf) 134 c_world_checkAgent .leaf) 135 c_world_order (.node .leaf 136 c_slices_ContainsFunc_Stay .leaf)))) 137 c_world_Check_1 (.node (.node (.node (.node (.node .leaf 138 c_slices_IndexFunc_Agent .leaf) 139 c_world_scene_present .leaf) 140 c_slices_BinarySearchFunc_Stay (.node (.node .leaf 141 c_world_Rank .leaf) 142 c_world_scene_pairs_1 .leaf)) 143 c_world_There (.node (.node (.node .leaf 144 c_world_Body .leaf) 145 c_slices_ContainsFunc_Span .leaf) 146 c_world_Touching_1 (.node .leaf 147 c_world_Touching_1_1 .leaf))) 148 c_world_span_and (.node (.node (.node (.node .leaf 149 c_world_span_empty .leaf) 150 c_world_entry .leaf) 151 c_roads_check_numbers (.node (.node .leaf 152 c_roads_check_lanes .leaf) 153 c_roads_check_joints .leaf)) 154 c_roads_check_signals (.node (.node (.node .leaf 155 c_roads_check_zones .leaf) 156 c_roads_check_works .leaf) 157 c_roads_merges (.node .leaf 158 c_roads_chains .leaf)))))) 159 c_roads_ranks (.node (.node (.node (.node (.node (.node (.node .leaf 160 c_roads_greens .leaf) 161 c_roads_before .leaf) 162 c_slices_Contains_int (.node (.node .leaf 163 c_plan_within .leaf) 164 c_roads_RouteLength .leaf)) 165 c_roads_Passes (.node (.node (.node .leaf 166 c_drive_parked_1 .leaf) 167 c_slices_ContainsFunc_Pass .leaf) 168 c_slices_IndexFunc_Pass (.node (.node .leaf 169 c_internal_strconv_FormatInt .leaf) 172 c_world_lane .leaf))) 173 c_roads_Bounds (.node (.node (.node (.node .leaf 174 c_world_left .leaf) 175 c_cmp_Or_int .leaf) 176 c_cmp_Compare_int (.node (.node .leaf 177 c_slices_IndexFunc_Stay .leaf) 178 c_world_Present .leaf)) 179 c_roads_Green (.node (.node (.node .leaf 180 c_slices_IndexFunc_Part .leaf) 181 c_world_Rank_1 .leaf) 182 c_world_sane (.node .leaf 183 c_roads_Starts .leaf)))) 184 c_world_body (.node (.node (.node (.node (.node .leaf 185 c_world_span_less .leaf) 186 c_roads_Length .leaf) 187 c_slices_IndexFunc_Span (.node (.node .leaf 188 c_roads_Entry .leaf) 189 c_roads_within .leaf)) 190 c_curve_Check (.node (.node (.node .leaf 191 c_roads_rising .leaf) 192 c_slices_ContainsFunc_Phase .leaf) 193 c_roads_check_signals_1 (.node .leaf 194 c_roads_check_signals_2 .leaf))) 195 c_roads_long (.node (.node (.node (.node .leaf 196 c_slices_ContainsFunc_Zone .leaf) 197 c_roads_merges_1 .leaf) 198 c_roads_closed (.node (.node .leaf 199 c_slices_ContainsFunc_int .leaf) 200 c_roads_merges_1_1 .leaf)) 201 c_roads_entry (.node (.node (.node .leaf 202 c_roads_pairs .leaf) 203 c_roads_ranks_1 .leaf) 204 c_roads_part (.node .leaf 205 c_roads_greens_1 .leaf))))) 206 c_roads_greens_1_1 (.node (.node (.node (.node (.node (.node .leaf 207 c_slices_Index_int .leaf) 208 c_roads_follow .leaf) 209 c_slices_SortStableFunc_Pass (.node (.node .leaf 210 c_roads_Passes_1 .leaf) 211 c_cmp_Compare_int64 .leaf)) 212 c_internal_strconv_small (.node (.node (.node .leaf 213 c_internal_strconv_numDigits .leaf) 214 c_internal_strconv_formatBase10 .leaf) 215 c_internal_strconv_formatBits (.node (.node .leaf 216 c_world_Present_1 .leaf) 217 c_roads_is .leaf))) 218 c_signs_Green (.node (.node (.node (.node .leaf 219 c_slices_IndexFunc_int .leaf) 220 c_roads_Entry_1 .leaf) 221 c_curve_fair (.node (.node .leaf 222 c_curve_from .leaf) 223 c_curve_root .leaf)) 224 c_curve_vector_dot (.node (.node (.node .leaf 225 c_slices_IndexFunc_Phase .leaf) 226 c_curve_Length .leaf) 227 c_slices_IndexFunc_Zone (.node .leaf 228 c_roads_reach .leaf)))) 229 c_slices_ContainsFunc_Part (.node (.node (.node (.node (.node .leaf 230 c_roads_entry_1 .leaf) 231 c_roads_set_has .leaf) 232 c_roads_entries (.node (.node .leaf 233 c_roads_part_1 .leaf) 234 c_slices_stableCmpFunc_Pass .leaf)) 235 c_cmp_isNaN_int64 (.node (.node (.node .leaf 236 c_internal_strconv_log10Pow2 .leaf) 237 c_internal_strconv_bool2_int .leaf) 238 c_internal_strconv_isPowerOfTwo (.node .leaf 239 c_math_bits_TrailingZeros .leaf))) 240 c_curve_Pieces (.node (.node (.node (.node .leaf 241 c_slices_insertionSortCmpFunc_Pass .leaf) 242 c_slices_symMergeCmpFunc_Pass .leaf) 243 c_math_bits_TrailingZeros32 (.node (.node .leaf 244 c_math_bits_TrailingZeros64 .leaf) 245 c_curve_pieces .leaf)) 246 c_slices_rotateCmpFunc_Pass (.node (.node (.node .leaf 247 c_curve_pieces_1 .leaf) 248 c_slices_swapRangeCmpFunc_Pass .leaf) 1506 c_world_New_r1 (.node .leaf 4114 c_curve_Pieces_r1 .leaf)))))))
theorem tree_eq : tree.list = L := by kernel_rfl
theorem L_nodup : nodupB (L.map (·.1)) = true := by kernel_rfl
theorem Cs_none : (Cs.all fun c => (L.lookup c.1).isNone) = true := by kernel_rfl

end Go.LbRun
