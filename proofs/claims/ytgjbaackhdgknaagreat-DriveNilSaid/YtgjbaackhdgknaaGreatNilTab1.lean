/- This text lists functions of this seat's program, compiled for the evaluator; no condition. -/
import Derived.Test.YtgjbaackhdgknaaGreatEwl3
import Derived.KernelRfl
set_option linter.unusedVariables false
namespace Go.NilRun
open Go Go.Eng
def an : Ann := anOf [89,133,149,175,202,205,206,207,216,217,226,242,244,246,249,250,251,252,253,254,256,257,263,267,272,273,274,275,276,277,278,279,280,281,282,285,286,289,291,292,293,294,295,296,297,298,299,300,301,302,303,304,307,308,309,310,311,312,313] [29,58,64,89,92,93,94,95,148,157,158,205,206,244,261,272]
def c_kerbstonelaw08_DriveNil_l1 : CC := (sQ (sQ (rG 0 [mS 0 11 4,mS 1 12 3,lN 2 13 12,bS 3 14 .lss 11 13] [14,0,3,4])
  (.cond (.s 14) .skip
  (.exit 0)))
  (sQ (.block 1 (sQ (rG 0 [mS 0 17 3,mS 1 18 4,iA 2 19 1 17 18,lF 3 20 19,mS 4 5 20] [5,0,3,4])
  (sQ (rG 0 [mS 0 22 5,mS 1 23 0,o1 2 24 (.build [(I 0),.nilslice,.nilslice,.nilslice] [(0,1,(.s 23))]),cA 3 25 17 [(.s 22),(.s 24)],mS 4 21 25,eX 5 26 21 0,eX 6 27 21 1,mS 7 6 26,mS 8 7 27] [6,7,5,0,3,4])
  (sQ (rG 0 [mS 0 28 6,bI 1 29 .neq 28 0,mS 2 30 29,oG 3 31 30 false (.mv (.s 7)),oG 4 32 30 false (.bin .neq (.s 31) (kI 1)),o1 5 33 (.pick (.s 30) (kB true) (.s 32)),mS 6 34 33,oG 7 35 34 false (.mv (.s 5)),⟨8,(some 36),(some (34,false)),.call ⟨true⟩ (.k (.c (.fn 19 [] []))) [(.s 35)]⟩,oG 9 37 34 false (.bin .neq (.s 36) (kI 1)),o1 10 38 (.pick (.s 34) (kB true) (.s 37)),mS 11 39 38,oG 12 40 39 false (.mv (.s 5)),⟨13,(some 41),(some (39,false)),.call ⟨true⟩ (.k (.c (.fn 20 [] []))) [(.s 40)]⟩,oG 14 42 39 false (.bin .neq (.s 41) (kI 0)),o1 15 43 (.pick (.s 39) (kB true) (.s 42)),mS 16 44 43,oG 17 45 44 false (.mv (.s 5)),⟨18,(some 46),(some (44,false)),.call ⟨true⟩ (.k (.c (.fn 13 [] []))) [(.s 45)]⟩,oG 19 47 44 false (.bin .neq (.s 46) (kI 0)),o1 20 48 (.pick (.s 44) (kB true) (.s 47)),mS 21 49 48,oG 22 50 49 false (.mv (.s 5)),⟨23,(some 51),(some (49,false)),.call ⟨true⟩ (.k (.c (.fn 15 [] []))) [(.s 50)]⟩,oG 24 52 49 false (.field false 0 1 (.s 51)),oG 25 53 49 false (.len (.s 52)),oG 26 54 49 false (.bin .neq (.s 53) (kI 0)),o1 27 55 (.pick (.s 49) (kB true) (.s 54)),mS 28 56 55,oG 29 57 56 false (.mv (.s 5)),⟨30,(some 58),(some (56,false)),.call ⟨true⟩ (.k (.c (.fn 22 [] []))) [(.s 57)]⟩,oG 31 59 56 false (.build [(I 0),.nilslice,(I 0),(I 0),(I 0),(I 0)] []),⟨32,(some 60),(some (56,false)),.call ⟨true⟩ (.k (.c (.fn 21 [] []))) [(.s 58),(.s 59)]⟩,oG 33 61 56 false (.un .not (.s 60)),o1 34 62 (.pick (.s 56) (kB true) (.s 61)),mS 35 63 62,oG 36 64 63 false (.mv (.s 5)),⟨37,(some 65),(some (63,false)),.call ⟨true⟩ (.k (.c (.fn 16 [] []))) [(.s 64)]⟩,oG 38 66 63 false (.build [(.bool false),(I 0),(I 0)] []),oG 39 67 63 false (.eqa true [true,false,false] (.s 65) (.s 66)),o1 40 68 (.pick (.s 63) (kB true) (.s 67)),mS 41 69 68,oG 42 70 69 false (.mv (.s 5)),⟨43,(some 71),(some (69,false)),.call ⟨true⟩ (.k (.c (.fn 18 [] []))) [(.s 70)]⟩,oG 44 72 69 false (.bin .neq (.s 71) (kI 0)),o1 45 73 (.pick (.s 69) (kB true) (.s 72)),mS 46 74 73,oG 47 75 74 false (.mv (.s 5)),⟨48,(some 76),(some (74,false)),.call ⟨true⟩ (.k (.c (.fn 23 [] []))) [(.s 75)]⟩,⟨49,(some 77),(some (74,false)),.p2 (.str .neq) (.s 76) (.k (.c (.str ⟨#[]⟩)))⟩,o1 50 78 (.pick (.s 74) (kB true) (.s 77)),mS 51 79 78,oG 52 80 79 false (.mv (.s 5)),⟨53,(some 81),(some (79,false)),.call ⟨true⟩ (.k (.c (.fn 24 [] []))) [(.s 80)]⟩,oG 54 82 79 false (.isnil true (.s 81)),o1 55 83 (.pick (.s 79) (kB true) (.s 82)),mS 56 84 83,oG 57 85 84 false (.mv (.s 5)),oG 58 86 84 false (.mv (.s 5)),⟨59,(some 87),(some (84,false)),.call ⟨true⟩ (.k (.c (.fn 25 [] []))) [(.s 85),(.s 86)]⟩,o1 60 88 (.pick (.s 84) (kB true) (.s 87)),mS 61 89 88,oG 62 90 89 false (.mv (.s 5)),⟨63,(some 91),(some (89,false)),.call ⟨true⟩ (.k (.c (.fn 27 [] []))) [(.s 90)]⟩,oG 64 92 89 false (.build [(I 0),.nilslice,.nilslice,.nilslice,.nilslice,.nilslice,(I 0),(I 0),(I 0),(I 0),(I 0),(I 0),(I 0),(I 0),(I 0),(I 0),(I 0),(I 0),(.bool false)] []),⟨65,(some 93),(some (89,false)),.call ⟨true⟩ (.k (.c (.fn 26 [] []))) [(.s 91),(.s 92)]⟩,oG 66 94 89 false (.un .not (.s 93)),o1 67 95 (.pick (.s 89) (kB true) (.s 94))] [95,0,3,4])
  (.cond (.s 95) (sQ (rG 0 [mB 0 2 false] [2])
  .ret)
  .skip)))))
  (rG 0 [mS 0 15 4,bI 1 16 .add 15 1,mS 2 4 16] [3,0,4])))
abbrev f_kerbstonelaw08_DriveNil : Nat := 5
def c_kerbstonelaw08_DriveNil : CFn := { frz := true,rnd := none,nargs := 1,ntmps := 97,res := [(.slot 2)],code :=
  (sQ (rG 0 [mB 0 2 false] [0])
  (sQ (rG 2 [o1 0 8 (.build [(I 0),.nilslice,.nilslice,.nilslice,.nilslice,.nilslice,(I 0),(I 0),(I 0),(I 0),(I 0),(I 0),(I 0),(I 0),(I 0),(I 0),(I 0),(I 0),(.bool false),(I 0),.nilslice,.nilslice,.nilslice,.nilslice,.nilslice,.nilslice,(I 0),(I 0),.nilslice,.nilslice,(I 0),(I 0),(I 0),(I 0),.nilslice,.nilptr,.nilmap,(I 0),.nilslice,(I 0),.nilslice,(I 0),(I 0),(I 0),(I 0),(I 0)] []),o1 1 9 (.box 0 46 (.s 8)),o1 2 10 (.mlay .litf 1 [(.k (.c .nilptr)),(.s 9)]),mS 3 3 10] [3,0])
  (sQ (sQ (rG 0 [mI 0 4 0] [3,0,4])
  (.block 0 (.loop (some [3,0,4]) c_kerbstonelaw08_DriveNil_l1)))
  (sQ (rG 0 [cA 0 96 6 [],mS 1 2 96] [2])
  .ret)))) }
abbrev f_kerbstonelaw08_awake : Nat := 6
def c_kerbstonelaw08_awake : CFn := { frz := true,rnd := none,nargs := 0,ntmps := 46,res := [(.slot 0)],code :=
  (sQ (rG 0 [mB 0 0 false] [])
  (sQ (rG 0 [cA 0 5 10 [],cA 1 6 11 [(.s 5)],mS 2 4 6,eX 3 7 4 0,eX 4 8 4 1,mS 5 1 7,mS 6 2 8] [2,1])
  (sQ (sQ (rG 0 [mS 0 9 2,bI 1 10 .neq 9 0,mS 2 11 10,oG 3 12 11 false (.mv (.s 1)),oG 4 13 11 false (.isnil false (.s 12)),o1 5 14 (.pick (.s 11) (kB true) (.s 13))] [14,1])
  (.cond (.s 14) (sQ (rG 0 [mB 0 0 false] [0])
  .ret)
  .skip))
  (sQ (rG 2 [mS 0 16 1,o1 1 17 (.build [(I 0),(I 0),(I 0)] [(2,1,(kI 60000))]),o1 2 18 (.lit 0 3 [[(I 0),(I 0),(I 0)]] [(0,(.s 17))]),o1 3 19 (.build [(I 0),.nilslice,.nilslice] [(1,1,(.s 18))]),o1 4 20 (.lit 1 3 [[(I 0),.nilslice,.nilslice]] [(0,(.s 19))]),o1 5 21 (.build [(I 0),.nilslice,.nilslice,.nilslice] [(1,1,(.s 20))]),cA 6 22 17 [(.s 16),(.s 21)],mS 7 15 22,eX 8 23 15 0,eX 9 24 15 1,mS 10 3 23,mS 11 2 24] [2,3,1])
  (sQ (rG 0 [mS 0 25 2,bI 1 26 .eql 25 0,mS 2 27 26,oG 3 28 27 true (.mv (.s 3)),oG 4 29 27 true (.bin .eql (.s 28) (kI 20)),o1 5 30 (.pick (.s 27) (.s 29) (kB false)),mS 6 31 30,oG 7 32 31 true (.mv (.s 1)),⟨8,(some 33),(some (31,true)),.call ⟨true⟩ (.k (.c (.fn 18 [] []))) [(.s 32)]⟩,oG 9 34 31 true (.bin .eql (.s 33) (kI 1)),o1 10 35 (.pick (.s 31) (.s 34) (kB false)),mS 11 36 35,oG 12 37 36 true (.mv (.s 1)),⟨13,(some 38),(some (36,true)),.call ⟨true⟩ (.k (.c (.fn 13 [] []))) [(.s 37)]⟩,oG 14 39 36 true (.bin .eql (.s 38) (kI 1)),o1 15 40 (.pick (.s 36) (.s 39) (kB false)),mS 16 41 40,oG 17 42 41 true (.mv (.s 1)),⟨18,(some 43),(some (41,true)),.call ⟨true⟩ (.k (.c (.fn 20 [] []))) [(.s 42)]⟩,oG 19 44 41 true (.bin .eql (.s 43) (kI 1)),o1 20 45 (.pick (.s 41) (.s 44) (kB false)),mS 21 0 45] [0])
  .ret))))) }
abbrev f_kerbstonelaw08_plain : Nat := 10
def c_kerbstonelaw08_plain : CFn := { frz := true,rnd := none,nargs := 0,ntmps := 13,res := [(.cell 0 true 19)],code :=
  (sQ (rG 1 [o1 0 0 (.box 0 19 (.k (.a [(I 0),.nilslice,.nilslice,.nilslice,.nilslice,.nilslice,(I 0),(I 0),(I 0),(I 0),(I 0),(I 0),(I 0),(I 0),(I 0),(I 0),(I 0),(I 0),(.bool false)])))] [0])
  (sQ (rG 1 [cA 0 2 33 [],o1 1 1 (.box 0 5 (.k (.a [(I 0),.nilslice,.nilslice,.nilslice,.nilslice]))),o0 2 (.store 5 (.s 1) (.s 2))] [1,0])
  (sQ (rG 0 [fA 0 3 1 1,lF 1 4 3,o1 2 5 (.slice 5 (.s 4) none (some (kI 1)) none),fA 3 6 1 1,o0 4 (.store 1 (.s 6) (.s 5)),fA 5 7 2 1,o0 6 (.store 1 (.s 7) (.k (.c .nilslice)))] [1,0])
  (sQ (rG 1 [lT 0 8 5 1,o1 1 9 (.lit 0 1 [[(I 0)]] [(0,(kI 0))]),o1 2 10 (.build [(I 0),(I 0),(I 0),(I 0),(I 0)] [(0,1,(kI 4000)),(1,1,(kI 20)),(2,1,(kI 60)),(3,1,(kI 30))]),o1 3 11 (.build [(I 0),(I 0),(I 0),(I 0)] [(0,1,(kI 10000)),(1,1,(kI 10000))]),o1 4 12 (.build [(I 0),.nilslice,.nilslice,.nilslice,.nilslice,.nilslice,(I 0),(I 0),(I 0),(I 0),(I 0),(I 0),(I 0),(I 0),(I 0),(I 0),(I 0),(I 0),(.bool false)] [(0,5,(.s 8)),(5,1,(.s 9)),(6,5,(.s 10)),(11,4,(.s 11)),(16,1,(kI 8)),(17,1,(kI 5)),(18,1,(kB true))]),o0 5 (.store 19 (.s 0) (.s 12))] [0])
  .ret)))) }
abbrev f_drive_NewNode : Nat := 11
def c_drive_NewNode : CFn := { frz := true,rnd := none,nargs := 1,ntmps := 76,res := [(.slot 2),(.slot 3)],code :=
  (sQ (rG 1 [o1 0 1 (.box 0 19 (.s 0)),o1 1 2 (.mv (.k (.c .nilptr))),mI 2 3 0] [1])
  (sQ (sQ (rG 0 [lT 0 6 19 1,cA 1 7 12 [(.s 6)],mS 2 4 7] [1,4])
  (sQ (rG 0 [mS 0 8 4,bI 1 9 .neq 8 0] [9,1,4])
  (.cond (.s 9) (sQ (rG 0 [mS 0 10 4,o1 1 2 (.mv (.k (.c .nilptr))),mS 2 3 10] [2,3])
  .ret)
  .skip)))
  (sQ (.region 3 [fA 2 13 15 1,fA 4 15 15 1,fA 6 17 15 1,lT 0 11 19 1,lF 3 14 13,lF 5 16 15,lF 7 18 17,cA 1 12 34 [(.s 11)],o1 8 19 (.lit 0 1 [[(I 0)]] [(0,(kI 0))]),o1 9 20 (.build [.nilslice] [(0,1,(.s 19))]),o1 10 21 (.mlay (.mk true) 1 []),o1 11 22 (.build [(I 0),.nilslice,.nilslice,.nilslice,.nilslice,.nilslice,(I 0),(I 0),(I 0),(I 0),(I 0),(I 0),(I 0),(I 0),(I 0),(I 0),(I 0),(I 0),(.bool false),(I 0),.nilslice,.nilslice,.nilslice,.nilslice,.nilslice,.nilslice,(I 0),(I 0),.nilslice,.nilslice,(I 0),(I 0),(I 0),(I 0),.nilslice,.nilptr,.nilmap,(I 0),.nilslice,(I 0),.nilslice,(I 0),(I 0),(I 0),(I 0),(I 0)] [(0,19,(.s 12)),(30,1,(.s 14)),(31,1,(.s 16)),(32,1,(.s 18)),(33,1,(kI 1)),(34,1,(.s 20)),(36,1,(.s 21))]),o1 12 23 (.box 2 46 (.s 22)),mS 13 5 23] [(3,8),(3,10),(4,7),(4,8),(4,10),(5,7),(5,8),(5,10),(6,7),(6,8),(6,10),(7,8),(7,10),(8,10)] (some [1,5]))
  (sQ (rG 0 [mS 0 24 5,mS 1 25 5,nC 2 26 25,fA 3 27 0 26,fA 4 28 0 27,mS 6 30 5,nC 7 31 30,fA 8 32 0 31,fA 9 33 5 32,mS 11 35 5,nC 12 36 35,fA 13 37 0 36,fA 14 38 6 37,fA 15 39 0 38,lT 5 29 5 28,lF 10 34 33,lF 16 40 39,cA 17 41 35 [(.s 29),(.s 34),(.s 40)],nC 18 42 24,fA 19 43 19 42,o0 20 (.store 11 (.s 43) (.s 41))] [1,5])
  (sQ (rG 0 [mS 0 44 5,mS 1 45 5,mS 2 46 5,nC 3 47 46,fA 4 48 0 47,fA 5 49 0 48,fA 7 51 15 1,fA 9 53 11 1,lT 6 50 5 49,lF 8 52 51,lT 10 54 4 53,cA 11 55 37 [(.s 50),(.s 52),(.s 54)],cA 12 56 36 [(.s 45),(.s 55)],nC 13 57 44,fA 14 58 39 57,o0 15 (.store 6 (.s 58) (.s 56))] [5])
  (sQ (rG 1 [mS 0 59 5,mS 1 60 5,nC 2 61 60,fA 3 62 39 61,lT 4 63 6 62,o1 5 64 (.build [(I 0),(I 0),(I 0),(I 0),(I 0),.nilslice,(I 0),.nilslice,(I 0),(I 0),(I 0),(I 0)] [(6,6,(.s 63))]),o1 6 65 (.box 0 12 (.s 64)),nC 7 66 59,fA 8 67 35 66,o0 9 (.store 1 (.s 67) (.s 65))] [5])
  (sQ (rG 0 [mS 0 68 5,mS 1 69 5,nC 2 70 69,fA 3 71 34 70,lT 4 72 1 71,nC 5 73 68,fA 6 74 38 73,o0 7 (.store 1 (.s 74) (.s 72))] [5])
  (sQ (rG 0 [mS 0 75 5,mS 1 2 75,mI 2 3 0] [2,3])
  .ret)))))))) }
abbrev f_drive_CheckSetup : Nat := 12
def c_drive_CheckSetup : CFn := { frz := true,rnd := none,nargs := 1,ntmps := 59,res := [(.slot 2)],code :=
  (sQ (rG 1 [o1 0 1 (.box 0 19 (.s 0)),mI 1 2 0] [1])
  (sQ (sQ (rG 0 [fA 0 4 0 1,lT 1 5 5 4,cA 2 6 38 [(.s 5)],mS 3 3 6] [1,3])
  (sQ (rG 0 [mS 0 7 3,bI 1 8 .neq 7 0] [8,1,3])
  (.cond (.s 8) (sQ (rG 0 [mS 0 9 3,mS 1 2 9] [2])
  .ret)
  .skip)))
  (sQ (sQ (rG 0 [fA 0 10 0 1,lT 1 11 5 10,cA 2 12 39 [(.s 11)],o1 3 13 (.un .not (.s 12))] [13,1])
  (.cond (.s 13) (sQ (rG 0 [mI 0 2 12] [2])
  .ret)
  .skip))
  (sQ (sQ (rG 0 [fA 0 14 0 1,lT 1 15 5 14,fA 2 16 5 1,lF 3 17 16,cA 4 18 40 [(.s 15),(.s 17)],bI 5 19 .neq 18 0] [19,1])
  (.cond (.s 19) (sQ (rG 0 [mI 0 2 13] [2])
  .ret)
  .skip))
  (sQ (.block 0 (sQ (rG 0 [fA 0 21 0 1,fA 1 22 1 21,fA 3 24 5 1,lF 2 23 22,lF 4 25 24,o1 5 26 (.iaddr 1 (.s 25) (kI 0)),lF 6 27 26,iA 7 28 5 23 27,fA 8 29 0 28,lF 9 30 29,bI 10 31 .neq 30 1,mS 11 20 31] [20,1])
  (.cond (.s 20) (sQ (rG 0 [mI 0 2 4] [2])
  .ret)
  (sQ (sQ (rG 0 [fA 0 33 6 1,lT 1 34 5 33,cA 2 35 28 [(.s 34)],bI 3 36 .neq 35 0,mS 4 32 36] [32,1])
  (.cond (.s 32) .skip
  (sQ (rG 0 [fA 0 37 15 1,lF 1 38 37,bI 2 39 .lss 38 0,mS 3 32 39] [32,1])
  (.cond (.s 32) .skip
  (sQ (rG 0 [fA 0 40 15 1,lF 1 41 40,bI 2 42 .gtr 41 1099510627776,mS 3 32 42] [32,1])
  (.cond (.s 32) .skip
  (sQ (rG 0 [fA 0 43 16 1,lF 1 44 43,bI 2 45 .lss 44 0,mS 3 32 45] [32,1])
  (.cond (.s 32) .skip
  (sQ (rG 0 [fA 0 46 16 1,lF 1 47 46,bI 2 48 .gtr 47 8,mS 3 32 48] [32,1])
  (.cond (.s 32) .skip
  (sQ (rG 0 [fA 0 49 17 1,lF 1 50 49,bI 2 51 .lss 50 0,mS 3 32 51] [32,1])
  (.cond (.s 32) .skip
  (rG 0 [fA 0 52 17 1,lF 1 53 52,bI 2 54 .gtr 53 1000,mS 3 32 54] [32,1])))))))))))))
  (.cond (.s 32) (sQ (rG 0 [mI 0 2 2] [2])
  .ret)
  (sQ (rG 0 [lT 0 56 19 1,cA 1 57 41 [(.s 56)],o1 2 58 (.un .not (.s 57)),mS 3 55 58] [55])
  (.cond (.s 55) (sQ (rG 0 [mI 0 2 10] [2])
  .ret)
  .skip)))))))
  (sQ (rG 0 [mI 0 2 0] [2])
  .ret)))))) }
abbrev f_drive_Node_Mode : Nat := 13
def c_drive_Node_Mode : CFn := { frz := true,rnd := none,nargs := 1,ntmps := 9,res := [(.slot 2)],code :=
  (sQ (rG 0 [mI 0 2 0] [0])
  (sQ (sQ (rG 0 [mS 0 3 0,cA 1 4 42 [(.s 3)]] [4,0])
  (.cond (.s 4) (sQ (rG 0 [mI 0 2 0] [2])
  .ret)
  .skip))
  (sQ (rG 0 [mS 0 5 0,nC 1 6 5,fA 2 7 33 6,lF 3 8 7,mS 4 2 8] [2])
  .ret))) }
abbrev f_drive_Node_Plan : Nat := 15
def c_drive_Node_Plan : CFn := { frz := true,rnd := none,nargs := 1,ntmps := 13,res := [(.cell 2 true 1)],code :=
  (sQ (rG 1 [o1 0 2 (.box 0 1 (.k (.a [.nilslice])))] [0,2])
  (sQ (sQ (rG 0 [mS 0 3 0,cA 1 4 42 [(.s 3)]] [4,0,2])
  (.cond (.s 4) (sQ (rG 0 [o1 0 5 (.build [.nilslice] []),o0 1 (.store 1 (.s 2) (.s 5))] [2])
  .ret)
  .skip))
  (sQ (rG 0 [mS 0 6 0,nC 1 7 6,fA 2 8 38 7,fA 3 9 0 8,lF 4 10 9,cA 5 11 29 [(.s 10)],o1 6 12 (.build [.nilslice] [(0,1,(.s 11))]),o0 7 (.store 1 (.s 2) (.s 12))] [2])
  .ret))) }
abbrev f_drive_Node_Verdict : Nat := 16
def c_drive_Node_Verdict : CFn := { frz := true,rnd := none,nargs := 1,ntmps := 35,res := [(.cell 2 true 3)],code :=
  (sQ (rG 1 [o1 0 2 (.box 0 3 (.k (.a [(.bool false),(I 0),(I 0)])))] [0,2])
  (sQ (sQ (rG 0 [mS 0 3 0,cA 1 4 42 [(.s 3)]] [4,0,2])
  (.cond (.s 4) (sQ (rG 0 [o1 0 5 (.build [(.bool false),(I 0),(I 0)] []),o0 1 (.store 3 (.s 2) (.s 5))] [2])
  .ret)
  .skip))
  (sQ (rG 0 [mS 0 6 0,nC 1 7 6,fA 2 8 0 7,fA 3 9 0 8,mS 5 11 0,nC 6 12 11,fA 7 13 0 12,fA 8 14 5 13,mS 10 16 0,nC 11 17 16,fA 12 18 0 17,fA 13 19 6 18,mS 15 21 0,nC 16 22 21,fA 17 23 39 22,mS 19 25 0,nC 20 26 25,fA 21 27 38 26,mS 23 29 0,nC 24 30 29,fA 25 31 0 30,fA 26 32 18 31,lT 4 10 5 9,lF 9 15 14,lT 14 20 5 19,lT 18 24 6 23,lT 22 28 1 27,lF 27 33 32,cA 28 34 43 [(.s 10),(.s 15),(.s 20),(.s 24),(.s 28),(.s 33)],o0 29 (.store 3 (.s 2) (.s 34))] [2])
  .ret))) }
def c_drive_Node_Tick_l1 : CC := (sQ (sQ (rG 0 [mS 0 42 6,o1 1 43 (.pop (.isnilf true) [(.s 42)])] [43,6,0])
  (.cond (.s 43) .skip
  (.exit 1)))
  (.block 2 (rG 0 [mS 0 44 6,⟨1,(some 45),none,.call ⟨true⟩ (.s 44) []⟩,mS 2 6 45] [6,0])))
abbrev f_drive_Node_Tick : Nat := 17
def c_drive_Node_Tick : CFn := { frz := true,rnd := none,nargs := 2,ntmps := 57,res := [(.slot 4),(.slot 5)],code :=
  (sQ (rG 1 [o1 0 3 (.box 0 4 (.s 1)),mI 1 4 0,mI 2 5 0] [0,3])
  (sQ (.block 0 (sQ (rG 0 [mS 0 8 0,cA 1 9 42 [(.s 8)],mS 2 7 9] [7,0,3])
  (.cond (.s 7) (sQ (rG 0 [mI 0 4 0,mI 1 5 1] [4,5])
  .ret)
  (sQ (rG 0 [fA 0 11 0 3,mS 2 13 0,nC 3 14 13,fA 4 15 30 14,lF 1 12 11,lF 5 16 15,bS 6 17 .neq 12 16,mS 7 10 17] [10,3,0])
  (.cond (.s 10) (sQ (rG 0 [mI 0 4 0,mI 1 5 11] [4,5])
  .ret)
  (sQ (sQ (rG 0 [fA 0 19 1 3,lF 1 20 19,lN 2 21 20,fA 3 22 2 3,lF 4 23 22,lN 5 24 23,fA 6 25 3 3,lF 7 26 25,lN 8 27 26,o1 9 28 (.minmax true [(.s 21),(.s 24),(.s 27)]),bI 10 29 .gtr 28 8,mS 11 18 29] [18,0,3])
  (.cond (.s 18) .skip
  (rG 0 [mS 0 30 0,nC 1 31 30,fA 2 32 30 31,lF 3 33 32,bI 4 34 .geq 33 1099511626776,mS 5 18 34] [18,0,3])))
  (.cond (.s 18) (sQ (rG 0 [mI 0 4 0,mI 1 5 8] [4,5])
  .ret)
  .skip)))))))
  (sQ (rG 0 [mS 0 35 0,cA 1 36 44 [(.s 35)]] [3,0])
  (sQ (rG 0 [mS 0 37 0,lT 1 38 4 3,cA 2 39 45 [(.s 37),(.s 38)]] [0])
  (sQ (sQ (rG 0 [mS 0 40 0,o1 1 41 (.mkfn 46 [(.s 40)] []),mS 2 6 41] [6,0])
  (.block 1 (.loop (some [6,0]) c_drive_Node_Tick_l1)))
  (sQ (rG 0 [mS 0 46 0,nC 1 47 46,fA 2 48 38 47,mS 4 50 0,nC 5 51 50,fA 6 52 0 51,fA 7 53 6 52,fA 8 54 4 53,lT 3 49 1 48,lF 9 55 54,cA 10 56 47 [(.s 49),(.s 55)],mS 11 4 56,mI 12 5 0] [4,5])
  .ret)))))) }
abbrev f_drive_Node_Looked : Nat := 18
def c_drive_Node_Looked : CFn := { frz := true,rnd := none,nargs := 1,ntmps := 9,res := [(.slot 2)],code :=
  (sQ (rG 0 [mI 0 2 0] [0])
  (sQ (sQ (rG 0 [mS 0 3 0,cA 1 4 42 [(.s 3)]] [4,0])
  (.cond (.s 4) (sQ (rG 0 [mI 0 2 0] [2])
  .ret)
  .skip))
  (sQ (rG 0 [mS 0 5 0,nC 1 6 5,fA 2 7 45 6,lF 3 8 7,mS 4 2 8] [2])
  .ret))) }
abbrev f_drive_Node_Reset : Nat := 19
def c_drive_Node_Reset : CFn := { frz := true,rnd := none,nargs := 1,ntmps := 33,res := [(.slot 2)],code :=
  (sQ (rG 0 [mI 0 2 0] [0])
  (sQ (.block 0 (sQ (rG 0 [mS 0 4 0,cA 1 5 42 [(.s 4)],mS 2 3 5] [3,0])
  (.cond (.s 3) (sQ (rG 0 [mI 0 2 1] [2])
  .ret)
  (sQ (sQ (rG 0 [mS 0 7 0,nC 1 8 7,fA 2 9 33 8,lF 3 10 9,bI 4 11 .neq 10 2,mS 5 6 11] [6,0])
  (.cond (.s 6) .skip
  (sQ (rG 0 [mS 0 12 0,nC 1 13 12,fA 2 14 39 13,fA 3 15 2 14,fA 4 16 3 15,lF 5 17 16,bI 6 18 .neq 17 0,mS 7 6 18] [6,0])
  (.cond (.s 6) .skip
  (rG 0 [mS 0 19 0,cA 1 20 16 [(.s 19)],o1 2 21 (.field false 0 1 (.s 20)),o1 3 22 (.un .not (.s 21)),mS 4 6 22] [6,0])))))
  (.cond (.s 6) (sQ (rG 0 [mI 0 2 10] [2])
  .ret)
  .skip)))))
  (sQ (rG 0 [mS 0 23 0,mS 1 24 0,mS 2 25 0,nC 3 26 25,fA 4 27 30 26,lF 5 28 27,nC 6 29 23,fA 7 30 33 29,o0 8 (.store 1 (.s 30) (kI 1)),nC 9 31 24,fA 10 32 32 31,o0 11 (.store 1 (.s 32) (.s 28))] [])
  (sQ (rG 0 [mI 0 2 0] [2])
  .ret)))) }
abbrev f_drive_Node_Now : Nat := 20
def c_drive_Node_Now : CFn := { frz := true,rnd := none,nargs := 1,ntmps := 9,res := [(.slot 2)],code :=
  (sQ (rG 0 [mI 0 2 0] [0])
  (sQ (sQ (rG 0 [mS 0 3 0,cA 1 4 42 [(.s 3)]] [4,0])
  (.cond (.s 4) (sQ (rG 0 [mI 0 2 0] [2])
  .ret)
  .skip))
  (sQ (rG 0 [mS 0 5 0,nC 1 6 5,fA 2 7 30 6,lF 3 8 7,mS 4 2 8] [2])
  .ret))) }
def c_kerbstoneref05_Same_l1 : CC := (sQ (sQ (rG 0 [mS 0 27 5,fA 1 28 1 2,lF 2 29 28,lN 3 30 29,bS 4 31 .lss 27 30] [31,3,2,5])
  (.cond (.s 31) .skip
  (.exit 0)))
  (sQ (.block 1 (sQ (rG 0 [fA 0 34 1 2,mS 2 36 5,fA 5 39 1 3,mS 7 41 5,lF 1 35 34,iA 3 37 6 35 36,lT 4 38 6 37,lF 6 40 39,iA 8 42 6 40 41,lT 9 43 6 42,o1 10 44 (.eqa true [false,false,false,false,false,false] (.s 38) (.s 43))] [44,3,2,5])
  (.cond (.s 44) (sQ (rG 0 [mB 0 4 false] [4])
  .ret)
  .skip)))
  (rG 0 [mS 0 32 5,bI 1 33 .add 32 1,mS 2 5 33] [2,3,5])))
abbrev f_kerbstoneref05_Same : Nat := 21
def c_kerbstoneref05_Same : CFn := { frz := true,rnd := none,nargs := 2,ntmps := 45,res := [(.slot 4)],code :=
  (sQ (rG 2 [o1 0 2 (.box 0 6 (.s 0)),o1 1 3 (.box 1 6 (.s 1)),mB 2 4 false] [3,2])
  (sQ (sQ (rG 0 [fA 0 6 0 2,lF 1 7 6,fA 2 8 0 3,lF 3 9 8,bS 4 10 .neq 7 9,mS 5 11 10,oG 6 12 11 false (.faddr 2 (.s 2)),oG 7 13 11 false (.load true 4 (.s 12)),oG 8 14 11 false (.faddr 2 (.s 3)),oG 9 15 11 false (.load true 4 (.s 14)),oG 10 16 11 false (.eqa true [false,false,false,false] (.s 13) (.s 15)),o1 11 17 (.pick (.s 11) (kB true) (.s 16)),mS 12 18 17,oG 13 19 18 false (.faddr 1 (.s 2)),oG 14 20 18 false (.load false 1 (.s 19)),oG 15 21 18 false (.len (.s 20)),oG 16 22 18 false (.faddr 1 (.s 3)),oG 17 23 18 false (.load false 1 (.s 22)),oG 18 24 18 false (.len (.s 23)),oG 19 25 18 false (.bin .neq (.s 21) (.s 24)),o1 20 26 (.pick (.s 18) (kB true) (.s 25))] [26,3,2])
  (.cond (.s 26) (sQ (rG 0 [mB 0 4 false] [4])
  .ret)
  .skip))
  (sQ (sQ (rG 0 [mI 0 5 0] [2,3,5])
  (.block 0 (.loop (some [2,3,5]) c_kerbstoneref05_Same_l1)))
  (sQ (rG 0 [mB 0 4 true] [4])
  .ret)))) }
abbrev f_drive_Node_Know : Nat := 22
def c_drive_Node_Know : CFn := { frz := true,rnd := none,nargs := 1,ntmps := 11,res := [(.cell 2 true 6)],code :=
  (sQ (rG 1 [o1 0 2 (.box 0 6 (.k (.a [(I 0),.nilslice,(I 0),(I 0),(I 0),(I 0)])))] [0,2])
  (sQ (sQ (rG 0 [mS 0 3 0,cA 1 4 42 [(.s 3)]] [4,0,2])
  (.cond (.s 4) (sQ (rG 0 [o1 0 5 (.build [(I 0),.nilslice,(I 0),(I 0),(I 0),(I 0)] []),o0 1 (.store 6 (.s 2) (.s 5))] [2])
  .ret)
  .skip))
  (sQ (rG 0 [mS 0 6 0,nC 1 7 6,fA 2 8 39 7,lT 3 9 6 8,cA 4 10 48 [(.s 9)],o0 5 (.store 6 (.s 2) (.s 10))] [2])
  .ret))) }
def c_drive_Node_Bytes_l1 : CC := (sQ (rG 0 [bS 0 73 .lss 72 71] [73,4,72,71,70])
  (sQ (.cond (.s 73) .skip
  (.exit 0))
  (sQ (.block 1 (sQ (rG 1 [iA 0 74 6 70 72,lT 1 75 6 74,o1 2 6 (.box 0 6 (.k (.a [(I 0),(I 0),(I 0),(I 0),(I 0),(I 0)]))),o0 3 (.store 6 (.s 6) (.s 75))] [4,6,72,71,70])
  (rG 1 [mS 0 76 4,fA 1 77 0 6,lF 2 78 77,fA 3 79 1 6,lF 4 80 79,fA 5 81 2 6,lF 6 82 81,fA 7 83 3 6,lF 8 84 83,fA 9 85 4 6,lF 10 86 85,fA 11 87 5 6,lF 12 88 87,o1 13 89 (.lit 0 1 [[(I 0)],[(I 0)],[(I 0)],[(I 0)],[(I 0)],[(I 0)]] [(0,(.s 78)),(1,(.s 80)),(2,(.s 82)),(3,(.s 84)),(4,(.s 86)),(5,(.s 88))]),o1 14 90 (.append 1 8 (.s 76) (.s 89)),mS 15 4 90] [72,4,71,70])))
  (rG 0 [bI 0 91 .add 72 1,mS 1 72 91] [4,72,71,70]))))
def c_drive_Node_Bytes_l2 : CC := (sQ (sQ (rG 0 [mS 0 100 10,bI 1 101 .geq 100 0] [101,7,10,94,95,96,9])
  (.cond (.s 101) .skip
  (.exit 4)))
  (sQ (.block 5 (rG 1 [mS 0 104 7,mS 1 105 9,o1 2 106 (.conv .u64 (.s 105)),mS 3 107 10,o1 4 108 (.conv .u64 (.s 107)),bS 5 109 .shr 106 108,o1 6 110 (.conv .u8 (.s 109)),o1 7 111 (.lit 0 1 [[(.int .u8 0)]] [(0,(.s 110))]),o1 8 112 (.append 1 1 (.s 104) (.s 111)),mS 9 7 112] [10,7,94,95,96,9]))
  (rG 0 [mS 0 102 10,bI 1 103 .sub 102 8,mS 2 10 103] [7,10,94,95,96,9])))
def c_drive_Node_Bytes_l3 : CC := (sQ (rG 0 [bS 0 97 .lss 96 95] [97,7,94,95,96])
  (sQ (.cond (.s 97) .skip
  (.exit 2))
  (sQ (.block 3 (sQ (rG 0 [iA 0 98 1 94 96,lF 1 99 98,mS 2 9 99] [7,94,95,96,9])
  (sQ (rG 0 [mI 0 10 56] [7,10,94,95,96,9])
  (.block 4 (.loop (some [7,10,94,95,96,9]) c_drive_Node_Bytes_l2)))))
  (rG 0 [bI 0 113 .add 96 1,mS 1 96 113] [7,95,94,96]))))
abbrev f_drive_Node_Bytes : Nat := 23
def c_drive_Node_Bytes : CFn := { frz := true,rnd := none,nargs := 1,ntmps := 116,res := [(.slot 2)],code :=
  (sQ (rG 0 [⟨0,(some 2),none,.mv (.k (.c (.str ⟨#[]⟩)))⟩] [0])
  (sQ (sQ (rG 0 [mS 0 11 0,cA 1 12 42 [(.s 11)]] [12,0])
  (.cond (.s 12) (sQ (rG 0 [⟨0,(some 2),none,.mv (.k (.c (.str ⟨#[]⟩)))⟩] [2])
  .ret)
  .skip))
  (sQ (rG 1 [mS 0 13 0,nC 1 14 13,fA 2 15 39 14,fA 3 16 2 15,lT 4 17 4 16,o1 5 3 (.box 0 4 (.k (.a [(I 0),(I 0),(I 0),(I 0)]))),o0 6 (.store 4 (.s 3) (.s 17))] [3,0])
  (sQ (rG 1 [mS 0 18 0,nC 1 19 18,fA 2 20 30 19,mS 4 22 0,nC 5 23 22,fA 6 24 33 23,mS 8 26 0,nC 9 27 26,fA 10 28 45 27,mS 12 30 0,nC 13 31 30,fA 14 32 38 31,fA 15 33 0 32,lF 3 21 20,lF 7 25 24,lF 11 29 28,lF 16 34 33,lN 17 35 34,o1 18 36 (.lit 0 1 [[(I 0)],[(I 0)],[(I 0)],[(I 0)]] [(0,(.s 21)),(1,(.s 25)),(2,(.s 29)),(3,(.s 35))]),mS 19 4 36] [4,3,0])
  (sQ (rG 0 [mS 0 37 4,mS 1 38 0,nC 2 39 38,fA 3 40 38 39,fA 4 41 0 40,lF 5 42 41,o1 6 43 (.append 1 8 (.s 37) (.s 42)),mS 7 4 43] [4,3,0])
  (sQ (rG 1 [mS 0 44 4,mS 1 45 0,nC 2 46 45,fA 3 47 39 46,fA 4 48 0 47,fA 6 50 0 3,fA 8 52 1 3,fA 10 54 2 3,fA 12 56 3 3,mS 14 58 0,nC 15 59 58,fA 16 60 39 59,fA 17 61 1 60,lF 5 49 48,lF 7 51 50,lF 9 53 52,lF 11 55 54,lF 13 57 56,lF 18 62 61,lN 19 63 62,o1 20 64 (.lit 0 1 [[(I 0)],[(I 0)],[(I 0)],[(I 0)],[(I 0)],[(I 0)]] [(0,(.s 49)),(1,(.s 51)),(2,(.s 53)),(3,(.s 55)),(4,(.s 57)),(5,(.s 63))]),o1 21 65 (.append 1 8 (.s 44) (.s 64)),mS 22 4 65] [0,4])
  (sQ (sQ (rG 0 [mS 0 66 0,nC 1 67 66,fA 2 68 39 67,fA 3 69 1 68,lF 4 70 69,lN 5 71 70,mI 6 72 0] [4,72,71,70])
  (.block 0 (.loop (some [4,72,71,70]) c_drive_Node_Bytes_l1)))
  (sQ (rG 1 [o1 0 92 (.lit 0 1 [[(.int .u8 0)],[(.int .u8 0)],[(.int .u8 0)],[(.int .u8 0)]] [(0,(.k (.c (.int .u8 107)))),(1,(.k (.c (.int .u8 98)))),(2,(.k (.c (.int .u8 110)))),(3,(.k (.c (.int .u8 49))))]),o1 1 93 (.bad),mS 2 7 93] [4,7])
  (sQ (sQ (rG 0 [mS 0 94 4,lN 1 95 94,mI 2 96 0] [7,95,94,96])
  (.block 2 (.loop (some [7,95,94,96]) c_drive_Node_Bytes_l3)))
  (sQ (rG 0 [mS 0 114 7,o1 1 115 (.mop .tostr [(.s 114)]),mS 2 2 115] [2])
  .ret)))))))))) }
abbrev f_drive_Node_Copy : Nat := 24
def c_drive_Node_Copy : CFn := { frz := true,rnd := none,nargs := 1,ntmps := 21,res := [(.slot 2)],code :=
  (sQ (rG 0 [o1 0 2 (.mv (.k (.c .nilptr)))] [0])
  (sQ (sQ (rG 0 [mS 0 4 0,cA 1 5 42 [(.s 4)]] [5,0])
  (.cond (.s 5) (sQ (rG 0 [o1 0 2 (.mv (.k (.c .nilptr)))] [2])
  .ret)
  .skip))
  (sQ (rG 1 [mS 0 6 0,nC 1 7 6,lT 2 8 46 7,o1 3 3 (.box 0 46 (.k (.a [(I 0),.nilslice,.nilslice,.nilslice,.nilslice,.nilslice,(I 0),(I 0),(I 0),(I 0),(I 0),(I 0),(I 0),(I 0),(I 0),(I 0),(I 0),(I 0),(.bool false),(I 0),.nilslice,.nilslice,.nilslice,.nilslice,.nilslice,.nilslice,(I 0),(I 0),.nilslice,.nilslice,(I 0),(I 0),(I 0),(I 0),.nilslice,.nilptr,.nilmap,(I 0),.nilslice,(I 0),.nilslice,(I 0),(I 0),(I 0),(I 0),(I 0)]))),o0 4 (.store 46 (.s 3) (.s 8))] [0,3])
  (sQ (.region 0 [mS 0 9 0,nC 1 10 9,fA 2 11 35 10,mS 5 14 0,nC 6 15 14,fA 7 16 36 15,lF 3 12 11,lF 8 17 16,cA 4 13 49 [(.s 12)],cA 9 18 50 [(.s 17)],fA 10 19 35 3,o0 11 (.store 1 (.s 19) (.s 13)),fA 12 20 36 3,o0 13 (.store 1 (.s 20) (.s 18))] [(7,8)] (some [3]))
  (sQ (rG 0 [mS 0 2 3] [2])
  .ret))))) }
abbrev f_drive_Node_Same : Nat := 25
def c_drive_Node_Same : CFn := { frz := true,rnd := none,nargs := 2,ntmps := 20,res := [(.slot 4)],code :=
  (sQ (rG 0 [mB 0 4 false] [0,1])
  (sQ (rG 0 [mS 0 5 0,cA 1 6 42 [(.s 5)],o1 2 7 (.un .not (.s 6)),mS 3 8 7,oG 4 9 8 true (.mv (.s 1)),⟨5,(some 10),(some (8,true)),.call ⟨true⟩ (.k (.c (.fn 42 [] []))) [(.s 9)]⟩,oG 6 11 8 true (.un .not (.s 10)),o1 7 12 (.pick (.s 8) (.s 11) (kB false)),mS 8 13 12,oG 9 14 13 true (.mv (.s 0)),⟨10,(some 15),(some (13,true)),.call ⟨true⟩ (.k (.c (.fn 23 [] []))) [(.s 14)]⟩,oG 11 16 13 true (.mv (.s 1)),⟨12,(some 17),(some (13,true)),.call ⟨true⟩ (.k (.c (.fn 23 [] []))) [(.s 16)]⟩,oG 13 18 13 true (.p2 (.str .eql) (.s 15) (.s 17)),o1 14 19 (.pick (.s 13) (.s 18) (kB false)),mS 15 4 19] [4])
  .ret)) }
abbrev f_kerbstonelaw08_sameSetup : Nat := 26
def c_kerbstonelaw08_sameSetup : CFn := { frz := true,rnd := none,nargs := 2,ntmps := 59,res := [(.slot 4)],code :=
  (sQ (rG 2 [o1 0 2 (.box 0 19 (.s 0)),o1 1 3 (.box 1 19 (.s 1)),mB 2 4 false] [2,3])
  (sQ (rG 0 [fA 0 5 0 2,lT 1 6 5 5,fA 2 7 0 3,lT 3 8 5 7,cA 4 9 51 [(.s 6),(.s 8)],mS 5 10 9,oG 6 11 10 true (.faddr 5 (.s 2)),oG 7 12 10 true (.load false 1 (.s 11)),oG 8 13 10 true (.faddr 5 (.s 3)),oG 9 14 10 true (.load false 1 (.s 13)),⟨10,(some 15),(some (10,true)),.call ⟨true⟩ (.k (.c (.fn 52 [] []))) [(.s 12),(.s 14)]⟩,o1 11 16 (.pick (.s 10) (.s 15) (kB false)),mS 12 17 16,oG 13 18 17 true (.faddr 6 (.s 2)),oG 14 19 17 true (.load true 5 (.s 18)),oG 15 20 17 true (.faddr 6 (.s 3)),oG 16 21 17 true (.load true 5 (.s 20)),oG 17 22 17 true (.eqa false [false,false,false,false,false] (.s 19) (.s 21)),o1 18 23 (.pick (.s 17) (.s 22) (kB false)),mS 19 24 23,oG 20 25 24 true (.faddr 11 (.s 2)),oG 21 26 24 true (.load true 4 (.s 25)),oG 22 27 24 true (.faddr 11 (.s 3)),oG 23 28 24 true (.load true 4 (.s 27)),oG 24 29 24 true (.eqa false [false,false,false,false] (.s 26) (.s 28)),o1 25 30 (.pick (.s 24) (.s 29) (kB false)),mS 26 31 30,oG 27 32 31 true (.faddr 15 (.s 2)),oG 28 33 31 true (.load false 1 (.s 32)),oG 29 34 31 true (.faddr 15 (.s 3)),oG 30 35 31 true (.load false 1 (.s 34)),oG 31 36 31 true (.bin .eql (.s 33) (.s 35)),o1 32 37 (.pick (.s 31) (.s 36) (kB false)),mS 33 38 37,oG 34 39 38 true (.faddr 16 (.s 2)),oG 35 40 38 true (.load false 1 (.s 39)),oG 36 41 38 true (.faddr 16 (.s 3)),oG 37 42 38 true (.load false 1 (.s 41)),oG 38 43 38 true (.bin .eql (.s 40) (.s 42)),o1 39 44 (.pick (.s 38) (.s 43) (kB false)),mS 40 45 44,oG 41 46 45 true (.faddr 17 (.s 2)),oG 42 47 45 true (.load false 1 (.s 46)),oG 43 48 45 true (.faddr 17 (.s 3)),oG 44 49 45 true (.load false 1 (.s 48)),oG 45 50 45 true (.bin .eql (.s 47) (.s 49)),o1 46 51 (.pick (.s 45) (.s 50) (kB false)),mS 47 52 51,oG 48 53 52 true (.faddr 18 (.s 2)),oG 49 54 52 true (.load false 1 (.s 53)),oG 50 55 52 true (.faddr 18 (.s 3)),oG 51 56 52 true (.load false 1 (.s 55)),oG 52 57 52 true (.eqb false (.s 54) (.s 56)),o1 53 58 (.pick (.s 52) (.s 57) (kB false)),mS 54 4 58] [4])
  .ret)) }
abbrev f_drive_Node_Setup : Nat := 27
def c_drive_Node_Setup : CFn := { frz := true,rnd := none,nargs := 1,ntmps := 11,res := [(.cell 2 true 19)],code :=
  (sQ (rG 1 [o1 0 2 (.box 0 19 (.k (.a [(I 0),.nilslice,.nilslice,.nilslice,.nilslice,.nilslice,(I 0),(I 0),(I 0),(I 0),(I 0),(I 0),(I 0),(I 0),(I 0),(I 0),(I 0),(I 0),(.bool false)])))] [0,2])
  (sQ (sQ (rG 0 [mS 0 3 0,cA 1 4 42 [(.s 3)]] [4,0,2])
  (.cond (.s 4) (sQ (rG 0 [o1 0 5 (.build [(I 0),.nilslice,.nilslice,.nilslice,.nilslice,.nilslice,(I 0),(I 0),(I 0),(I 0),(I 0),(I 0),(I 0),(I 0),(I 0),(I 0),(I 0),(I 0),(.bool false)] []),o0 1 (.store 19 (.s 2) (.s 5))] [2])
  .ret)
  .skip))
  (sQ (rG 0 [mS 0 6 0,nC 1 7 6,fA 2 8 0 7,lT 3 9 19 8,cA 4 10 34 [(.s 9)],o0 5 (.store 19 (.s 2) (.s 10))] [2])
  .ret))) }
abbrev f_plan_CheckCar : Nat := 28
def c_plan_CheckCar : CFn := { frz := true,rnd := none,nargs := 1,ntmps := 26,res := [(.slot 2)],code :=
  (sQ (rG 1 [o1 0 1 (.box 0 5 (.s 0)),mI 1 2 0] [1])
  (sQ (sQ (rG 0 [fA 0 3 0 1,lF 1 4 3,cA 2 5 53 [(.s 4),(kI 300),(kI 20000)],mS 3 6 5,oG 4 7 6 true (.faddr 1 (.s 1)),oG 5 8 6 true (.load false 1 (.s 7)),⟨6,(some 9),(some (6,true)),.call ⟨true⟩ (.k (.c (.fn 53 [] []))) [(.s 8),(kI 1),(kI 30)]⟩,o1 7 10 (.pick (.s 6) (.s 9) (kB false)),mS 8 11 10,oG 9 12 11 true (.faddr 2 (.s 1)),oG 10 13 11 true (.load false 1 (.s 12)),⟨11,(some 14),(some (11,true)),.call ⟨true⟩ (.k (.c (.fn 53 [] []))) [(.s 13),(kI 20),(kI 90)]⟩,o1 12 15 (.pick (.s 11) (.s 14) (kB false)),mS 13 16 15,oG 14 17 16 true (.faddr 3 (.s 1)),oG 15 18 16 true (.load false 1 (.s 17)),⟨16,(some 19),(some (16,true)),.call ⟨true⟩ (.k (.c (.fn 53 [] []))) [(.s 18),(kI 5),(kI 120)]⟩,o1 17 20 (.pick (.s 16) (.s 19) (kB false)),mS 18 21 20,oG 19 22 21 true (.faddr 4 (.s 1)),oG 20 23 21 true (.load false 1 (.s 22)),⟨21,(some 24),(some (21,true)),.call ⟨true⟩ (.k (.c (.fn 53 [] []))) [(.s 23),(kI 0),(kI 5)]⟩,o1 22 25 (.pick (.s 21) (.s 24) (kB false))] [25])
  (.cond (.s 25) (sQ (rG 0 [mI 0 2 0] [2])
  .ret)
  .skip))
  (sQ (rG 0 [mI 0 2 2] [2])
  .ret))) }
abbrev f_slices_Clone_int64 : Nat := 29
abbrev f_kerbstonekit_Cross : Nat := 33
def c_kerbstonekit_Cross : CFn := { frz := true,rnd := none,nargs := 0,ntmps := 12,res := [(.cell 0 true 5)],code :=
  (sQ (rG 1 [o1 0 0 (.box 0 5 (.k (.a [(I 0),.nilslice,.nilslice,.nilslice,.nilslice])))] [0])
  (sQ (rG 5 [o1 0 1 (.lit 0 1 [[(I 0)],[(I 0)],[(I 0)],[(I 0)]] [(0,(kI 0)),(1,(kI 0)),(2,(kI 100000)),(3,(kI 0))]),cA 1 2 56 [(kI 1),(kI 1500),(.k (.c .nilslice)),(.s 1)],o1 2 3 (.lit 1 1 [[(I 0)],[(I 0)],[(I 0)],[(I 0)]] [(0,(kI 50000)),(1,(kI (-50000))),(2,(kI 50000)),(3,(kI 50000))]),cA 3 4 56 [(kI 1),(kI 1500),(.k (.c .nilslice)),(.s 3)],o1 4 5 (.lit 2 5 [[(I 0),.nilslice,(I 0),(I 0),.nilslice],[(I 0),.nilslice,(I 0),(I 0),.nilslice]] [(0,(.s 2)),(1,(.s 4))]),o1 5 6 (.build [(I 0),(I 0),(I 0),(I 0)] [(0,1,(kI 0)),(1,1,(kI 48000)),(2,1,(kI 52000)),(3,1,(kI 1))]),o1 6 7 (.build [(I 0),(I 0),(I 0),(I 0)] [(0,1,(kI 1)),(1,1,(kI 48000)),(2,1,(kI 52000))]),o1 7 8 (.lit 3 4 [[(I 0),(I 0),(I 0),(I 0)],[(I 0),(I 0),(I 0),(I 0)]] [(0,(.s 6)),(1,(.s 7))]),o1 8 9 (.build [.nilslice,(I 0)] [(0,1,(.s 8))]),o1 9 10 (.lit 4 2 [[.nilslice,(I 0)]] [(0,(.s 9))]),o1 10 11 (.build [(I 0),.nilslice,.nilslice,.nilslice,.nilslice] [(1,1,(.s 5)),(2,1,(.s 10))]),o0 11 (.store 5 (.s 0) (.s 11))] [0])
  .ret)) }
abbrev f_drive_ownSetup : Nat := 34
def c_drive_ownSetup : CFn := { frz := true,rnd := none,nargs := 1,ntmps := 12,res := [(.cell 2 true 19)],code :=
  (sQ (rG 2 [o1 0 1 (.box 0 19 (.s 0)),o1 1 2 (.box 1 19 (.k (.a [(I 0),.nilslice,.nilslice,.nilslice,.nilslice,.nilslice,(I 0),(I 0),(I 0),(I 0),(I 0),(I 0),(I 0),(I 0),(I 0),(I 0),(I 0),(I 0),(.bool false)])))] [1,2])
  (sQ (.region 0 [fA 0 3 0 1,fA 3 6 5 1,lT 1 4 5 3,lF 4 7 6,cA 2 5 57 [(.s 4)],fA 6 9 0 1,cA 5 8 58 [(.s 7)],o0 7 (.store 5 (.s 9) (.s 5)),fA 8 10 5 1,o0 9 (.store 1 (.s 10) (.s 8))] [(3,4)] (some [1,2]))
  (sQ (rG 0 [lT 0 11 19 1,o0 1 (.store 19 (.s 2) (.s 11))] [2])
  .ret))) }
def c_motion_Along_l1 : CC := (sQ (rG 0 [bS 0 29 .lss 28 27] [29,28,27,6,3,7])
  (sQ (.cond (.s 29) .skip
  (.exit 0))
  (sQ (.block 1 (sQ (rG 0 [mS 0 30 28,mS 1 8 30] [8,28,27,6,3,7])
  (.region 1 [fA 0 31 9 7,mS 3 34 8,lF 1 32 31,lT 2 33 5 3,cA 4 35 61 [(.s 33),(.s 34)],o1 5 36 (.lit 0 1 [[(I 0)]] [(0,(.s 35))]),o1 6 37 (.append 1 8 (.s 32) (.s 36)),fA 7 38 9 7,o0 8 (.store 1 (.s 38) (.s 37))] [(2,4),(2,5)] (some [28,27,6,3,7]))))
  (rG 0 [bI 0 39 .add 28 1,mS 1 28 39] [28,27,6,3,7]))))
def c_motion_Along_l2 : CC := (sQ (rG 0 [bS 0 44 .lss 43 42] [44,43,42,6,41,7])
  (sQ (.cond (.s 44) .skip
  (.exit 2))
  (sQ (.block 3 (sQ (rG 0 [iA 0 45 1 41 43,lF 1 46 45,mS 2 10 46] [10,43,42,6,41,7])
  (rG 0 [fA 0 47 10 7,lF 1 48 47,mS 2 49 10,iA 3 50 1 48 49,o0 4 (.store 1 (.s 50) (kB true))] [43,42,6,41,7])))
  (rG 0 [bI 0 51 .add 43 1,mS 1 43 51] [43,42,6,41,7]))))
abbrev f_motion_Along : Nat := 35
def c_motion_Along : CFn := { frz := true,rnd := none,nargs := 3,ntmps := 53,res := [(.cell 6 true 11)],code :=
  (sQ (rG 2 [o1 0 3 (.box 0 5 (.s 0)),o1 1 6 (.box 1 11 (.k (.a [(I 0),.nilslice,.nilslice,.nilslice,.nilslice,.nilslice,.nilslice,(I 0),(I 0),.nilslice,.nilslice])))] [1,2,6,3])
  (sQ (.region 2 [mS 1 12 1,mS 3 14 1,mS 6 17 1,mS 8 19 2,fA 9 20 1 3,lT 0 11 5 3,lT 2 13 5 3,lT 5 16 5 3,lF 10 21 20,cA 4 15 59 [(.s 13),(.s 14)],cA 7 18 60 [(.s 16),(.s 17)],lN 11 22 21,o1 12 23 (.mkslice 0 1 1 [(.bool false)] (.s 22) (.s 22)),o1 13 24 (.build [(I 0),.nilslice,.nilslice,.nilslice,.nilslice,.nilslice,.nilslice,(I 0),(I 0),.nilslice,.nilslice] [(0,5,(.s 11)),(5,1,(.s 12)),(6,1,(.s 15)),(7,1,(.s 18)),(8,1,(.s 19)),(10,1,(.s 23))]),o1 14 7 (.box 1 11 (.k (.a [(I 0),.nilslice,.nilslice,.nilslice,.nilslice,.nilslice,.nilslice,(I 0),(I 0),.nilslice,.nilslice]))),o0 15 (.store 11 (.s 7) (.s 24))] [(5,9),(5,10),(5,12),(5,14),(6,12),(6,14),(7,9),(7,12),(7,14),(8,9),(8,10),(8,14),(9,12),(9,14),(10,12),(10,14),(12,14)] (some [6,3,7]))
  (sQ (sQ (rG 0 [fA 0 25 1 3,lF 1 26 25,lN 2 27 26,mI 3 28 0] [28,27,6,3,7])
  (.block 0 (.loop (some [28,27,6,3,7]) c_motion_Along_l1)))
  (sQ (sQ (rG 0 [lT 0 40 5 3,cA 1 41 62 [(.s 40)],lN 2 42 41,mI 3 43 0] [43,42,6,41,7])
  (.block 2 (.loop (some [43,42,6,41,7]) c_motion_Along_l2)))
  (sQ (rG 0 [lT 0 52 11 7,o0 1 (.store 11 (.s 6) (.s 52))] [6])
  .ret))))) }
abbrev f_drive_Node_own : Nat := 36
def c_drive_Node_own : CFn := { frz := true,rnd := none,nargs := 2,ntmps := 17,res := [(.cell 4 true 6)],code :=
  (sQ (rG 2 [o1 0 3 (.box 0 6 (.s 1)),o1 1 4 (.box 1 6 (.k (.a [(I 0),.nilslice,(I 0),(I 0),(I 0),(I 0)])))] [0,3,4])
  (sQ (.region 0 [mS 0 5 0,nC 1 6 5,fA 2 7 19 6,fA 4 9 1 3,fA 7 12 2 3,lT 3 8 11 7,lF 5 10 9,lT 8 13 4 12,cA 6 11 64 [(.s 10)],cA 9 14 63 [(.s 8),(.s 11),(.s 13)],fA 10 15 1 3,o0 11 (.store 1 (.s 15) (.s 14))] [(5,8),(7,8)] (some [3,4]))
  (sQ (rG 0 [lT 0 16 6 3,o0 1 (.store 6 (.s 4) (.s 16))] [4])
  .ret))) }
def c_track_All_l1 : CC := (sQ (rG 0 [bS 0 24 .lss 23 22] [24,23,22,6,21,3,7])
  (sQ (.cond (.s 24) .skip
  (.exit 0))
  (sQ (.block 1 (sQ (rG 1 [mS 0 25 23,iA 1 26 5 21 23,lT 2 27 5 26,o1 3 9 (.box 0 5 (.k (.a [(I 0),.nilslice,(I 0),(I 0),.nilslice]))),mS 4 8 25,o0 5 (.store 5 (.s 9) (.s 27))] [9,8,23,22,6,21,3,7])
  (sQ (rG 0 [fA 0 29 0 9,lF 1 30 29,cA 2 31 65 [(.s 30)],mS 3 28 31,eX 4 32 28 0,eX 5 33 28 1,eX 6 34 28 2,mS 7 10 32,mS 8 11 33,mS 9 12 34] [8,10,23,22,6,21,3,7])
  (.region 1 [fA 0 35 1 7,mS 2 37 8,mS 4 39 8,mS 6 41 10,lF 1 36 35,lT 3 38 5 3,cA 5 40 61 [(.s 38),(.s 39)],o1 7 42 (.build [(I 0),(I 0),(I 0),(I 0),(I 0),(I 0)] [(0,1,(.s 37)),(2,1,(.s 40)),(4,1,(.s 41))]),o1 8 43 (.lit 0 6 [[(I 0),(I 0),(I 0),(I 0),(I 0),(I 0)]] [(0,(.s 42))]),o1 9 44 (.append 6 48 (.s 36) (.s 43)),fA 10 45 1 7,o0 11 (.store 1 (.s 45) (.s 44))] [(4,6),(4,8)] (some [23,22,6,21,3,7])))))
  (rG 0 [bI 0 46 .add 23 1,mS 1 23 46] [23,22,6,21,3,7]))))
abbrev f_track_All : Nat := 37
def c_track_All : CFn := { frz := true,rnd := none,nargs := 3,ntmps := 48,res := [(.cell 6 true 6)],code :=
  (sQ (rG 3 [o1 0 3 (.box 0 5 (.s 0)),o1 1 5 (.box 1 4 (.s 2)),o1 2 6 (.box 2 6 (.k (.a [(I 0),.nilslice,(I 0),(I 0),(I 0),(I 0)])))] [1,5,3,6])
  (sQ (rG 1 [mS 0 13 1,lT 1 14 4 5,o1 2 15 (.build [(I 0),.nilslice,(I 0),(I 0),(I 0),(I 0)] [(0,1,(.s 13)),(2,4,(.s 14))]),o1 3 7 (.box 0 6 (.k (.a [(I 0),.nilslice,(I 0),(I 0),(I 0),(I 0)]))),o0 4 (.store 6 (.s 7) (.s 15))] [3,7,6])
  (sQ (sQ (rG 0 [lT 0 16 5 3,cA 1 17 38 [(.s 16)],bI 2 18 .neq 17 0] [18,3,7,6])
  (.cond (.s 18) (sQ (rG 0 [lT 0 19 6 7,o0 1 (.store 6 (.s 6) (.s 19))] [6])
  .ret)
  .skip))
  (sQ (sQ (rG 0 [fA 0 20 1 3,lF 1 21 20,lN 2 22 21,mI 3 23 0] [23,22,6,21,3,7])
  (.block 0 (.loop (some [23,22,6,21,3,7]) c_track_All_l1)))
  (sQ (rG 0 [lT 0 47 6 7,o0 1 (.store 6 (.s 6) (.s 47))] [6])
  .ret))))) }
def c_roads_Check_l1 : CC := (sQ (rG 0 [bS 0 9 .lss 8 7] [9,1,6,7,8])
  (sQ (.cond (.s 9) .skip
  (.exit 0))
  (sQ (.block 1 (sQ (rG 0 [iA 0 10 1 6 8,lF 1 11 10,mS 2 4 11] [4,1,6,7,8])
  (sQ (rG 0 [mS 0 12 4,lT 1 13 5 1,o1 2 14 (.build [(I 0),.nilslice,.nilslice,.nilslice,.nilslice] [(0,5,(.s 13))]),⟨3,(some 15),none,.call ⟨true⟩ (.s 12) [(.s 14)]⟩,mS 4 5 15] [1,6,7,8,5])
  (sQ (rG 0 [mS 0 16 5,bI 1 17 .neq 16 0] [17,1,6,7,8,5])
  (.cond (.s 17) (sQ (rG 0 [mS 0 18 5,mS 1 2 18] [2])
  .ret)
  .skip)))))
  (rG 0 [bI 0 19 .add 8 1,mS 1 8 19] [7,6,1,8]))))
abbrev f_roads_Check : Nat := 38
def c_roads_Check : CFn := { frz := true,rnd := none,nargs := 1,ntmps := 20,res := [(.slot 2)],code :=
  (sQ (rG 1 [o1 0 1 (.box 0 5 (.s 0)),mI 1 2 0] [1])
  (sQ (sQ (rG 1 [o1 0 6 (.mlay .litf 0 [(.k (.c (.fn 66 [] []))),(.k (.c (.fn 67 [] []))),(.k (.c (.fn 68 [] []))),(.k (.c (.fn 69 [] []))),(.k (.c (.fn 70 [] []))),(.k (.c (.fn 71 [] [])))]),lN 1 7 6,mI 2 8 0] [7,6,1,8])
  (.block 0 (.loop (some [7,6,1,8]) c_roads_Check_l1)))
  (sQ (rG 0 [mI 0 2 0] [2])
  .ret))) }
abbrev f_roads_Fit : Nat := 39
def c_roads_Fit : CFn := { frz := true,rnd := none,nargs := 1,ntmps := 24,res := [(.slot 2)],code :=
  (sQ (rG 1 [o1 0 1 (.box 0 5 (.s 0)),mB 1 2 false] [1])
  (sQ (.region 0 [lT 0 3 5 1,cA 1 4 38 [(.s 3)],bI 2 5 .eql 4 0,mS 3 6 5,oG 4 7 6 true (.load true 5 (.s 1)),oG 7 10 6 true (.load true 5 (.s 1)),oG 11 14 6 true (.load true 5 (.s 1)),oG 15 18 6 true (.load true 5 (.s 1)),⟨5,(some 8),(some (6,true)),.call ⟨true⟩ (.k (.c (.fn 72 [] []))) [(.s 7)]⟩,oG 6 9 6 true (.len (.s 8)),⟨8,(some 11),(some (6,true)),.call ⟨true⟩ (.k (.c (.fn 73 [] []))) [(.s 10)]⟩,oG 9 12 6 true (.len (.s 11)),oG 10 13 6 true (.bin .add (.s 9) (.s 12)),⟨12,(some 15),(some (6,true)),.call ⟨true⟩ (.k (.c (.fn 74 [] []))) [(.s 14)]⟩,oG 13 16 6 true (.len (.s 15)),oG 14 17 6 true (.bin .add (.s 13) (.s 16)),⟨16,(some 19),(some (6,true)),.call ⟨true⟩ (.k (.c (.fn 75 [] []))) [(.s 18)]⟩,oG 17 20 6 true (.len (.s 19)),oG 18 21 6 true (.bin .add (.s 17) (.s 20)),oG 19 22 6 true (.bin .eql (.s 21) (kI 0)),o1 20 23 (.pick (.s 6) (.s 22) (kB false)),mS 21 2 23] [(5,8),(6,8),(6,10),(7,8),(7,10),(7,13)] (some [2]))
  .ret)) }
def c_roads_CheckRoute_l1 : CC := (sQ (rG 0 [bS 0 53 .lss 52 51] [53,6,2,50,51,52])
  (sQ (.cond (.s 53) .skip
  (.exit 0))
  (sQ (.block 1 (sQ (rG 0 [iA 0 54 1 50 52,lF 1 55 54,mS 2 8 55] [6,2,50,51,52,8])
  (sQ (sQ (rG 0 [fA 0 56 1 2,lF 1 57 56,mS 2 58 6,iA 3 59 5 57 58,fA 4 60 4 59,lF 5 61 60,mS 6 62 8,cA 7 63 77 [(.s 61),(.s 62)],o1 8 64 (.un .not (.s 63))] [64,2,50,51,52,8])
  (.cond (.s 64) (sQ (rG 0 [mI 0 4 13] [4])
  .ret)
  .skip))
  (rG 0 [mS 0 65 8,mS 1 6 65] [52,6,51,50,2]))))
  (rG 0 [bI 0 66 .add 52 1,mS 1 52 66] [6,51,50,2,52]))))
abbrev f_roads_CheckRoute : Nat := 40
def c_roads_CheckRoute : CFn := { frz := true,rnd := none,nargs := 2,ntmps := 67,res := [(.slot 4)],code :=
  (sQ (rG 1 [o1 0 2 (.box 0 5 (.s 0)),mI 1 4 0] [1,2])
  (sQ (sQ (rG 0 [lT 0 9 5 2,cA 1 10 38 [(.s 9)],mS 2 5 10] [1,2,5])
  (sQ (rG 0 [mS 0 11 5,bI 1 12 .neq 11 0] [12,1,2,5])
  (.cond (.s 12) (sQ (rG 0 [mS 0 13 5,mS 1 4 13] [4])
  .ret)
  .skip)))
  (sQ (sQ (rG 0 [mS 0 14 1,lN 1 15 14,bI 2 16 .eql 15 0,mS 3 17 16,oG 4 18 17 false (.mv (.s 1)),oG 5 19 17 false (.len (.s 18)),oG 6 20 17 false (.bin .gtr (.s 19) (kI 8)),o1 7 21 (.pick (.s 17) (kB true) (.s 20)),mS 8 22 21,oG 9 23 22 false (.mv (.s 1)),oG 10 24 22 false (.iaddr 1 (.s 23) (kI 0)),oG 11 25 22 false (.load false 1 (.s 24)),oG 12 26 22 false (.bin .lss (.s 25) (kI 0)),o1 13 27 (.pick (.s 22) (kB true) (.s 26)),mS 14 28 27,oG 15 29 28 false (.mv (.s 1)),oG 16 30 28 false (.iaddr 1 (.s 29) (kI 0)),oG 18 32 28 false (.faddr 1 (.s 2)),oG 17 31 28 false (.load false 1 (.s 30)),oG 19 33 28 false (.load false 1 (.s 32)),oG 20 34 28 false (.len (.s 33)),oG 21 35 28 false (.bin .geq (.s 31) (.s 34)),o1 22 36 (.pick (.s 28) (kB true) (.s 35)),mS 23 37 36,oG 25 39 37 false (.mv (.s 1)),oG 26 40 37 false (.iaddr 1 (.s 39) (kI 0)),oG 24 38 37 false (.load true 5 (.s 2)),oG 27 41 37 false (.load false 1 (.s 40)),⟨28,(some 42),(some (37,false)),.call ⟨true⟩ (.k (.c (.fn 76 [] []))) [(.s 38),(.s 41)]⟩,oG 29 43 37 false (.len (.s 42)),oG 30 44 37 false (.bin .gtr (.s 43) (kI 0)),o1 31 45 (.pick (.s 37) (kB true) (.s 44))] [45,2,1])
  (.cond (.s 45) (sQ (rG 0 [mI 0 4 13] [4])
  .ret)
  .skip))
  (sQ (rG 0 [mS 0 46 1,o1 1 47 (.iaddr 1 (.s 46) (kI 0)),lF 2 48 47,mS 3 6 48] [1,6,2])
  (sQ (sQ (rG 0 [mS 0 49 1,o1 1 50 (.slice 1 (.s 49) (some (kI 1)) none none),lN 2 51 50,mI 3 52 0] [6,51,50,2,52])
  (.block 0 (.loop (some [6,51,50,2,52]) c_roads_CheckRoute_l1)))
  (sQ (rG 0 [mI 0 4 0] [4])
  .ret)))))) }
def c_drive_parked_l1 : CC := (sQ (rG 0 [bS 0 84 .lss 83 82] [84,83,82,66,65,3,1,4,7,81,6,8])
  (sQ (.cond (.s 84) .skip
  (.exit 2))
  (sQ (.block 3 (sQ (rG 1 [iA 0 85 4 81 83,lT 1 86 4 85,o1 2 10 (.box 0 4 (.k (.a [(I 0),(I 0),(I 0),(I 0)]))),o0 3 (.store 4 (.s 10) (.s 86))] [10,83,82,66,65,3,1,4,7,81,6,8])
  (sQ (rG 0 [mS 0 87 6,lT 1 88 4 10,⟨2,(some 89),none,.call ⟨true⟩ (.s 87) [(.s 88)]⟩] [89,10,83,82,66,65,3,1,4,7,81,6,8])
  (.cond (.s 89) (rG 0 [lT 0 90 4 10,o0 1 (.store 4 (.s 8) (.s 90))] [83,82,66,65,3,1,4,7,81,6,8])
  .skip))))
  (rG 0 [bI 0 91 .add 83 1,mS 1 83 91] [83,82,66,65,3,1,4,7,81,6,8]))))
def c_drive_parked_l2 : CC := (sQ (rG 0 [bS 0 67 .lss 66 65] [67,66,65,3,1,4])
  (sQ (.cond (.s 67) .skip
  (.exit 0))
  (sQ (.block 1 (sQ (rG 1 [mS 0 68 66,o1 1 5 (.box 0 1 (.k (.a [(I 0)]))),o0 2 (.store 1 (.s 5) (.s 68))] [5,66,65,3,1,4])
  (sQ (rG 0 [o1 0 69 (.mkfn 79 [] [(.s 5)]),mS 1 6 69] [6,66,65,3,1,4])
  (sQ (sQ (rG 0 [mS 0 70 4,mS 1 71 6,cA 2 72 80 [(.s 70),(.s 71)],o1 3 73 (.un .not (.s 72))] [73,6,66,65,3,1,4])
  (.cond (.s 73) (.exit 1)
  .skip))
  (sQ (rG 1 [mS 0 74 4,mS 1 75 4,mS 2 76 6,cA 3 77 81 [(.s 75),(.s 76)],iA 4 78 4 74 77,lT 5 79 4 78,o1 6 7 (.box 0 4 (.k (.a [(I 0),(I 0),(I 0),(I 0)]))),o0 7 (.store 4 (.s 7) (.s 79))] [66,65,3,1,4,7,6])
  (sQ (rG 1 [lT 0 80 4 7,o1 1 8 (.box 0 4 (.k (.a [(I 0),(I 0),(I 0),(I 0)]))),o0 2 (.store 4 (.s 8) (.s 80))] [66,65,3,1,4,7,6,8])
  (sQ (sQ (rG 0 [mS 0 81 4,lN 1 82 81,mI 2 83 0] [83,82,66,65,3,1,4,7,81,6,8])
  (.block 2 (.loop (some [83,82,66,65,3,1,4,7,81,6,8]) c_drive_parked_l1)))
  (sQ (rG 0 [fA 0 92 1 3,lF 1 93 92,fA 2 94 2 7,lF 3 95 94,bS 4 96 .geq 93 95,mS 5 97 96,oG 6 98 97 true (.faddr 0 (.s 3)),oG 7 99 97 true (.load false 1 (.s 98)),oG 8 100 97 true (.faddr 6 (.s 1)),oG 9 101 97 true (.faddr 0 (.s 100)),oG 10 102 97 true (.load false 1 (.s 101)),oG 11 103 97 true (.bin .sub (.s 99) (.s 102)),oG 12 104 97 true (.faddr 3 (.s 8)),oG 13 105 97 true (.load false 1 (.s 104)),oG 14 106 97 true (.bin .leq (.s 103) (.s 105)),o1 15 107 (.pick (.s 97) (.s 106) (kB false))] [107,4,1,3,65,66])
  (.cond (.s 107) (sQ (rG 0 [mB 0 2 false] [2])
  .ret)
  .skip)))))))))
  (rG 0 [bI 0 108 .add 66 1,mS 1 66 108] [66,65,3,1,4]))))
abbrev f_drive_parked : Nat := 41
def c_drive_parked : CFn := { frz := true,rnd := none,nargs := 1,ntmps := 109,res := [(.slot 2)],code :=
  (sQ (rG 1 [o1 0 1 (.box 0 19 (.s 0)),mB 1 2 false] [1])
  (sQ (rG 1 [fA 0 11 11 1,lT 1 12 4 11,o1 2 3 (.box 0 4 (.k (.a [(I 0),(I 0),(I 0),(I 0)]))),o0 3 (.store 4 (.s 3) (.s 12))] [1,3])
  (sQ (sQ (.region 0 [fA 0 13 2 3,lF 1 14 13,bI 2 15 .neq 14 0,mS 3 16 15,oG 4 17 16 false (.faddr 3 (.s 3)),oG 5 18 16 false (.load false 1 (.s 17)),oG 6 19 16 false (.bin .neq (.s 18) (kI 0)),o1 7 20 (.pick (.s 16) (kB true) (.s 19)),mS 8 21 20,oG 9 22 21 false (.faddr 0 (.s 3)),oG 11 24 21 false (.faddr 1 (.s 3)),oG 10 23 21 false (.load false 1 (.s 22)),oG 12 25 21 false (.load false 1 (.s 24)),oG 13 26 21 false (.bin .gtr (.s 23) (.s 25)),o1 14 27 (.pick (.s 21) (kB true) (.s 26)),mS 15 28 27,oG 16 29 28 false (.faddr 0 (.s 3)),oG 18 31 28 false (.faddr 6 (.s 1)),oG 19 32 28 false (.faddr 0 (.s 31)),oG 17 30 28 false (.load false 1 (.s 29)),oG 20 33 28 false (.load false 1 (.s 32)),oG 21 34 28 false (.bin .leq (.s 30) (.s 33)),o1 22 35 (.pick (.s 28) (kB true) (.s 34)),mS 23 36 35,oG 24 37 36 false (.faddr 1 (.s 3)),oG 26 39 36 false (.faddr 0 (.s 3)),oG 29 42 36 false (.faddr 6 (.s 1)),oG 30 43 36 false (.faddr 0 (.s 42)),oG 25 38 36 false (.load false 1 (.s 37)),oG 27 40 36 false (.load false 1 (.s 39)),oG 28 41 36 false (.bin .sub (.s 38) (.s 40)),oG 31 44 36 false (.load false 1 (.s 43)),oG 32 45 36 false (.bin .geq (.s 41) (.s 44)),o1 33 46 (.pick (.s 36) (kB true) (.s 45)),mS 34 47 46,oG 35 48 47 false (.faddr 1 (.s 3)),oG 37 50 47 false (.faddr 0 (.s 1)),oG 39 52 47 false (.faddr 5 (.s 1)),oG 36 49 47 false (.load false 1 (.s 48)),oG 38 51 47 false (.load true 5 (.s 50)),oG 40 53 47 false (.load false 1 (.s 52)),⟨41,(some 54),(some (47,false)),.call ⟨true⟩ (.k (.c (.fn 60 [] []))) [(.s 51),(.s 53)]⟩,oG 42 55 47 false (.bin .gtr (.s 49) (.s 54)),o1 43 56 (.pick (.s 47) (kB true) (.s 55))] [(38,41)] (some [56,1,3]))
  (.cond (.s 56) (sQ (rG 0 [mB 0 2 false] [2])
  .ret)
  .skip))
  (sQ (rG 0 [fA 0 57 0 1,lT 1 58 5 57,fA 2 59 5 1,lF 3 60 59,cA 4 61 78 [(.s 58),(.s 60)],mS 5 4 61] [3,1,4])
  (sQ (sQ (rG 0 [fA 0 62 0 1,fA 1 63 2 62,lF 2 64 63,lN 3 65 64,mI 4 66 0] [66,65,3,1,4])
  (.block 0 (.loop (some [66,65,3,1,4]) c_drive_parked_l2)))
  (sQ (rG 0 [mB 0 2 true] [2])
  .ret)))))) }
abbrev f_drive_Node_none : Nat := 42
def c_drive_Node_none : CFn := { frz := true,rnd := none,nargs := 1,ntmps := 12,res := [(.slot 2)],code :=
  (sQ (rG 0 [mB 0 2 false] [0])
  (sQ (rG 0 [mS 0 3 0,o1 1 4 (.isnil false (.s 3)),mS 2 5 4,oG 3 6 5 false (.mv (.s 0)),oG 4 7 5 false (.nilck (.s 6)),oG 5 8 5 false (.faddr 35 (.s 7)),oG 6 9 5 false (.load false 1 (.s 8)),oG 7 10 5 false (.isnil false (.s 9)),o1 8 11 (.pick (.s 5) (kB true) (.s 10)),mS 9 2 11] [2])
  .ret)) }
abbrev f_plan_Verify : Nat := 43
def c_plan_Verify : CFn := { frz := true,rnd := none,nargs := 6,ntmps := 35,res := [(.cell 12 true 3)],code :=
  (sQ (rG 5 [o1 0 6 (.box 0 5 (.s 0)),o1 1 8 (.box 1 5 (.s 2)),o1 2 9 (.box 2 6 (.s 3)),o1 3 10 (.box 3 1 (.s 4)),o1 4 12 (.box 4 3 (.k (.a [(.bool false),(I 0),(I 0)])))] [10,9,6,5,8,1,12])
  (sQ (sQ (rG 0 [lT 0 13 5 6,mS 1 14 1,lT 2 15 5 8,lT 3 16 6 9,cA 4 17 82 [(.s 13),(.s 14),(.s 15),(.s 16)],o1 5 18 (.un .not (.s 17)),mS 6 19 18,oG 7 20 19 false (.load true 5 (.s 8)),oG 8 21 19 false (.load true 1 (.s 10)),⟨9,(some 22),(some (19,false)),.call ⟨true⟩ (.k (.c (.fn 83 [] []))) [(.s 20),(.s 21)]⟩,oG 10 23 19 false (.bin .neq (.s 22) (kI 0)),o1 11 24 (.pick (.s 19) (kB true) (.s 23))] [24,10,9,6,5,8,1,12])
  (.cond (.s 24) (sQ (rG 0 [o1 0 25 (.build [(.bool false),(I 0),(I 0)] [(2,1,(kI 1))]),o0 1 (.store 3 (.s 12) (.s 25))] [12])
  .ret)
  .skip))
  (sQ (.region 0 [mS 1 27 1,fA 2 28 0 8,mS 7 33 5,lT 0 26 5 6,lF 3 29 28,lT 5 31 6 9,lT 6 32 1 10,cA 4 30 84 [(.s 26),(.s 27),(.s 29)],cA 8 34 85 [(.s 30),(.s 31),(.s 32),(.s 33)],o0 9 (.store 3 (.s 12) (.s 34))] [(5,7),(6,7)] (some [12]))
  .ret))) }
def c_drive_Node_forget_l1 : CC := (sQ (sQ (rG 0 [mS 0 6 0,nC 1 7 6,fA 2 8 35 7,mS 8 14 0,nC 9 15 14,fA 10 16 30 15,lF 3 9 8,nC 4 10 9,fA 5 11 6 10,fA 6 12 0 11,lF 7 13 12,lF 11 17 16,bI 12 18 .sub 17 4,bS 13 19 .lss 13 18] [19,0])
  (.cond (.s 19) .skip
  (.exit 0)))
  (.block 1 (sQ (rG 1 [mS 0 21 0,mS 1 22 0,nC 2 23 22,fA 3 24 35 23,lF 4 25 24,nC 5 26 25,fA 6 27 6 26,lT 7 28 6 27,cA 8 29 86 [(.s 21),(.s 28)],mS 9 20 29,eX 10 30 20 0,eX 11 31 20 1,o1 12 2 (.box 0 6 (.k (.a [(I 0),.nilslice,(I 0),(I 0),(I 0),(I 0)]))),o0 13 (.store 6 (.s 2) (.s 30)),mS 14 3 31] [2,0])
  (sQ (.region 0 [mS 0 32 0,nC 1 33 32,fA 2 34 35 33,mS 4 36 0,mS 6 38 0,nC 7 39 38,fA 8 40 35 39,lF 3 35 34,lT 5 37 6 2,lF 9 41 40,nC 10 42 41,fA 11 43 5 42,lF 12 44 43,o1 13 45 (.iaddr 1 (.s 44) (kI 0)),lF 14 46 45,cA 15 47 87 [(.s 36),(.s 37),(.s 46)],nC 16 48 35,fA 17 49 6 48,o0 18 (.store 6 (.s 49) (.s 47))] [(7,15)] (some [0]))
  (rG 0 [mS 0 50 0,nC 1 51 50,fA 2 52 35 51,lF 3 53 52,cA 4 54 88 [(.s 53)]] [0])))))
def c_drive_Node_forget_l2 : CC := (sQ (rG 0 [bS 0 63 .lss 62 61] [63,62,61,60,0])
  (sQ (.cond (.s 63) .skip
  (.exit 2))
  (sQ (.block 3 (sQ (rG 0 [iA 0 64 1 60 62,lF 1 65 64,mS 2 5 65] [5,62,61,60,0])
  (sQ (rG 0 [mS 0 66 5,mS 1 67 0,nC 2 68 67,fA 3 69 35 68,lF 4 70 69,nC 5 71 70,fA 6 72 6 71,fA 7 73 0 72,lF 8 74 73,bS 9 75 .lss 66 74] [75,5,62,61,60,0])
  (.cond (.s 75) (rG 0 [mS 0 76 0,nC 1 77 76,fA 2 78 36 77,lF 3 79 78,mS 4 80 5,o0 5 (.mop .del [(.s 79),(.s 80)])] [62,61,60,0])
  .skip))))
  (rG 0 [bI 0 81 .add 62 1,mS 1 62 81] [62,61,60,0]))))
abbrev f_drive_Node_forget : Nat := 44
def c_drive_Node_forget : CFn := { frz := true,rnd := none,nargs := 1,ntmps := 82,res := [],code :=
  (sQ (.block 0 (.loop (some [0]) c_drive_Node_forget_l1))
  (sQ (rG 0 [mS 0 55 0,nC 1 56 55,fA 2 57 36 56,lF 3 58 57,cA 4 59 90 [(.s 58)],⟨5,(some 60),none,.call ⟨false⟩ (.k (.c (.fn 89 [] []))) [(.s 59)]⟩,lN 6 61 60,mI 7 62 0] [62,61,60,0])
  (.block 2 (.loop (some [62,61,60,0]) c_drive_Node_forget_l2)))) }
def c_drive_Node_hear_l1 : CC := (sQ (rG 0 [bS 0 17 .lss 16 15] [17,16,15,3,14,0])
  (sQ (.cond (.s 17) .skip
  (.exit 0))
  (sQ (.block 1 (sQ (rG 1 [iA 0 18 3 14 16,lT 1 19 3 18,o1 2 5 (.box 0 3 (.k (.a [(I 0),(I 0),(I 0)]))),o0 3 (.store 3 (.s 5) (.s 19))] [5,16,15,3,14,0])
  (sQ (.region 1 [mS 0 20 0,nC 1 21 20,fA 2 22 36 21,fA 4 24 0 5,lF 3 23 22,lF 5 25 24,o1 6 26 (.mop (.get false true (.a [.nilslice,.nilslice,.nilslice])) [(.s 23),(.s 25)]),o1 7 6 (.box 0 3 (.k (.a [.nilslice,.nilslice,.nilslice]))),o0 8 (.store 3 (.s 6) (.s 26))] [(4,7),(5,7),(6,7)] (some [5,6,16,15,3,14,0]))
  (sQ (rG 0 [mS 0 27 0,fA 1 28 0 5,lF 2 29 28,cA 3 30 91 [(.s 27),(.s 29)]] [30,5,6,16,15,3,14,0])
  (.cond (.s 30) (sQ (.region 1 [fA 0 31 0 6,lF 1 32 31,lT 3 34 3 5,cA 2 33 92 [(.s 32)],o1 4 35 (.lit 0 3 [[(I 0),(I 0),(I 0)]] [(0,(.s 34))]),o1 5 36 (.append 3 24 (.s 33) (.s 35)),fA 6 37 0 6,o0 7 (.store 1 (.s 37) (.s 36))] [(1,4),(2,3),(3,4)] (some [5,6,16,15,3,14,0]))
  (rG 0 [mS 0 38 0,nC 1 39 38,fA 2 40 36 39,fA 4 42 0 5,lF 3 41 40,lF 5 43 42,lT 6 44 3 6,o0 7 (.mop (.set true) [(.s 41),(.s 43),(.s 44)])] [16,15,3,14,0]))
  .skip)))))
  (rG 0 [bI 0 45 .add 16 1,mS 1 16 45] [16,15,3,14,0]))))
def c_drive_Node_hear_l2 : CC := (sQ (rG 0 [bS 0 50 .lss 49 48] [50,49,48,3,47,0])
  (sQ (.cond (.s 50) .skip
  (.exit 2))
  (sQ (.block 3 (sQ (rG 1 [iA 0 51 3 47 49,lT 1 52 3 51,o1 2 8 (.box 0 3 (.k (.a [(I 0),(I 0),(I 0)]))),o0 3 (.store 3 (.s 8) (.s 52))] [8,49,48,3,47,0])
  (sQ (.region 1 [mS 0 53 0,nC 1 54 53,fA 2 55 36 54,fA 4 57 0 8,lF 3 56 55,lF 5 58 57,o1 6 59 (.mop (.get false true (.a [.nilslice,.nilslice,.nilslice])) [(.s 56),(.s 58)]),o1 7 9 (.box 0 3 (.k (.a [.nilslice,.nilslice,.nilslice]))),o0 8 (.store 3 (.s 9) (.s 59))] [(4,7),(5,7),(6,7)] (some [8,9,49,48,3,47,0]))
  (sQ (rG 0 [mS 0 60 0,fA 1 61 0 8,lF 2 62 61,cA 3 63 91 [(.s 60),(.s 62)]] [63,8,9,49,48,3,47,0])
  (.cond (.s 63) (sQ (.region 1 [fA 0 64 1 9,lF 1 65 64,lT 3 67 3 8,cA 2 66 92 [(.s 65)],o1 4 68 (.lit 0 3 [[(I 0),(I 0),(I 0)]] [(0,(.s 67))]),o1 5 69 (.append 3 24 (.s 66) (.s 68)),fA 6 70 1 9,o0 7 (.store 1 (.s 70) (.s 69))] [(1,4),(2,3),(3,4)] (some [8,9,49,48,3,47,0]))
  (rG 0 [mS 0 71 0,nC 1 72 71,fA 2 73 36 72,fA 4 75 0 8,lF 3 74 73,lF 5 76 75,lT 6 77 3 9,o0 7 (.mop (.set true) [(.s 74),(.s 76),(.s 77)])] [49,48,3,47,0]))
  .skip)))))
  (rG 0 [bI 0 78 .add 49 1,mS 1 49 78] [49,48,3,47,0]))))
def c_drive_Node_hear_l3 : CC := (sQ (rG 0 [bS 0 83 .lss 82 81] [83,82,81,80,0])
  (sQ (.cond (.s 83) .skip
  (.exit 4))
  (sQ (.block 5 (sQ (rG 1 [iA 0 84 3 80 82,lT 1 85 3 84,o1 2 11 (.box 0 3 (.k (.a [(I 0),.nilslice,.nilslice]))),o0 3 (.store 3 (.s 11) (.s 85))] [11,82,81,80,0])
  (sQ (.region 1 [mS 0 86 0,nC 1 87 86,fA 2 88 36 87,fA 4 90 0 11,lF 3 89 88,lF 5 91 90,o1 6 92 (.mop (.get false true (.a [.nilslice,.nilslice,.nilslice])) [(.s 89),(.s 91)]),o1 7 12 (.box 0 3 (.k (.a [.nilslice,.nilslice,.nilslice]))),o0 8 (.store 3 (.s 12) (.s 92))] [(4,7),(5,7),(6,7)] (some [12,11,82,81,80,0]))
  (sQ (rG 0 [mS 0 93 0,fA 1 94 0 11,lF 2 95 94,cA 3 96 91 [(.s 93),(.s 95)]] [96,12,11,82,81,80,0])
  (.cond (.s 96) (sQ (.region 0 [fA 0 97 1 11,fA 3 100 2 11,lF 1 98 97,lF 4 101 100,cA 2 99 93 [(.s 98)],fA 6 103 1 11,cA 5 102 94 [(.s 101)],o0 7 (.store 1 (.s 103) (.s 99)),fA 8 104 2 11,o0 9 (.store 1 (.s 104) (.s 102))] [(3,4)] (some [12,11,82,81,80,0]))
  (sQ (.region 1 [fA 0 105 2 12,lF 1 106 105,lT 3 108 3 11,cA 2 107 95 [(.s 106)],o1 4 109 (.lit 0 3 [[(I 0),.nilslice,.nilslice]] [(0,(.s 108))]),o1 5 110 (.append 3 56 (.s 107) (.s 109)),fA 6 111 2 12,o0 7 (.store 1 (.s 111) (.s 110))] [(1,4),(2,3),(3,4)] (some [12,11,82,81,80,0]))
  (sQ (rG 0 [mS 0 112 0,nC 1 113 112,fA 2 114 36 113,fA 4 116 0 11,lF 3 115 114,lF 5 117 116,lT 6 118 3 12,o0 7 (.mop (.set true) [(.s 115),(.s 117),(.s 118)])] [11,82,81,80,0])
  (rG 0 [mS 0 119 0,mS 1 120 0,nC 2 121 120,fA 3 122 32 121,fA 5 124 0 11,lF 4 123 122,lF 6 125 124,o1 7 126 (.minmax true [(.s 123),(.s 125)]),nC 8 127 119,fA 9 128 32 127,o0 10 (.store 1 (.s 128) (.s 126))] [82,81,80,0]))))
  .skip)))))
  (rG 0 [bI 0 129 .add 82 1,mS 1 82 129] [82,81,80,0]))))
abbrev f_drive_Node_hear : Nat := 45
def c_drive_Node_hear : CFn := { frz := true,rnd := none,nargs := 2,ntmps := 130,res := [],code :=
  (sQ (rG 1 [o1 0 3 (.box 0 4 (.s 1))] [3,0])
  (sQ (sQ (rG 0 [fA 0 13 2 3,lF 1 14 13,lN 2 15 14,mI 3 16 0] [16,15,3,14,0])
  (.block 0 (.loop (some [16,15,3,14,0]) c_drive_Node_hear_l1)))
  (sQ (sQ (rG 0 [fA 0 46 3 3,lF 1 47 46,lN 2 48 47,mI 3 49 0] [49,48,3,47,0])
  (.block 2 (.loop (some [49,48,3,47,0]) c_drive_Node_hear_l2)))
  (sQ (rG 0 [fA 0 79 1 3,lF 1 80 79,lN 2 81 80,mI 3 82 0] [82,81,80,0])
  (.block 4 (.loop (some [82,81,80,0]) c_drive_Node_hear_l3)))))) }
def c_drive_Node_fusing_l1 : CC := (sQ (rG 0 [bS 0 30 .lss 29 28] [30,4,29,28,27,0,3])
  (sQ (.cond (.s 30) .skip
  (.exit 0))
  (sQ (.block 1 (sQ (rG 0 [iA 0 31 1 27 29,lF 1 32 31,mS 2 6 32] [6,4,29,28,27,0,3])
  (sQ (rG 1 [mS 0 34 0,mS 1 35 0,lT 2 36 6 3,mS 3 37 6,cA 4 38 87 [(.s 35),(.s 36),(.s 37)],cA 5 39 86 [(.s 34),(.s 38)],mS 6 33 39,eX 7 40 33 0,eX 8 41 33 1,o1 9 7 (.box 0 6 (.k (.a [(I 0),.nilslice,(I 0),(I 0),(I 0),(I 0)]))),o0 10 (.store 6 (.s 7) (.s 40)),mS 11 8 41] [7,4,8,29,28,27,0,3])
  (rG 0 [lT 0 42 6 7,mS 1 43 4,mS 2 44 43,oG 3 45 44 true (.mv (.s 8)),o1 4 46 (.pick (.s 44) (.s 45) (kB false)),o0 5 (.store 6 (.s 3) (.s 42)),mS 6 4 46] [29,4,28,27,0,3]))))
  (rG 0 [bI 0 47 .add 29 1,mS 1 29 47] [4,29,28,27,0,3]))))
abbrev f_drive_Node_fusing : Nat := 46
def c_drive_Node_fusing : CFn := { frz := true,rnd := none,nargs := 1,ntmps := 58,res := [(.slot 2)],code :=
  (sQ (rG 0 [o1 0 2 (.mv (.k (.c .nilfn)))] [0])
  (sQ (rG 1 [mS 0 10 0,mS 1 11 0,nC 2 12 11,fA 3 13 35 12,lF 4 14 13,nC 5 15 14,fA 6 16 6 15,lT 7 17 6 16,cA 8 18 86 [(.s 10),(.s 17)],mS 9 9 18,eX 10 19 9 0,eX 11 20 9 1,o1 12 3 (.box 0 6 (.k (.a [(I 0),.nilslice,(I 0),(I 0),(I 0),(I 0)]))),o0 13 (.store 6 (.s 3) (.s 19)),mS 14 4 20] [4,0,3])
  (sQ (sQ (rG 0 [mS 0 21 0,nC 1 22 21,fA 2 23 35 22,lF 3 24 23,nC 4 25 24,fA 5 26 5 25,lF 6 27 26,lN 7 28 27,mI 8 29 0] [4,29,28,27,0,3])
  (.block 0 (.loop (some [4,29,28,27,0,3]) c_drive_Node_fusing_l1)))
  (sQ (rG 0 [mS 0 48 0,lT 1 49 6 3,nC 2 50 48,fA 3 51 39 50,o0 4 (.store 6 (.s 51) (.s 49))] [4,0])
  (sQ (sQ (rG 0 [mS 0 52 4,o1 1 53 (.un .not (.s 52))] [53,0])
  (.cond (.s 53) (sQ (rG 0 [mS 0 54 0,o1 1 55 (.mkfn 96 [(.s 54)] []),mS 2 2 55] [2])
  .ret)
  .skip))
  (sQ (rG 0 [mS 0 56 0,o1 1 57 (.mkfn 97 [(.s 56)] []),mS 2 2 57] [2])
  .ret)))))) }
abbrev f_plan_Act : Nat := 47
def c_plan_Act : CFn := { frz := true,rnd := none,nargs := 2,ntmps := 20,res := [(.slot 4)],code :=
  (sQ (rG 1 [o1 0 2 (.box 0 1 (.s 0)),mI 1 4 0] [2,1])
  (sQ (sQ (rG 0 [fA 0 5 0 2,lF 1 6 5,lN 2 7 6,bI 3 8 .eql 7 0] [8,2,1])
  (.cond (.s 8) (sQ (rG 0 [mI 0 4 0] [4])
  .ret)
  .skip))
  (sQ (rG 0 [fA 0 9 0 2,lF 1 10 9,mS 2 11 1,o1 3 12 (.minmax true [(.s 11),(kI 0)]),fA 4 13 0 2,lF 5 14 13,lN 6 15 14,bI 7 16 .sub 15 1,o1 8 17 (.minmax false [(.s 12),(.s 16)]),iA 9 18 1 10 17,lF 10 19 18,mS 11 4 19] [4])
  .ret))) }
abbrev f_track_Copy : Nat := 48
def c_track_Copy : CFn := { frz := true,rnd := none,nargs := 1,ntmps := 8,res := [(.cell 2 true 6)],code :=
  (sQ (rG 2 [o1 0 1 (.box 0 6 (.s 0)),o1 1 2 (.box 1 6 (.k (.a [(I 0),.nilslice,(I 0),(I 0),(I 0),(I 0)])))] [1,2])
  (sQ (rG 0 [fA 0 3 1 1,lF 1 4 3,cA 2 5 64 [(.s 4)],fA 3 6 1 1,o0 4 (.store 1 (.s 6) (.s 5))] [1,2])
  (sQ (rG 0 [lT 0 7 6 1,o0 1 (.store 6 (.s 2) (.s 7))] [2])
  .ret))) }
abbrev f_drive_ring_own : Nat := 49
def c_drive_ring_own : CFn := { frz := true,rnd := none,nargs := 1,ntmps := 28,res := [(.slot 2)],code :=
  (sQ (rG 0 [o1 0 2 (.mv (.k (.c .nilptr)))] [0])
  (sQ (.region 1 [mS 0 4 0,nC 1 5 4,fA 2 6 0 5,mS 4 8 0,nC 5 9 8,fA 6 10 6 9,lT 3 7 5 6,lT 7 11 6 10,cA 8 12 48 [(.s 11)],o1 9 13 (.build [(I 0),(I 0),(I 0),(I 0),(I 0),.nilslice,(I 0),.nilslice,(I 0),(I 0),(I 0),(I 0)] [(0,5,(.s 7)),(6,6,(.s 12))]),o1 10 14 (.box 0 12 (.s 13)),mS 11 3 14] [(6,8)] (some [0,3]))
  (sQ (rG 0 [mS 0 15 3,mS 1 16 3,nC 2 17 16,fA 3 18 0 17,mS 4 19 0,nC 5 20 19,fA 6 21 5 20,lF 7 22 21,lN 8 23 22,o1 9 24 (.pop (.aslice 5 1 false true) [(.s 18),(.s 23)]),nC 10 25 15,fA 11 26 5 25,o0 12 (.store 1 (.s 26) (.s 24))] [3])
  (sQ (rG 0 [mS 0 27 3,mS 1 2 27] [2])
  .ret)))) }
abbrev f_maps_Clone_heard : Nat := 50
def c_maps_Clone_heard : CFn := { frz := true,rnd := none,nargs := 1,ntmps := 9,res := [(.slot 2)],code :=
  (sQ (rG 0 [o1 0 2 (.mv (.k (.c .nilmap)))] [0])
  (sQ (sQ (rG 0 [mS 0 3 0,o1 1 4 (.bad)] [4,0])
  (.cond (.s 4) (sQ (rG 0 [o1 0 2 (.mv (.k (.c .nilmap)))] [2])
  .ret)
  .skip))
  (sQ (rG 0 [mS 0 5 0,o1 1 6 (.p1 (.mkif 73) (.s 5)),cA 2 7 98 [(.s 6)],o1 3 8 (.p1 (.tass false 73 (.c .nilmap)) (.s 7)),mS 4 2 8] [2])
  .ret))) }
def c_kerbstoneref03_Same_l1 : CC := (sQ (sQ (rG 0 [mS 0 18 6,lT 1 19 5 2,mS 2 20 5,cA 3 21 99 [(.s 19),(.s 20)],bS 4 22 .lss 18 21] [22,5,3,2,6])
  (.cond (.s 22) .skip
  (.exit 2)))
  (sQ (.block 3 (sQ (rG 0 [lT 0 25 5 2,lT 1 26 5 3,mS 2 27 5,mS 3 28 6,cA 4 29 100 [(.s 25),(.s 26),(.s 27),(.s 28)],o1 5 30 (.un .not (.s 29))] [30,5,3,2,6])
  (.cond (.s 30) (sQ (rG 0 [mB 0 4 false] [4])
  .ret)
  .skip)))
  (rG 0 [mS 0 23 6,bI 1 24 .add 23 1,mS 2 6 24] [2,3,5,6])))
def c_kerbstoneref03_Same_l2 : CC := (sQ (sQ (rG 0 [mS 0 7 5,bI 1 8 .leq 7 4] [8,5,3,2])
  (.cond (.s 8) .skip
  (.exit 0)))
  (sQ (.block 1 (sQ (sQ (.region 0 [mS 1 12 5,mS 4 15 5,lT 0 11 5 2,lT 3 14 5 3,cA 2 13 99 [(.s 11),(.s 12)],cA 5 16 99 [(.s 14),(.s 15)],bS 6 17 .neq 13 16] [(3,4)] (some [17,5,3,2]))
  (.cond (.s 17) (sQ (rG 0 [mB 0 4 false] [4])
  .ret)
  .skip))
  (sQ (rG 0 [mI 0 6 0] [2,3,5,6])
  (.block 2 (.loop (some [2,3,5,6]) c_kerbstoneref03_Same_l1)))))
  (rG 0 [mS 0 9 5,bI 1 10 .add 9 1,mS 2 5 10] [5,3,2])))
abbrev f_kerbstoneref03_Same : Nat := 51
def c_kerbstoneref03_Same : CFn := { frz := true,rnd := none,nargs := 2,ntmps := 36,res := [(.slot 4)],code :=
  (sQ (rG 2 [o1 0 2 (.box 0 5 (.s 0)),o1 1 3 (.box 1 5 (.s 1)),mB 2 4 false] [3,2])
  (sQ (sQ (rG 0 [mI 0 5 1] [5,3,2])
  (.block 0 (.loop (some [5,3,2]) c_kerbstoneref03_Same_l2)))
  (sQ (rG 0 [fA 0 31 0 2,lF 1 32 31,fA 2 33 0 3,lF 3 34 33,bS 4 35 .eql 32 34,mS 5 4 35] [4])
  .ret))) }
def c_kerbstonekit_SameInts_l1 : CC := (sQ (sQ (rG 0 [mS 0 6 5,mS 1 7 0,lN 2 8 7,bS 3 9 .lss 6 8,mS 4 10 9,oG 5 11 10 true (.mv (.s 5)),oG 6 12 10 true (.mv (.s 1)),oG 7 13 10 true (.len (.s 12)),oG 8 14 10 true (.bin .lss (.s 11) (.s 13)),o1 9 15 (.pick (.s 10) (.s 14) (kB false))] [15,1,0,5])
  (.cond (.s 15) .skip
  (.exit 0)))
  (sQ (.block 1 (sQ (rG 0 [mS 0 18 0,mS 1 19 5,iA 2 20 1 18 19,mS 4 22 1,mS 5 23 5,iA 6 24 1 22 23,lF 3 21 20,lF 7 25 24,bS 8 26 .neq 21 25] [26,1,0,5])
  (.cond (.s 26) (sQ (rG 0 [mB 0 4 false] [4])
  .ret)
  .skip)))
  (rG 0 [mS 0 16 5,bI 1 17 .add 16 1,mS 2 5 17] [0,1,5])))
abbrev f_kerbstonekit_SameInts : Nat := 52
def c_kerbstonekit_SameInts : CFn := { frz := true,rnd := none,nargs := 2,ntmps := 32,res := [(.slot 4)],code :=
  (sQ (rG 0 [mB 0 4 false] [0,1])
  (sQ (sQ (rG 0 [mI 0 5 0] [0,1,5])
  (.block 0 (.loop (some [0,1,5]) c_kerbstonekit_SameInts_l1)))
  (sQ (rG 0 [mS 0 27 0,lN 1 28 27,mS 2 29 1,lN 3 30 29,bS 4 31 .eql 28 30,mS 5 4 31] [4])
  .ret))) }
abbrev f_plan_within : Nat := 53
def c_plan_within : CFn := { frz := true,rnd := none,nargs := 3,ntmps := 15,res := [(.slot 6)],code :=
  (sQ (rG 0 [mB 0 6 false] [1,0,2])
  (sQ (rG 0 [mS 0 7 1,mS 1 8 0,bS 2 9 .leq 7 8,mS 3 10 9,oG 4 11 10 true (.mv (.s 0)),oG 5 12 10 true (.mv (.s 2)),oG 6 13 10 true (.bin .leq (.s 11) (.s 12)),o1 7 14 (.pick (.s 10) (.s 13) (kB false)),mS 8 6 14] [6])
  .ret)) }
abbrev f_plan_driver_ramp : Nat := 54
def c_plan_driver_ramp : CFn := { frz := true,rnd := none,nargs := 2,ntmps := 31,res := [(.slot 4)],code :=
  (sQ (rG 0 [mI 0 4 0] [1,0])
  (sQ (rG 0 [mS 0 6 0,mS 1 7 0,nC 2 8 7,fA 3 9 5 8,lF 4 10 9,cA 5 11 101 [(.s 6),(.s 10)],mS 6 5 11] [1,5,0])
  (sQ (.region 0 [mS 0 12 5,mS 1 13 0,nC 2 14 13,fA 3 15 0 14,fA 4 16 3 15,mS 7 19 0,mS 8 20 1,mS 10 22 5,mS 11 23 0,nC 12 24 23,fA 13 25 0 24,fA 14 26 3 25,lF 5 17 16,bS 6 18 .sub 12 17,lF 15 27 26,bS 16 28 .add 22 27,cA 9 21 101 [(.s 19),(.s 20)],o1 17 29 (.minmax false [(.s 21),(.s 28)]),o1 18 30 (.minmax true [(.s 18),(.s 29)]),mS 19 4 30] [(12,16),(14,16)] (some [4]))
  .ret))) }
def c_kerbstonekit_road_l1 : CC := (sQ (sQ (rG 0 [mS 0 15 10,bI 1 16 .add 15 1,mS 2 17 3,lN 3 18 17,bS 4 19 .lss 16 18] [19,10,8,0,3,9])
  (.cond (.s 19) .skip
  (.exit 0)))
  (sQ (.block 1 (.region 1 [fA 0 22 1 9,fA 1 23 0 22,mS 3 25 3,mS 4 26 10,iA 5 27 1 25 26,mS 7 29 3,mS 8 30 10,bI 9 31 .add 30 1,iA 10 32 1 29 31,lF 2 24 23,lF 6 28 27,lF 11 33 32,o1 12 34 (.build [(I 0),(I 0)] [(0,1,(.s 28)),(1,1,(.s 33))]),o1 13 35 (.lit 0 2 [[(I 0),(I 0)]] [(0,(.s 34))]),o1 14 36 (.append 2 16 (.s 24) (.s 35)),fA 15 37 1 9,fA 16 38 0 37,o0 17 (.store 1 (.s 38) (.s 36))] [(9,13)] (some [10,8,0,3,9])))
  (rG 0 [mS 0 20 10,bI 1 21 .add 20 2,mS 2 10 21] [10,8,0,3,9])))
abbrev f_kerbstonekit_road : Nat := 56
def c_kerbstonekit_road : CFn := { frz := true,rnd := none,nargs := 4,ntmps := 43,res := [(.cell 8 true 5)],code :=
  (sQ (rG 1 [o1 0 8 (.box 0 5 (.k (.a [(I 0),.nilslice,(I 0),(I 0),.nilslice])))] [1,2,8,0,3])
  (sQ (rG 1 [mS 0 11 0,mS 1 12 1,mS 2 13 2,o1 3 14 (.build [(I 0),.nilslice,(I 0),(I 0),.nilslice] [(0,1,(.s 11)),(2,1,(kI 1500)),(3,1,(.s 12)),(4,1,(.s 13))]),o1 4 9 (.box 0 5 (.k (.a [(I 0),.nilslice,(I 0),(I 0),.nilslice]))),o0 5 (.store 5 (.s 9) (.s 14))] [8,0,3,9])
  (sQ (sQ (rG 0 [mI 0 10 0] [10,8,0,3,9])
  (.block 0 (.loop (some [10,8,0,3,9]) c_kerbstonekit_road_l1)))
  (sQ (sQ (rG 0 [mS 0 39 0,bI 1 40 .eql 39 3] [40,9,8])
  (.cond (.s 40) (rG 0 [fA 0 41 2 9,o0 1 (.store 1 (.s 41) (kI 500))] [9,8])
  .skip))
  (sQ (rG 0 [lT 0 42 5 9,o0 1 (.store 5 (.s 8) (.s 42))] [8])
  .ret))))) }
abbrev f_roads_Copy : Nat := 57
def c_roads_Copy : CFn := { frz := true,rnd := none,nargs := 1,ntmps := 18,res := [(.cell 2 true 5)],code :=
  (sQ (rG 2 [o1 0 1 (.box 0 5 (.s 0)),o1 1 2 (.box 1 5 (.k (.a [(I 0),.nilslice,.nilslice,.nilslice,.nilslice])))] [1,2])
  (sQ (.region 0 [fA 0 3 0 1,fA 2 5 1 1,fA 5 8 2 1,fA 8 11 3 1,fA 11 14 4 1,lF 1 4 3,lF 3 6 5,lF 6 9 8,lF 9 12 11,lF 12 15 14,⟨4,(some 7),none,.call ⟨true⟩ (.k (.c (.fn 102 [] []))) [(.s 6),(.k (.c (.fn 103 [] [])))]⟩,⟨7,(some 10),none,.call ⟨true⟩ (.k (.c (.fn 104 [] []))) [(.s 9),(.k (.c (.fn 105 [] [])))]⟩,⟨10,(some 13),none,.call ⟨true⟩ (.k (.c (.fn 106 [] []))) [(.s 12),(.k (.c (.fn 107 [] [])))]⟩,⟨13,(some 16),none,.call ⟨true⟩ (.k (.c (.fn 108 [] []))) [(.s 15),(.k (.c (.fn 109 [] [])))]⟩,o1 14 17 (.build [(I 0),.nilslice,.nilslice,.nilslice,.nilslice] [(0,1,(.s 4)),(1,1,(.s 7)),(2,1,(.s 10)),(3,1,(.s 13)),(4,1,(.s 16))]),o0 15 (.store 5 (.s 2) (.s 17))] [(5,10),(5,11),(5,12),(5,13),(7,10),(8,10),(8,11),(9,10),(9,11),(9,12)] (some [2]))
  .ret)) }
abbrev f_slices_Clone_int : Nat := 58
abbrev f_roads_Starts : Nat := 59
def c_roads_Starts : CFn := { frz := true,rnd := none,nargs := 2,ntmps := 9,res := [(.slot 4)],code :=
  (sQ (rG 2 [o1 0 2 (.box 0 5 (.s 0)),o1 1 4 (.newsl 1 1)] [2,1])
  (sQ (rG 0 [lT 0 5 5 2,mS 1 6 1,cA 2 7 110 [(.s 5),(.s 6)],o1 3 8 (.field false 6 1 (.s 7)),mS 4 4 8] [4])
  .ret)) }
abbrev f_roads_RouteLength : Nat := 60
def c_roads_RouteLength : CFn := { frz := true,rnd := none,nargs := 2,ntmps := 9,res := [(.slot 4)],code :=
  (sQ (rG 1 [o1 0 2 (.box 0 5 (.s 0)),mI 1 4 0] [2,1])
  (sQ (rG 0 [lT 0 5 5 2,mS 1 6 1,cA 2 7 110 [(.s 5),(.s 6)],o1 3 8 (.field false 7 1 (.s 7)),mS 4 4 8] [4])
  .ret)) }
abbrev f_roads_Length : Nat := 61
def c_roads_Length : CFn := { frz := true,rnd := none,nargs := 2,ntmps := 12,res := [(.slot 4)],code :=
  (sQ (rG 1 [o1 0 2 (.box 0 5 (.s 0)),mI 1 4 0] [1,2])
  (sQ (sQ (rG 0 [lT 0 5 5 2,mS 1 6 1,cA 2 7 111 [(.s 5),(.s 6)],o1 3 8 (.un .not (.s 7))] [8,1,2])
  (.cond (.s 8) (sQ (rG 0 [mI 0 4 0] [4])
  .ret)
  .skip))
  (sQ (rG 0 [lT 0 9 5 2,mS 1 10 1,cA 2 11 112 [(.s 9),(.s 10)],mS 3 4 11] [4])
  .ret))) }
def c_roads_Sources_l1 : CC := (sQ (rG 0 [bS 0 12 .lss 11 10] [12,3,11,10,1])
  (sQ (.cond (.s 12) .skip
  (.exit 0))
  (sQ (.block 1 (sQ (rG 0 [mS 0 13 11,mS 1 4 13] [3,4,11,10,1])
  (sQ (rG 0 [lT 0 14 5 1,mS 1 15 4,cA 2 16 76 [(.s 14),(.s 15)],lN 3 17 16,bI 4 18 .eql 17 0] [18,3,4,11,10,1])
  (.cond (.s 18) (rG 1 [mS 0 19 3,mS 1 20 4,o1 2 21 (.lit 0 1 [[(I 0)]] [(0,(.s 20))]),o1 3 22 (.append 1 8 (.s 19) (.s 21)),mS 4 3 22] [11,3,10,1])
  .skip))))
  (rG 0 [bI 0 23 .add 11 1,mS 1 11 23] [3,11,10,1]))))
abbrev f_roads_Sources : Nat := 62
def c_roads_Sources : CFn := { frz := true,rnd := none,nargs := 1,ntmps := 25,res := [(.slot 2)],code :=
  (sQ (rG 2 [o1 0 1 (.box 0 5 (.s 0)),o1 1 2 (.newsl 1 1)] [1])
  (sQ (sQ (rG 0 [lT 0 5 5 1,cA 1 6 38 [(.s 5)],bI 2 7 .neq 6 0] [7,1])
  (.cond (.s 7) (sQ (rG 1 [o1 0 2 (.newsl 0 1)] [2])
  .ret)
  .skip))
  (sQ (rG 1 [o1 0 3 (.newsl 0 1)] [3,1])
  (sQ (sQ (rG 0 [fA 0 8 1 1,lF 1 9 8,lN 2 10 9,mI 3 11 0] [3,11,10,1])
  (.block 0 (.loop (some [3,11,10,1]) c_roads_Sources_l1)))
  (sQ (rG 0 [mS 0 24 3,mS 1 2 24] [2])
  .ret))))) }
def c_motion_Course_Own_l1 : CC := (sQ (rG 0 [bS 0 18 .lss 17 16] [18,1,17,16,15,5,3])
  (sQ (.cond (.s 18) .skip
  (.exit 0))
  (sQ (.block 1 (sQ (rG 0 [mS 0 19 17,iA 1 20 1 15 17,lF 2 21 20,mS 3 7 19,mS 4 8 21] [1,8,7,17,16,15,5,3])
  (rG 0 [mS 0 22 1,mS 1 23 8,fA 2 24 1 5,fA 4 26 8 3,fA 7 29 6 3,mS 9 31 7,fA 13 35 0 5,fA 15 37 6 3,mS 17 39 7,lF 3 25 24,lF 5 27 26,bS 6 28 .sub 25 27,lF 8 30 29,iA 10 32 1 30 31,lF 11 33 32,bS 12 34 .sub 28 33,lF 14 36 35,lF 16 38 37,iA 18 40 1 38 39,lF 19 41 40,bS 20 42 .sub 36 41,o1 21 43 (.build [(I 0),(I 0),(I 0)] [(0,1,(.s 23)),(1,1,(.s 34)),(2,1,(.s 42))]),cA 22 44 114 [(.s 22),(.s 43)],mS 23 1 44] [17,1,16,15,5,3])))
  (rG 0 [bI 0 45 .add 17 1,mS 1 17 45] [1,17,16,15,5,3]))))
abbrev f_motion_Course_Own : Nat := 63
def c_motion_Course_Own : CFn := { frz := true,rnd := none,nargs := 3,ntmps := 47,res := [(.slot 6)],code :=
  (sQ (rG 3 [o1 0 3 (.box 0 11 (.s 0)),o1 1 5 (.box 1 4 (.s 2)),o1 2 6 (.newsl 2 6)] [3,5,1])
  (sQ (sQ (rG 0 [lT 0 9 11 3,lT 1 10 4 5,cA 2 11 113 [(.s 9),(.s 10)],o1 3 12 (.un .not (.s 11))] [12,3,5,1])
  (.cond (.s 12) (sQ (rG 0 [mS 0 13 1,mS 1 6 13] [6])
  .ret)
  .skip))
  (sQ (sQ (rG 0 [fA 0 14 5 3,lF 1 15 14,lN 2 16 15,mI 3 17 0] [1,17,16,15,5,3])
  (.block 0 (.loop (some [1,17,16,15,5,3]) c_motion_Course_Own_l1)))
  (sQ (rG 0 [mS 0 46 1,mS 1 6 46] [6])
  .ret)))) }
abbrev f_slices_Clone_Blob : Nat := 64
abbrev f_roads_Bounds : Nat := 65
def c_roads_Bounds : CFn := { frz := true,rnd := none,nargs := 1,ntmps := 26,res := [(.slot 2),(.slot 3),(.slot 4)],code :=
  (sQ (rG 0 [mI 0 2 0,mI 1 3 0,mI 2 4 0] [0])
  (sQ (rG 1 [o1 0 7 (.build [(I 0),(I 0),(I 0)] [(0,1,(kI 2000)),(1,1,(kI 30)),(2,1,(kI 90))]),o1 1 8 (.build [(I 0),(I 0),(I 0)] [(0,1,(kI 1000)),(1,1,(kI 20)),(2,1,(kI 60))]),o1 2 9 (.build [(I 0),(I 0),(I 0)] [(0,1,(kI 300)),(1,1,(kI 100)),(2,1,(kI 300))]),o1 3 10 (.build [(I 0),(I 0),(I 0),(I 0),(I 0),(I 0),(I 0),(I 0),(I 0),(I 0),(I 0),(I 0)] [(3,3,(.s 7)),(6,3,(.s 8)),(9,3,(.s 9))]),o1 4 5 (.box 0 12 (.k (.a [(I 0),(I 0),(I 0),(I 0),(I 0),(I 0),(I 0),(I 0),(I 0),(I 0),(I 0),(I 0)]))),o0 5 (.store 12 (.s 5) (.s 10))] [5,0])
  (sQ (sQ (rG 0 [mS 0 11 0,bI 1 12 .lss 11 0,mS 2 13 12,oG 3 14 13 false (.mv (.s 0)),oG 4 15 13 false (.bin .geq (.s 14) (kI 4)),o1 5 16 (.pick (.s 13) (kB true) (.s 15))] [16,5,0])
  (.cond (.s 16) (sQ (rG 0 [mI 0 2 0,mI 1 3 0,mI 2 4 0] [2,3,4])
  .ret)
  .skip))
  (sQ (rG 1 [mS 0 17 0,o1 1 18 (.aaddr 4 3 (.s 5) (.s 17)),lT 2 19 3 18,o1 3 6 (.box 0 3 (.k (.a [(I 0),(I 0),(I 0)]))),o0 4 (.store 3 (.s 6) (.s 19))] [6])
  (sQ (rG 0 [o1 0 20 (.aaddr 3 1 (.s 6) (kI 0)),o1 2 22 (.aaddr 3 1 (.s 6) (kI 1)),o1 4 24 (.aaddr 3 1 (.s 6) (kI 2)),lF 1 21 20,mS 6 2 21,lF 3 23 22,mS 7 3 23,lF 5 25 24,mS 8 4 25] [2,3,4])
  .ret))))) }
abbrev f_roads_check_numbers : Nat := 66
def c_roads_check_numbers : CFn := { frz := true,rnd := none,nargs := 1,ntmps := 42,res := [(.slot 2)],code :=
  (sQ (rG 1 [o1 0 1 (.box 0 5 (.s 0)),mI 1 2 0] [1])
  (sQ (.block 0 (sQ (rG 0 [fA 0 4 0 1,fA 1 5 0 4,lF 2 6 5,cA 3 7 115 [(.s 6),(kI 0),(kI 1099511627776)],o1 4 8 (.un .not (.s 7)),mS 5 3 8] [3,1])
  (.cond (.s 3) (sQ (rG 0 [mI 0 2 2] [2])
  .ret)
  (sQ (rG 0 [fA 0 10 0 1,fA 1 11 1 10,lF 2 12 11,lN 3 13 12,bI 4 14 .eql 13 0,mS 5 9 14] [9,1])
  (.cond (.s 9) (sQ (rG 0 [mI 0 2 6] [2])
  .ret)
  (sQ (rG 0 [fA 0 16 0 1,fA 1 17 1 16,lF 2 18 17,lN 3 19 18,bI 4 20 .gtr 19 12,mS 5 21 20,oG 6 22 21 false (.faddr 0 (.s 1)),oG 7 23 21 false (.faddr 2 (.s 22)),oG 8 24 21 false (.load false 1 (.s 23)),oG 9 25 21 false (.len (.s 24)),oG 10 26 21 false (.bin .gtr (.s 25) (kI 12)),o1 11 27 (.pick (.s 21) (kB true) (.s 26)),mS 12 28 27,oG 13 29 28 false (.faddr 0 (.s 1)),oG 14 30 28 false (.faddr 3 (.s 29)),oG 15 31 28 false (.load false 1 (.s 30)),oG 16 32 28 false (.len (.s 31)),oG 17 33 28 false (.bin .gtr (.s 32) (kI 4)),o1 18 34 (.pick (.s 28) (kB true) (.s 33)),mS 19 35 34,oG 20 36 35 false (.faddr 0 (.s 1)),oG 21 37 35 false (.faddr 4 (.s 36)),oG 22 38 35 false (.load false 1 (.s 37)),oG 23 39 35 false (.len (.s 38)),oG 24 40 35 false (.bin .gtr (.s 39) (kI 8)),o1 25 41 (.pick (.s 35) (kB true) (.s 40)),mS 26 15 41] [15])
  (.cond (.s 15) (sQ (rG 0 [mI 0 2 8] [2])
  .ret)
  .skip)))))))
  (sQ (rG 0 [mI 0 2 0] [2])
  .ret))) }
def c_roads_check_lanes_l1 : CC := (sQ (rG 0 [bS 0 14 .lss 13 12] [14,1,11,12,13])
  (sQ (.cond (.s 14) .skip
  (.exit 0))
  (sQ (.block 1 (sQ (rG 1 [mS 0 15 13,iA 1 16 5 11 13,lT 2 17 5 16,o1 3 4 (.box 0 5 (.k (.a [(I 0),.nilslice,(I 0),(I 0),.nilslice]))),mS 4 3 15,o0 5 (.store 5 (.s 4) (.s 17))] [4,3,1,11,12,13])
  (sQ (rG 0 [fA 0 19 0 4,lF 1 20 19,cA 2 21 65 [(.s 20)],mS 3 18 21,eX 4 22 18 0,eX 5 23 18 1,eX 6 24 18 2,mS 7 5 22,mS 8 6 23,mS 9 7 24] [5,4,3,1,11,12,13])
  (sQ (sQ (rG 0 [mS 0 25 5,bI 1 26 .eql 25 0] [26,5,4,3,1,11,12,13])
  (.cond (.s 26) (sQ (rG 0 [mI 0 2 4] [2])
  .ret)
  .skip))
  (sQ (sQ (rG 0 [fA 0 27 1 4,lT 1 28 1 27,cA 2 29 116 [(.s 28)],mS 3 8 29] [13,12,11,1,3,4,5,8])
  (sQ (rG 0 [mS 0 30 8,bI 1 31 .neq 30 0] [31,13,12,11,1,3,4,5,8])
  (.cond (.s 31) (sQ (rG 0 [mS 0 32 8,mS 1 2 32] [2])
  .ret)
  .skip)))
  (.block 2 (sQ (rG 0 [fA 0 34 2 4,lF 1 35 34,cA 2 36 115 [(.s 35),(kI 200),(kI 4000)],o1 3 37 (.un .not (.s 36)),mS 4 38 37,oG 5 39 38 false (.faddr 3 (.s 4)),oG 6 40 38 false (.load false 1 (.s 39)),oG 7 41 38 false (.mv (.s 5)),⟨8,(some 42),(some (38,false)),.call ⟨true⟩ (.k (.c (.fn 115 [] []))) [(.s 40),(kI 1),(.s 41)]⟩,oG 9 43 38 false (.un .not (.s 42)),o1 10 44 (.pick (.s 38) (kB true) (.s 43)),mS 11 33 44] [33,4,3,1,11,12,13])
  (.cond (.s 33) (sQ (rG 0 [mI 0 2 2] [2])
  .ret)
  (sQ (rG 0 [fA 0 46 4 4,lF 1 47 46,lN 2 48 47,bI 3 49 .gtr 48 3,mS 4 45 49] [45,13,12,11,1,3,4])
  (.cond (.s 45) (sQ (rG 0 [mI 0 2 8] [2])
  .ret)
  (sQ (rG 0 [fA 0 51 4 4,lF 1 52 51,mS 2 53 3,bI 3 54 .add 53 1,fA 4 55 0 1,fA 5 56 1 55,lF 6 57 56,lN 7 58 57,cA 8 59 117 [(.s 52),(.s 54),(.s 58)],o1 9 60 (.un .not (.s 59)),mS 10 50 60] [50,1,11,12,13])
  (.cond (.s 50) (sQ (rG 0 [mI 0 2 11] [2])
  .ret)
  .skip))))))))))))
  (rG 0 [bI 0 61 .add 13 1,mS 1 13 61] [12,11,1,13]))))
abbrev f_roads_check_lanes : Nat := 67
def c_roads_check_lanes : CFn := { frz := true,rnd := none,nargs := 1,ntmps := 62,res := [(.slot 2)],code :=
  (sQ (rG 1 [o1 0 1 (.box 0 5 (.s 0)),mI 1 2 0] [1])
  (sQ (sQ (rG 0 [fA 0 9 0 1,fA 1 10 1 9,lF 2 11 10,lN 3 12 11,mI 4 13 0] [12,11,1,13])
  (.block 0 (.loop (some [12,11,1,13]) c_roads_check_lanes_l1)))
  (sQ (rG 0 [mI 0 2 0] [2])
  .ret))) }
def c_roads_check_joints_l1 : CC := (sQ (rG 0 [bS 0 30 .lss 29 28] [30,29,28,10,11,12,27,4,5,1])
  (sQ (.cond (.s 30) .skip
  (.exit 2))
  (sQ (.block 3 (sQ (rG 0 [iA 0 31 1 27 29,lF 1 32 31,mS 2 7 32] [29,28,10,11,12,27,4,5,1,7])
  (sQ (sQ (rG 0 [fA 0 33 0 1,fA 1 34 1 33,mS 3 36 7,fA 7 40 0 4,lF 2 35 34,iA 4 37 5 35 36,fA 5 38 0 37,lF 6 39 38,lF 8 41 40,bS 9 42 .neq 39 41] [42,29,28,10,11,12,27,4,5,1,7])
  (.cond (.s 42) (sQ (rG 0 [mI 0 2 4] [2])
  .ret)
  .skip))
  (sQ (rG 0 [fA 0 43 0 1,fA 1 44 1 43,mS 3 46 7,lF 2 45 44,iA 4 47 5 45 46,fA 5 48 1 47,fA 6 49 0 48,lF 7 50 49,o1 8 51 (.iaddr 2 (.s 50) (kI 0)),lT 9 52 2 51,lT 10 53 2 5,o1 11 54 (.eqa true [false,false] (.s 52) (.s 53))] [54,1,5,4,27,12,11,10,28,29])
  (.cond (.s 54) (sQ (rG 0 [mI 0 2 3] [2])
  .ret)
  .skip)))))
  (rG 0 [bI 0 55 .add 29 1,mS 1 29 55] [29,28,10,11,12,27,4,5,1]))))
def c_roads_check_joints_l2 : CC := (sQ (rG 0 [bS 0 13 .lss 12 11] [13,10,11,12,1])
  (sQ (.cond (.s 13) .skip
  (.exit 0))
  (sQ (.block 1 (sQ (rG 1 [iA 0 14 5 10 12,lT 1 15 5 14,o1 2 4 (.box 0 5 (.k (.a [(I 0),.nilslice,(I 0),(I 0),.nilslice]))),o0 3 (.store 5 (.s 4) (.s 15))] [10,11,12,4,1])
  (sQ (rG 1 [fA 0 16 1 4,fA 1 17 0 16,lF 2 18 17,fA 3 19 1 4,fA 4 20 0 19,lF 5 21 20,lN 6 22 21,bI 7 23 .sub 22 1,iA 8 24 2 18 23,lT 9 25 2 24,o1 10 5 (.box 0 2 (.k (.a [(I 0),(I 0)]))),o0 11 (.store 2 (.s 5) (.s 25))] [10,11,12,4,5,1])
  (sQ (rG 0 [fA 0 26 4 4,lF 1 27 26,lN 2 28 27,mI 3 29 0] [29,28,10,11,12,27,4,5,1])
  (.block 2 (.loop (some [29,28,10,11,12,27,4,5,1]) c_roads_check_joints_l1))))))
  (rG 0 [bI 0 56 .add 12 1,mS 1 12 56] [11,10,12,1]))))
abbrev f_roads_check_joints : Nat := 68
def c_roads_check_joints : CFn := { frz := true,rnd := none,nargs := 1,ntmps := 57,res := [(.slot 2)],code :=
  (sQ (rG 1 [o1 0 1 (.box 0 5 (.s 0)),mI 1 2 0] [1])
  (sQ (sQ (rG 0 [fA 0 8 0 1,fA 1 9 1 8,lF 2 10 9,lN 3 11 10,mI 4 12 0] [11,10,12,1])
  (.block 0 (.loop (some [11,10,12,1]) c_roads_check_joints_l2)))
  (sQ (rG 0 [mI 0 2 0] [2])
  .ret))) }
def c_roads_check_signals_l1 : CC := (sQ (rG 0 [bS 0 11 .lss 10 9] [11,1,8,9,10])
  (sQ (.cond (.s 11) .skip
  (.exit 0))
  (sQ (.block 1 (sQ (rG 1 [iA 0 12 2 8 10,lT 1 13 2 12,o1 2 4 (.box 0 2 (.k (.a [(I 0),.nilslice]))),o0 3 (.store 2 (.s 4) (.s 13))] [4,1,8,9,10])
  (sQ (rG 0 [fA 0 14 1 4,lF 1 15 14,lN 2 16 15,mS 3 5 16] [4,1,8,9,10,5])
  (.block 2 (sQ (rG 0 [mS 0 18 5,bI 1 19 .eql 18 0,mS 2 17 19] [17,4,1,8,9,10,5])
  (.cond (.s 17) (sQ (rG 0 [mI 0 2 6] [2])
  .ret)
  (sQ (rG 0 [mS 0 21 5,bI 1 22 .gtr 21 6,mS 2 20 22] [20,10,9,8,1,4])
  (.cond (.s 20) (sQ (rG 0 [mI 0 2 8] [2])
  .ret)
  (sQ (rG 0 [fA 0 24 0 4,lF 1 25 24,cA 2 26 115 [(.s 25),(kI 0),(kI 1099511627776)],o1 3 27 (.un .not (.s 26)),mS 4 23 27] [23,4,1,8,9,10])
  (.cond (.s 23) (sQ (rG 0 [mI 0 2 2] [2])
  .ret)
  (sQ (rG 0 [fA 0 29 1 4,lF 1 30 29,⟨2,(some 31),none,.call ⟨true⟩ (.k (.c (.fn 118 [] []))) [(.s 30),(.k (.c (.fn 119 [] [])))]⟩,mS 3 28 31] [28,10,9,8,1,4])
  (.cond (.s 28) (sQ (rG 0 [mI 0 2 2] [2])
  .ret)
  (sQ (rG 0 [fA 0 33 1 4,lF 1 34 33,o1 2 35 (.mkfn 120 [] [(.s 1)]),cA 3 36 118 [(.s 34),(.s 35)],mS 4 32 36] [32,1,8,9,10])
  (.cond (.s 32) (sQ (rG 0 [mI 0 2 11] [2])
  .ret)
  .skip))))))))))))))
  (rG 0 [bI 0 37 .add 10 1,mS 1 10 37] [9,8,1,10]))))
abbrev f_roads_check_signals : Nat := 69
def c_roads_check_signals : CFn := { frz := true,rnd := none,nargs := 1,ntmps := 38,res := [(.slot 2)],code :=
  (sQ (rG 1 [o1 0 1 (.box 0 5 (.s 0)),mI 1 2 0] [1])
  (sQ (sQ (rG 0 [fA 0 6 0 1,fA 1 7 3 6,lF 2 8 7,lN 3 9 8,mI 4 10 0] [9,8,1,10])
  (.block 0 (.loop (some [9,8,1,10]) c_roads_check_signals_l1)))
  (sQ (rG 0 [mI 0 2 0] [2])
  .ret))) }
def c_roads_check_zones_l1 : CC := (sQ (rG 0 [bS 0 45 .lss 44 43] [45,6,44,43,4,13,14,15,1,42])
  (sQ (.cond (.s 45) .skip
  (.exit 3))
  (sQ (.block 4 (sQ (rG 1 [iA 0 46 4 42 44,lT 1 47 4 46,o1 2 8 (.box 0 4 (.k (.a [(I 0),(I 0),(I 0),(I 0)]))),o0 3 (.store 4 (.s 8) (.s 47))] [6,8,44,43,4,13,14,15,1,42])
  (rG 1 [mS 0 48 6,fA 1 49 0 8,lF 2 50 49,o1 3 51 (.lit 0 1 [[(I 0)]] [(0,(.s 50))]),o1 4 52 (.append 1 8 (.s 48) (.s 51)),mS 5 6 52] [44,6,43,4,13,14,15,1,42])))
  (rG 0 [bI 0 53 .add 44 1,mS 1 44 53] [6,44,43,4,13,14,15,1,42]))))
def c_roads_check_zones_l2 : CC := (sQ (rG 0 [bS 0 65 .lss 64 63] [65,1,62,15,14,13,63,64])
  (sQ (.cond (.s 65) .skip
  (.exit 5))
  (sQ (.block 6 (sQ (rG 1 [iA 0 66 4 62 64,lT 1 67 4 66,o1 2 10 (.box 0 4 (.k (.a [(I 0),(I 0),(I 0),(I 0)]))),o0 3 (.store 4 (.s 10) (.s 67))] [10,1,62,15,14,13,63,64])
  (sQ (.region 0 [fA 0 68 1 10,lF 1 69 68,bI 2 70 .lss 69 0,mS 3 71 70,oG 4 72 71 false (.faddr 1 (.s 10)),oG 6 74 71 false (.faddr 2 (.s 10)),oG 5 73 71 false (.load false 1 (.s 72)),oG 7 75 71 false (.load false 1 (.s 74)),oG 8 76 71 false (.bin .geq (.s 73) (.s 75)),o1 9 77 (.pick (.s 71) (kB true) (.s 76)),mS 10 78 77,oG 11 79 78 false (.faddr 2 (.s 10)),oG 13 81 78 false (.faddr 0 (.s 1)),oG 15 83 78 false (.faddr 0 (.s 10)),oG 12 80 78 false (.load false 1 (.s 79)),oG 14 82 78 false (.load true 5 (.s 81)),oG 16 84 78 false (.load false 1 (.s 83)),⟨17,(some 85),(some (78,false)),.call ⟨true⟩ (.k (.c (.fn 112 [] []))) [(.s 82),(.s 84)]⟩,oG 18 86 78 false (.bin .gtr (.s 80) (.s 85)),o1 19 87 (.pick (.s 78) (kB true) (.s 86)),mS 20 88 87,oG 21 89 88 false (.faddr 3 (.s 10)),oG 22 90 88 false (.load false 1 (.s 89)),oG 23 91 88 false (.bin .lss (.s 90) (kI 0)),o1 24 92 (.pick (.s 88) (kB true) (.s 91)),mS 25 93 92,oG 26 94 93 false (.faddr 3 (.s 10)),oG 27 95 93 false (.load false 1 (.s 94)),oG 28 96 93 false (.bin .gtr (.s 95) (kI 100)),o1 29 97 (.pick (.s 93) (kB true) (.s 96))] [(14,17)] (some [97,1,62,15,14,13,63,64]))
  (.cond (.s 97) (sQ (rG 0 [mI 0 2 2] [2])
  .ret)
  .skip))))
  (rG 0 [bI 0 98 .add 64 1,mS 1 64 98] [63,13,14,15,62,1,64]))))
def c_roads_check_zones_l3 : CC := (sQ (rG 0 [bS 0 16 .lss 15 14] [16,1,15,14,13])
  (sQ (.cond (.s 16) .skip
  (.exit 0))
  (sQ (.block 1 (sQ (rG 1 [iA 0 17 2 13 15,lT 1 18 2 17,o1 2 4 (.box 0 2 (.k (.a [.nilslice,(I 0)]))),o0 3 (.store 2 (.s 4) (.s 18))] [1,15,14,13,4])
  (sQ (sQ (rG 0 [fA 0 19 0 4,lF 1 20 19,lN 2 21 20,mS 3 5 21] [1,15,14,13,4,5])
  (.block 2 (sQ (rG 0 [mS 0 23 5,bI 1 24 .lss 23 2,mS 2 22 24] [22,1,15,14,13,4,5])
  (.cond (.s 22) (sQ (rG 0 [mI 0 2 6] [2])
  .ret)
  (sQ (rG 0 [mS 0 26 5,bI 1 27 .gtr 26 6,mS 2 25 27] [25,4,13,14,15,1])
  (.cond (.s 25) (sQ (rG 0 [mI 0 2 8] [2])
  .ret)
  (sQ (rG 0 [fA 0 29 1 4,lF 1 30 29,bI 2 31 .lss 30 0,mS 3 32 31,oG 4 33 32 false (.faddr 1 (.s 4)),oG 5 34 32 false (.load false 1 (.s 33)),oG 6 35 32 false (.faddr 0 (.s 1)),oG 7 36 32 false (.faddr 3 (.s 35)),oG 8 37 32 false (.load false 1 (.s 36)),oG 9 38 32 false (.len (.s 37)),oG 10 39 32 false (.bin .gtr (.s 34) (.s 38)),o1 11 40 (.pick (.s 32) (kB true) (.s 39)),mS 12 28 40] [28,1,15,14,13,4])
  (.cond (.s 28) (sQ (rG 0 [mI 0 2 2] [2])
  .ret)
  .skip))))))))
  (sQ (rG 1 [o1 0 6 (.newsl 0 1)] [6,4,13,14,15,1])
  (sQ (sQ (rG 0 [fA 0 41 0 4,lF 1 42 41,lN 2 43 42,mI 3 44 0] [6,44,43,4,13,14,15,1,42])
  (.block 3 (.loop (some [6,44,43,4,13,14,15,1,42]) c_roads_check_zones_l1)))
  (sQ (sQ (rG 0 [mS 0 54 6,fA 1 55 0 1,fA 2 56 1 55,lF 3 57 56,lN 4 58 57,cA 5 59 117 [(.s 54),(kI 0),(.s 58)],o1 6 60 (.un .not (.s 59))] [60,1,15,14,13,4])
  (.cond (.s 60) (sQ (rG 0 [mI 0 2 11] [2])
  .ret)
  .skip))
  (sQ (rG 0 [fA 0 61 0 4,lF 1 62 61,lN 2 63 62,mI 3 64 0] [63,13,14,15,62,1,64])
  (.block 5 (.loop (some [63,13,14,15,62,1,64]) c_roads_check_zones_l2)))))))))
  (rG 0 [bI 0 99 .add 15 1,mS 1 15 99] [1,15,14,13]))))
abbrev f_roads_check_zones : Nat := 70
def c_roads_check_zones : CFn := { frz := true,rnd := none,nargs := 1,ntmps := 100,res := [(.slot 2)],code :=
  (sQ (rG 1 [o1 0 1 (.box 0 5 (.s 0)),mI 1 2 0] [1])
  (sQ (sQ (rG 0 [fA 0 11 0 1,fA 1 12 2 11,lF 2 13 12,lN 3 14 13,mI 4 15 0] [1,15,14,13])
  (.block 0 (.loop (some [1,15,14,13]) c_roads_check_zones_l3)))
  (sQ (rG 0 [mI 0 2 0] [2])
  .ret))) }
def c_roads_check_works_l1 : CC := (sQ (rG 0 [bS 0 13 .lss 12 11] [13,12,11,10,1])
  (sQ (.cond (.s 13) .skip
  (.exit 0))
  (sQ (.block 1 (sQ (rG 1 [iA 0 14 6 10 12,lT 1 15 6 14,o1 2 4 (.box 0 6 (.k (.a [(I 0),(I 0),(I 0),(I 0),(I 0),(I 0)]))),o0 3 (.store 6 (.s 4) (.s 15))] [12,11,10,1,4])
  (sQ (sQ (rG 0 [fA 0 16 0 4,lF 1 17 16,bI 2 18 .lss 17 0,mS 3 19 18,oG 4 20 19 false (.faddr 0 (.s 4)),oG 5 21 19 false (.load false 1 (.s 20)),oG 6 22 19 false (.faddr 0 (.s 1)),oG 7 23 19 false (.faddr 1 (.s 22)),oG 8 24 19 false (.load false 1 (.s 23)),oG 9 25 19 false (.len (.s 24)),oG 10 26 19 false (.bin .geq (.s 21) (.s 25)),o1 11 27 (.pick (.s 19) (kB true) (.s 26))] [27,12,11,10,1,4])
  (.cond (.s 27) (sQ (rG 0 [mI 0 2 7] [2])
  .ret)
  .skip))
  (sQ (rG 0 [fA 0 29 0 1,fA 1 30 1 29,lF 2 31 30,fA 3 32 0 4,lF 4 33 32,iA 5 34 5 31 33,fA 6 35 0 34,lF 7 36 35,cA 8 37 65 [(.s 36)],mS 9 28 37,eX 10 38 28 0,eX 11 39 28 1,eX 12 40 28 2,mS 13 5 38,mS 14 6 39,mS 15 7 40] [4,5,1,10,11,12])
  (sQ (.region 0 [fA 0 41 1 4,lF 1 42 41,bI 2 43 .lss 42 0,mS 3 44 43,oG 4 45 44 false (.faddr 1 (.s 4)),oG 6 47 44 false (.faddr 2 (.s 4)),oG 5 46 44 false (.load false 1 (.s 45)),oG 7 48 44 false (.load false 1 (.s 47)),oG 8 49 44 false (.bin .gtr (.s 46) (.s 48)),o1 9 50 (.pick (.s 44) (kB true) (.s 49)),mS 10 51 50,oG 11 52 51 false (.faddr 2 (.s 4)),oG 13 54 51 false (.faddr 0 (.s 1)),oG 15 56 51 false (.faddr 0 (.s 4)),oG 12 53 51 false (.load false 1 (.s 52)),oG 14 55 51 false (.load true 5 (.s 54)),oG 16 57 51 false (.load false 1 (.s 56)),⟨17,(some 58),(some (51,false)),.call ⟨true⟩ (.k (.c (.fn 112 [] []))) [(.s 55),(.s 57)]⟩,oG 18 59 51 false (.bin .gtr (.s 53) (.s 58)),o1 19 60 (.pick (.s 51) (kB true) (.s 59)),mS 20 61 60,oG 21 62 61 false (.faddr 3 (.s 4)),oG 22 63 61 false (.load false 1 (.s 62)),oG 23 64 61 false (.bin .lss (.s 63) (kI 0)),o1 24 65 (.pick (.s 61) (kB true) (.s 64)),mS 25 66 65,oG 26 67 66 false (.faddr 3 (.s 4)),oG 28 69 66 false (.faddr 4 (.s 4)),oG 27 68 66 false (.load false 1 (.s 67)),oG 29 70 66 false (.load false 1 (.s 69)),oG 30 71 66 false (.bin .geq (.s 68) (.s 70)),o1 31 72 (.pick (.s 66) (kB true) (.s 71)),mS 32 73 72,oG 33 74 73 false (.faddr 4 (.s 4)),oG 34 75 73 false (.load false 1 (.s 74)),oG 35 76 73 false (.bin .gtr (.s 75) (kI 1099511627776)),o1 36 77 (.pick (.s 73) (kB true) (.s 76)),mS 37 78 77,oG 38 79 78 false (.faddr 5 (.s 4)),oG 40 81 78 false (.mv (.s 5)),oG 39 80 78 false (.load false 1 (.s 79)),⟨41,(some 82),(some (78,false)),.call ⟨true⟩ (.k (.c (.fn 115 [] []))) [(.s 80),(kI 0),(.s 81)]⟩,oG 42 83 78 false (.un .not (.s 82)),o1 43 84 (.pick (.s 78) (kB true) (.s 83))] [(14,17)] (some [84,1,10,11,12]))
  (.cond (.s 84) (sQ (rG 0 [mI 0 2 2] [2])
  .ret)
  .skip))))))
  (rG 0 [bI 0 85 .add 12 1,mS 1 12 85] [12,11,10,1]))))
abbrev f_roads_check_works : Nat := 71
def c_roads_check_works : CFn := { frz := true,rnd := none,nargs := 1,ntmps := 86,res := [(.slot 2)],code :=
  (sQ (rG 1 [o1 0 1 (.box 0 5 (.s 0)),mI 1 2 0] [1])
  (sQ (sQ (rG 0 [fA 0 8 0 1,fA 1 9 4 8,lF 2 10 9,lN 3 11 10,mI 4 12 0] [12,11,10,1])
  (.block 0 (.loop (some [12,11,10,1]) c_roads_check_works_l1)))
  (sQ (rG 0 [mI 0 2 0] [2])
  .ret))) }
def c_roads_merges_l1 : CC := (sQ (rG 0 [bS 0 10 .lss 9 8] [10,2,9,8,1])
  (sQ (.cond (.s 10) .skip
  (.exit 0))
  (sQ (.block 1 (sQ (rG 1 [mS 0 11 9,o1 1 3 (.box 0 1 (.k (.a [(I 0)]))),o0 2 (.store 1 (.s 3) (.s 11))] [2,3,9,8,1])
  (sQ (rG 1 [lT 0 12 5 1,lF 1 13 3,cA 2 14 76 [(.s 12),(.s 13)],o1 3 4 (.box 0 1 (.k (.a [.nilslice]))),o0 4 (.store 1 (.s 4) (.s 14))] [4,2,3,9,8,1])
  (sQ (rG 0 [fA 0 15 2 1,lF 1 16 15,o1 2 17 (.mkfn 122 [] [(.s 1),(.s 3),(.s 4)]),cA 3 18 121 [(.s 16),(.s 17)],mS 4 5 18] [4,5,2,3,9,8,1])
  (sQ (rG 0 [lF 0 19 4,lN 1 20 19,bI 2 21 .gtr 20 1,mS 3 22 21,oG 4 23 22 true (.mv (.s 5)),oG 5 24 22 true (.un .not (.s 23)),o1 6 25 (.pick (.s 22) (.s 24) (kB false))] [25,2,3,9,8,1])
  (.cond (.s 25) (rG 1 [mS 0 26 2,lF 1 27 3,o1 2 28 (.build [(I 0),(I 0),(I 0),(I 0)] [(0,1,(kI 1)),(1,1,(kI (-1))),(2,1,(.s 27)),(3,1,(kI (-1)))]),o1 3 29 (.lit 0 4 [[(I 0),(I 0),(I 0),(I 0)]] [(0,(.s 28))]),o1 4 30 (.append 4 32 (.s 26) (.s 29)),mS 5 2 30] [9,2,8,1])
  .skip))))))
  (rG 0 [bI 0 31 .add 9 1,mS 1 9 31] [2,9,8,1]))))
abbrev f_roads_merges : Nat := 72
def c_roads_merges : CFn := { frz := true,rnd := none,nargs := 1,ntmps := 33,res := [(.slot 2)],code :=
  (sQ (rG 2 [o1 0 1 (.box 0 5 (.s 0)),o1 1 2 (.newsl 1 4)] [2,1])
  (sQ (sQ (rG 0 [fA 0 6 1 1,lF 1 7 6,lN 2 8 7,mI 3 9 0] [2,9,8,1])
  (.block 0 (.loop (some [2,9,8,1]) c_roads_merges_l1)))
  (sQ (rG 0 [mS 0 32 2,mS 1 2 32] [2])
  .ret))) }
def c_roads_chains_l1 : CC := (sQ (rG 0 [bS 0 19 .lss 18 17] [19,2,18,17,8,9,10,16,1,4,3])
  (sQ (.cond (.s 19) .skip
  (.exit 2))
  (sQ (.block 3 (sQ (rG 1 [iA 0 20 4 16 18,lT 1 21 4 20,o1 2 6 (.box 0 4 (.k (.a [(I 0),(I 0),(I 0),(I 0)]))),o0 3 (.store 4 (.s 6) (.s 21))] [2,6,18,17,8,9,10,16,1,4,3])
  (sQ (rG 0 [lT 0 22 5 1,lT 1 23 2 4,fA 2 24 0 6,lF 3 25 24,cA 4 26 126 [(.s 22),(.s 23),(.s 25)],o1 5 27 (.un .not (.s 26)),mS 6 28 27,oG 7 29 28 true (.load true 5 (.s 1)),oG 8 30 28 true (.load true 2 (.s 4)),oG 9 31 28 true (.faddr 0 (.s 6)),oG 10 32 28 true (.load false 1 (.s 31)),⟨11,(some 33),(some (28,true)),.call ⟨true⟩ (.k (.c (.fn 123 [] []))) [(.s 29),(.s 30),(.s 32)]⟩,oG 12 34 28 true (.un .not (.s 33)),o1 13 35 (.pick (.s 28) (.s 34) (kB false))] [35,2,6,18,17,8,9,10,16,1,4,3])
  (.cond (.s 35) (rG 1 [mS 0 36 2,mS 1 37 3,fA 2 38 0 6,lF 3 39 38,o1 4 40 (.build [(I 0),(I 0),(I 0),(I 0)] [(0,1,(kI 2)),(1,1,(.s 37)),(2,1,(.s 39)),(3,1,(kI (-1)))]),o1 5 41 (.lit 0 4 [[(I 0),(I 0),(I 0),(I 0)]] [(0,(.s 40))]),o1 6 42 (.append 4 32 (.s 36) (.s 41)),mS 7 2 42] [18,2,17,8,9,10,16,1,4,3])
  .skip))))
  (rG 0 [bI 0 43 .add 18 1,mS 1 18 43] [2,18,17,8,9,10,16,1,4,3]))))
def c_roads_chains_l2 : CC := (sQ (rG 0 [bS 0 11 .lss 10 9] [11,2,8,9,10,1])
  (sQ (.cond (.s 11) .skip
  (.exit 0))
  (sQ (.block 1 (sQ (rG 1 [mS 0 12 10,iA 1 13 2 8 10,lT 2 14 2 13,o1 3 4 (.box 0 2 (.k (.a [.nilslice,(I 0)]))),mS 4 3 12,o0 5 (.store 2 (.s 4) (.s 14))] [2,8,9,10,1,4,3])
  (sQ (rG 0 [fA 0 15 0 4,lF 1 16 15,lN 2 17 16,mI 3 18 0] [2,18,17,8,9,10,16,1,4,3])
  (.block 2 (.loop (some [2,18,17,8,9,10,16,1,4,3]) c_roads_chains_l1)))))
  (rG 0 [bI 0 44 .add 10 1,mS 1 10 44] [2,9,8,10,1]))))
abbrev f_roads_chains : Nat := 73
def c_roads_chains : CFn := { frz := true,rnd := none,nargs := 1,ntmps := 46,res := [(.slot 2)],code :=
  (sQ (rG 2 [o1 0 1 (.box 0 5 (.s 0)),o1 1 2 (.newsl 1 4)] [2,1])
  (sQ (sQ (rG 0 [fA 0 7 2 1,lF 1 8 7,lN 2 9 8,mI 3 10 0] [2,9,8,10,1])
  (.block 0 (.loop (some [2,9,8,10,1]) c_roads_chains_l2)))
  (sQ (rG 0 [mS 0 45 2,mS 1 2 45] [2])
  .ret))) }
abbrev f_roads_ranks : Nat := 74
def c_roads_ranks : CFn := { frz := true,rnd := none,nargs := 1,ntmps := 5,res := [(.slot 2)],code :=
  (sQ (rG 2 [o1 0 1 (.box 0 5 (.s 0)),o1 1 2 (.newsl 1 4)] [1])
  (sQ (rG 0 [lT 0 3 5 1,⟨1,(some 4),none,.call ⟨true⟩ (.k (.c (.fn 127 [] []))) [(.s 3),(kI 3),(.k (.c (.fn 128 [] [])))]⟩,mS 2 2 4] [2])
  .ret)) }
abbrev f_roads_greens : Nat := 75
def c_roads_greens : CFn := { frz := true,rnd := none,nargs := 1,ntmps := 6,res := [(.slot 2)],code :=
  (sQ (rG 2 [o1 0 1 (.box 0 5 (.s 0)),o1 1 2 (.newsl 1 4)] [1])
  (sQ (rG 0 [lT 0 3 5 1,o1 1 4 (.mkfn 130 [] [(.s 1)]),cA 2 5 127 [(.s 3),(kI 4),(.s 4)],mS 3 2 5] [2])
  .ret)) }
def c_roads_before_l1 : CC := (sQ (rG 0 [bS 0 12 .lss 11 10] [12,5,11,10,9,1])
  (sQ (.cond (.s 12) .skip
  (.exit 0))
  (sQ (.block 1 (sQ (rG 1 [mS 0 13 11,iA 1 14 5 9 11,lT 2 15 5 14,o1 3 7 (.box 0 5 (.k (.a [(I 0),.nilslice,(I 0),(I 0),.nilslice]))),mS 4 6 13,o0 5 (.store 5 (.s 7) (.s 15))] [7,5,6,11,10,9,1])
  (sQ (rG 0 [fA 0 16 4 7,lF 1 17 16,mS 2 18 1,cA 3 19 77 [(.s 17),(.s 18)]] [19,5,6,11,10,9,1])
  (.cond (.s 19) (rG 1 [mS 0 20 5,mS 1 21 6,o1 2 22 (.lit 0 1 [[(I 0)]] [(0,(.s 21))]),o1 3 23 (.append 1 8 (.s 20) (.s 22)),mS 4 5 23] [11,5,10,9,1])
  .skip))))
  (rG 0 [bI 0 24 .add 11 1,mS 1 11 24] [5,11,10,9,1]))))
abbrev f_roads_before : Nat := 76
def c_roads_before : CFn := { frz := true,rnd := none,nargs := 2,ntmps := 26,res := [(.slot 4)],code :=
  (sQ (rG 2 [o1 0 2 (.box 0 5 (.s 0)),o1 1 4 (.newsl 1 1)] [2,1])
  (sQ (rG 1 [o1 0 5 (.newsl 0 1)] [2,5,1])
  (sQ (sQ (rG 0 [fA 0 8 1 2,lF 1 9 8,lN 2 10 9,mI 3 11 0] [5,11,10,9,1])
  (.block 0 (.loop (some [5,11,10,9,1]) c_roads_before_l1)))
  (sQ (rG 0 [mS 0 25 5,mS 1 4 25] [4])
  .ret)))) }
abbrev f_slices_Contains_int : Nat := 77
def c_slices_Contains_int : CFn := { frz := true,rnd := none,nargs := 2,ntmps := 9,res := [(.slot 4)],code :=
  (sQ (rG 0 [mB 0 4 false] [0,1])
  (sQ (rG 0 [mS 0 5 0,mS 1 6 1,cA 2 7 132 [(.s 5),(.s 6)],bI 3 8 .geq 7 0,mS 4 4 8] [4])
  .ret)) }
def c_roads_Passes_l1 : CC := (sQ (rG 0 [bS 0 36 .lss 35 34] [36,6,35,34,25,19,18,17,2,26,27,33,8,9,5,7])
  (sQ (.cond (.s 36) .skip
  (.exit 4))
  (sQ (.block 5 (sQ (rG 1 [mS 0 37 35,iA 1 38 4 33 35,lT 2 39 4 38,o1 3 12 (.box 0 4 (.k (.a [(I 0),(I 0),(I 0),(I 0)]))),mS 4 11 37,o0 5 (.store 4 (.s 12) (.s 39))] [6,11,12,35,34,25,19,18,17,2,26,27,33,8,9,5,7])
  (sQ (rG 0 [fA 0 40 0 12,lF 1 41 40,mS 2 42 8,bS 3 43 .eql 41 42] [43,6,11,12,35,34,25,19,18,17,2,26,27,33,8,9,5,7])
  (.cond (.s 43) (rG 1 [mS 0 44 6,mS 1 45 9,mS 2 46 11,fA 3 47 6 5,mS 5 49 7,fA 8 52 1 12,fA 11 55 6 5,mS 13 57 7,fA 16 60 2 12,lF 4 48 47,iA 6 50 1 48 49,lF 7 51 50,lF 9 53 52,bS 10 54 .add 51 53,lF 12 56 55,iA 14 58 1 56 57,lF 15 59 58,lF 17 61 60,bS 18 62 .add 59 61,o1 19 63 (.build [(I 0),(I 0),(I 0),(I 0)] [(0,1,(.s 45)),(1,1,(.s 46)),(2,1,(.s 54)),(3,1,(.s 62))]),o1 20 64 (.lit 0 4 [[(I 0),(I 0),(I 0),(I 0)]] [(0,(.s 63))]),o1 21 65 (.append 4 32 (.s 44) (.s 64)),mS 22 6 65] [35,6,34,25,19,18,17,2,26,27,33,8,9,5,7])
  .skip))))
  (rG 0 [bI 0 66 .add 35 1,mS 1 35 66] [6,35,34,25,19,18,17,2,26,27,33,8,9,5,7]))))
def c_roads_Passes_l2 : CC := (sQ (rG 0 [bS 0 28 .lss 27 26] [28,6,25,19,18,17,2,26,27,8,5,7])
  (sQ (.cond (.s 28) .skip
  (.exit 2))
  (sQ (.block 3 (sQ (rG 1 [mS 0 29 27,iA 1 30 2 25 27,lT 2 31 2 30,o1 3 10 (.box 0 2 (.k (.a [.nilslice,(I 0)]))),mS 4 9 29,o0 5 (.store 2 (.s 10) (.s 31))] [10,6,25,19,18,17,2,26,27,8,9,5,7])
  (sQ (rG 0 [fA 0 32 0 10,lF 1 33 32,lN 2 34 33,mI 3 35 0] [6,35,34,25,19,18,17,2,26,27,33,8,9,5,7])
  (.block 4 (.loop (some [6,35,34,25,19,18,17,2,26,27,33,8,9,5,7]) c_roads_Passes_l1)))))
  (rG 0 [bI 0 67 .add 27 1,mS 1 27 67] [6,26,2,17,18,19,25,27,8,5,7]))))
def c_roads_Passes_l3 : CC := (sQ (rG 0 [bS 0 20 .lss 19 18] [20,6,2,17,18,19,5])
  (sQ (.cond (.s 20) .skip
  (.exit 0))
  (sQ (.block 1 (sQ (rG 0 [mS 0 21 19,iA 1 22 1 17 19,lF 2 23 22,mS 3 7 21,mS 4 8 23] [6,2,17,18,19,8,5,7])
  (sQ (rG 0 [fA 0 24 2 2,lF 1 25 24,lN 2 26 25,mI 3 27 0] [6,26,2,17,18,19,25,27,8,5,7])
  (.block 2 (.loop (some [6,26,2,17,18,19,25,27,8,5,7]) c_roads_Passes_l2)))))
  (rG 0 [bI 0 68 .add 19 1,mS 1 19 68] [6,18,17,2,19,5]))))
abbrev f_roads_Passes : Nat := 78
def c_roads_Passes : CFn := { frz := true,rnd := none,nargs := 2,ntmps := 72,res := [(.slot 4)],code :=
  (sQ (rG 2 [o1 0 2 (.box 0 5 (.s 0)),o1 1 4 (.newsl 1 4)] [1,2])
  (sQ (rG 1 [lT 0 13 5 2,mS 1 14 1,cA 2 15 110 [(.s 13),(.s 14)],o1 3 5 (.box 0 8 (.k (.a [(I 0),.nilslice,.nilslice,.nilslice,.nilslice,.nilslice,.nilslice,(I 0)]))),o0 4 (.store 8 (.s 5) (.s 15))] [2,5])
  (sQ (rG 1 [o1 0 6 (.newsl 0 4)] [6,2,5])
  (sQ (sQ (rG 0 [fA 0 16 5 5,lF 1 17 16,lN 2 18 17,mI 3 19 0] [6,18,17,2,19,5])
  (.block 0 (.loop (some [6,18,17,2,19,5]) c_roads_Passes_l3)))
  (sQ (rG 0 [mS 0 69 6,⟨1,(some 70),none,.call ⟨false⟩ (.k (.c (.fn 133 [] []))) [(.s 69),(.k (.c (.fn 134 [] [])))]⟩] [6])
  (sQ (rG 0 [mS 0 71 6,mS 1 4 71] [4])
  .ret)))))) }
abbrev f_drive_parked_1 : Nat := 79
def c_drive_parked_1 : CFn := { frz := true,rnd := none,nargs := 2,ntmps := 8,res := [(.slot 3)],code :=
  (sQ (rG 1 [o1 0 2 (.box 0 4 (.s 0)),mB 1 3 false] [2,1])
  (sQ (rG 0 [fA 0 4 0 2,lF 1 5 4,lF 2 6 1,bS 3 7 .eql 5 6,mS 4 3 7] [3])
  .ret)) }
abbrev f_slices_ContainsFunc_Pass : Nat := 80
def c_slices_ContainsFunc_Pass : CFn := { frz := true,rnd := none,nargs := 2,ntmps := 9,res := [(.slot 4)],code :=
  (sQ (rG 0 [mB 0 4 false] [0,1])
  (sQ (rG 0 [mS 0 5 0,mS 1 6 1,cA 2 7 81 [(.s 5),(.s 6)],bI 3 8 .geq 7 0,mS 4 4 8] [4])
  .ret)) }
def c_slices_IndexFunc_Pass_l1 : CC := (sQ (rG 0 [bS 0 9 .lss 8 7] [9,0,1,7,8])
  (sQ (.cond (.s 9) .skip
  (.exit 0))
  (sQ (.block 1 (sQ (rG 0 [mS 0 10 8,mS 1 5 10] [0,1,7,8,5])
  (sQ (rG 0 [mS 0 11 1,mS 1 12 0,mS 2 13 5,iA 3 14 4 12 13,lT 4 15 4 14,⟨5,(some 16),none,.call ⟨true⟩ (.s 11) [(.s 15)]⟩] [16,0,1,7,8,5])
  (.cond (.s 16) (sQ (rG 0 [mS 0 17 5,mS 1 4 17] [4])
  .ret)
  .skip))))
  (rG 0 [bI 0 18 .add 8 1,mS 1 8 18] [7,1,0,8]))))
abbrev f_slices_IndexFunc_Pass : Nat := 81
def c_slices_IndexFunc_Pass : CFn := { frz := true,rnd := none,nargs := 2,ntmps := 19,res := [(.slot 4)],code :=
  (sQ (rG 0 [mI 0 4 0] [1,0])
  (sQ (sQ (rG 0 [mS 0 6 0,lN 1 7 6,mI 2 8 0] [7,1,0,8])
  (.block 0 (.loop (some [7,1,0,8]) c_slices_IndexFunc_Pass_l1)))
  (sQ (rG 0 [mI 0 4 (-1)] [4])
  .ret))) }
abbrev f_plan_fits : Nat := 82
def c_plan_fits : CFn := { frz := true,rnd := none,nargs := 4,ntmps := 39,res := [(.slot 8)],code :=
  (sQ (rG 3 [o1 0 4 (.box 0 5 (.s 0)),o1 1 6 (.box 1 5 (.s 2)),o1 2 7 (.box 2 6 (.s 3)),mB 3 8 false] [1,6,4,7])
  (sQ (rG 0 [lT 0 9 5 4,cA 1 10 39 [(.s 9)],mS 2 11 10,oG 4 13 11 true (.mv (.s 1)),oG 3 12 11 true (.load true 5 (.s 4)),⟨5,(some 14),(some (11,true)),.call ⟨true⟩ (.k (.c (.fn 40 [] []))) [(.s 12),(.s 13)]⟩,oG 6 15 11 true (.bin .eql (.s 14) (kI 0)),o1 7 16 (.pick (.s 11) (.s 15) (kB false)),mS 8 17 16,oG 9 18 17 true (.faddr 1 (.s 4)),oG 11 20 17 true (.mv (.s 1)),oG 12 21 17 true (.iaddr 1 (.s 20) (kI 0)),oG 10 19 17 true (.load false 1 (.s 18)),oG 13 22 17 true (.load false 1 (.s 21)),oG 14 23 17 true (.iaddr 5 (.s 19) (.s 22)),oG 15 24 17 true (.faddr 0 (.s 23)),oG 16 25 17 true (.load false 1 (.s 24)),oG 17 26 17 true (.bin .eql (.s 25) (kI 1)),o1 18 27 (.pick (.s 17) (.s 26) (kB false)),mS 19 28 27,oG 20 29 28 true (.load true 5 (.s 6)),⟨21,(some 30),(some (28,true)),.call ⟨true⟩ (.k (.c (.fn 28 [] []))) [(.s 29)]⟩,oG 22 31 28 true (.bin .eql (.s 30) (kI 0)),o1 23 32 (.pick (.s 28) (.s 31) (kB false)),mS 24 33 32,oG 25 34 33 true (.load true 5 (.s 4)),oG 26 35 33 true (.load true 6 (.s 7)),⟨27,(some 36),(some (33,true)),.call ⟨true⟩ (.k (.c (.fn 138 [] []))) [(.s 34),(.s 35)]⟩,oG 28 37 33 true (.bin .eql (.s 36) (kI 0)),o1 29 38 (.pick (.s 33) (.s 37) (kB false)),mS 30 8 38] [8])
  .ret)) }
def c_plan_Check_l1 : CC := (sQ (rG 0 [bS 0 46 .lss 45 44] [46,7,2,43,44,45])
  (sQ (.cond (.s 46) .skip
  (.exit 1))
  (sQ (.block 2 (sQ (rG 0 [iA 0 47 1 43 45,lF 1 48 47,mS 2 9 48] [7,2,43,44,45,9])
  (sQ (sQ (rG 0 [mS 0 49 9,mS 1 50 7,bS 2 51 .sub 49 50,fA 3 52 3 2,lF 4 53 52,o1 5 54 (.un .neg (.s 53)),fA 6 55 3 2,lF 7 56 55,cA 8 57 53 [(.s 51),(.s 54),(.s 56)],o1 9 58 (.un .not (.s 57))] [58,2,43,44,45,9])
  (.cond (.s 58) (sQ (rG 0 [mI 0 4 11] [4])
  .ret)
  .skip))
  (rG 0 [mS 0 59 9,mS 1 7 59] [45,7,44,43,2]))))
  (rG 0 [bI 0 60 .add 45 1,mS 1 45 60] [7,44,43,2,45]))))
abbrev f_plan_Check : Nat := 83
def c_plan_Check : CFn := { frz := true,rnd := none,nargs := 2,ntmps := 61,res := [(.slot 4)],code :=
  (sQ (rG 2 [o1 0 2 (.box 0 5 (.s 0)),o1 1 3 (.box 1 1 (.s 1)),mI 2 4 0] [3,2])
  (sQ (sQ (rG 0 [lT 0 10 5 2,cA 1 11 28 [(.s 10)],mS 2 5 11] [3,2,5])
  (sQ (rG 0 [mS 0 12 5,bI 1 13 .neq 12 0] [13,3,2,5])
  (.cond (.s 13) (sQ (rG 0 [mS 0 14 5,mS 1 4 14] [4])
  .ret)
  .skip)))
  (sQ (sQ (rG 0 [fA 0 15 0 3,lF 1 16 15,lN 2 17 16,mS 3 6 17] [6,2,3])
  (.block 0 (sQ (rG 0 [mS 0 19 6,bI 1 20 .eql 19 0,mS 2 18 20] [18,6,2,3])
  (.cond (.s 18) (sQ (rG 0 [mI 0 4 6] [4])
  .ret)
  (sQ (rG 0 [mS 0 22 6,bI 1 23 .gtr 22 200,mS 2 21 23] [21,3,2,6])
  (.cond (.s 21) (sQ (rG 0 [mI 0 4 5] [4])
  .ret)
  (sQ (rG 0 [fA 0 25 0 3,lF 1 26 25,mS 2 27 6,bI 3 28 .sub 27 1,iA 4 29 1 26 28,lF 5 30 29,bI 6 31 .gtr 30 0,mS 7 32 31,oG 8 33 32 false (.faddr 0 (.s 3)),oG 9 34 32 false (.load false 1 (.s 33)),oG 10 35 32 false (.mkfn 140 [] [(.s 2)]),⟨11,(some 36),(some (32,false)),.call ⟨true⟩ (.k (.c (.fn 139 [] []))) [(.s 34),(.s 35)]⟩,o1 12 37 (.pick (.s 32) (kB true) (.s 36)),mS 13 24 37] [24,2,3])
  (.cond (.s 24) (sQ (rG 0 [mI 0 4 2] [4])
  .ret)
  .skip))))))))
  (sQ (rG 0 [fA 0 38 0 3,lF 1 39 38,o1 2 40 (.iaddr 1 (.s 39) (kI 0)),lF 3 41 40,mS 4 7 41] [3,7,2])
  (sQ (sQ (rG 0 [fA 0 42 0 3,lF 1 43 42,lN 2 44 43,mI 3 45 0] [7,44,43,2,45])
  (.block 1 (.loop (some [7,44,43,2,45]) c_plan_Check_l1)))
  (sQ (rG 0 [mI 0 4 0] [4])
  .ret)))))) }
def c_plan_newJudge_l1 : CC := (sQ (rG 0 [bS 0 35 .lss 34 33] [35,34,33,7,23,24,32,8,9])
  (sQ (.cond (.s 35) .skip
  (.exit 2))
  (sQ (.block 3 (sQ (rG 1 [iA 0 36 4 32 34,lT 1 37 4 36,o1 2 11 (.box 0 4 (.k (.a [(I 0),(I 0),(I 0),(I 0)]))),o0 3 (.store 4 (.s 11) (.s 37))] [11,34,33,7,23,24,32,8,9])
  (sQ (sQ (rG 0 [fA 0 38 0 11,lF 1 39 38,mS 2 40 8,bS 3 41 .neq 39 40] [41,11,34,33,7,23,24,32,8,9])
  (.cond (.s 41) (.exit 3)
  .skip))
  (sQ (sQ (rG 0 [fA 0 42 1 9,lF 1 43 42,bI 2 44 .lss 43 0] [44,11,34,33,7,23,24,32,8,9])
  (.cond (.s 44) (.region 0 [fA 0 45 1 11,lF 1 46 45,fA 3 48 1 9,lT 2 47 4 11,o0 4 (.store 1 (.s 48) (.s 46)),fA 5 49 2 9,o0 6 (.store 4 (.s 49) (.s 47))] [(3,4)] (some [11,34,33,7,23,24,32,8,9]))
  .skip))
  (rG 0 [lT 0 50 4 11,fA 1 51 6 9,o0 2 (.store 4 (.s 51) (.s 50))] [34,33,7,23,24,32,8,9])))))
  (rG 0 [bI 0 52 .add 34 1,mS 1 34 52] [34,33,7,23,24,32,8,9]))))
def c_plan_newJudge_l2 : CC := (sQ (rG 0 [bS 0 25 .lss 24 23] [25,7,23,24])
  (sQ (.cond (.s 25) .skip
  (.exit 0))
  (sQ (.block 1 (sQ (rG 0 [mS 0 26 24,mS 1 8 26] [7,23,24,8])
  (sQ (rG 1 [mS 0 27 8,o1 1 28 (.build [(I 0),(I 0),(I 0),(I 0),(I 0),(I 0),(I 0),(I 0),(I 0),(I 0)] [(0,1,(.s 27)),(1,1,(kI (-1)))]),o1 2 9 (.box 0 10 (.k (.a [(I 0),(I 0),(I 0),(I 0),(I 0),(I 0),(I 0),(I 0),(I 0),(I 0)]))),o0 3 (.store 10 (.s 9) (.s 28))] [7,23,24,8,9])
  (sQ (sQ (rG 0 [mS 0 29 7,nC 1 30 29,fA 2 31 11 30,lF 3 32 31,lN 4 33 32,mI 5 34 0] [34,33,7,23,24,32,8,9])
  (.block 2 (.loop (some [34,33,7,23,24,32,8,9]) c_plan_newJudge_l1)))
  (sQ (rG 0 [fA 0 53 1 9,lF 1 54 53,bI 2 55 .geq 54 0] [55,9,24,23,7])
  (.cond (.s 55) (.region 1 [mS 0 56 7,mS 1 57 7,nC 2 58 57,fA 3 59 12 58,lF 4 60 59,lT 5 61 10 9,o1 6 62 (.lit 0 10 [[(I 0),(I 0),(I 0),(I 0),(I 0),(I 0),(I 0),(I 0),(I 0),(I 0)]] [(0,(.s 61))]),o1 7 63 (.append 10 80 (.s 60) (.s 62)),nC 8 64 56,fA 9 65 12 64,o0 10 (.store 1 (.s 65) (.s 63))] [(4,6)] (some [24,23,7]))
  .skip))))))
  (rG 0 [bI 0 66 .add 24 1,mS 1 24 66] [23,7,24]))))
abbrev f_plan_newJudge : Nat := 84
def c_plan_newJudge : CFn := { frz := true,rnd := none,nargs := 3,ntmps := 68,res := [(.slot 6)],code :=
  (sQ (rG 1 [o1 0 3 (.box 0 5 (.s 0)),o1 1 6 (.mv (.k (.c .nilptr)))] [2,1,3])
  (sQ (.region 1 [mS 1 13 1,mS 2 14 2,mS 5 17 1,lT 0 12 5 3,lT 4 16 5 3,cA 3 15 35 [(.s 12),(.s 13),(.s 14)],cA 6 18 78 [(.s 16),(.s 17)],o1 7 19 (.build [(I 0),.nilslice,.nilslice,.nilslice,.nilslice,.nilslice,.nilslice,(I 0),(I 0),.nilslice,.nilslice,.nilslice,.nilslice,(I 0),.nilslice,(I 0),(I 0),(I 0),(I 0),(I 0),.nilslice,(I 0),(I 0),(I 0),(I 0),.nilslice] [(0,11,(.s 15)),(11,1,(.s 18))]),o1 8 20 (.box 0 26 (.s 19)),mS 9 7 20] [(4,5)] (some [3,7]))
  (sQ (sQ (rG 0 [fA 0 21 2 3,lF 1 22 21,lN 2 23 22,mI 3 24 0] [23,7,24])
  (.block 0 (.loop (some [23,7,24]) c_plan_newJudge_l2)))
  (sQ (rG 0 [mS 0 67 7,mS 1 6 67] [6])
  .ret)))) }
def c_plan_judge_finding_l1 : CC := (sQ (rG 0 [bS 0 25 .lss 24 23] [25,24,23,5,6,0,9,8])
  (sQ (.cond (.s 25) .skip
  (.exit 0))
  (sQ (.block 1 (sQ (rG 0 [mS 0 26 24,mS 1 10 26] [24,23,5,6,0,10,9,8])
  (sQ (sQ (rG 0 [fA 0 27 1 9,lF 1 28 27,bI 2 29 .gtr 28 0,mS 3 30 29,oG 4 31 30 true (.faddr 1 (.s 9)),oG 5 32 30 true (.load false 1 (.s 31)),oG 6 33 30 true (.mv (.s 10)),oG 7 34 30 true (.bin .leq (.s 32) (.s 33)),o1 8 35 (.pick (.s 30) (.s 34) (kB false)),mS 9 36 35,oG 10 37 36 true (.faddr 2 (.s 9)),oG 11 38 36 true (.load false 1 (.s 37)),oG 12 39 36 true (.bin .neq (.s 38) (kI 7)),o1 13 40 (.pick (.s 36) (.s 39) (kB false))] [40,24,23,5,6,0,10,9,8])
  (.cond (.s 40) (sQ (rG 0 [lT 0 41 3 9,o0 1 (.store 3 (.s 8) (.s 41))] [8])
  .ret)
  .skip))
  (sQ (rG 0 [mS 0 42 0,fA 2 44 0 6,mS 4 46 10,bI 5 47 .add 46 1,lT 1 43 6 5,lF 3 45 44,o1 6 48 (.slice 1 (.s 45) none (some (.s 47)) none),o1 7 49 (.build [.nilslice] [(0,1,(.s 48))]),cA 8 50 142 [(.s 42),(.s 43),(.s 49)],o1 9 51 (.un .not (.s 50))] [51,9,0,6,5,23,24,8])
  (.cond (.s 51) (sQ (rG 0 [o1 0 52 (.build [(.bool false),(I 0),(I 0)] [(2,1,(kI 1))]),o0 1 (.store 3 (.s 8) (.s 52))] [8])
  .ret)
  .skip)))))
  (rG 0 [bI 0 53 .add 24 1,mS 1 24 53] [24,23,5,6,0,9,8]))))
abbrev f_plan_judge_finding : Nat := 85
def c_plan_judge_finding : CFn := { frz := true,rnd := none,nargs := 4,ntmps := 55,res := [(.cell 8 true 3)],code :=
  (sQ (rG 3 [o1 0 5 (.box 0 6 (.s 1)),o1 1 6 (.box 1 1 (.s 2)),o1 2 8 (.box 2 3 (.k (.a [(.bool false),(I 0),(I 0)])))] [3,0,6,5,8])
  (sQ (rG 1 [mS 0 11 0,lT 1 12 6 5,lT 2 13 1 6,mS 3 14 3,cA 4 15 141 [(.s 11),(.s 12),(.s 13),(.s 14)],o1 5 9 (.box 0 3 (.k (.a [(.bool false),(I 0),(I 0)]))),o0 6 (.store 3 (.s 9) (.s 15))] [0,6,5,9,8])
  (sQ (sQ (rG 0 [mS 0 16 0,lT 1 17 6 5,lT 2 18 1 6,cA 3 19 142 [(.s 16),(.s 17),(.s 18)]] [19,0,6,5,9,8])
  (.cond (.s 19) (sQ (rG 0 [lT 0 20 3 9,o0 1 (.store 3 (.s 8) (.s 20))] [8])
  .ret)
  .skip))
  (sQ (sQ (rG 0 [fA 0 21 0 6,lF 1 22 21,lN 2 23 22,mI 3 24 0] [24,23,5,6,0,9,8])
  (.block 0 (.loop (some [24,23,5,6,0,9,8]) c_plan_judge_finding_l1)))
  (sQ (rG 0 [lT 0 54 3 9,o0 1 (.store 3 (.s 8) (.s 54))] [8])
  .ret))))) }
def c_drive_Node_fuse_l1 : CC := (sQ (rG 0 [bS 0 29 .lss 28 27] [29,6,28,27,7,4,0,26,3])
  (sQ (.cond (.s 29) .skip
  (.exit 0))
  (sQ (.block 1 (sQ (rG 1 [iA 0 30 3 26 28,lT 1 31 3 30,o1 2 9 (.box 0 3 (.k (.a [(I 0),(I 0),(I 0)]))),o0 3 (.store 3 (.s 9) (.s 31))] [9,6,28,27,7,4,0,26,3])
  (sQ (rG 1 [lT 0 33 6 3,lT 1 34 3 9,cA 2 35 143 [(.s 33),(.s 34)],mS 3 32 35,eX 4 36 32 0,eX 5 37 32 1,o1 6 10 (.box 0 6 (.k (.a [(I 0),.nilslice,(I 0),(I 0),(I 0),(I 0)]))),o0 7 (.store 6 (.s 10) (.s 36)),mS 8 11 37] [10,6,11,28,27,7,4,0,26,3])
  (rG 0 [lT 0 38 6 10,mS 1 39 6,mS 2 40 39,oG 3 41 40 true (.mv (.s 11)),o1 4 42 (.pick (.s 40) (.s 41) (kB false)),o0 5 (.store 6 (.s 3) (.s 38)),mS 6 6 42] [28,6,27,7,4,0,26,3]))))
  (rG 0 [bI 0 43 .add 28 1,mS 1 28 43] [6,28,27,7,4,0,26,3]))))
def c_drive_Node_fuse_l2 : CC := (sQ (rG 0 [bS 0 48 .lss 47 46] [48,6,47,46,0,4,7,45,3])
  (sQ (.cond (.s 48) .skip
  (.exit 2))
  (sQ (.block 3 (sQ (rG 1 [iA 0 49 3 45 47,lT 1 50 3 49,o1 2 13 (.box 0 3 (.k (.a [(I 0),(I 0),(I 0)]))),o0 3 (.store 3 (.s 13) (.s 50))] [13,6,47,46,0,4,7,45,3])
  (sQ (rG 1 [lT 0 52 6 3,lT 1 53 3 13,cA 2 54 144 [(.s 52),(.s 53)],mS 3 51 54,eX 4 55 51 0,eX 5 56 51 1,o1 6 14 (.box 0 6 (.k (.a [(I 0),.nilslice,(I 0),(I 0),(I 0),(I 0)]))),o0 7 (.store 6 (.s 14) (.s 55)),mS 8 15 56] [14,6,15,47,46,0,4,7,45,3])
  (rG 0 [lT 0 57 6 14,mS 1 58 6,mS 2 59 58,oG 3 60 59 true (.mv (.s 15)),o1 4 61 (.pick (.s 59) (.s 60) (kB false)),o0 5 (.store 6 (.s 3) (.s 57)),mS 6 6 61] [47,6,46,0,4,7,45,3]))))
  (rG 0 [bI 0 62 .add 47 1,mS 1 47 62] [6,47,46,0,4,7,45,3]))))
def c_drive_Node_fuse_l3 : CC := (sQ (rG 0 [bS 0 70 .lss 69 68] [70,6,69,68,4,67,0,3])
  (sQ (.cond (.s 70) .skip
  (.exit 4))
  (sQ (.block 5 (sQ (rG 1 [iA 0 71 3 67 69,lT 1 72 3 71,o1 2 17 (.box 0 3 (.k (.a [(I 0),.nilslice,.nilslice]))),o0 3 (.store 3 (.s 17) (.s 72))] [6,17,69,68,4,67,0,3])
  (sQ (rG 0 [mS 0 73 0,mS 1 74 0,nC 2 75 74,fA 3 76 0 75,fA 4 77 0 76,lT 5 78 5 77,lT 6 79 6 3,lT 7 80 3 17,cA 8 81 145 [(.s 78),(.s 79),(.s 80)],cA 9 82 36 [(.s 73),(.s 81)],o0 10 (.store 6 (.s 3) (.s 82))] [6,17,69,68,4,67,0,3])
  (rG 0 [mS 0 83 6,mS 1 84 83,oG 2 85 84 true (.mv (.s 0)),oG 3 86 84 true (.nilck (.s 85)),oG 4 87 84 true (.faddr 0 (.s 86)),oG 5 88 84 true (.faddr 0 (.s 87)),oG 8 91 84 true (.faddr 2 (.s 17)),oG 6 89 84 true (.load true 5 (.s 88)),oG 7 90 84 true (.load true 6 (.s 3)),oG 9 92 84 true (.load false 1 (.s 91)),⟨10,(some 93),(some (84,true)),.call ⟨true⟩ (.k (.c (.fn 146 [] []))) [(.s 89),(.s 90),(.s 92)]⟩,o1 11 94 (.pick (.s 84) (.s 93) (kB false)),mS 12 6 94] [69,6,68,4,67,0,3]))))
  (rG 0 [bI 0 95 .add 69 1,mS 1 69 95] [6,69,68,4,67,0,3]))))
abbrev f_drive_Node_fuse : Nat := 86
def c_drive_Node_fuse : CFn := { frz := true,rnd := none,nargs := 2,ntmps := 98,res := [(.cell 4 true 6),(.slot 5)],code :=
  (sQ (rG 2 [o1 0 3 (.box 0 6 (.s 1)),o1 1 4 (.box 1 6 (.k (.a [(I 0),.nilslice,(I 0),(I 0),(I 0),(I 0)]))),mB 2 5 false] [4,0,3])
  (sQ (rG 0 [mB 0 6 true] [6,4,0,3])
  (sQ (.region 1 [mS 0 18 0,nC 1 19 18,fA 2 20 36 19,fA 4 22 0 3,lF 3 21 20,lF 5 23 22,o1 6 24 (.mop (.get false true (.a [.nilslice,.nilslice,.nilslice])) [(.s 21),(.s 23)]),o1 7 7 (.box 0 3 (.k (.a [.nilslice,.nilslice,.nilslice]))),o0 8 (.store 3 (.s 7) (.s 24))] [(4,7),(5,7),(6,7)] (some [6,7,4,0,3]))
  (sQ (sQ (rG 0 [fA 0 25 0 7,lF 1 26 25,lN 2 27 26,mI 3 28 0] [6,28,27,7,4,0,26,3])
  (.block 0 (.loop (some [6,28,27,7,4,0,26,3]) c_drive_Node_fuse_l1)))
  (sQ (sQ (rG 0 [fA 0 44 1 7,lF 1 45 44,lN 2 46 45,mI 3 47 0] [6,47,46,0,4,7,45,3])
  (.block 2 (.loop (some [6,47,46,0,4,7,45,3]) c_drive_Node_fuse_l2)))
  (sQ (rG 0 [mS 0 63 0,lT 1 64 6 3,cA 2 65 36 [(.s 63),(.s 64)],o0 3 (.store 6 (.s 3) (.s 65))] [7,6,4,0,3])
  (sQ (sQ (rG 0 [fA 0 66 2 7,lF 1 67 66,lN 2 68 67,mI 3 69 0] [6,69,68,4,67,0,3])
  (.block 4 (.loop (some [6,69,68,4,67,0,3]) c_drive_Node_fuse_l3)))
  (sQ (rG 0 [lT 0 96 6 3,mS 1 97 6,o0 2 (.store 6 (.s 4) (.s 96)),mS 3 5 97] [4,5])
  .ret)))))))) }
abbrev f_drive_Node_step : Nat := 87
def c_drive_Node_step : CFn := { frz := true,rnd := none,nargs := 3,ntmps := 25,res := [(.cell 6 true 6)],code :=
  (sQ (rG 2 [o1 0 4 (.box 0 6 (.s 1)),o1 1 6 (.box 1 6 (.k (.a [(I 0),.nilslice,(I 0),(I 0),(I 0),(I 0)])))] [2,0,4,6])
  (sQ (.region 1 [mS 0 10 0,nC 1 11 10,fA 2 12 19 11,mS 5 15 2,mS 6 16 0,nC 7 17 16,fA 8 18 0 17,fA 9 19 18 18,lT 3 13 11 12,lT 4 14 6 4,lF 10 20 19,cA 11 21 147 [(.s 13),(.s 14),(.s 15),(.s 20)],mS 12 9 21,eX 13 22 9 0,eX 14 23 9 1,o1 15 7 (.box 0 6 (.k (.a [(I 0),.nilslice,(I 0),(I 0),(I 0),(I 0)]))),o0 16 (.store 6 (.s 7) (.s 22)),mS 17 8 23] [(8,15),(9,15),(10,15),(11,15)] (some [7,6]))
  (sQ (rG 0 [lT 0 24 6 7,o0 1 (.store 6 (.s 6) (.s 24))] [6])
  .ret))) }
abbrev f_drive_ring_drop : Nat := 88
def c_drive_ring_drop : CFn := { frz := true,rnd := none,nargs := 1,ntmps := 21,res := [],code :=
  (sQ (rG 0 [mS 0 3 0,nC 1 4 3,fA 2 5 0 4,o1 3 6 (.pop (.aslice 5 1 false false) [(.s 5)]),mS 4 7 0,nC 5 8 7,fA 6 9 5 8,lF 7 10 9,o1 8 11 (.slice 1 (.s 10) (some (kI 1)) none none),o1 9 12 (.mop (.copy 1) [(.s 6),(.s 11)]),mS 10 2 12] [0,2])
  (rG 0 [mS 0 13 0,mS 1 14 0,nC 2 15 14,fA 3 16 0 15,mS 4 17 2,o1 5 18 (.pop (.aslice 5 1 false true) [(.s 16),(.s 17)]),nC 6 19 13,fA 7 20 5 19,o0 8 (.store 1 (.s 20) (.s 18))] [])) }
abbrev f_slices_Sorted_int64 : Nat := 89
def c_slices_Sorted_int64 : CFn := { frz := false,rnd := none,nargs := 1,ntmps := 9,res := [(.slot 2)],code :=
  (sQ (rG 1 [o1 0 2 (.newsl 0 1)] [0])
  (sQ (rG 0 [mS 0 4 0,cA 1 5 148 [(.s 4)],mS 2 3 5] [3])
  (sQ (rG 0 [mS 0 6 3,⟨1,(some 7),none,.call ⟨false⟩ (.k (.c (.fn 149 [] []))) [(.s 6)]⟩] [3])
  (sQ (rG 0 [mS 0 8 3,mS 1 2 8] [2])
  .ret)))) }
abbrev f_maps_Keys_heard : Nat := 90
def c_maps_Keys_heard : CFn := { frz := true,rnd := none,nargs := 1,ntmps := 4,res := [(.slot 2)],code :=
  (sQ (rG 1 [o1 0 1 (.box 0 1 (.s 0)),o1 1 2 (.mv (.k (.c .nilfn)))] [1])
  (sQ (rG 0 [o1 0 3 (.mkfn 150 [] [(.s 1)]),mS 1 2 3] [2])
  .ret)) }
abbrev f_drive_Node_counts : Nat := 91
def c_drive_Node_counts : CFn := { frz := true,rnd := none,nargs := 2,ntmps := 25,res := [(.slot 4)],code :=
  (sQ (rG 0 [mB 0 4 false] [1,0])
  (sQ (rG 0 [mS 0 5 1,mS 1 6 0,nC 2 7 6,fA 3 8 30 7,lF 4 9 8,bS 5 10 .leq 5 9,mS 6 11 10,oG 7 12 11 true (.mv (.s 1)),oG 8 13 11 true (.mv (.s 0)),oG 9 14 11 true (.nilck (.s 13)),oG 10 15 11 true (.faddr 31 (.s 14)),oG 12 17 11 true (.mv (.s 0)),oG 13 18 11 true (.nilck (.s 17)),oG 14 19 11 true (.faddr 30 (.s 18)),oG 11 16 11 true (.load false 1 (.s 15)),oG 15 20 11 true (.load false 1 (.s 19)),oG 16 21 11 true (.bin .sub (.s 20) (kI 4)),oG 17 22 11 true (.minmax true [(.s 16),(.s 21)]),oG 18 23 11 true (.bin .geq (.s 12) (.s 22)),o1 19 24 (.pick (.s 11) (.s 23) (kB false)),mS 20 4 24] [4])
  .ret)) }
abbrev f_slices_Clone_Mark : Nat := 92
abbrev f_slices_Clone_Span : Nat := 93
abbrev f_slices_Clone_Point : Nat := 94
abbrev f_slices_Clone_Scan : Nat := 95
def c_drive_Node_losing_l1 : CC := (sQ (rG 0 [bS 0 22 .lss 21 20] [22,21,20,19,0,3])
  (sQ (.cond (.s 22) .skip
  (.exit 0))
  (sQ (.block 1 (sQ (rG 0 [iA 0 23 1 19 21,lF 1 24 23,mS 2 5 24] [5,21,20,19,0,3])
  (rG 0 [mS 0 25 0,lT 1 26 6 3,mS 2 27 5,cA 3 28 87 [(.s 25),(.s 26),(.s 27)],o0 4 (.store 6 (.s 3) (.s 28))] [21,20,19,0,3])))
  (rG 0 [bI 0 29 .add 21 1,mS 1 21 29] [21,20,19,0,3]))))
abbrev f_drive_Node_losing : Nat := 96
def c_drive_Node_losing : CFn := { frz := true,rnd := none,nargs := 1,ntmps := 72,res := [(.slot 2)],code :=
  (sQ (rG 0 [o1 0 2 (.mv (.k (.c .nilfn)))] [0])
  (sQ (rG 1 [mS 0 6 0,nC 1 7 6,fA 2 8 35 7,lF 3 9 8,nC 4 10 9,fA 5 11 6 10,lT 6 12 6 11,o1 7 3 (.box 0 6 (.k (.a [(I 0),.nilslice,(I 0),(I 0),(I 0),(I 0)]))),o0 8 (.store 6 (.s 3) (.s 12))] [0,3])
  (sQ (sQ (rG 0 [mS 0 13 0,nC 1 14 13,fA 2 15 35 14,lF 3 16 15,nC 4 17 16,fA 5 18 5 17,lF 6 19 18,lN 7 20 19,mI 8 21 0] [21,20,19,0,3])
  (.block 0 (.loop (some [21,20,19,0,3]) c_drive_Node_losing_l1)))
  (sQ (rG 0 [mS 0 30 0,mS 1 31 0,mS 2 32 0,nC 3 33 32,fA 4 34 0 33,fA 5 35 0 34,mS 7 37 0,nC 8 38 37,fA 9 39 30 38,fA 11 41 2 3,lT 6 36 5 35,lF 10 40 39,lT 12 42 4 41,cA 13 43 37 [(.s 36),(.s 40),(.s 42)],cA 14 44 36 [(.s 31),(.s 43)],nC 15 45 30,fA 16 46 39 45,o0 17 (.store 6 (.s 46) (.s 44))] [0])
  (sQ (rG 1 [mS 0 47 0,mS 1 48 0,nC 2 49 48,fA 3 50 39 49,lT 4 51 6 50,o1 5 52 (.build [(I 0),(I 0),(I 0),(I 0),(I 0),.nilslice,(I 0),.nilslice,(I 0),(I 0),(I 0),(I 0)] [(6,6,(.s 51))]),o1 6 53 (.box 0 12 (.s 52)),nC 7 54 47,fA 8 55 35 54,o0 9 (.store 1 (.s 55) (.s 53))] [0])
  (sQ (rG 1 [mS 0 56 0,mS 1 57 0,mS 2 58 0,o1 3 59 (.mlay (.mk true) 0 []),mS 4 60 0,nC 5 61 60,fA 6 62 30 61,lF 7 63 62,nC 8 64 56,fA 9 65 36 64,o0 10 (.store 1 (.s 65) (.s 59)),nC 11 66 57,fA 12 67 31 66,o0 13 (.store 1 (.s 67) (.s 63)),nC 14 68 58,fA 15 69 33 68,o0 16 (.store 1 (.s 69) (kI 2))] [0])
  (sQ (rG 0 [mS 0 70 0,o1 1 71 (.mkfn 97 [(.s 70)] []),mS 2 2 71] [2])
  .ret))))))) }
abbrev f_drive_Node_watching : Nat := 97
def c_drive_Node_watching : CFn := { frz := true,rnd := none,nargs := 1,ntmps := 33,res := [(.slot 2)],code :=
  (sQ (rG 0 [o1 0 2 (.mv (.k (.c .nilfn)))] [0])
  (sQ (sQ (rG 0 [mS 0 3 0,nC 1 4 3,fA 2 5 30 4,mS 4 7 0,nC 5 8 7,fA 6 9 32 8,mS 9 12 0,nC 10 13 12,fA 11 14 0 13,fA 12 15 17 14,lF 3 6 5,lF 7 10 9,bS 8 11 .sub 6 10,lF 13 16 15,bS 14 17 .gtr 11 16] [17,0])
  (.cond (.s 17) (rG 0 [mS 0 18 0,nC 1 19 18,fA 2 20 33 19,o0 3 (.store 1 (.s 20) (kI 2))] [0])
  .skip))
  (sQ (rG 0 [mS 0 21 0,nC 1 22 21,fA 2 23 45 22,o0 3 (.store 1 (.s 23) (kI 0))] [0])
  (sQ (sQ (rG 0 [mS 0 24 0,nC 1 25 24,fA 2 26 33 25,lF 3 27 26,bI 4 28 .eql 27 1] [28,0])
  (.cond (.s 28) (sQ (rG 0 [mS 0 29 0,o1 1 30 (.mkfn 151 [(.s 29)] []),mS 2 2 30] [2])
  .ret)
  .skip))
  (sQ (rG 0 [mS 0 31 0,o1 1 32 (.mkfn 152 [(.s 31)] []),mS 2 2 32] [2])
  .ret))))) }
-- NOT 98 maps.clone
abbrev f_kerbstoneref03_rows : Nat := 99
def c_kerbstoneref03_rows : CFn := { frz := true,rnd := none,nargs := 2,ntmps := 22,res := [(.slot 4)],code :=
  (sQ (rG 1 [o1 0 2 (.box 0 5 (.s 0)),mI 1 4 0] [2,1])
  (sQ (rG 1 [fA 0 5 1 2,lF 1 6 5,lN 2 7 6,fA 3 8 2 2,lF 4 9 8,lN 5 10 9,fA 6 11 3 2,lF 7 12 11,lN 8 13 12,fA 9 14 4 2,lF 10 15 14,lN 11 16 15,o1 12 17 (.lit 0 1 [[(I 0)],[(I 0)],[(I 0)],[(I 0)]] [(0,(.s 7)),(1,(.s 10)),(2,(.s 13)),(3,(.s 16))]),mS 13 18 1,bI 14 19 .sub 18 1,iA 15 20 1 17 19,lF 16 21 20,mS 17 4 21] [4])
  .ret)) }
abbrev f_kerbstoneref03_sameRow : Nat := 100
def c_kerbstoneref03_sameRow : CFn := { frz := true,rnd := none,nargs := 4,ntmps := 60,res := [(.slot 8)],code :=
  (sQ (rG 2 [o1 0 4 (.box 0 5 (.s 0)),o1 1 5 (.box 1 5 (.s 1)),mB 2 8 false] [2,4,5,3])
  (sQ (sQ (rG 0 [mS 0 9 2] [9,4,5,3])
  (.block 0 (sQ (rG 0 [bI 0 11 .eql 9 1,mS 1 10 11] [10,9,4,5,3])
  (.cond (.s 10) (sQ (rG 0 [fA 0 12 1 4,mS 2 14 3,fA 5 17 1 5,mS 7 19 3,lF 1 13 12,iA 3 15 5 13 14,lT 4 16 5 15,lF 6 18 17,iA 8 20 5 18 19,lT 9 21 5 20,cA 10 22 153 [(.s 16),(.s 21)],mS 11 8 22] [8])
  .ret)
  (sQ (rG 0 [bI 0 24 .eql 9 2,mS 1 23 24] [23,9,4,5,3])
  (.cond (.s 23) (sQ (rG 0 [fA 0 25 2 4,mS 2 27 3,fA 5 30 2 5,mS 7 32 3,lF 1 26 25,iA 3 28 2 26 27,lT 4 29 2 28,lF 6 31 30,iA 8 33 2 31 32,lT 9 34 2 33,cA 10 35 154 [(.s 29),(.s 34)],mS 11 8 35] [8])
  .ret)
  (sQ (rG 0 [bI 0 37 .eql 9 3,mS 1 36 37] [36,4,5,3])
  (.cond (.s 36) (sQ (rG 0 [fA 0 38 3 4,mS 2 40 3,fA 5 43 3 5,mS 7 45 3,lF 1 39 38,iA 3 41 2 39 40,lT 4 42 2 41,lF 6 44 43,iA 8 46 2 44 45,lT 9 47 2 46,cA 10 48 155 [(.s 42),(.s 47)],mS 11 8 48] [8])
  .ret)
  .skip))))))))
  (sQ (rG 0 [fA 0 49 4 4,mS 2 51 3,fA 5 54 4 5,mS 7 56 3,lF 1 50 49,iA 3 52 6 50 51,lT 4 53 6 52,lF 6 55 54,iA 8 57 6 55 56,lT 9 58 6 57,o1 10 59 (.eqa false [false,false,false,false,false,false] (.s 53) (.s 58)),mS 11 8 59] [8])
  .ret))) }
abbrev f_plan_driver_clip : Nat := 101
def c_plan_driver_clip : CFn := { frz := true,rnd := none,nargs := 2,ntmps := 19,res := [(.slot 4)],code :=
  (sQ (rG 0 [mI 0 4 0] [1,0])
  (sQ (rG 0 [mS 0 5 0,nC 1 6 5,fA 2 7 0 6,fA 3 8 2 7,mS 6 11 1,mS 7 12 0,nC 8 13 12,fA 9 14 0 13,fA 10 15 1 14,lF 4 9 8,o1 5 10 (.un .neg (.s 9)),lF 11 16 15,o1 12 17 (.minmax false [(.s 11),(.s 16)]),o1 13 18 (.minmax true [(.s 10),(.s 17)]),mS 14 4 18] [4])
  .ret)) }
def c_roads_each_Lane_l1 : CC := (sQ (rG 0 [bS 0 11 .lss 10 9] [11,5,10,9,8,1])
  (sQ (.cond (.s 11) .skip
  (.exit 0))
  (sQ (.block 1 (sQ (rG 1 [iA 0 12 5 8 10,lT 1 13 5 12,o1 2 7 (.box 0 5 (.k (.a [(I 0),.nilslice,(I 0),(I 0),.nilslice]))),o0 3 (.store 5 (.s 7) (.s 13))] [5,7,10,9,8,1])
  (rG 1 [mS 0 14 5,mS 1 15 1,lT 2 16 5 7,⟨3,(some 17),none,.call ⟨true⟩ (.s 15) [(.s 16)]⟩,o1 4 18 (.lit 0 5 [[(I 0),.nilslice,(I 0),(I 0),.nilslice]] [(0,(.s 17))]),o1 5 19 (.append 5 72 (.s 14) (.s 18)),mS 6 5 19] [10,5,9,8,1])))
  (rG 0 [bI 0 20 .add 10 1,mS 1 10 20] [5,10,9,8,1]))))
abbrev f_roads_each_Lane : Nat := 102
def c_roads_each_Lane : CFn := { frz := true,rnd := none,nargs := 2,ntmps := 22,res := [(.slot 4)],code :=
  (sQ (rG 1 [o1 0 4 (.newsl 0 5)] [0,1])
  (sQ (rG 1 [o1 0 5 (.newsl 0 5)] [0,5,1])
  (sQ (sQ (rG 0 [mS 0 8 0,lN 1 9 8,mI 2 10 0] [5,10,9,8,1])
  (.block 0 (.loop (some [5,10,9,8,1]) c_roads_each_Lane_l1)))
  (sQ (rG 0 [mS 0 21 5,mS 1 4 21] [4])
  .ret)))) }
abbrev f_roads_ownLane : Nat := 103
def c_roads_ownLane : CFn := { frz := true,rnd := none,nargs := 1,ntmps := 12,res := [(.cell 2 true 5)],code :=
  (sQ (rG 2 [o1 0 1 (.box 0 5 (.s 0)),o1 1 2 (.box 1 5 (.k (.a [(I 0),.nilslice,(I 0),(I 0),.nilslice])))] [1,2])
  (sQ (.region 0 [fA 0 3 1 1,fA 3 6 4 1,lT 1 4 1 3,lF 4 7 6,cA 2 5 156 [(.s 4)],fA 6 9 1 1,cA 5 8 58 [(.s 7)],o0 7 (.store 1 (.s 9) (.s 5)),fA 8 10 4 1,o0 9 (.store 1 (.s 10) (.s 8))] [(3,4)] (some [1,2]))
  (sQ (rG 0 [lT 0 11 5 1,o0 1 (.store 5 (.s 2) (.s 11))] [2])
  .ret))) }
def c_roads_each_Zone_l1 : CC := (sQ (rG 0 [bS 0 11 .lss 10 9] [11,5,10,9,8,1])
  (sQ (.cond (.s 11) .skip
  (.exit 0))
  (sQ (.block 1 (sQ (rG 1 [iA 0 12 2 8 10,lT 1 13 2 12,o1 2 7 (.box 0 2 (.k (.a [.nilslice,(I 0)]))),o0 3 (.store 2 (.s 7) (.s 13))] [5,7,10,9,8,1])
  (rG 1 [mS 0 14 5,mS 1 15 1,lT 2 16 2 7,⟨3,(some 17),none,.call ⟨true⟩ (.s 15) [(.s 16)]⟩,o1 4 18 (.lit 0 2 [[.nilslice,(I 0)]] [(0,(.s 17))]),o1 5 19 (.append 2 32 (.s 14) (.s 18)),mS 6 5 19] [10,5,9,8,1])))
  (rG 0 [bI 0 20 .add 10 1,mS 1 10 20] [5,10,9,8,1]))))
abbrev f_roads_each_Zone : Nat := 104
def c_roads_each_Zone : CFn := { frz := true,rnd := none,nargs := 2,ntmps := 22,res := [(.slot 4)],code :=
  (sQ (rG 1 [o1 0 4 (.newsl 0 2)] [0,1])
  (sQ (rG 1 [o1 0 5 (.newsl 0 2)] [0,5,1])
  (sQ (sQ (rG 0 [mS 0 8 0,lN 1 9 8,mI 2 10 0] [5,10,9,8,1])
  (.block 0 (.loop (some [5,10,9,8,1]) c_roads_each_Zone_l1)))
  (sQ (rG 0 [mS 0 21 5,mS 1 4 21] [4])
  .ret)))) }
abbrev f_roads_ownZone : Nat := 105
def c_roads_ownZone : CFn := { frz := true,rnd := none,nargs := 1,ntmps := 8,res := [(.cell 2 true 2)],code :=
  (sQ (rG 2 [o1 0 1 (.box 0 2 (.s 0)),o1 1 2 (.box 1 2 (.k (.a [.nilslice,(I 0)])))] [1,2])
  (sQ (rG 0 [fA 0 3 0 1,lF 1 4 3,cA 2 5 157 [(.s 4)],fA 3 6 0 1,o0 4 (.store 1 (.s 6) (.s 5))] [1,2])
  (sQ (rG 0 [lT 0 7 2 1,o0 1 (.store 2 (.s 2) (.s 7))] [2])
  .ret))) }
def c_roads_each_Signal_l1 : CC := (sQ (rG 0 [bS 0 11 .lss 10 9] [11,5,10,9,8,1])
  (sQ (.cond (.s 11) .skip
  (.exit 0))
  (sQ (.block 1 (sQ (rG 1 [iA 0 12 2 8 10,lT 1 13 2 12,o1 2 7 (.box 0 2 (.k (.a [(I 0),.nilslice]))),o0 3 (.store 2 (.s 7) (.s 13))] [5,7,10,9,8,1])
  (rG 1 [mS 0 14 5,mS 1 15 1,lT 2 16 2 7,⟨3,(some 17),none,.call ⟨true⟩ (.s 15) [(.s 16)]⟩,o1 4 18 (.lit 0 2 [[(I 0),.nilslice]] [(0,(.s 17))]),o1 5 19 (.append 2 32 (.s 14) (.s 18)),mS 6 5 19] [10,5,9,8,1])))
  (rG 0 [bI 0 20 .add 10 1,mS 1 10 20] [5,10,9,8,1]))))
abbrev f_roads_each_Signal : Nat := 106
def c_roads_each_Signal : CFn := { frz := true,rnd := none,nargs := 2,ntmps := 22,res := [(.slot 4)],code :=
  (sQ (rG 1 [o1 0 4 (.newsl 0 2)] [0,1])
  (sQ (rG 1 [o1 0 5 (.newsl 0 2)] [0,5,1])
  (sQ (sQ (rG 0 [mS 0 8 0,lN 1 9 8,mI 2 10 0] [5,10,9,8,1])
  (.block 0 (.loop (some [5,10,9,8,1]) c_roads_each_Signal_l1)))
  (sQ (rG 0 [mS 0 21 5,mS 1 4 21] [4])
  .ret)))) }
def c_roads_ownSignal_l1 : CC := (sQ (rG 0 [bS 0 12 .lss 11 10] [12,11,10,2,1])
  (sQ (.cond (.s 12) .skip
  (.exit 0))
  (sQ (.block 1 (sQ (rG 0 [mS 0 13 11,mS 1 3 13] [3,11,10,2,1])
  (.region 0 [fA 0 14 1 1,mS 2 16 3,fA 3 17 1 1,mS 5 19 3,lF 1 15 14,lF 4 18 17,iA 6 20 2 18 19,fA 7 21 1 20,lF 8 22 21,cA 9 23 58 [(.s 22)],iA 10 24 2 15 16,fA 11 25 1 24,o0 12 (.store 1 (.s 25) (.s 23))] [(4,9)] (some [11,10,2,1]))))
  (rG 0 [bI 0 26 .add 11 1,mS 1 11 26] [11,10,2,1]))))
abbrev f_roads_ownSignal : Nat := 107
def c_roads_ownSignal : CFn := { frz := true,rnd := none,nargs := 1,ntmps := 28,res := [(.cell 2 true 2)],code :=
  (sQ (rG 2 [o1 0 1 (.box 0 2 (.s 0)),o1 1 2 (.box 1 2 (.k (.a [(I 0),.nilslice])))] [2,1])
  (sQ (rG 0 [fA 0 4 1 1,lF 1 5 4,cA 2 6 158 [(.s 5)],fA 3 7 1 1,o0 4 (.store 1 (.s 7) (.s 6))] [2,1])
  (sQ (sQ (rG 0 [fA 0 8 1 1,lF 1 9 8,lN 2 10 9,mI 3 11 0] [11,10,2,1])
  (.block 0 (.loop (some [11,10,2,1]) c_roads_ownSignal_l1)))
  (sQ (rG 0 [lT 0 27 2 1,o0 1 (.store 2 (.s 2) (.s 27))] [2])
  .ret)))) }
def c_roads_each_Work_l1 : CC := (sQ (rG 0 [bS 0 11 .lss 10 9] [11,5,10,9,8,1])
  (sQ (.cond (.s 11) .skip
  (.exit 0))
  (sQ (.block 1 (sQ (rG 1 [iA 0 12 6 8 10,lT 1 13 6 12,o1 2 7 (.box 0 6 (.k (.a [(I 0),(I 0),(I 0),(I 0),(I 0),(I 0)]))),o0 3 (.store 6 (.s 7) (.s 13))] [5,7,10,9,8,1])
  (rG 1 [mS 0 14 5,mS 1 15 1,lT 2 16 6 7,⟨3,(some 17),none,.call ⟨true⟩ (.s 15) [(.s 16)]⟩,o1 4 18 (.lit 0 6 [[(I 0),(I 0),(I 0),(I 0),(I 0),(I 0)]] [(0,(.s 17))]),o1 5 19 (.append 6 48 (.s 14) (.s 18)),mS 6 5 19] [10,5,9,8,1])))
  (rG 0 [bI 0 20 .add 10 1,mS 1 10 20] [5,10,9,8,1]))))
abbrev f_roads_each_Work : Nat := 108
def c_roads_each_Work : CFn := { frz := true,rnd := none,nargs := 2,ntmps := 22,res := [(.slot 4)],code :=
  (sQ (rG 1 [o1 0 4 (.newsl 0 6)] [0,1])
  (sQ (rG 1 [o1 0 5 (.newsl 0 6)] [0,5,1])
  (sQ (sQ (rG 0 [mS 0 8 0,lN 1 9 8,mI 2 10 0] [5,10,9,8,1])
  (.block 0 (.loop (some [5,10,9,8,1]) c_roads_each_Work_l1)))
  (sQ (rG 0 [mS 0 21 5,mS 1 4 21] [4])
  .ret)))) }
abbrev f_roads_ownWork : Nat := 109
def c_roads_ownWork : CFn := { frz := true,rnd := none,nargs := 1,ntmps := 4,res := [(.cell 2 true 6)],code :=
  (sQ (rG 2 [o1 0 1 (.box 0 6 (.s 0)),o1 1 2 (.box 1 6 (.k (.a [(I 0),(I 0),(I 0),(I 0),(I 0),(I 0)])))] [1,2])
  (sQ (rG 0 [lT 0 3 6 1,o0 1 (.store 6 (.s 2) (.s 3))] [2])
  .ret)) }
def c_roads_follow_l1 : CC := (sQ (rG 0 [bS 0 19 .lss 18 17] [19,18,17,4,16,2,5])
  (sQ (.cond (.s 19) .skip
  (.exit 0))
  (sQ (.block 1 (sQ (rG 0 [iA 0 20 1 16 18,lF 1 21 20,mS 2 7 21] [7,18,17,4,16,2,5])
  (sQ (rG 1 [fA 0 22 6 5,lF 1 23 22,fA 2 24 7 5,lF 3 25 24,o1 4 26 (.lit 0 1 [[(I 0)]] [(0,(.s 25))]),o1 5 27 (.append 1 8 (.s 23) (.s 26)),fA 6 28 6 5,o0 7 (.store 1 (.s 28) (.s 27))] [7,18,17,4,16,2,5])
  (.region 0 [fA 0 29 7 5,mS 3 32 7,lF 1 30 29,lT 2 31 5 2,cA 4 33 112 [(.s 31),(.s 32)],bS 5 34 .add 30 33,fA 6 35 7 5,o0 7 (.store 1 (.s 35) (.s 34))] [(2,4)] (some [18,17,4,16,2,5])))))
  (rG 0 [bI 0 36 .add 18 1,mS 1 18 36] [18,17,4,16,2,5]))))
abbrev f_roads_follow : Nat := 110
def c_roads_follow : CFn := { frz := true,rnd := none,nargs := 2,ntmps := 38,res := [(.cell 4 true 8)],code :=
  (sQ (rG 2 [o1 0 2 (.box 0 5 (.s 0)),o1 1 4 (.box 1 8 (.k (.a [(I 0),.nilslice,.nilslice,.nilslice,.nilslice,.nilslice,.nilslice,(I 0)])))] [2,1,4])
  (sQ (sQ (rG 0 [lT 0 8 5 2,mS 1 9 1,cA 2 10 40 [(.s 8),(.s 9)],bI 3 11 .neq 10 0] [11,2,1,4])
  (.cond (.s 11) (sQ (rG 0 [o1 0 12 (.build [(I 0),.nilslice,.nilslice,.nilslice,.nilslice,.nilslice,.nilslice,(I 0)] []),o0 1 (.store 8 (.s 4) (.s 12))] [4])
  .ret)
  .skip))
  (sQ (rG 1 [lT 0 13 5 2,mS 1 14 1,o1 2 15 (.build [(I 0),.nilslice,.nilslice,.nilslice,.nilslice,.nilslice,.nilslice,(I 0)] [(0,5,(.s 13)),(5,1,(.s 14))]),o1 3 5 (.box 0 8 (.k (.a [(I 0),.nilslice,.nilslice,.nilslice,.nilslice,.nilslice,.nilslice,(I 0)]))),o0 4 (.store 8 (.s 5) (.s 15))] [1,4,2,5])
  (sQ (sQ (rG 0 [mS 0 16 1,lN 1 17 16,mI 2 18 0] [18,17,4,16,2,5])
  (.block 0 (.loop (some [18,17,4,16,2,5]) c_roads_follow_l1)))
  (sQ (rG 0 [lT 0 37 8 5,o0 1 (.store 8 (.s 4) (.s 37))] [4])
  .ret))))) }
abbrev f_roads_is : Nat := 111
def c_roads_is : CFn := { frz := true,rnd := none,nargs := 2,ntmps := 19,res := [(.slot 4)],code :=
  (sQ (rG 1 [o1 0 2 (.box 0 5 (.s 0)),mB 1 4 false] [1,2])
  (sQ (rG 0 [mS 0 5 1,bI 1 6 .geq 5 0,mS 2 7 6,oG 3 8 7 true (.mv (.s 1)),oG 4 9 7 true (.faddr 1 (.s 2)),oG 5 10 7 true (.load false 1 (.s 9)),oG 6 11 7 true (.len (.s 10)),oG 7 12 7 true (.bin .lss (.s 8) (.s 11)),o1 8 13 (.pick (.s 7) (.s 12) (kB false)),mS 9 14 13,oG 10 15 14 true (.load true 5 (.s 2)),⟨11,(some 16),(some (14,true)),.call ⟨true⟩ (.k (.c (.fn 38 [] []))) [(.s 15)]⟩,oG 12 17 14 true (.bin .eql (.s 16) (kI 0)),o1 13 18 (.pick (.s 14) (.s 17) (kB false)),mS 14 4 18] [4])
  .ret)) }
abbrev f_roads_long : Nat := 112
def c_roads_long : CFn := { frz := true,rnd := none,nargs := 2,ntmps := 12,res := [(.slot 4)],code :=
  (sQ (rG 1 [o1 0 2 (.box 0 5 (.s 0)),mI 1 4 0] [2,1])
  (sQ (rG 0 [fA 0 5 1 2,lF 1 6 5,mS 2 7 1,iA 3 8 5 6 7,fA 4 9 1 8,lT 5 10 1 9,cA 6 11 159 [(.s 10)],mS 7 4 11] [4])
  .ret)) }
abbrev f_motion_Course_gap : Nat := 113
def c_motion_Course_gap : CFn := { frz := true,rnd := none,nargs := 2,ntmps := 13,res := [(.slot 4)],code :=
  (sQ (rG 2 [o1 0 2 (.box 0 11 (.s 0)),o1 1 3 (.box 1 4 (.s 1)),mB 2 4 false] [2,3])
  (sQ (rG 0 [fA 0 5 1 3,lF 1 6 5,fA 2 7 8 2,lF 3 8 7,bS 4 9 .sub 6 8,fA 5 10 0 3,lF 6 11 10,bS 7 12 .leq 9 11,mS 8 4 12] [4])
  .ret)) }
def c_motion_Cut_Blob_l1 : CC := (sQ (rG 0 [bS 0 22 .lss 21 20] [22,5,21,20,19,3])
  (sQ (.cond (.s 22) .skip
  (.exit 0))
  (sQ (.block 1 (sQ (rG 1 [iA 0 23 6 19 21,lT 1 24 6 23,o1 2 7 (.box 0 6 (.k (.a [(I 0),(I 0),(I 0),(I 0),(I 0),(I 0)]))),o0 3 (.store 6 (.s 7) (.s 24))] [5,7,21,20,19,3])
  (sQ (rG 2 [lT 0 25 6 7,lT 1 26 6 7,o1 2 8 (.box 0 6 (.k (.a [(I 0),(I 0),(I 0),(I 0),(I 0),(I 0)]))),o1 3 9 (.box 1 6 (.k (.a [(I 0),(I 0),(I 0),(I 0),(I 0),(I 0)]))),o0 4 (.store 6 (.s 8) (.s 25)),o0 5 (.store 6 (.s 9) (.s 26))] [9,8,5,7,21,20,19,3])
  (sQ (rG 0 [cA 0 28 160 [(.s 7)],mS 1 27 28,eX 2 29 27 0,eX 3 30 27 1,eX 4 31 27 2,mS 5 10 29,mS 6 11 30,mS 7 12 31] [10,9,12,8,11,5,7,21,20,19,3])
  (sQ (sQ (rG 0 [mS 0 32 10,fA 1 33 0 3,lF 2 34 33,bS 3 35 .neq 32 34,mS 4 36 35,oG 5 37 36 false (.faddr 1 (.s 3)),oG 7 39 36 false (.faddr 2 (.s 3)),oG 6 38 36 false (.load false 1 (.s 37)),oG 8 40 36 false (.load false 1 (.s 39)),oG 9 41 36 false (.bin .gtr (.s 38) (.s 40)),o1 10 42 (.pick (.s 36) (kB true) (.s 41)),mS 11 43 42,oG 12 44 43 false (.faddr 1 (.s 3)),oG 14 46 43 false (.mv (.s 12)),oG 15 47 43 false (.nilck (.s 46)),oG 13 45 43 false (.load false 1 (.s 44)),oG 16 48 43 false (.load false 1 (.s 47)),oG 17 49 43 false (.bin .gtr (.s 45) (.s 48)),o1 18 50 (.pick (.s 43) (kB true) (.s 49)),mS 19 51 50,oG 20 52 51 false (.faddr 2 (.s 3)),oG 22 54 51 false (.mv (.s 11)),oG 23 55 51 false (.nilck (.s 54)),oG 21 53 51 false (.load false 1 (.s 52)),oG 24 56 51 false (.load false 1 (.s 55)),oG 25 57 51 false (.bin .lss (.s 53) (.s 56)),o1 26 58 (.pick (.s 51) (kB true) (.s 57))] [58,9,12,8,11,5,7,21,20,19,3])
  (.cond (.s 58) (sQ (rG 1 [mS 0 59 5,lT 1 60 6 7,o1 2 61 (.lit 0 6 [[(I 0),(I 0),(I 0),(I 0),(I 0),(I 0)]] [(0,(.s 60))]),o1 3 62 (.append 6 48 (.s 59) (.s 61)),mS 4 5 62] [21,5,20,19,3])
  (.exit 1))
  .skip))
  (sQ (sQ (rG 0 [fA 0 63 1 3,mS 2 65 11,nC 3 66 65,lF 1 64 63,lF 4 67 66,bS 5 68 .gtr 64 67] [68,5,8,12,9,21,20,19,3])
  (.cond (.s 68) (sQ (rG 0 [cA 0 70 160 [(.s 8)],mS 1 69 70,eX 2 71 69 0,eX 3 72 69 1,eX 4 73 69 2,mS 5 13 71,mS 6 14 72,mS 7 15 73] [15,5,8,12,9,21,20,19,3])
  (sQ (rG 0 [mS 0 74 15,fA 1 75 1 3,lF 2 76 75,bI 3 77 .sub 76 1,nC 4 78 74,o0 5 (.store 1 (.s 78) (.s 77))] [5,8,12,9,21,20,19,3])
  (rG 1 [mS 0 79 5,lT 1 80 6 8,o1 2 81 (.lit 0 6 [[(I 0),(I 0),(I 0),(I 0),(I 0),(I 0)]] [(0,(.s 80))]),o1 3 82 (.append 6 48 (.s 79) (.s 81)),mS 4 5 82] [12,5,9,21,20,19,3])))
  .skip))
  (sQ (rG 0 [fA 0 83 2 3,mS 2 85 12,nC 3 86 85,lF 1 84 83,lF 4 87 86,bS 5 88 .lss 84 87] [88,5,9,21,20,19,3])
  (.cond (.s 88) (sQ (rG 0 [cA 0 90 160 [(.s 9)],mS 1 89 90,eX 2 91 89 0,eX 3 92 89 1,eX 4 93 89 2,mS 5 16 91,mS 6 17 92,mS 7 18 93] [17,5,9,21,20,19,3])
  (sQ (rG 0 [mS 0 94 17,fA 1 95 2 3,lF 2 96 95,bI 3 97 .add 96 1,nC 4 98 94,o0 5 (.store 1 (.s 98) (.s 97))] [5,9,21,20,19,3])
  (rG 1 [mS 0 99 5,lT 1 100 6 9,o1 2 101 (.lit 0 6 [[(I 0),(I 0),(I 0),(I 0),(I 0),(I 0)]] [(0,(.s 100))]),o1 3 102 (.append 6 48 (.s 99) (.s 101)),mS 4 5 102] [21,5,20,19,3])))
  .skip))))))))
  (rG 0 [bI 0 103 .add 21 1,mS 1 21 103] [5,21,20,19,3]))))
abbrev f_motion_Cut_Blob : Nat := 114
def c_motion_Cut_Blob : CFn := { frz := true,rnd := none,nargs := 2,ntmps := 105,res := [(.slot 4)],code :=
  (sQ (rG 2 [o1 0 3 (.box 0 3 (.s 1)),o1 1 4 (.newsl 1 6)] [0,3])
  (sQ (rG 1 [o1 0 5 (.newsl 0 6)] [0,5,3])
  (sQ (sQ (rG 0 [mS 0 19 0,lN 1 20 19,mI 2 21 0] [5,21,20,19,3])
  (.block 0 (.loop (some [5,21,20,19,3]) c_motion_Cut_Blob_l1)))
  (sQ (rG 0 [mS 0 104 5,mS 1 4 104] [4])
  .ret)))) }
abbrev f_roads_within : Nat := 115
def c_roads_within : CFn := { frz := true,rnd := none,nargs := 3,ntmps := 15,res := [(.slot 6)],code :=
  (sQ (rG 0 [mB 0 6 false] [1,0,2])
  (sQ (rG 0 [mS 0 7 1,mS 1 8 0,bS 2 9 .leq 7 8,mS 3 10 9,oG 4 11 10 true (.mv (.s 0)),oG 5 12 10 true (.mv (.s 2)),oG 6 13 10 true (.bin .leq (.s 11) (.s 12)),o1 7 14 (.pick (.s 10) (.s 13) (kB false)),mS 8 6 14] [6])
  .ret)) }
def c_curve_Check_l1 : CC := (sQ (rG 0 [bS 0 28 .lss 27 26] [28,3,1,26,27])
  (sQ (.cond (.s 28) .skip
  (.exit 1))
  (sQ (.block 2 (sQ (rG 0 [mS 0 29 27,mS 1 4 29] [4,3,1,26,27])
  (sQ (.region 1 [fA 0 30 0 1,mS 2 32 4,fA 5 35 0 1,mS 7 37 4,bI 8 38 .add 37 1,lF 1 31 30,iA 3 33 2 31 32,lT 4 34 2 33,lF 6 36 35,iA 9 39 2 36 38,lT 10 40 2 39,cA 11 41 162 [(.s 34),(.s 40)],o1 12 5 (.box 0 2 (.k (.a [(I 0),(I 0)]))),o0 13 (.store 2 (.s 5) (.s 41))] [(5,12),(7,12),(8,12),(10,12),(11,12)] (some [4,3,1,26,27,5]))
  (sQ (rG 0 [lT 0 43 2 5,lT 1 44 2 5,cA 2 45 164 [(.s 43),(.s 44)],cA 3 46 163 [(.s 45)],mS 4 42 46,eX 5 47 42 0,eX 6 48 42 1,mS 7 6 47,mS 8 7 48] [7,4,3,1,26,27,5,6])
  (sQ (.block 3 (sQ (rG 0 [mS 0 50 7,o1 1 51 (.un .not (.s 50)),mS 2 49 51] [49,4,3,1,26,27,5,6])
  (.cond (.s 49) (sQ (rG 0 [mI 0 2 3] [2])
  .ret)
  (sQ (rG 0 [mS 0 53 6,bI 1 54 .lss 53 1000,mS 2 55 54,oG 3 56 55 false (.mv (.s 6)),oG 4 57 55 false (.bin .gtr (.s 56) (kI 1048576)),o1 5 58 (.pick (.s 55) (kB true) (.s 57)),mS 6 52 58] [52,5,27,26,1,3,4])
  (.cond (.s 52) (sQ (rG 0 [mI 0 2 2] [2])
  .ret)
  (sQ (rG 0 [mS 0 60 4,bI 1 61 .gtr 60 0,mS 2 62 61,oG 3 63 62 true (.load true 2 (.s 3)),oG 4 64 62 true (.load true 2 (.s 5)),⟨5,(some 65),(some (62,true)),.call ⟨true⟩ (.k (.c (.fn 164 [] []))) [(.s 63),(.s 64)]⟩,oG 6 66 62 true (.bin .leq (.s 65) (kI 0)),o1 7 67 (.pick (.s 62) (.s 66) (kB false)),mS 8 59 67] [59,3,1,26,27,5])
  (.cond (.s 59) (sQ (rG 0 [mI 0 2 12] [2])
  .ret)
  .skip)))))))
  (rG 0 [lT 0 68 2 5,o0 1 (.store 2 (.s 3) (.s 68))] [27,26,1,3]))))))
  (rG 0 [bI 0 69 .add 27 1,mS 1 27 69] [26,1,3,27]))))
abbrev f_curve_Check : Nat := 116
def c_curve_Check : CFn := { frz := true,rnd := none,nargs := 1,ntmps := 70,res := [(.slot 2)],code :=
  (sQ (rG 1 [o1 0 1 (.box 0 1 (.s 0)),mI 1 2 0] [1])
  (sQ (.block 0 (sQ (rG 0 [fA 0 9 0 1,lF 1 10 9,lN 2 11 10,bI 3 12 .lss 11 2,mS 4 8 12] [8,1])
  (.cond (.s 8) (sQ (rG 0 [mI 0 2 6] [2])
  .ret)
  (sQ (rG 0 [fA 0 14 0 1,lF 1 15 14,lN 2 16 15,bI 3 17 .gtr 16 16,mS 4 13 17] [13,1])
  (.cond (.s 13) (sQ (rG 0 [mI 0 2 5] [2])
  .ret)
  (sQ (rG 0 [fA 0 19 0 1,lF 1 20 19,cA 2 21 161 [(.s 20)],o1 3 22 (.un .not (.s 21)),mS 4 18 22] [18,1])
  (.cond (.s 18) (sQ (rG 0 [mI 0 2 2] [2])
  .ret)
  .skip)))))))
  (sQ (rG 1 [o1 0 3 (.box 0 2 (.k (.a [(I 0),(I 0)])))] [1,3])
  (sQ (sQ (rG 0 [fA 0 23 0 1,lF 1 24 23,lN 2 25 24,bI 3 26 .sub 25 1,mI 4 27 0] [26,1,3,27])
  (.block 1 (.loop (some [26,1,3,27]) c_curve_Check_l1)))
  (sQ (rG 0 [mI 0 2 0] [2])
  .ret))))) }
def c_roads_rising_l1 : CC := (sQ (rG 0 [bS 0 12 .lss 11 10] [12,1,2,9,10,11])
  (sQ (.cond (.s 12) .skip
  (.exit 0))
  (sQ (.block 1 (sQ (rG 0 [iA 0 13 1 9 11,lF 1 14 13,mS 2 8 14] [1,2,9,10,11,8])
  (sQ (sQ (rG 0 [mS 0 15 8,mS 1 16 1,bS 2 17 .lss 15 16,mS 3 18 17,oG 4 19 18 false (.mv (.s 8)),oG 5 20 18 false (.mv (.s 2)),oG 6 21 18 false (.bin .geq (.s 19) (.s 20)),o1 7 22 (.pick (.s 18) (kB true) (.s 21))] [22,2,9,10,11,8])
  (.cond (.s 22) (sQ (rG 0 [mB 0 6 false] [6])
  .ret)
  .skip))
  (rG 0 [mS 0 23 8,bI 1 24 .add 23 1,mS 2 1 24] [11,1,10,9,2]))))
  (rG 0 [bI 0 25 .add 11 1,mS 1 11 25] [1,10,9,2,11]))))
abbrev f_roads_rising : Nat := 117
def c_roads_rising : CFn := { frz := true,rnd := none,nargs := 3,ntmps := 26,res := [(.slot 6)],code :=
  (sQ (rG 0 [mB 0 6 false] [0,1,2])
  (sQ (sQ (rG 0 [mS 0 9 0,lN 1 10 9,mI 2 11 0] [1,10,9,2,11])
  (.block 0 (.loop (some [1,10,9,2,11]) c_roads_rising_l1)))
  (sQ (rG 0 [mB 0 6 true] [6])
  .ret))) }
abbrev f_slices_ContainsFunc_Phase : Nat := 118
def c_slices_ContainsFunc_Phase : CFn := { frz := true,rnd := none,nargs := 2,ntmps := 9,res := [(.slot 4)],code :=
  (sQ (rG 0 [mB 0 4 false] [0,1])
  (sQ (rG 0 [mS 0 5 0,mS 1 6 1,cA 2 7 165 [(.s 5),(.s 6)],bI 3 8 .geq 7 0,mS 4 4 8] [4])
  .ret)) }
abbrev f_roads_check_signals_1 : Nat := 119
def c_roads_check_signals_1 : CFn := { frz := true,rnd := none,nargs := 1,ntmps := 7,res := [(.slot 2)],code :=
  (sQ (rG 1 [o1 0 1 (.box 0 2 (.s 0)),mB 1 2 false] [1])
  (sQ (rG 0 [fA 0 3 0 1,lF 1 4 3,cA 2 5 115 [(.s 4),(kI 1),(kI 10000)],o1 3 6 (.un .not (.s 5)),mS 4 2 6] [2])
  .ret)) }
abbrev f_roads_check_signals_2 : Nat := 120
def c_roads_check_signals_2 : CFn := { frz := true,rnd := none,nargs := 2,ntmps := 12,res := [(.slot 3)],code :=
  (sQ (rG 1 [o1 0 2 (.box 0 2 (.s 0)),mB 1 3 false] [2,1])
  (sQ (rG 0 [fA 0 4 1 2,lF 1 5 4,fA 2 6 0 1,fA 3 7 1 6,lF 4 8 7,lN 5 9 8,cA 6 10 117 [(.s 5),(kI 0),(.s 9)],o1 7 11 (.un .not (.s 10)),mS 8 3 11] [3])
  .ret)) }
abbrev f_slices_ContainsFunc_Zone : Nat := 121
def c_slices_ContainsFunc_Zone : CFn := { frz := true,rnd := none,nargs := 2,ntmps := 9,res := [(.slot 4)],code :=
  (sQ (rG 0 [mB 0 4 false] [0,1])
  (sQ (rG 0 [mS 0 5 0,mS 1 6 1,cA 2 7 166 [(.s 5),(.s 6)],bI 3 8 .geq 7 0,mS 4 4 8] [4])
  .ret)) }
abbrev f_roads_merges_1 : Nat := 122
def c_roads_merges_1 : CFn := { frz := true,rnd := none,nargs := 4,ntmps := 16,res := [(.slot 5)],code :=
  (sQ (rG 1 [o1 0 4 (.box 0 2 (.s 0)),mB 1 5 false] [2,3,4,1])
  (sQ (rG 0 [lT 0 6 5 1,lT 1 7 2 4,lF 2 8 2,cA 3 9 123 [(.s 6),(.s 7),(.s 8)],mS 4 10 9,oG 5 11 10 true (.load false 1 (.s 3)),oG 6 12 10 true (.mkfn 125 [] [(.s 1),(.s 4)]),⟨7,(some 13),(some (10,true)),.call ⟨true⟩ (.k (.c (.fn 124 [] []))) [(.s 11),(.s 12)]⟩,oG 8 14 10 true (.un .not (.s 13)),o1 9 15 (.pick (.s 10) (.s 14) (kB false)),mS 10 5 15] [5])
  .ret)) }
def c_roads_closed_l1 : CC := (sQ (rG 0 [bS 0 31 .lss 30 29] [31,3,4,28,29,30])
  (sQ (.cond (.s 31) .skip
  (.exit 0))
  (sQ (.block 1 (sQ (rG 0 [iA 0 32 1 28 30,lF 1 33 32,mS 2 10 33] [10,3,4,28,29,30])
  (sQ (rG 1 [lT 0 35 2 4,mS 1 36 10,cA 2 37 129 [(.s 35),(.s 36)],mS 3 34 37,eX 4 38 34 0,eX 5 39 34 1,o1 6 11 (.box 0 4 (.k (.a [(I 0),(I 0),(I 0),(I 0)]))),o0 7 (.store 4 (.s 11) (.s 38)),mS 8 12 39] [12,11,10,3,4,28,29,30])
  (sQ (.region 0 [mS 0 40 12,o1 1 41 (.un .not (.s 40)),mS 2 42 41,oG 3 43 42 false (.faddr 2 (.s 11)),oG 6 46 42 false (.mv (.s 10)),oG 4 44 42 false (.load false 1 (.s 43)),oG 5 45 42 false (.load true 5 (.s 3)),⟨7,(some 47),(some (42,false)),.call ⟨true⟩ (.k (.c (.fn 112 [] []))) [(.s 45),(.s 46)]⟩,oG 8 48 42 false (.bin .neq (.s 44) (.s 47)),o1 9 49 (.pick (.s 42) (kB true) (.s 48))] [(5,7)] (some [49,3,4,28,29,30]))
  (.cond (.s 49) (sQ (rG 0 [mB 0 6 false] [6])
  .ret)
  .skip)))))
  (rG 0 [bI 0 50 .add 30 1,mS 1 30 50] [29,28,4,3,30]))))
abbrev f_roads_closed : Nat := 123
def c_roads_closed : CFn := { frz := true,rnd := none,nargs := 3,ntmps := 51,res := [(.slot 6)],code :=
  (sQ (rG 2 [o1 0 3 (.box 0 5 (.s 0)),o1 1 4 (.box 1 2 (.s 1)),mB 2 6 false] [3,4,2])
  (sQ (rG 1 [lT 0 14 2 4,mS 1 15 2,cA 2 16 129 [(.s 14),(.s 15)],mS 3 13 16,eX 4 17 13 0,eX 5 18 13 1,o1 6 7 (.box 0 4 (.k (.a [(I 0),(I 0),(I 0),(I 0)]))),o0 7 (.store 4 (.s 7) (.s 17)),mS 8 8 18] [8,7,3,4,2])
  (sQ (sQ (rG 0 [mS 0 19 8,o1 1 20 (.un .not (.s 19)),mS 2 21 20,oG 3 22 21 false (.faddr 1 (.s 7)),oG 4 23 21 false (.load false 1 (.s 22)),oG 5 24 21 false (.bin .neq (.s 23) (kI 0)),o1 6 25 (.pick (.s 21) (kB true) (.s 24))] [25,3,4,2])
  (.cond (.s 25) (sQ (rG 0 [mB 0 6 false] [6])
  .ret)
  .skip))
  (sQ (sQ (rG 0 [lT 0 26 5 3,mS 1 27 2,cA 2 28 76 [(.s 26),(.s 27)],lN 3 29 28,mI 4 30 0] [29,28,4,3,30])
  (.block 0 (.loop (some [29,28,4,3,30]) c_roads_closed_l1)))
  (sQ (rG 0 [mB 0 6 true] [6])
  .ret))))) }
abbrev f_slices_ContainsFunc_int : Nat := 124
def c_slices_ContainsFunc_int : CFn := { frz := true,rnd := none,nargs := 2,ntmps := 9,res := [(.slot 4)],code :=
  (sQ (rG 0 [mB 0 4 false] [0,1])
  (sQ (rG 0 [mS 0 5 0,mS 1 6 1,cA 2 7 167 [(.s 5),(.s 6)],bI 3 8 .geq 7 0,mS 4 4 8] [4])
  .ret)) }
abbrev f_roads_merges_1_1 : Nat := 125
def c_roads_merges_1_1 : CFn := { frz := true,rnd := none,nargs := 3,ntmps := 10,res := [(.slot 4)],code :=
  (sQ (rG 0 [mB 0 4 false] [1,2,0])
  (sQ (rG 0 [lT 0 5 5 1,lT 1 6 2 2,mS 2 7 0,cA 3 8 126 [(.s 5),(.s 6),(.s 7)],o1 4 9 (.un .not (.s 8)),mS 5 4 9] [4])
  .ret)) }
abbrev f_roads_entry : Nat := 126
def c_roads_entry : CFn := { frz := true,rnd := none,nargs := 3,ntmps := 15,res := [(.slot 6)],code :=
  (sQ (rG 3 [o1 0 3 (.box 0 5 (.s 0)),o1 1 4 (.box 1 2 (.s 1)),o1 2 5 (.box 2 1 (.s 2)),mB 3 6 false] [3,4,5])
  (sQ (rG 1 [lT 0 8 5 3,cA 1 9 168 [(.s 8)],o1 2 7 (.box 0 12 (.k (.a [(.int .u32 0),(.int .u32 0),(.int .u32 0),(.int .u32 0),(.int .u32 0),(.int .u32 0),(.int .u32 0),(.int .u32 0),(.int .u32 0),(.int .u32 0),(.int .u32 0),(.int .u32 0)]))),o0 3 (.store 12 (.s 7) (.s 9))] [4,5,7])
  (sQ (rG 0 [fA 0 10 0 4,lF 1 11 10,o1 2 12 (.mkfn 170 [] [(.s 7),(.s 5)]),cA 3 13 169 [(.s 11),(.s 12)],o1 4 14 (.un .not (.s 13)),mS 5 6 14] [6])
  .ret))) }
def c_roads_pairs_l1 : CC := (sQ (rG 0 [bS 0 38 .lss 37 36] [38,6,37,36,9,25,17,16,15,3,26,27,35,2,8,1,7,11])
  (sQ (.cond (.s 38) .skip
  (.exit 4))
  (sQ (.block 5 (sQ (rG 0 [iA 0 39 1 35 37,lF 1 40 39,mS 2 13 40] [6,13,37,36,9,25,17,16,15,3,26,27,35,2,8,1,7,11])
  (sQ (rG 0 [mS 0 41 2,lT 1 42 2 8,mS 2 43 11,mS 3 44 13,⟨4,(some 45),none,.call ⟨true⟩ (.s 41) [(.s 42),(.s 43),(.s 44)]⟩] [45,6,13,37,36,9,25,17,16,15,3,26,27,35,2,8,1,7,11])
  (.cond (.s 45) (rG 1 [mS 0 46 6,mS 1 47 1,mS 2 48 7,mS 3 49 11,mS 4 50 13,o1 5 51 (.build [(I 0),(I 0),(I 0),(I 0)] [(0,1,(.s 47)),(1,1,(.s 48)),(2,1,(.s 49)),(3,1,(.s 50))]),o1 6 52 (.lit 0 4 [[(I 0),(I 0),(I 0),(I 0)]] [(0,(.s 51))]),o1 7 53 (.append 4 32 (.s 46) (.s 52)),mS 8 6 53] [37,6,36,9,25,17,16,15,3,26,27,35,2,8,1,7,11])
  .skip))))
  (rG 0 [bI 0 54 .add 37 1,mS 1 37 54] [6,37,36,9,25,17,16,15,3,26,27,35,2,8,1,7,11]))))
def c_roads_pairs_l2 : CC := (sQ (rG 0 [bS 0 28 .lss 27 26] [28,6,9,25,17,16,15,3,26,27,2,8,1,7])
  (sQ (.cond (.s 28) .skip
  (.exit 2))
  (sQ (.block 3 (sQ (rG 0 [mS 0 29 27,iA 1 30 1 25 27,lF 2 31 30,mS 3 10 29,mS 4 11 31] [10,6,9,25,17,16,15,3,26,27,2,8,1,7,11])
  (sQ (rG 0 [mS 0 32 9,mS 1 33 10,bI 2 34 .add 33 1,o1 3 35 (.slice 1 (.s 32) (some (.s 34)) none none),lN 4 36 35,mI 5 37 0] [6,37,36,9,25,17,16,15,3,26,27,35,2,8,1,7,11])
  (.block 4 (.loop (some [6,37,36,9,25,17,16,15,3,26,27,35,2,8,1,7,11]) c_roads_pairs_l1)))))
  (rG 0 [bI 0 55 .add 27 1,mS 1 27 55] [6,26,3,15,16,17,25,9,27,2,8,1,7]))))
def c_roads_pairs_l3 : CC := (sQ (rG 0 [bS 0 18 .lss 17 16] [18,6,3,15,16,17,2,1])
  (sQ (.cond (.s 18) .skip
  (.exit 0))
  (sQ (.block 1 (sQ (rG 1 [mS 0 19 17,iA 1 20 2 15 17,lT 2 21 2 20,o1 3 8 (.box 0 2 (.k (.a [.nilslice,(I 0)]))),mS 4 7 19,o0 5 (.store 2 (.s 8) (.s 21))] [6,3,15,16,17,2,8,1,7])
  (sQ (rG 0 [lT 0 22 5 3,lT 1 23 2 8,cA 2 24 172 [(.s 22),(.s 23)],mS 3 9 24] [6,3,15,16,17,9,2,8,1,7])
  (sQ (rG 0 [mS 0 25 9,lN 1 26 25,mI 2 27 0] [6,26,3,15,16,17,25,9,27,2,8,1,7])
  (.block 2 (.loop (some [6,26,3,15,16,17,25,9,27,2,8,1,7]) c_roads_pairs_l2))))))
  (rG 0 [bI 0 56 .add 17 1,mS 1 17 56] [6,16,15,3,17,2,1]))))
abbrev f_roads_pairs : Nat := 127
def c_roads_pairs : CFn := { frz := true,rnd := none,nargs := 3,ntmps := 58,res := [(.slot 6)],code :=
  (sQ (rG 2 [o1 0 3 (.box 0 5 (.s 0)),o1 1 6 (.newsl 1 4)] [6,3,2,1])
  (sQ (sQ (rG 0 [fA 0 14 2 3,lF 1 15 14,lN 2 16 15,mI 3 17 0] [6,16,15,3,17,2,1])
  (.block 0 (.loop (some [6,16,15,3,17,2,1]) c_roads_pairs_l3)))
  (sQ (rG 0 [mS 0 57 6,mS 1 6 57] [6])
  .ret))) }
abbrev f_roads_ranks_1 : Nat := 128
def c_roads_ranks_1 : CFn := { frz := true,rnd := none,nargs := 3,ntmps := 33,res := [(.slot 6)],code :=
  (sQ (rG 1 [o1 0 3 (.box 0 2 (.s 0)),mB 1 6 false] [1,2,3])
  (sQ (rG 1 [lT 0 12 2 3,mS 1 13 1,cA 2 14 129 [(.s 12),(.s 13)],mS 3 11 14,eX 4 15 11 0,eX 5 16 11 1,o1 6 7 (.box 0 4 (.k (.a [(I 0),(I 0),(I 0),(I 0)]))),o0 7 (.store 4 (.s 7) (.s 15)),mS 8 8 16] [2,3,7])
  (sQ (rG 1 [lT 0 18 2 3,mS 1 19 2,cA 2 20 129 [(.s 18),(.s 19)],mS 3 17 20,eX 4 21 17 0,eX 5 22 17 1,o1 6 9 (.box 0 4 (.k (.a [(I 0),(I 0),(I 0),(I 0)]))),o0 7 (.store 4 (.s 9) (.s 21)),mS 8 10 22] [3,7,9])
  (sQ (rG 0 [fA 0 23 1 3,lF 1 24 23,bI 2 25 .eql 24 0,mS 3 26 25,oG 4 27 26 true (.faddr 3 (.s 7)),oG 5 28 26 true (.load false 1 (.s 27)),oG 6 29 26 true (.faddr 3 (.s 9)),oG 7 30 26 true (.load false 1 (.s 29)),oG 8 31 26 true (.bin .eql (.s 28) (.s 30)),o1 9 32 (.pick (.s 26) (.s 31) (kB false)),mS 10 6 32] [6])
  .ret)))) }
abbrev f_roads_part : Nat := 129
def c_roads_part : CFn := { frz := true,rnd := none,nargs := 2,ntmps := 19,res := [(.cell 4 true 4),(.slot 5)],code :=
  (sQ (rG 3 [o1 0 2 (.box 0 2 (.s 0)),o1 1 3 (.box 1 1 (.s 1)),o1 2 4 (.box 2 4 (.k (.a [(I 0),(I 0),(I 0),(I 0)]))),mB 3 5 false] [3,2,4])
  (sQ (rG 0 [fA 0 7 0 2,lF 1 8 7,o1 2 9 (.mkfn 174 [] [(.s 3)]),cA 3 10 173 [(.s 8),(.s 9)],mS 4 6 10] [6,2,4])
  (sQ (sQ (rG 0 [mS 0 11 6,bI 1 12 .lss 11 0] [12,6,2,4])
  (.cond (.s 12) (sQ (rG 0 [o1 0 13 (.build [(I 0),(I 0),(I 0),(I 0)] []),o0 1 (.store 4 (.s 4) (.s 13)),mB 2 5 false] [4,5])
  .ret)
  .skip))
  (sQ (rG 0 [fA 0 14 0 2,lF 1 15 14,mS 2 16 6,iA 3 17 4 15 16,lT 4 18 4 17,o0 5 (.store 4 (.s 4) (.s 18)),mB 6 5 true] [4,5])
  .ret)))) }
abbrev f_roads_greens_1 : Nat := 130
def c_roads_greens_1 : CFn := { frz := true,rnd := none,nargs := 4,ntmps := 23,res := [(.slot 7)],code :=
  (sQ (rG 3 [o1 0 4 (.box 0 2 (.s 0)),o1 1 5 (.box 1 1 (.s 1)),o1 2 6 (.box 2 1 (.s 2)),mB 3 7 false] [3,4,6,5])
  (sQ (rG 0 [fA 0 8 1 4,lF 1 9 8,bI 2 10 .gtr 9 0,mS 3 11 10,oG 4 12 11 true (.faddr 3 (.s 3)),oG 5 13 11 true (.load false 1 (.s 12)),oG 6 14 11 true (.faddr 1 (.s 4)),oG 7 15 11 true (.load false 1 (.s 14)),oG 8 16 11 true (.bin .sub (.s 15) (kI 1)),oG 9 17 11 true (.iaddr 2 (.s 13) (.s 16)),oG 10 18 11 true (.faddr 1 (.s 17)),oG 11 19 11 true (.load false 1 (.s 18)),oG 12 20 11 true (.mkfn 131 [] [(.s 5),(.s 6)]),⟨13,(some 21),(some (11,true)),.call ⟨true⟩ (.k (.c (.fn 118 [] []))) [(.s 19),(.s 20)]⟩,o1 14 22 (.pick (.s 11) (.s 21) (kB false)),mS 15 7 22] [7])
  .ret)) }
abbrev f_roads_greens_1_1 : Nat := 131
def c_roads_greens_1_1 : CFn := { frz := true,rnd := none,nargs := 3,ntmps := 15,res := [(.slot 4)],code :=
  (sQ (rG 1 [o1 0 3 (.box 0 2 (.s 0)),mB 1 4 false] [1,3,2])
  (sQ (rG 0 [fA 0 5 1 3,lF 1 6 5,lF 2 7 1,cA 3 8 77 [(.s 6),(.s 7)],mS 4 9 8,oG 5 10 9 true (.faddr 1 (.s 3)),oG 6 11 9 true (.load false 1 (.s 10)),oG 7 12 9 true (.load false 1 (.s 2)),⟨8,(some 13),(some (9,true)),.call ⟨true⟩ (.k (.c (.fn 77 [] []))) [(.s 11),(.s 12)]⟩,o1 9 14 (.pick (.s 9) (.s 13) (kB false)),mS 10 4 14] [4])
  .ret)) }
def c_slices_Index_int_l1 : CC := (sQ (rG 0 [bS 0 9 .lss 8 7] [9,0,1,7,8])
  (sQ (.cond (.s 9) .skip
  (.exit 0))
  (sQ (.block 1 (sQ (rG 0 [mS 0 10 8,mS 1 5 10] [0,1,7,8,5])
  (sQ (rG 0 [mS 0 11 1,mS 1 12 0,mS 2 13 5,iA 3 14 1 12 13,lF 4 15 14,bS 5 16 .eql 11 15] [16,0,1,7,8,5])
  (.cond (.s 16) (sQ (rG 0 [mS 0 17 5,mS 1 4 17] [4])
  .ret)
  .skip))))
  (rG 0 [bI 0 18 .add 8 1,mS 1 8 18] [7,1,0,8]))))
abbrev f_slices_Index_int : Nat := 132
def c_slices_Index_int : CFn := { frz := true,rnd := none,nargs := 2,ntmps := 19,res := [(.slot 4)],code :=
  (sQ (rG 0 [mI 0 4 0] [1,0])
  (sQ (sQ (rG 0 [mS 0 6 0,lN 1 7 6,mI 2 8 0] [7,1,0,8])
  (.block 0 (.loop (some [7,1,0,8]) c_slices_Index_int_l1)))
  (sQ (rG 0 [mI 0 4 (-1)] [4])
  .ret))) }
abbrev f_slices_SortStableFunc_Pass : Nat := 133
def c_slices_SortStableFunc_Pass : CFn := { frz := true,rnd := none,nargs := 2,ntmps := 9,res := [],code :=
  (rG 0 [mS 0 4 0,mS 1 5 0,lN 2 6 5,mS 3 7 1,⟨4,(some 8),none,.call ⟨false⟩ (.k (.c (.fn 175 [] []))) [(.s 4),(.s 6),(.s 7)]⟩] []) }
abbrev f_roads_Passes_1 : Nat := 134
def c_roads_Passes_1 : CFn := { frz := true,rnd := none,nargs := 2,ntmps := 17,res := [(.slot 4)],code :=
  (sQ (rG 2 [o1 0 2 (.box 0 4 (.s 0)),o1 1 3 (.box 1 4 (.s 1)),mI 2 4 0] [2,3])
  (sQ (.region 1 [fA 0 5 2 2,fA 2 7 2 3,fA 5 10 0 2,fA 7 12 0 3,lF 1 6 5,lF 3 8 7,lF 6 11 10,lF 8 13 12,cA 4 9 136 [(.s 6),(.s 8)],cA 9 14 137 [(.s 11),(.s 13)],o1 10 15 (.lit 0 1 [[(I 0)],[(I 0)]] [(0,(.s 9)),(1,(.s 14))]),cA 11 16 135 [(.s 15)],mS 12 4 16] [(6,8),(7,8)] (some [4]))
  .ret)) }
def c_cmp_Or_int_l1 : CC := (sQ (rG 0 [bS 0 9 .lss 8 7] [9,3,6,7,8])
  (sQ (.cond (.s 9) .skip
  (.exit 0))
  (sQ (.block 1 (sQ (rG 0 [iA 0 10 1 6 8,lF 1 11 10,mS 2 5 11] [3,6,7,8,5])
  (sQ (rG 0 [mS 0 12 5,mS 1 13 3,bS 2 14 .neq 12 13] [14,3,6,7,8,5])
  (.cond (.s 14) (sQ (rG 0 [mS 0 15 5,mS 1 2 15] [2])
  .ret)
  .skip))))
  (rG 0 [bI 0 16 .add 8 1,mS 1 8 16] [7,6,3,8]))))
abbrev f_cmp_Or_int : Nat := 135
def c_cmp_Or_int : CFn := { frz := true,rnd := none,nargs := 1,ntmps := 18,res := [(.slot 2)],code :=
  (sQ (rG 0 [mI 0 2 0] [0])
  (sQ (rG 0 [mI 0 3 0] [0,3])
  (sQ (sQ (rG 0 [mS 0 6 0,lN 1 7 6,mI 2 8 0] [7,6,3,8])
  (.block 0 (.loop (some [7,6,3,8]) c_cmp_Or_int_l1)))
  (sQ (rG 0 [mS 0 17 3,mS 1 2 17] [2])
  .ret)))) }
abbrev f_cmp_Compare_int64 : Nat := 136
def c_cmp_Compare_int64 : CFn := { frz := true,rnd := none,nargs := 2,ntmps := 20,res := [(.slot 4)],code :=
  (sQ (rG 0 [mI 0 4 0] [1,0])
  (sQ (rG 0 [mS 0 7 0,cA 1 8 176 [(.s 7)],mS 2 5 8] [5,1,0])
  (sQ (rG 0 [mS 0 9 1,cA 1 10 176 [(.s 9)],mS 2 6 10] [5,1,0,6])
  (sQ (sQ (rG 0 [mS 0 11 5] [11,1,0,6])
  (.cond (.s 11) (sQ (sQ (rG 0 [mS 0 12 6] [12])
  (.cond (.s 12) (sQ (rG 0 [mI 0 4 0] [4])
  .ret)
  .skip))
  (sQ (rG 0 [mI 0 4 (-1)] [4])
  .ret))
  .skip))
  (sQ (sQ (rG 0 [mS 0 13 6] [13,0,1])
  (.cond (.s 13) (sQ (rG 0 [mI 0 4 1] [4])
  .ret)
  .skip))
  (sQ (sQ (rG 0 [mS 0 14 0,mS 1 15 1,bS 2 16 .lss 14 15] [16,1,0])
  (.cond (.s 16) (sQ (rG 0 [mI 0 4 (-1)] [4])
  .ret)
  .skip))
  (sQ (sQ (rG 0 [mS 0 17 0,mS 1 18 1,bS 2 19 .gtr 17 18] [19])
  (.cond (.s 19) (sQ (rG 0 [mI 0 4 1] [4])
  .ret)
  .skip))
  (sQ (rG 0 [mI 0 4 0] [4])
  .ret)))))))) }
abbrev f_cmp_Compare_int : Nat := 137
def c_cmp_Compare_int : CFn := { frz := true,rnd := none,nargs := 2,ntmps := 20,res := [(.slot 4)],code :=
  (sQ (rG 0 [mI 0 4 0] [1,0])
  (sQ (rG 0 [mS 0 7 0,cA 1 8 177 [(.s 7)],mS 2 5 8] [5,1,0])
  (sQ (rG 0 [mS 0 9 1,cA 1 10 177 [(.s 9)],mS 2 6 10] [5,1,0,6])
  (sQ (sQ (rG 0 [mS 0 11 5] [11,1,0,6])
  (.cond (.s 11) (sQ (sQ (rG 0 [mS 0 12 6] [12])
  (.cond (.s 12) (sQ (rG 0 [mI 0 4 0] [4])
  .ret)
  .skip))
  (sQ (rG 0 [mI 0 4 (-1)] [4])
  .ret))
  .skip))
  (sQ (sQ (rG 0 [mS 0 13 6] [13,0,1])
  (.cond (.s 13) (sQ (rG 0 [mI 0 4 1] [4])
  .ret)
  .skip))
  (sQ (sQ (rG 0 [mS 0 14 0,mS 1 15 1,bS 2 16 .lss 14 15] [16,1,0])
  (.cond (.s 16) (sQ (rG 0 [mI 0 4 (-1)] [4])
  .ret)
  .skip))
  (sQ (sQ (rG 0 [mS 0 17 0,mS 1 18 1,bS 2 19 .gtr 17 18] [19])
  (.cond (.s 19) (sQ (rG 0 [mI 0 4 1] [4])
  .ret)
  .skip))
  (sQ (rG 0 [mI 0 4 0] [4])
  .ret)))))))) }
def c_track_Check_l1 : CC := (sQ (rG 0 [bS 0 64 .lss 63 62] [64,2,7,61,62,63])
  (sQ (.cond (.s 64) .skip
  (.exit 0))
  (sQ (.block 1 (sQ (rG 1 [iA 0 65 6 61 63,lT 1 66 6 65,o1 2 9 (.box 0 6 (.k (.a [(I 0),(I 0),(I 0),(I 0),(I 0),(I 0)]))),o0 3 (.store 6 (.s 9) (.s 66))] [2,7,61,62,63,9])
  (sQ (sQ (rG 0 [fA 0 67 0 9,lF 1 68 67,bI 2 69 .lss 68 0,mS 3 70 69,oG 4 71 70 false (.faddr 0 (.s 9)),oG 5 72 70 false (.load false 1 (.s 71)),oG 6 73 70 false (.faddr 1 (.s 2)),oG 7 74 70 false (.load false 1 (.s 73)),oG 8 75 70 false (.len (.s 74)),oG 9 76 70 false (.bin .geq (.s 72) (.s 75)),o1 10 77 (.pick (.s 70) (kB true) (.s 76))] [77,2,7,61,62,63,9])
  (.cond (.s 77) (sQ (rG 0 [mI 0 4 7] [4])
  .ret)
  .skip))
  (sQ (rG 0 [lT 0 78 5 2,fA 1 79 0 9,lF 2 80 79,cA 3 81 61 [(.s 78),(.s 80)],mS 4 10 81] [10,9,63,62,61,7,2])
  (sQ (rG 0 [fA 0 83 1 2,lF 1 84 83,fA 2 85 0 9,lF 3 86 85,iA 4 87 5 84 86,fA 5 88 0 87,lF 6 89 88,cA 7 90 65 [(.s 89)],mS 8 82 90,eX 9 91 82 0,eX 10 92 82 1,eX 11 93 82 2,mS 12 11 91,mS 13 12 92,mS 14 13 93] [11,10,9,63,62,61,7,2])
  (sQ (sQ (rG 0 [fA 0 94 1 9,lF 1 95 94,bI 2 96 .lss 95 0,mS 3 97 96,oG 4 98 97 false (.faddr 1 (.s 9)),oG 5 99 97 false (.load false 1 (.s 98)),oG 6 100 97 false (.faddr 2 (.s 9)),oG 7 101 97 false (.load false 1 (.s 100)),oG 8 102 97 false (.bin .gtr (.s 99) (.s 101)),o1 9 103 (.pick (.s 97) (kB true) (.s 102)),mS 10 104 103,oG 11 105 104 false (.faddr 2 (.s 9)),oG 12 106 104 false (.load false 1 (.s 105)),oG 13 107 104 false (.mv (.s 10)),oG 14 108 104 false (.bin .gtr (.s 106) (.s 107)),o1 15 109 (.pick (.s 104) (kB true) (.s 108)),mS 16 110 109,oG 17 111 110 false (.faddr 3 (.s 9)),oG 18 112 110 false (.load false 1 (.s 111)),oG 19 113 110 false (.bin .lss (.s 112) (kI 0)),o1 20 114 (.pick (.s 110) (kB true) (.s 113)),mS 21 115 114,oG 22 116 115 false (.faddr 3 (.s 9)),oG 23 117 115 false (.load false 1 (.s 116)),oG 24 118 115 false (.faddr 4 (.s 9)),oG 25 119 115 false (.load false 1 (.s 118)),oG 26 120 115 false (.bin .gtr (.s 117) (.s 119)),o1 27 121 (.pick (.s 115) (kB true) (.s 120)),mS 28 122 121,oG 29 123 122 false (.faddr 4 (.s 9)),oG 30 124 122 false (.load false 1 (.s 123)),oG 31 125 122 false (.mv (.s 11)),oG 32 126 122 false (.bin .gtr (.s 124) (.s 125)),o1 33 127 (.pick (.s 122) (kB true) (.s 126)),mS 34 128 127,oG 35 129 128 false (.faddr 5 (.s 9)),oG 36 130 128 false (.load false 1 (.s 129)),oG 37 131 128 false (.mv (.s 10)),⟨38,(some 132),(some (128,false)),.call ⟨true⟩ (.k (.c (.fn 178 [] []))) [(.s 130),(kI 0),(.s 131)]⟩,oG 39 133 128 false (.un .not (.s 132)),o1 40 134 (.pick (.s 128) (kB true) (.s 133))] [134,9,63,62,61,7,2])
  (.cond (.s 134) (sQ (rG 0 [mI 0 4 2] [4])
  .ret)
  .skip))
  (sQ (sQ (rG 0 [fA 0 135 0 9,lF 1 136 135,fA 2 137 0 7,lF 3 138 137,bS 4 139 .lss 136 138,mS 5 140 139,oG 6 141 140 false (.faddr 0 (.s 9)),oG 7 142 140 false (.load false 1 (.s 141)),oG 8 143 140 false (.faddr 0 (.s 7)),oG 9 144 140 false (.load false 1 (.s 143)),oG 10 145 140 false (.bin .eql (.s 142) (.s 144)),oG 11 146 140 false (.mv (.s 145)),oG 12 147 146 true (.faddr 1 (.s 9)),oG 13 148 146 true (.load false 1 (.s 147)),oG 14 149 146 true (.faddr 2 (.s 7)),oG 15 150 146 true (.load false 1 (.s 149)),oG 16 151 146 true (.bin .add (.s 150) (kI 1)),oG 17 152 146 true (.bin .leq (.s 148) (.s 151)),oG 18 153 140 false (.pick (.s 146) (.s 152) (kB false)),o1 19 154 (.pick (.s 140) (kB true) (.s 153))] [154,2,7,61,62,63,9])
  (.cond (.s 154) (sQ (rG 0 [mI 0 4 11] [4])
  .ret)
  .skip))
  (rG 0 [lT 0 155 6 9,o0 1 (.store 6 (.s 7) (.s 155))] [63,62,61,7,2]))))))))
  (rG 0 [bI 0 156 .add 63 1,mS 1 63 156] [62,61,7,2,63]))))
abbrev f_track_Check : Nat := 138
def c_track_Check : CFn := { frz := true,rnd := none,nargs := 2,ntmps := 157,res := [(.slot 4)],code :=
  (sQ (rG 2 [o1 0 2 (.box 0 5 (.s 0)),o1 1 3 (.box 1 6 (.s 1)),mI 2 4 0] [3,2])
  (sQ (sQ (rG 0 [lT 0 14 5 2,cA 1 15 38 [(.s 14)],mS 2 5 15] [3,2,5])
  (sQ (rG 0 [mS 0 16 5,bI 1 17 .neq 16 0] [17,3,2,5])
  (.cond (.s 17) (sQ (rG 0 [mS 0 18 5,mS 1 4 18] [4])
  .ret)
  .skip)))
  (sQ (rG 1 [fA 0 19 2 3,lT 1 20 4 19,o1 2 6 (.box 0 4 (.k (.a [(I 0),(I 0),(I 0),(I 0)]))),o0 3 (.store 4 (.s 6) (.s 20))] [6,2,3])
  (sQ (sQ (rG 0 [fA 0 21 0 3,lF 1 22 21,cA 2 23 178 [(.s 22),(kI 0),(kI 1099511627776)],o1 3 24 (.un .not (.s 23)),mS 4 25 24,oG 5 26 25 false (.faddr 0 (.s 6)),oG 6 27 25 false (.load false 1 (.s 26)),oG 7 28 25 false (.bin .lss (.s 27) (kI 0)),o1 8 29 (.pick (.s 25) (kB true) (.s 28)),mS 9 30 29,oG 10 31 30 false (.faddr 0 (.s 6)),oG 11 32 30 false (.load false 1 (.s 31)),oG 12 33 30 false (.faddr 1 (.s 6)),oG 13 34 30 false (.load false 1 (.s 33)),oG 14 35 30 false (.bin .gtr (.s 32) (.s 34)),o1 15 36 (.pick (.s 30) (kB true) (.s 35)),mS 16 37 36,oG 17 38 37 false (.faddr 1 (.s 6)),oG 18 39 37 false (.load false 1 (.s 38)),oG 19 40 37 false (.bin .gtr (.s 39) (kI 1099511627776)),o1 20 41 (.pick (.s 37) (kB true) (.s 40)),mS 21 42 41,oG 22 43 42 false (.faddr 2 (.s 6)),oG 23 44 42 false (.load false 1 (.s 43)),oG 24 45 42 false (.bin .lss (.s 44) (kI 0)),o1 25 46 (.pick (.s 42) (kB true) (.s 45)),mS 26 47 46,oG 27 48 47 false (.faddr 2 (.s 6)),oG 28 49 47 false (.load false 1 (.s 48)),oG 29 50 47 false (.faddr 3 (.s 6)),oG 30 51 47 false (.load false 1 (.s 50)),oG 31 52 47 false (.bin .gtr (.s 49) (.s 51)),o1 32 53 (.pick (.s 47) (kB true) (.s 52)),mS 33 54 53,oG 34 55 54 false (.faddr 3 (.s 6)),oG 35 56 54 false (.load false 1 (.s 55)),oG 36 57 54 false (.bin .gtr (.s 56) (kI 2000)),o1 37 58 (.pick (.s 54) (kB true) (.s 57))] [58,2,3])
  (.cond (.s 58) (sQ (rG 0 [mI 0 4 2] [4])
  .ret)
  .skip))
  (sQ (rG 1 [o1 0 59 (.build [(I 0),(I 0),(I 0),(I 0),(I 0),(I 0)] [(0,1,(kI (-1)))]),o1 1 7 (.box 0 6 (.k (.a [(I 0),(I 0),(I 0),(I 0),(I 0),(I 0)]))),o0 2 (.store 6 (.s 7) (.s 59))] [3,7,2])
  (sQ (sQ (rG 0 [fA 0 60 1 3,lF 1 61 60,lN 2 62 61,mI 3 63 0] [62,61,7,2,63])
  (.block 0 (.loop (some [62,61,7,2,63]) c_track_Check_l1)))
  (sQ (rG 0 [mI 0 4 0] [4])
  .ret))))))) }
abbrev f_slices_ContainsFunc_int64 : Nat := 139
def c_slices_ContainsFunc_int64 : CFn := { frz := true,rnd := none,nargs := 2,ntmps := 9,res := [(.slot 4)],code :=
  (sQ (rG 0 [mB 0 4 false] [0,1])
  (sQ (rG 0 [mS 0 5 0,mS 1 6 1,cA 2 7 179 [(.s 5),(.s 6)],bI 3 8 .geq 7 0,mS 4 4 8] [4])
  .ret)) }
abbrev f_plan_Check_1 : Nat := 140
def c_plan_Check_1 : CFn := { frz := true,rnd := none,nargs := 2,ntmps := 12,res := [(.slot 3)],code :=
  (sQ (rG 0 [mB 0 3 false] [0,1])
  (sQ (rG 0 [mS 0 4 0,fA 1 5 2 1,lF 2 6 5,o1 3 7 (.un .neg (.s 6)),fA 4 8 1 1,lF 5 9 8,cA 6 10 53 [(.s 4),(.s 7),(.s 9)],o1 7 11 (.un .not (.s 10)),mS 8 3 11] [3])
  .ret)) }
abbrev f_plan_judge_verify : Nat := 141
def c_plan_judge_verify : CFn := { frz := true,rnd := none,nargs := 4,ntmps := 70,res := [(.cell 8 true 3)],code :=
  (sQ (rG 4 [o1 0 4 (.box 0 1 (.s 0)),o1 1 5 (.box 1 6 (.s 1)),o1 2 6 (.box 2 1 (.s 2)),o1 3 8 (.box 3 3 (.k (.a [(.bool false),(I 0),(I 0)])))] [5,6,3,4,8])
  (sQ (rG 1 [o1 0 9 (.box 0 1 (.k (.a [(I 0)]))),o0 1 (.store 1 (.s 9) (kI 0))] [5,6,3,4,9,8])
  (sQ (rG 0 [lF 0 15 4,lT 1 16 6 5,nC 2 17 15,fA 3 18 13 17,o0 4 (.store 6 (.s 18) (.s 16))] [5,6,3,4,9,8])
  (sQ (sQ (rG 0 [lF 0 19 4,lT 1 20 6 5,lT 2 21 1 6,mS 3 22 3,cA 4 23 180 [(.s 19),(.s 20),(.s 21),(.s 22)]] [23,4,9,8])
  (.block 0 (.rng (.s 23) 2588 [4,9,8])))
  (sQ (sQ (rG 0 [lF 0 64 4,cA 1 65 186 [(.s 64)],o1 2 66 (.un .not (.s 65))] [66,9,8])
  (.cond (.s 66) (sQ (rG 0 [lF 0 67 9,o1 1 68 (.build [(.bool false),(I 0),(I 0)] [(1,1,(.s 67)),(2,1,(kI 7))]),o0 2 (.store 3 (.s 8) (.s 68))] [8])
  .ret)
  .skip))
  (sQ (rG 0 [o1 0 69 (.build [(.bool false),(I 0),(I 0)] [(0,1,(kB true))]),o0 1 (.store 3 (.s 8) (.s 69))] [8])
  .ret)))))) }
def c_plan_judge_verify_r1_l1 : CC := (sQ (rG 0 [bS 0 49 .lss 48 47] [49,46,4,10,47,48,9,8])
  (sQ (.cond (.s 49) .skip
  (.exit 2))
  (sQ (.block 3 (sQ (rG 0 [iA 0 50 1 46 48,lF 1 51 50,mS 2 13 51] [13,46,4,10,47,48,9,8])
  (sQ (rG 0 [mS 0 52 13,⟨1,(some 53),none,.call ⟨true⟩ (.s 52) []⟩,mS 2 14 53] [46,4,10,47,48,9,14,8])
  (sQ (rG 0 [mS 0 54 14,bI 1 55 .neq 54 0] [55,46,4,10,47,48,9,14,8])
  (.cond (.s 55) (sQ (rG 0 [lF 0 56 9,mS 1 57 14,o1 2 58 (.build [(.bool false),(I 0),(I 0)] [(1,1,(.s 56)),(2,1,(.s 57))]),o0 3 (.store 3 (.s 8) (.s 58))] [])
  .ret)
  .skip)))))
  (rG 0 [bI 0 59 .add 48 1,mS 1 48 59] [47,10,4,46,48,9,8]))))
abbrev f_plan_judge_verify_r1 : Nat := 2588
def c_plan_judge_verify_r1 : CFn := { frz := false,rnd := (some ([24,25],(sQ (rG 1 [o1 0 10 (.box 0 6 (.k (.a [(I 0),.nilslice,(I 0),(I 0),(I 0),(I 0)]))),o0 1 (.store 6 (.s 10) (.s 24))] [25,10,4,9,8])
  (rG 0 [mS 0 11 25] [11,10,4,9,8])))),nargs := 3,ntmps := 70,res := [],code :=
  (.block 1 (sQ (rG 0 [lF 0 26 9,bI 1 27 .add 26 1,o0 2 (.store 1 (.s 9) (.s 27))] [11,10,4,9,8])
  (sQ (.region 0 [mS 3 31 11,lF 0 28 4,lF 1 29 4,lT 2 30 6 10,nC 4 32 28,fA 5 33 19 32,o0 6 (.store 6 (.s 33) (.s 30)),nC 7 34 29,fA 8 35 25 34,o0 9 (.store 1 (.s 35) (.s 31))] [(2,6)] (some [10,4,9,8]))
  (sQ (sQ (rG 1 [lF 0 36 4,o1 1 37 (.mkfn 181 [(.s 36)] []),lF 2 38 4,o1 3 39 (.mkfn 182 [(.s 38)] []),lF 4 40 4,o1 5 41 (.mkfn 183 [(.s 40)] []),lF 6 42 4,o1 7 43 (.mkfn 184 [(.s 42)] []),lF 8 44 4,o1 9 45 (.mkfn 185 [(.s 44)] []),o1 10 46 (.mlay .litf 0 [(.s 37),(.s 39),(.s 41),(.s 43),(.s 45)]),lN 11 47 46,mI 12 48 0] [47,10,4,46,48,9,8])
  (.block 2 (.loop (some [47,10,4,46,48,9,8]) c_plan_judge_verify_r1_l1)))
  (rG 0 [lF 0 60 4,lT 1 61 6 10,nC 2 62 60,fA 3 63 13 62,o0 4 (.store 6 (.s 63) (.s 61))] []))))) }
def c_plan_steps_l1 : CC := (sQ (rG 0 [bS 0 14 .lss 13 12] [14,13,12,11,4,0])
  (sQ (.cond (.s 14) .skip
  (.exit 0))
  (sQ (.block 1 (sQ (rG 0 [iA 0 15 1 11 13,lF 1 16 15,mS 2 8 16] [8,13,12,11,4,0])
  (sQ (.region 1 [mS 0 17 0,nC 1 18 17,fA 2 19 0 18,fA 4 21 2 4,mS 6 23 8,lT 3 20 11 19,lT 5 22 4 21,cA 7 24 187 [(.s 20),(.s 22),(.s 23)],o1 8 9 (.box 0 4 (.k (.a [(I 0),(I 0),(I 0),(I 0)]))),o0 9 (.store 4 (.s 9) (.s 24))] [(5,8),(6,8),(7,8)] (some [9,13,12,11,4,0]))
  (sQ (sQ (rG 0 [fA 0 25 0 4,lF 1 26 25,bI 2 27 .geq 26 1099511627776,mS 3 28 27,oG 4 29 28 false (.faddr 1 (.s 9)),oG 5 30 28 false (.load false 1 (.s 29)),oG 6 31 28 false (.bin .gtr (.s 30) (kI 1099511627776)),o1 7 32 (.pick (.s 28) (kB true) (.s 31))] [32,9,13,12,11,4,0])
  (.cond (.s 32) (sQ (rG 0 [mB 0 6 false] [6])
  .ret)
  .skip))
  (sQ (sQ (rG 0 [fA 0 33 1 9,mS 2 35 0,nC 3 36 35,fA 4 37 0 36,fA 5 38 7 37,lF 1 34 33,lF 6 39 38,bS 7 40 .gtr 34 39] [40,0,4,11,12,13,9])
  (.cond (.s 40) (.exit 0)
  .skip))
  (.region 0 [fA 0 41 0 4,lF 1 42 41,bI 2 43 .add 42 1,fA 4 45 0 4,lT 3 44 4 9,o0 5 (.store 1 (.s 45) (.s 43)),fA 6 46 2 4,o0 7 (.store 4 (.s 46) (.s 44))] [(4,5)] (some [13,12,11,4,0])))))))
  (rG 0 [bI 0 47 .add 13 1,mS 1 13 47] [13,12,11,4,0]))))
abbrev f_plan_steps : Nat := 142
def c_plan_steps : CFn := { frz := true,rnd := none,nargs := 3,ntmps := 48,res := [(.slot 6)],code :=
  (sQ (rG 2 [o1 0 4 (.box 0 6 (.s 1)),o1 1 5 (.box 1 1 (.s 2)),mB 2 6 false] [5,4,0])
  (sQ (sQ (rG 0 [fA 0 10 0 5,lF 1 11 10,lN 2 12 11,mI 3 13 0] [13,12,11,4,0])
  (.block 0 (.loop (some [13,12,11,4,0]) c_plan_steps_l1)))
  (sQ (rG 0 [mB 0 6 true] [6])
  .ret))) }
abbrev f_track_Speed : Nat := 143
def c_track_Speed : CFn := { frz := true,rnd := none,nargs := 2,ntmps := 41,res := [(.cell 4 true 6),(.slot 5)],code :=
  (sQ (rG 3 [o1 0 2 (.box 0 6 (.s 0)),o1 1 3 (.box 1 3 (.s 1)),o1 2 4 (.box 2 6 (.k (.a [(I 0),.nilslice,(I 0),(I 0),(I 0),(I 0)]))),mB 3 5 false] [2,3,4])
  (sQ (rG 1 [lT 0 7 6 2,cA 1 8 48 [(.s 7)],o1 2 6 (.box 0 6 (.k (.a [(I 0),.nilslice,(I 0),(I 0),(I 0),(I 0)]))),o0 3 (.store 6 (.s 6) (.s 8))] [2,3,6,4])
  (sQ (sQ (rG 0 [fA 0 9 0 3,lF 1 10 9,fA 2 11 0 2,lF 3 12 11,bS 4 13 .neq 10 12] [13,2,3,6,4])
  (.cond (.s 13) (sQ (rG 0 [lT 0 14 6 6,o0 1 (.store 6 (.s 4) (.s 14)),mB 2 5 true] [4,5])
  .ret)
  .skip))
  (sQ (.region 0 [fA 0 15 2 2,fA 1 16 2 15,fA 3 18 1 3,fA 6 21 2 2,fA 7 22 3 21,fA 9 24 2 3,lF 2 17 16,lF 4 19 18,lF 8 23 22,lF 10 25 24,o1 5 20 (.minmax true [(.s 17),(.s 19)]),fA 12 27 2 6,fA 13 28 2 27,o1 11 26 (.minmax false [(.s 23),(.s 25)]),o0 14 (.store 1 (.s 28) (.s 20)),fA 15 29 2 6,fA 16 30 3 29,o0 17 (.store 1 (.s 30) (.s 26))] [(8,14),(9,14)] (some [6,2,4]))
  (sQ (sQ (rG 0 [fA 0 31 2 6,fA 1 32 2 31,lF 2 33 32,fA 3 34 2 6,fA 4 35 3 34,lF 5 36 35,bS 6 37 .gtr 33 36] [37,6,2,4])
  (.cond (.s 37) (sQ (rG 0 [lT 0 38 6 2,cA 1 39 48 [(.s 38)],o0 2 (.store 6 (.s 4) (.s 39)),mB 3 5 false] [4,5])
  .ret)
  .skip))
  (sQ (rG 0 [lT 0 40 6 6,o0 1 (.store 6 (.s 4) (.s 40)),mB 2 5 true] [4,5])
  .ret)))))) }
abbrev f_track_Fix : Nat := 144
def c_track_Fix : CFn := { frz := true,rnd := none,nargs := 2,ntmps := 41,res := [(.cell 4 true 6),(.slot 5)],code :=
  (sQ (rG 3 [o1 0 2 (.box 0 6 (.s 0)),o1 1 3 (.box 1 3 (.s 1)),o1 2 4 (.box 2 6 (.k (.a [(I 0),.nilslice,(I 0),(I 0),(I 0),(I 0)]))),mB 3 5 false] [2,3,4])
  (sQ (rG 1 [lT 0 7 6 2,cA 1 8 48 [(.s 7)],o1 2 6 (.box 0 6 (.k (.a [(I 0),.nilslice,(I 0),(I 0),(I 0),(I 0)]))),o0 3 (.store 6 (.s 6) (.s 8))] [2,3,6,4])
  (sQ (sQ (rG 0 [fA 0 9 0 3,lF 1 10 9,fA 2 11 0 2,lF 3 12 11,bS 4 13 .neq 10 12] [13,2,3,6,4])
  (.cond (.s 13) (sQ (rG 0 [lT 0 14 6 6,o0 1 (.store 6 (.s 4) (.s 14)),mB 2 5 true] [4,5])
  .ret)
  .skip))
  (sQ (.region 0 [fA 0 15 2 2,fA 1 16 0 15,fA 3 18 1 3,fA 6 21 2 2,fA 7 22 1 21,fA 9 24 2 3,lF 2 17 16,lF 4 19 18,lF 8 23 22,lF 10 25 24,o1 5 20 (.minmax true [(.s 17),(.s 19)]),fA 12 27 2 6,fA 13 28 0 27,o1 11 26 (.minmax false [(.s 23),(.s 25)]),o0 14 (.store 1 (.s 28) (.s 20)),fA 15 29 2 6,fA 16 30 1 29,o0 17 (.store 1 (.s 30) (.s 26))] [(8,14),(9,14)] (some [6,2,4]))
  (sQ (sQ (rG 0 [fA 0 31 2 6,fA 1 32 0 31,lF 2 33 32,fA 3 34 2 6,fA 4 35 1 34,lF 5 36 35,bS 6 37 .gtr 33 36] [37,6,2,4])
  (.cond (.s 37) (sQ (rG 0 [lT 0 38 6 2,cA 1 39 48 [(.s 38)],o0 2 (.store 6 (.s 4) (.s 39)),mB 3 5 false] [4,5])
  .ret)
  .skip))
  (sQ (rG 0 [lT 0 40 6 6,o0 1 (.store 6 (.s 4) (.s 40)),mB 2 5 true] [4,5])
  .ret)))))) }
def c_track_Update_l1 : CC := (sQ (rG 0 [bS 0 44 .lss 43 42] [44,43,42,7,8,6,41,4])
  (sQ (.cond (.s 44) .skip
  (.exit 0))
  (sQ (.block 1 (sQ (rG 1 [iA 0 45 3 41 43,lT 1 46 3 45,o1 2 10 (.box 0 3 (.k (.a [(I 0),(I 0),(I 0)]))),o0 3 (.store 3 (.s 10) (.s 46))] [10,43,42,7,8,6,41,4])
  (rG 0 [fA 0 47 1 4,lF 1 48 47,lT 2 49 3 10,cA 3 50 114 [(.s 48),(.s 49)],fA 4 51 1 4,o0 5 (.store 1 (.s 51) (.s 50))] [43,42,7,8,6,41,4])))
  (rG 0 [bI 0 52 .add 43 1,mS 1 43 52] [43,42,7,8,6,41,4]))))
def c_track_Update_l2 : CC := (sQ (rG 0 [bS 0 57 .lss 56 55] [57,11,56,55,6,4,54,8,7])
  (sQ (.cond (.s 57) .skip
  (.exit 2))
  (sQ (.block 3 (sQ (rG 1 [iA 0 58 6 54 56,lT 1 59 6 58,o1 2 13 (.box 0 6 (.k (.a [(I 0),(I 0),(I 0),(I 0),(I 0),(I 0)]))),o0 3 (.store 6 (.s 13) (.s 59))] [11,13,56,55,6,4,54,8,7])
  (sQ (rG 0 [mB 0 14 true] [14,11,13,56,55,6,4,54,8,7])
  (sQ (sQ (rG 0 [mS 0 60 8,o1 1 61 (.mkfn 192 [] [(.s 13)]),cA 2 62 191 [(.s 60),(.s 61)]] [62,14,11,13,56,55,6,4,54,8,7])
  (.cond (.s 62) (rG 0 [lT 0 64 6 13,mS 1 65 7,cA 2 66 193 [(.s 64),(.s 65)],mS 3 63 66,eX 4 67 63 0,eX 5 68 63 1,o0 6 (.store 6 (.s 13) (.s 67)),mS 7 14 68] [14,11,13,56,55,6,4,54,8,7])
  .skip))
  (sQ (rG 0 [mS 0 69 14] [69,11,13,56,55,6,4,54,8,7])
  (.cond (.s 69) (rG 1 [mS 0 70 11,lT 1 71 6 13,o1 2 72 (.lit 0 6 [[(I 0),(I 0),(I 0),(I 0),(I 0),(I 0)]] [(0,(.s 71))]),o1 3 73 (.append 6 48 (.s 70) (.s 72)),mS 4 11 73] [56,11,55,6,4,54,8,7])
  .skip))))))
  (rG 0 [bI 0 74 .add 56 1,mS 1 56 74] [11,56,55,6,4,54,8,7]))))
abbrev f_track_Update : Nat := 145
def c_track_Update : CFn := { frz := true,rnd := none,nargs := 3,ntmps := 78,res := [(.cell 6 true 6)],code :=
  (sQ (rG 4 [o1 0 3 (.box 0 5 (.s 0)),o1 1 4 (.box 1 6 (.s 1)),o1 2 5 (.box 2 3 (.s 2)),o1 3 6 (.box 3 6 (.k (.a [(I 0),.nilslice,(I 0),(I 0),(I 0),(I 0)])))] [5,3,4,6])
  (sQ (rG 0 [lT 0 15 6 4,cA 1 16 48 [(.s 15)],o0 2 (.store 6 (.s 4) (.s 16))] [5,3,4,6])
  (sQ (sQ (rG 0 [lT 0 17 5 3,lT 1 18 6 4,cA 2 19 138 [(.s 17),(.s 18)],bI 3 20 .neq 19 0,mS 4 21 20,oG 5 22 21 false (.faddr 0 (.s 5)),oG 6 23 21 false (.load false 1 (.s 22)),oG 7 24 21 false (.faddr 0 (.s 4)),oG 8 25 21 false (.load false 1 (.s 24)),oG 9 26 21 false (.bin .neq (.s 23) (.s 25)),o1 10 27 (.pick (.s 21) (kB true) (.s 26))] [27,5,3,4,6])
  (.cond (.s 27) (sQ (rG 0 [lT 0 28 6 4,o0 1 (.store 6 (.s 6) (.s 28))] [6])
  .ret)
  .skip))
  (sQ (.region 0 [fA 1 30 2 5,fA 5 34 1 5,lT 0 29 5 3,lF 2 31 30,lT 4 33 5 3,lF 6 35 34,cA 3 32 188 [(.s 29),(.s 31)],cA 7 36 189 [(.s 33),(.s 35)],mS 8 7 32,mS 9 8 36] [(4,6),(5,6)] (some [3,5,7,8,6,4]))
  (sQ (sQ (rG 0 [lT 0 37 5 3,fA 1 38 1 5,lF 2 39 38,mS 3 40 7,cA 4 41 190 [(.s 37),(.s 39),(.s 40)],lN 5 42 41,mI 6 43 0] [43,42,7,8,6,41,4])
  (.block 0 (.loop (some [43,42,7,8,6,41,4]) c_track_Update_l1)))
  (sQ (rG 1 [o1 0 11 (.newsl 0 6)] [11,6,4,8,7])
  (sQ (sQ (rG 0 [fA 0 53 1 4,lF 1 54 53,lN 2 55 54,mI 3 56 0] [11,56,55,6,4,54,8,7])
  (.block 2 (.loop (some [11,56,55,6,4,54,8,7]) c_track_Update_l2)))
  (sQ (rG 0 [mS 0 75 11,fA 1 76 1 4,o0 2 (.store 1 (.s 76) (.s 75))] [4,6])
  (sQ (rG 0 [lT 0 77 6 4,o0 1 (.store 6 (.s 6) (.s 77))] [6])
  .ret))))))))) }
def c_track_Explained_l1 : CC := (sQ (rG 0 [bS 0 17 .lss 16 15] [17,4,3,14,15,16])
  (sQ (.cond (.s 17) .skip
  (.exit 0))
  (sQ (.block 1 (sQ (rG 1 [iA 0 18 3 14 16,lT 1 19 3 18,o1 2 8 (.box 0 3 (.k (.a [(I 0),(I 0),(I 0)]))),o0 3 (.store 3 (.s 8) (.s 19))] [8,4,3,14,15,16])
  (sQ (rG 0 [o1 0 20 (.mkfn 195 [] [(.s 3),(.s 8)]),mS 1 9 20] [9,4,3,14,15,16])
  (sQ (rG 0 [fA 0 21 1 4,lF 1 22 21,mS 2 23 9,cA 3 24 199 [(.s 22),(.s 23)],o1 4 25 (.un .not (.s 24))] [25,4,3,14,15,16])
  (.cond (.s 25) (sQ (rG 0 [mB 0 6 false] [6])
  .ret)
  .skip)))))
  (rG 0 [bI 0 26 .add 16 1,mS 1 16 26] [15,14,3,4,16]))))
abbrev f_track_Explained : Nat := 146
def c_track_Explained : CFn := { frz := true,rnd := none,nargs := 3,ntmps := 27,res := [(.slot 6)],code :=
  (sQ (rG 2 [o1 0 3 (.box 0 5 (.s 0)),o1 1 4 (.box 1 6 (.s 1)),mB 2 6 false] [4,3,2])
  (sQ (sQ (rG 0 [lT 0 10 5 3,cA 1 11 38 [(.s 10)],bI 2 12 .neq 11 0] [12,4,3,2])
  (.cond (.s 12) (sQ (rG 0 [mB 0 6 false] [6])
  .ret)
  .skip))
  (sQ (sQ (rG 0 [mS 0 13 2,cA 1 14 194 [(.s 13)],lN 2 15 14,mI 3 16 0] [15,14,3,4,16])
  (.block 0 (.loop (some [15,14,3,4,16]) c_track_Explained_l1)))
  (sQ (rG 0 [mB 0 6 true] [6])
  .ret)))) }
def c_motion_Course_Step_l1 : CC := (sQ (rG 0 [bS 0 105 .lss 104 103] [105,12,104,103,50,49,10,8,48,3,11,4,5,13,19,16,15,102])
  (sQ (.cond (.s 105) .skip
  (.exit 2))
  (sQ (.block 3 (sQ (rG 1 [iA 0 106 7 102 104,lT 1 107 7 106,o1 2 21 (.box 0 7 (.k (.a [(I 0),(I 0),(I 0),(I 0),(I 0),(I 0),(.bool false)]))),o0 3 (.store 7 (.s 21) (.s 107))] [12,21,104,103,50,49,10,8,48,3,11,4,5,13,19,16,15,102])
  (rG 1 [mS 0 108 12,fA 1 109 0 21,lT 2 110 6 109,o1 3 111 (.lit 0 6 [[(I 0),(I 0),(I 0),(I 0),(I 0),(I 0)]] [(0,(.s 110))]),o1 4 112 (.append 6 48 (.s 108) (.s 111)),mS 5 12 112] [104,12,103,50,49,10,8,48,3,11,4,5,13,19,16,15,102])))
  (rG 0 [bI 0 113 .add 104 1,mS 1 104 113] [12,104,103,50,49,10,8,48,3,11,4,5,13,19,16,15,102]))))
def c_motion_Course_Step_l2 : CC := (sQ (rG 0 [bS 0 124 .lss 123 122] [124,13,123,122,5,4,12,11,3,48,8,10,49,50,121])
  (sQ (.cond (.s 124) .skip
  (.exit 4))
  (sQ (.block 5 (sQ (rG 1 [iA 0 125 7 121 123,lT 1 126 7 125,o1 2 23 (.box 0 7 (.k (.a [(I 0),(I 0),(I 0),(I 0),(I 0),(I 0),(.bool false)]))),o0 3 (.store 7 (.s 23) (.s 126))] [13,23,123,122,5,4,12,11,3,48,8,10,49,50,121])
  (rG 1 [mS 0 127 13,fA 1 128 0 23,fA 2 129 0 128,lF 3 130 129,fA 4 131 0 23,fA 5 132 1 131,lF 6 133 132,fA 7 134 0 23,fA 8 135 2 134,lF 9 136 135,fA 10 137 6 23,lF 11 138 137,o1 12 139 (.build [(I 0),(I 0),(I 0),(.bool false)] [(0,1,(.s 130)),(1,1,(.s 133)),(2,1,(.s 136)),(3,1,(.s 138))]),o1 13 140 (.lit 0 4 [[(I 0),(I 0),(I 0),(.bool false)]] [(0,(.s 139))]),o1 14 141 (.append 4 32 (.s 127) (.s 140)),mS 15 13 141] [123,13,122,5,4,12,11,3,48,8,10,49,50,121])))
  (rG 0 [bI 0 142 .add 123 1,mS 1 123 142] [13,123,122,5,4,12,11,3,48,8,10,49,50,121]))))
def c_motion_Course_Step_l3 : CC := (sQ (rG 0 [bS 0 51 .lss 50 49] [51,50,49,10,8,48,3,11,13,12,4,5])
  (sQ (.cond (.s 51) .skip
  (.exit 0))
  (sQ (.block 1 (sQ (rG 1 [iA 0 52 6 48 50,lT 1 53 6 52,o1 2 15 (.box 0 6 (.k (.a [(I 0),(I 0),(I 0),(I 0),(I 0),(I 0)]))),o0 3 (.store 6 (.s 15) (.s 53))] [15,50,49,10,8,48,3,11,13,12,4,5])
  (sQ (rG 1 [lT 0 55 11 4,lT 1 56 6 15,fA 2 57 0 5,lF 3 58 57,mS 4 59 3,cA 5 60 200 [(.s 55),(.s 56),(.s 58),(.s 59)],mS 6 54 60,eX 7 61 54 0,eX 8 62 54 1,o1 9 16 (.box 0 6 (.k (.a [(I 0),(I 0),(I 0),(I 0),(I 0),(I 0)]))),o0 10 (.store 6 (.s 16) (.s 61)),mS 11 17 62] [17,15,16,50,49,10,8,48,3,11,13,12,4,5])
  (sQ (sQ (rG 0 [mS 0 63 17,o1 1 64 (.un .not (.s 63))] [64,15,16,50,49,10,8,48,3,11,13,12,4,5])
  (.cond (.s 64) (.exit 1)
  .skip))
  (sQ (rG 0 [fA 0 65 5 4,lF 1 66 65,fA 2 67 0 15,lF 3 68 67,cA 4 69 132 [(.s 66),(.s 68)],mS 5 18 69] [18,12,50,49,10,8,48,3,11,4,5,13,16,15])
  (sQ (rG 0 [mS 0 70 18,bI 1 71 .geq 70 0,mS 2 72 71,oG 4 74 72 true (.faddr 2 (.s 5)),oG 3 73 72 true (.load true 11 (.s 4)),oG 5 75 72 true (.load true 4 (.s 74)),⟨6,(some 76),(some (72,true)),.call ⟨true⟩ (.k (.c (.fn 113 [] []))) [(.s 73),(.s 75)]⟩,o1 7 77 (.pick (.s 72) (.s 76) (kB false)),mS 8 78 77,oG 9 79 78 true (.faddr 6 (.s 4)),oG 11 81 78 true (.mv (.s 18)),oG 14 84 78 true (.faddr 2 (.s 15)),oG 17 87 78 true (.faddr 2 (.s 5)),oG 18 88 78 true (.faddr 1 (.s 87)),oG 20 90 78 true (.faddr 8 (.s 4)),oG 10 80 78 true (.load false 1 (.s 79)),oG 12 82 78 true (.iaddr 1 (.s 80) (.s 81)),oG 13 83 78 true (.load false 1 (.s 82)),oG 15 85 78 true (.load false 1 (.s 84)),oG 16 86 78 true (.bin .add (.s 83) (.s 85)),oG 19 89 78 true (.load false 1 (.s 88)),oG 21 91 78 true (.load false 1 (.s 90)),oG 22 92 78 true (.bin .sub (.s 89) (.s 91)),oG 23 93 78 true (.bin .lss (.s 86) (.s 92)),o1 24 94 (.pick (.s 78) (.s 93) (kB false)),mS 25 19 94] [12,50,49,10,8,48,3,11,4,5,13,19,16,15])
  (sQ (sQ (rG 0 [lT 0 95 16 11,lT 1 96 6 16,fA 2 97 1 16,lF 3 98 97,fA 4 99 2 16,lF 5 100 99,mS 6 101 19,cA 7 102 201 [(.s 95),(.s 96),(.s 98),(.s 100),(.s 101)],lN 8 103 102,mI 9 104 0] [12,104,103,50,49,10,8,48,3,11,4,5,13,19,16,15,102])
  (.block 2 (.loop (some [12,104,103,50,49,10,8,48,3,11,4,5,13,19,16,15,102]) c_motion_Course_Step_l1)))
  (sQ (rG 0 [lT 0 114 16 11,lT 1 115 6 16,fA 2 116 1 15,lF 3 117 116,fA 4 118 2 16,lF 5 119 118,mS 6 120 19,cA 7 121 201 [(.s 114),(.s 115),(.s 117),(.s 119),(.s 120)],lN 8 122 121,mI 9 123 0] [13,123,122,5,4,12,11,3,48,8,10,49,50,121])
  (.block 4 (.loop (some [13,123,122,5,4,12,11,3,48,8,10,49,50,121]) c_motion_Course_Step_l2))))))))))
  (rG 0 [bI 0 143 .add 50 1,mS 1 50 143] [50,49,10,8,48,3,11,13,12,4,5]))))
def c_motion_Course_Step_l4 : CC := (sQ (rG 0 [bS 0 148 .lss 147 146] [148,12,147,146,8,10,13,5,145,11,4])
  (sQ (.cond (.s 148) .skip
  (.exit 6))
  (sQ (.block 7 (sQ (rG 0 [mS 0 149 147,iA 1 150 1 145 147,lF 2 151 150,mS 3 24 149,mS 4 25 151] [25,12,24,147,146,8,10,13,5,145,11,4])
  (sQ (rG 0 [mS 0 152 25,mS 1 153 152,oG 2 154 153 true (.mv (.s 24)),oG 3 155 153 true (.faddr 5 (.s 4)),oG 4 156 153 true (.load false 1 (.s 155)),oG 5 157 153 true (.iaddr 1 (.s 156) (kI 0)),oG 6 158 153 true (.load false 1 (.s 157)),oG 7 159 153 true (.bin .neq (.s 154) (.s 158)),oG 8 160 153 true (.mv (.s 159)),oG 9 161 160 false (.faddr 11 (.s 11)),oG 10 162 160 false (.load false 1 (.s 161)),oG 11 163 160 false (.bin .geq (.s 162) (kI 0)),oG 12 164 153 true (.pick (.s 160) (kB true) (.s 163)),o1 13 165 (.pick (.s 153) (.s 164) (kB false))] [165,12,24,147,146,8,10,13,5,145,11,4])
  (.cond (.s 165) (sQ (rG 0 [fA 0 167 0 4,fA 1 168 1 167,lF 2 169 168,mS 3 170 24,iA 4 171 5 169 170,fA 5 172 0 171,lF 6 173 172,cA 7 174 65 [(.s 173)],mS 8 166 174,eX 9 175 166 0,eX 10 176 166 1,eX 11 177 166 2,mS 12 26 175,mS 13 27 176,mS 14 28 177] [12,24,26,147,146,8,10,13,5,145,11,4])
  (rG 1 [mS 0 178 12,mS 1 179 24,mS 2 180 26,o1 3 181 (.build [(I 0),(I 0),(I 0),(I 0),(I 0),(I 0)] [(0,1,(.s 179)),(4,1,(.s 180))]),o1 4 182 (.lit 0 6 [[(I 0),(I 0),(I 0),(I 0),(I 0),(I 0)]] [(0,(.s 181))]),o1 5 183 (.append 6 48 (.s 178) (.s 182)),mS 6 12 183] [147,12,146,8,10,13,5,145,11,4]))
  .skip))))
  (rG 0 [bI 0 184 .add 147 1,mS 1 147 184] [12,147,146,8,10,13,5,145,11,4]))))
abbrev f_motion_Course_Step : Nat := 147
def c_motion_Course_Step : CFn := { frz := true,rnd := none,nargs := 4,ntmps := 199,res := [(.cell 8 true 6),(.slot 9)],code :=
  (sQ (rG 4 [o1 0 4 (.box 0 11 (.s 0)),o1 1 5 (.box 1 6 (.s 1)),o1 2 8 (.box 2 6 (.k (.a [(I 0),.nilslice,(I 0),(I 0),(I 0),(I 0)]))),o1 3 9 (.newsl 3 4)] [2,8,3,4,5])
  (sQ (rG 1 [lT 0 29 11 4,fA 1 30 2 5,lT 2 31 4 30,mS 3 32 2,cA 4 33 187 [(.s 29),(.s 31),(.s 32)],o1 5 10 (.box 0 4 (.k (.a [(I 0),(I 0),(I 0),(I 0)]))),o0 6 (.store 4 (.s 10) (.s 33))] [10,8,3,4,5])
  (sQ (rG 1 [lT 0 34 11 4,fA 1 35 1 10,lF 2 36 35,fA 3 37 8 4,lF 4 38 37,bS 5 39 .sub 36 38,bI 6 40 .sub 39 1,lT 7 41 4 10,o1 8 42 (.build [(I 0),.nilslice,.nilslice,.nilslice,.nilslice,.nilslice,.nilslice,(I 0),(I 0),.nilslice,.nilslice,(I 0),(I 0),(I 0),(I 0),(I 0)] [(0,11,(.s 34)),(11,1,(.s 40)),(12,4,(.s 41))]),o1 9 11 (.box 0 16 (.k (.a [(I 0),.nilslice,.nilslice,.nilslice,.nilslice,.nilslice,.nilslice,(I 0),(I 0),.nilslice,.nilslice,(I 0),(I 0),(I 0),(I 0),(I 0)]))),o0 10 (.store 16 (.s 11) (.s 42))] [10,8,3,11,4,5])
  (sQ (rG 1 [o1 0 12 (.newsl 0 6)] [10,8,3,11,12,4,5])
  (sQ (rG 1 [o1 0 13 (.newsl 0 4)] [10,8,3,11,13,12,4,5])
  (sQ (sQ (rG 0 [lT 0 43 11 4,fA 1 44 1 5,lF 2 45 44,fA 3 46 2 5,lT 4 47 4 46,cA 5 48 63 [(.s 43),(.s 45),(.s 47)],lN 6 49 48,mI 7 50 0] [50,49,10,8,48,3,11,13,12,4,5])
  (.block 0 (.loop (some [50,49,10,8,48,3,11,13,12,4,5]) c_motion_Course_Step_l3)))
  (sQ (sQ (rG 0 [fA 0 144 10 4,lF 1 145 144,lN 2 146 145,mI 3 147 0] [12,147,146,8,10,13,5,145,11,4])
  (.block 6 (.loop (some [12,147,146,8,10,13,5,145,11,4]) c_motion_Course_Step_l4)))
  (sQ (rG 0 [mS 0 185 13,⟨1,(some 186),none,.call ⟨false⟩ (.k (.c (.fn 202 [] []))) [(.s 185),(.k (.c (.fn 203 [] [])))]⟩] [5,12,13,4,10,8])
  (sQ (.region 0 [fA 0 187 0 5,mS 5 192 12,mS 10 197 13,lF 1 188 187,bI 2 189 .add 188 1,lT 3 190 4 10,lT 4 191 11 4,lT 7 194 4 10,cA 6 193 204 [(.s 192)],cA 8 195 63 [(.s 191),(.s 193),(.s 194)],o1 9 196 (.build [(I 0),.nilslice,(I 0),(I 0),(I 0),(I 0)] [(0,1,(.s 189)),(2,4,(.s 190)),(1,1,(.s 195))]),⟨11,(some 198),none,.call ⟨false⟩ (.k (.c (.fn 205 [] []))) [(.s 197)]⟩,o0 12 (.store 6 (.s 8) (.s 196)),mS 13 9 198] [(3,8),(3,9),(3,11),(5,8),(5,9),(5,11),(6,8),(7,8)] (some [8,9]))
  .ret))))))))) }
abbrev f_slices_Collect_int64 : Nat := 148
def c_slices_Collect_int64 : CFn := { frz := false,rnd := none,nargs := 1,ntmps := 5,res := [(.slot 2)],code :=
  (sQ (rG 1 [o1 0 2 (.newsl 0 1)] [0])
  (sQ (rG 0 [mS 0 3 0,⟨1,(some 4),none,.call ⟨false⟩ (.k (.c (.fn 206 [] []))) [(.k (.c .nilslice)),(.s 3)]⟩,mS 2 2 4] [2])
  .ret)) }
abbrev f_slices_Sort_int64 : Nat := 149
def c_slices_Sort_int64 : CFn := { frz := true,rnd := none,nargs := 1,ntmps := 11,res := [],code :=
  (sQ (rG 0 [mS 0 3 0,lN 1 4 3,mS 2 2 4] [0,2])
  (rG 0 [mS 0 5 0,mS 1 6 2,mS 2 7 2,o1 3 8 (.conv .u64 (.s 7)),cA 4 9 208 [(.s 8)],⟨5,(some 10),none,.call ⟨false⟩ (.k (.c (.fn 207 [] []))) [(.s 5),(kI 0),(.s 6),(.s 9)]⟩] [])) }
def c_maps_Keys_heard__1_l1 : CC := (sQ (rG 0 [o1 0 6 (.mop .next [(.s 5)]),eX 1 7 6 0] [7,0,5])
  (sQ (.cond (.s 7) .skip
  (.exit 0))
  (.block 1 (sQ (rG 0 [o1 0 8 (.mop .entry [(.s 5)]),eX 1 9 8 0,mS 2 3 9] [3,0,5])
  (sQ (rG 0 [mS 0 10 0,mS 1 11 3,⟨2,(some 12),none,.call ⟨true⟩ (.s 10) [(.s 11)]⟩,o1 3 13 (.un .not (.s 12))] [13,0,5])
  (.cond (.s 13) .ret
  .skip))))))
abbrev f_maps_Keys_heard__1 : Nat := 150
def c_maps_Keys_heard__1 : CFn := { frz := true,rnd := none,nargs := 2,ntmps := 14,res := [],code :=
  (sQ (rG 1 [lF 0 4 1,o1 1 5 (.mlay .range 0 [(.s 4)])] [5,0])
  (.block 0 (.loop (some [5,0]) c_maps_Keys_heard__1_l1))) }
def c_drive_Node_searching_l1 : CC := (sQ (rG 0 [bS 0 15 .lss 14 13] [15,3,14,13,0])
  (sQ (.cond (.s 15) .skip
  (.exit 0))
  (sQ (.block 1 (sQ (rG 0 [mS 0 16 14,mS 1 4 16] [3,4,14,13,0])
  (rG 1 [mS 0 17 3,mS 1 18 0,nC 2 19 18,fA 3 20 34 19,lT 4 21 1 20,mS 5 22 4,cA 6 23 47 [(.s 21),(.s 22)],o1 7 24 (.lit 0 1 [[(I 0)]] [(0,(.s 23))]),o1 8 25 (.append 1 8 (.s 17) (.s 24)),mS 9 3 25] [14,3,13,0])))
  (rG 0 [bI 0 26 .add 14 1,mS 1 14 26] [3,14,13,0]))))
abbrev f_drive_Node_searching : Nat := 151
def c_drive_Node_searching : CFn := { frz := true,rnd := none,nargs := 1,ntmps := 77,res := [(.slot 2)],code :=
  (sQ (rG 0 [o1 0 2 (.mv (.k (.c .nilfn)))] [0])
  (sQ (rG 1 [o1 0 3 (.newsl 0 1)] [3,0])
  (sQ (sQ (rG 0 [mS 0 8 0,nC 1 9 8,fA 2 10 0 9,fA 3 11 6 10,fA 4 12 4 11,lF 5 13 12,mI 6 14 0] [3,14,13,0])
  (.block 0 (.loop (some [3,14,13,0]) c_drive_Node_searching_l1)))
  (sQ (.region 1 [mS 0 28 0,nC 1 29 28,fA 2 30 0 29,fA 3 31 0 30,mS 5 33 0,nC 6 34 33,fA 7 35 0 34,fA 8 36 5 35,mS 10 38 0,nC 11 39 38,fA 12 40 0 39,fA 13 41 6 40,mS 15 43 0,nC 16 44 43,fA 17 45 39 44,mS 19 47 3,mS 20 48 0,nC 21 49 48,fA 22 50 37 49,mS 24 52 0,nC 25 53 52,fA 26 54 0 53,fA 27 55 16 54,mS 29 57 0,nC 30 58 57,fA 31 59 0 58,fA 32 60 18 59,lT 4 32 5 31,lF 9 37 36,lT 14 42 5 41,lT 18 46 6 45,lF 23 51 50,lF 28 56 55,lF 33 61 60,cA 34 62 209 [(.s 32),(.s 37),(.s 42),(.s 46),(.s 47),(.s 51),(.s 56),(.s 61)],mS 35 27 62,eX 36 63 27 0,eX 37 64 27 1,eX 38 65 27 2,o1 39 5 (.box 0 1 (.k (.a [.nilslice]))),o0 40 (.store 1 (.s 5) (.s 63)),mS 41 6 64,mS 42 7 65] [(27,39),(28,39),(29,39),(30,39),(31,39),(32,39),(33,39),(34,39)] (some [6,7,5,0]))
  (sQ (rG 0 [mS 0 66 0,mS 1 67 6,nC 2 68 66,fA 3 69 45 68,o0 4 (.store 1 (.s 69) (.s 67))] [7,5,0])
  (sQ (sQ (rG 0 [mS 0 70 7] [70,5,0])
  (.cond (.s 70) (rG 0 [mS 0 71 0,lT 1 72 1 5,nC 2 73 71,fA 3 74 34 73,o0 4 (.store 1 (.s 74) (.s 72))] [0])
  .skip))
  (sQ (rG 0 [mS 0 75 0,o1 1 76 (.mkfn 152 [(.s 75)] []),mS 2 2 76] [2])
  .ret))))))) }
abbrev f_drive_Node_acting : Nat := 152
def c_drive_Node_acting : CFn := { frz := true,rnd := none,nargs := 1,ntmps := 42,res := [(.slot 2)],code :=
  (sQ (rG 0 [o1 0 2 (.mv (.k (.c .nilfn)))] [0])
  (sQ (rG 0 [mS 0 3 0,mS 1 4 0,nC 2 5 4,fA 3 6 34 5,lT 4 7 1 6,nC 5 8 3,fA 6 9 38 8,o0 7 (.store 1 (.s 9) (.s 7))] [0])
  (sQ (rG 0 [mS 0 10 0,mS 1 11 0,nC 2 12 11,fA 3 13 34 12,lT 4 14 1 13,cA 5 15 47 [(.s 14),(kI 0)],nC 6 16 10,fA 7 17 37 16,o0 8 (.store 1 (.s 17) (.s 15))] [0])
  (sQ (rG 0 [mS 0 18 0,nC 1 19 18,fA 2 20 35 19,mS 4 22 0,nC 5 23 22,fA 6 24 37 23,lF 3 21 20,lF 7 25 24,cA 8 26 210 [(.s 21),(.s 25)]] [0])
  (sQ (rG 0 [mS 0 27 0,mS 1 28 0,nC 2 29 28,fA 3 30 34 29,lT 4 31 1 30,cA 5 32 211 [(.s 31)],nC 6 33 27,fA 7 34 34 33,o0 8 (.store 1 (.s 34) (.s 32))] [0])
  (sQ (rG 0 [mS 0 35 0,nC 1 36 35,fA 2 37 30 36,lF 3 38 37,bI 4 39 .add 38 1,nC 5 40 35,fA 6 41 30 40,o0 7 (.store 1 (.s 41) (.s 39))] [])
  (sQ (rG 0 [o1 0 2 (.mv (.k (.c .nilfn)))] [2])
  .ret))))))) }
abbrev f_kerbstoneref03_SameLane : Nat := 153
def c_kerbstoneref03_SameLane : CFn := { frz := true,rnd := none,nargs := 2,ntmps := 38,res := [(.slot 4)],code :=
  (sQ (rG 2 [o1 0 2 (.box 0 5 (.s 0)),o1 1 3 (.box 1 5 (.s 1)),mB 2 4 false] [2,3])
  (sQ (rG 0 [fA 0 5 0 2,lF 1 6 5,fA 2 7 0 3,lF 3 8 7,bS 4 9 .eql 6 8,mS 5 10 9,oG 6 11 10 true (.faddr 2 (.s 2)),oG 7 12 10 true (.load false 1 (.s 11)),oG 8 13 10 true (.faddr 2 (.s 3)),oG 9 14 10 true (.load false 1 (.s 13)),oG 10 15 10 true (.bin .eql (.s 12) (.s 14)),o1 11 16 (.pick (.s 10) (.s 15) (kB false)),mS 12 17 16,oG 13 18 17 true (.faddr 3 (.s 2)),oG 14 19 17 true (.load false 1 (.s 18)),oG 15 20 17 true (.faddr 3 (.s 3)),oG 16 21 17 true (.load false 1 (.s 20)),oG 17 22 17 true (.bin .eql (.s 19) (.s 21)),o1 18 23 (.pick (.s 17) (.s 22) (kB false)),mS 19 24 23,oG 20 25 24 true (.faddr 1 (.s 2)),oG 21 26 24 true (.load true 1 (.s 25)),oG 22 27 24 true (.faddr 1 (.s 3)),oG 23 28 24 true (.load true 1 (.s 27)),⟨24,(some 29),(some (24,true)),.call ⟨true⟩ (.k (.c (.fn 212 [] []))) [(.s 26),(.s 28)]⟩,o1 25 30 (.pick (.s 24) (.s 29) (kB false)),mS 26 31 30,oG 27 32 31 true (.faddr 4 (.s 2)),oG 28 33 31 true (.load false 1 (.s 32)),oG 29 34 31 true (.faddr 4 (.s 3)),oG 30 35 31 true (.load false 1 (.s 34)),⟨31,(some 36),(some (31,true)),.call ⟨true⟩ (.k (.c (.fn 213 [] []))) [(.s 33),(.s 35)]⟩,o1 32 37 (.pick (.s 31) (.s 36) (kB false)),mS 33 4 37] [4])
  .ret)) }
def c_kerbstoneref03_SameZone_l1 : CC := (sQ (sQ (rG 0 [mS 0 6 5,fA 1 7 0 2,lF 2 8 7,lN 3 9 8,bS 4 10 .lss 6 9,mS 5 11 10,oG 6 12 11 true (.mv (.s 5)),oG 7 13 11 true (.faddr 0 (.s 3)),oG 8 14 11 true (.load false 1 (.s 13)),oG 9 15 11 true (.len (.s 14)),oG 10 16 11 true (.bin .lss (.s 12) (.s 15)),o1 11 17 (.pick (.s 11) (.s 16) (kB false))] [17,3,2,5])
  (.cond (.s 17) .skip
  (.exit 0)))
  (sQ (.block 1 (sQ (rG 0 [fA 0 20 0 2,mS 2 22 5,fA 5 25 0 3,mS 7 27 5,lF 1 21 20,iA 3 23 4 21 22,lT 4 24 4 23,lF 6 26 25,iA 8 28 4 26 27,lT 9 29 4 28,o1 10 30 (.eqa true [false,false,false,false] (.s 24) (.s 29))] [30,3,2,5])
  (.cond (.s 30) (sQ (rG 0 [mB 0 4 false] [4])
  .ret)
  .skip)))
  (rG 0 [mS 0 18 5,bI 1 19 .add 18 1,mS 2 5 19] [2,3,5])))
abbrev f_kerbstoneref03_SameZone : Nat := 154
def c_kerbstoneref03_SameZone : CFn := { frz := true,rnd := none,nargs := 2,ntmps := 45,res := [(.slot 4)],code :=
  (sQ (rG 2 [o1 0 2 (.box 0 2 (.s 0)),o1 1 3 (.box 1 2 (.s 1)),mB 2 4 false] [2,3])
  (sQ (sQ (rG 0 [mI 0 5 0] [2,3,5])
  (.block 0 (.loop (some [2,3,5]) c_kerbstoneref03_SameZone_l1)))
  (sQ (rG 0 [fA 0 31 1 2,lF 1 32 31,fA 2 33 1 3,lF 3 34 33,bS 4 35 .eql 32 34,mS 5 36 35,oG 6 37 36 true (.faddr 0 (.s 2)),oG 7 38 36 true (.load false 1 (.s 37)),oG 8 39 36 true (.len (.s 38)),oG 9 40 36 true (.faddr 0 (.s 3)),oG 10 41 36 true (.load false 1 (.s 40)),oG 11 42 36 true (.len (.s 41)),oG 12 43 36 true (.bin .eql (.s 39) (.s 42)),o1 13 44 (.pick (.s 36) (.s 43) (kB false)),mS 14 4 44] [4])
  .ret))) }
def c_kerbstoneref03_SameSignal_l1 : CC := (sQ (sQ (rG 0 [mS 0 6 5,fA 1 7 1 2,lF 2 8 7,lN 3 9 8,bS 4 10 .lss 6 9,mS 5 11 10,oG 6 12 11 true (.mv (.s 5)),oG 7 13 11 true (.faddr 1 (.s 3)),oG 8 14 11 true (.load false 1 (.s 13)),oG 9 15 11 true (.len (.s 14)),oG 10 16 11 true (.bin .lss (.s 12) (.s 15)),o1 11 17 (.pick (.s 11) (.s 16) (kB false))] [17,3,2,5])
  (.cond (.s 17) .skip
  (.exit 0)))
  (sQ (.block 1 (sQ (rG 0 [fA 0 20 1 2,mS 2 22 5,fA 6 26 1 3,mS 8 28 5,lF 1 21 20,iA 3 23 2 21 22,fA 4 24 0 23,lF 5 25 24,lF 7 27 26,iA 9 29 2 27 28,fA 10 30 0 29,lF 11 31 30,bS 12 32 .neq 25 31,mS 13 33 32,oG 14 34 33 false (.faddr 1 (.s 2)),oG 16 36 33 false (.mv (.s 5)),oG 20 40 33 false (.faddr 1 (.s 3)),oG 22 42 33 false (.mv (.s 5)),oG 15 35 33 false (.load false 1 (.s 34)),oG 17 37 33 false (.iaddr 2 (.s 35) (.s 36)),oG 18 38 33 false (.faddr 1 (.s 37)),oG 19 39 33 false (.load false 1 (.s 38)),oG 21 41 33 false (.load false 1 (.s 40)),oG 23 43 33 false (.iaddr 2 (.s 41) (.s 42)),oG 24 44 33 false (.faddr 1 (.s 43)),oG 25 45 33 false (.load false 1 (.s 44)),⟨26,(some 46),(some (33,false)),.call ⟨true⟩ (.k (.c (.fn 213 [] []))) [(.s 39),(.s 45)]⟩,oG 27 47 33 false (.un .not (.s 46)),o1 28 48 (.pick (.s 33) (kB true) (.s 47))] [48,3,2,5])
  (.cond (.s 48) (sQ (rG 0 [mB 0 4 false] [4])
  .ret)
  .skip)))
  (rG 0 [mS 0 18 5,bI 1 19 .add 18 1,mS 2 5 19] [2,3,5])))
abbrev f_kerbstoneref03_SameSignal : Nat := 155
def c_kerbstoneref03_SameSignal : CFn := { frz := true,rnd := none,nargs := 2,ntmps := 63,res := [(.slot 4)],code :=
  (sQ (rG 2 [o1 0 2 (.box 0 2 (.s 0)),o1 1 3 (.box 1 2 (.s 1)),mB 2 4 false] [2,3])
  (sQ (sQ (rG 0 [mI 0 5 0] [2,3,5])
  (.block 0 (.loop (some [2,3,5]) c_kerbstoneref03_SameSignal_l1)))
  (sQ (rG 0 [fA 0 49 0 2,lF 1 50 49,fA 2 51 0 3,lF 3 52 51,bS 4 53 .eql 50 52,mS 5 54 53,oG 6 55 54 true (.faddr 1 (.s 2)),oG 7 56 54 true (.load false 1 (.s 55)),oG 8 57 54 true (.len (.s 56)),oG 9 58 54 true (.faddr 1 (.s 3)),oG 10 59 54 true (.load false 1 (.s 58)),oG 11 60 54 true (.len (.s 59)),oG 12 61 54 true (.bin .eql (.s 57) (.s 60)),o1 13 62 (.pick (.s 54) (.s 61) (kB false)),mS 14 4 62] [4])
  .ret))) }
abbrev f_curve_Copy : Nat := 156
def c_curve_Copy : CFn := { frz := true,rnd := none,nargs := 1,ntmps := 6,res := [(.cell 2 true 1)],code :=
  (sQ (rG 2 [o1 0 1 (.box 0 1 (.s 0)),o1 1 2 (.box 1 1 (.k (.a [.nilslice])))] [1,2])
  (sQ (rG 0 [fA 0 3 0 1,lF 1 4 3,cA 2 5 214 [(.s 4)],o0 3 (.store 1 (.s 2) (.s 5))] [2])
  .ret)) }
abbrev f_slices_Clone_Part : Nat := 157
abbrev f_slices_Clone_Phase : Nat := 158
def c_curve_Length_l1 : CC := (sQ (rG 0 [bS 0 10 .lss 9 8] [10,3,9,8,7])
  (sQ (.cond (.s 10) .skip
  (.exit 0))
  (sQ (.block 1 (sQ (rG 0 [iA 0 11 1 7 9,lF 1 12 11,mS 2 5 12] [3,5,9,8,7])
  (rG 0 [mS 0 13 3,mS 1 14 5,bS 2 15 .add 13 14,mS 3 3 15] [9,3,8,7])))
  (rG 0 [bI 0 16 .add 9 1,mS 1 9 16] [3,9,8,7]))))
abbrev f_curve_Length : Nat := 159
def c_curve_Length : CFn := { frz := true,rnd := none,nargs := 1,ntmps := 18,res := [(.slot 2)],code :=
  (sQ (rG 1 [o1 0 1 (.box 0 1 (.s 0)),mI 1 2 0] [1])
  (sQ (rG 0 [mI 0 3 0] [1,3])
  (sQ (sQ (rG 0 [lT 0 6 1 1,cA 1 7 215 [(.s 6)],lN 2 8 7,mI 3 9 0] [3,9,8,7])
  (.block 0 (.loop (some [3,9,8,7]) c_curve_Length_l1)))
  (sQ (rG 0 [mS 0 17 3,mS 1 2 17] [2])
  .ret)))) }
abbrev f_motion_ends_Blob : Nat := 160
def c_motion_ends_Blob : CFn := { frz := true,rnd := none,nargs := 1,ntmps := 35,res := [(.slot 2),(.slot 3),(.slot 4)],code :=
  (sQ (rG 0 [mI 0 2 0,o1 1 3 (.mv (.k (.c .nilptr))),o1 2 4 (.mv (.k (.c .nilptr)))] [0])
  (sQ (sQ (rG 0 [mS 0 7 0,o1 1 8 (.p1 (.mkif 255) (.s 7))] [8])
  (.block 0 (sQ (rG 0 [o1 0 9 (.p1 (.tass true 255 (.c .nilptr)) (.s 8)),eX 1 10 9 1,eX 2 11 9 0] [10,8,11])
  (.cond (.s 10) (sQ (rG 0 [mS 0 5 11] [5])
  (sQ (rG 0 [mS 0 12 5,nC 1 13 12,fA 2 14 0 13,mS 4 16 5,nC 5 17 16,fA 6 18 1 17,mS 7 19 5,nC 8 20 19,fA 9 21 2 20,lF 3 15 14,mS 10 2 15,mS 11 3 18,mS 12 4 21] [2,3,4])
  .ret))
  (sQ (rG 0 [o1 0 22 (.p1 (.tass true 318 (.c .nilptr)) (.s 8)),eX 1 23 22 1,eX 2 24 22 0] [23,24])
  (.cond (.s 23) (sQ (rG 0 [mS 0 6 24] [6])
  (sQ (rG 0 [mS 0 25 6,nC 1 26 25,fA 2 27 0 26,mS 4 29 6,nC 5 30 29,fA 6 31 1 30,mS 7 32 6,nC 8 33 32,fA 9 34 2 33,lF 3 28 27,mS 10 2 28,mS 11 3 31,mS 12 4 34] [2,3,4])
  .ret))
  .skip))))))
  (sQ (rG 0 [mI 0 2 0,o1 1 3 (.mv (.k (.c .nilptr))),o1 2 4 (.mv (.k (.c .nilptr)))] [2,3,4])
  .ret))) }
def c_curve_fair_l1 : CC := (sQ (rG 0 [bS 0 8 .lss 7 6] [8,5,6,7])
  (sQ (.cond (.s 8) .skip
  (.exit 0))
  (sQ (.block 1 (sQ (rG 1 [iA 0 9 2 5 7,lT 1 10 2 9,o1 2 4 (.box 0 2 (.k (.a [(I 0),(I 0)]))),o0 3 (.store 2 (.s 4) (.s 10))] [4,5,6,7])
  (sQ (rG 0 [fA 0 11 0 4,lF 1 12 11,fA 2 13 1 4,lF 3 14 13,o1 4 15 (.minmax false [(.s 12),(.s 14)]),bI 5 16 .lss 15 (-16777216),mS 6 17 16,oG 7 18 17 false (.faddr 0 (.s 4)),oG 8 19 17 false (.load false 1 (.s 18)),oG 9 20 17 false (.faddr 1 (.s 4)),oG 10 21 17 false (.load false 1 (.s 20)),oG 11 22 17 false (.minmax true [(.s 19),(.s 21)]),oG 12 23 17 false (.bin .gtr (.s 22) (kI 16777216)),o1 13 24 (.pick (.s 17) (kB true) (.s 23))] [24,5,6,7])
  (.cond (.s 24) (sQ (rG 0 [mB 0 2 false] [2])
  .ret)
  .skip))))
  (rG 0 [bI 0 25 .add 7 1,mS 1 7 25] [6,5,7]))))
abbrev f_curve_fair : Nat := 161
def c_curve_fair : CFn := { frz := true,rnd := none,nargs := 1,ntmps := 26,res := [(.slot 2)],code :=
  (sQ (rG 0 [mB 0 2 false] [0])
  (sQ (sQ (rG 0 [mS 0 5 0,lN 1 6 5,mI 2 7 0] [6,5,7])
  (.block 0 (.loop (some [6,5,7]) c_curve_fair_l1)))
  (sQ (rG 0 [mB 0 2 true] [2])
  .ret))) }
abbrev f_curve_from : Nat := 162
def c_curve_from : CFn := { frz := true,rnd := none,nargs := 2,ntmps := 16,res := [(.cell 4 true 2)],code :=
  (sQ (rG 3 [o1 0 2 (.box 0 2 (.s 0)),o1 1 3 (.box 1 2 (.s 1)),o1 2 4 (.box 2 2 (.k (.a [(I 0),(I 0)])))] [3,2,4])
  (sQ (rG 0 [fA 0 5 0 3,lF 1 6 5,fA 2 7 0 2,lF 3 8 7,bS 4 9 .sub 6 8,fA 5 10 1 3,lF 6 11 10,fA 7 12 1 2,lF 8 13 12,bS 9 14 .sub 11 13,o1 10 15 (.build [(I 0),(I 0)] [(0,1,(.s 9)),(1,1,(.s 14))]),o0 11 (.store 2 (.s 4) (.s 15))] [4])
  .ret)) }
def c_curve_root_l1 : CC := (sQ (sQ (rG 0 [mS 0 7 4,mS 1 8 5,bS 2 9 .lss 7 8] [9,4,5,0])
  (.cond (.s 9) .skip
  (.exit 0)))
  (.block 1 (sQ (rG 0 [mS 0 10 4,mS 1 11 5,bS 2 12 .add 10 11,bI 3 13 .quo 12 2,mS 4 6 13] [4,6,5,0])
  (sQ (rG 0 [mS 0 14 6,mS 1 15 6,bS 2 16 .mul 14 15,mS 3 17 0,bS 4 18 .lss 16 17] [18,4,6,5,0])
  (.cond (.s 18) (rG 0 [mS 0 19 6,bI 1 20 .add 19 1,mS 2 4 20] [4,5,0])
  (rG 0 [mS 0 21 6,mS 1 5 21] [4,5,0]))))))
abbrev f_curve_root : Nat := 163
def c_curve_root : CFn := { frz := true,rnd := none,nargs := 1,ntmps := 28,res := [(.slot 2),(.slot 3)],code :=
  (sQ (rG 0 [mI 0 2 0,mB 1 3 false] [0])
  (sQ (rG 0 [mI 0 4 0,mI 1 5 67108864] [4,5,0])
  (sQ (.block 0 (.loop (some [4,5,0]) c_curve_root_l1))
  (sQ (rG 0 [mS 0 22 4,mS 1 23 4,mS 2 24 4,bS 3 25 .mul 23 24,mS 4 26 0,bS 5 27 .eql 25 26,mS 6 2 22,mS 7 3 27] [2,3])
  .ret)))) }
abbrev f_curve_vector_dot : Nat := 164
def c_curve_vector_dot : CFn := { frz := true,rnd := none,nargs := 2,ntmps := 16,res := [(.slot 4)],code :=
  (sQ (rG 2 [o1 0 2 (.box 0 2 (.s 0)),o1 1 3 (.box 1 2 (.s 1)),mI 2 4 0] [2,3])
  (sQ (rG 0 [fA 0 5 0 2,lF 1 6 5,fA 2 7 0 3,lF 3 8 7,bS 4 9 .mul 6 8,fA 5 10 1 2,lF 6 11 10,fA 7 12 1 3,lF 8 13 12,bS 9 14 .mul 11 13,bS 10 15 .add 9 14,mS 11 4 15] [4])
  .ret)) }
def c_slices_IndexFunc_Phase_l1 : CC := (sQ (rG 0 [bS 0 9 .lss 8 7] [9,0,1,7,8])
  (sQ (.cond (.s 9) .skip
  (.exit 0))
  (sQ (.block 1 (sQ (rG 0 [mS 0 10 8,mS 1 5 10] [0,1,7,8,5])
  (sQ (rG 0 [mS 0 11 1,mS 1 12 0,mS 2 13 5,iA 3 14 2 12 13,lT 4 15 2 14,⟨5,(some 16),none,.call ⟨true⟩ (.s 11) [(.s 15)]⟩] [16,0,1,7,8,5])
  (.cond (.s 16) (sQ (rG 0 [mS 0 17 5,mS 1 4 17] [4])
  .ret)
  .skip))))
  (rG 0 [bI 0 18 .add 8 1,mS 1 8 18] [7,1,0,8]))))
abbrev f_slices_IndexFunc_Phase : Nat := 165
def c_slices_IndexFunc_Phase : CFn := { frz := true,rnd := none,nargs := 2,ntmps := 19,res := [(.slot 4)],code :=
  (sQ (rG 0 [mI 0 4 0] [1,0])
  (sQ (sQ (rG 0 [mS 0 6 0,lN 1 7 6,mI 2 8 0] [7,1,0,8])
  (.block 0 (.loop (some [7,1,0,8]) c_slices_IndexFunc_Phase_l1)))
  (sQ (rG 0 [mI 0 4 (-1)] [4])
  .ret))) }
def c_slices_IndexFunc_Zone_l1 : CC := (sQ (rG 0 [bS 0 9 .lss 8 7] [9,0,1,7,8])
  (sQ (.cond (.s 9) .skip
  (.exit 0))
  (sQ (.block 1 (sQ (rG 0 [mS 0 10 8,mS 1 5 10] [0,1,7,8,5])
  (sQ (rG 0 [mS 0 11 1,mS 1 12 0,mS 2 13 5,iA 3 14 2 12 13,lT 4 15 2 14,⟨5,(some 16),none,.call ⟨true⟩ (.s 11) [(.s 15)]⟩] [16,0,1,7,8,5])
  (.cond (.s 16) (sQ (rG 0 [mS 0 17 5,mS 1 4 17] [4])
  .ret)
  .skip))))
  (rG 0 [bI 0 18 .add 8 1,mS 1 8 18] [7,1,0,8]))))
abbrev f_slices_IndexFunc_Zone : Nat := 166
def c_slices_IndexFunc_Zone : CFn := { frz := true,rnd := none,nargs := 2,ntmps := 19,res := [(.slot 4)],code :=
  (sQ (rG 0 [mI 0 4 0] [1,0])
  (sQ (sQ (rG 0 [mS 0 6 0,lN 1 7 6,mI 2 8 0] [7,1,0,8])
  (.block 0 (.loop (some [7,1,0,8]) c_slices_IndexFunc_Zone_l1)))
  (sQ (rG 0 [mI 0 4 (-1)] [4])
  .ret))) }
def c_slices_IndexFunc_int_l1 : CC := (sQ (rG 0 [bS 0 9 .lss 8 7] [9,0,1,7,8])
  (sQ (.cond (.s 9) .skip
  (.exit 0))
  (sQ (.block 1 (sQ (rG 0 [mS 0 10 8,mS 1 5 10] [0,1,7,8,5])
  (sQ (rG 0 [mS 0 11 1,mS 1 12 0,mS 2 13 5,iA 3 14 1 12 13,lF 4 15 14,⟨5,(some 16),none,.call ⟨true⟩ (.s 11) [(.s 15)]⟩] [16,0,1,7,8,5])
  (.cond (.s 16) (sQ (rG 0 [mS 0 17 5,mS 1 4 17] [4])
  .ret)
  .skip))))
  (rG 0 [bI 0 18 .add 8 1,mS 1 8 18] [7,1,0,8]))))
abbrev f_slices_IndexFunc_int : Nat := 167
def c_slices_IndexFunc_int : CFn := { frz := true,rnd := none,nargs := 2,ntmps := 19,res := [(.slot 4)],code :=
  (sQ (rG 0 [mI 0 4 0] [1,0])
  (sQ (sQ (rG 0 [mS 0 6 0,lN 1 7 6,mI 2 8 0] [7,1,0,8])
  (.block 0 (.loop (some [7,1,0,8]) c_slices_IndexFunc_int_l1)))
  (sQ (rG 0 [mI 0 4 (-1)] [4])
  .ret))) }
def c_roads_reach_l1 : CC := (sQ (rG 0 [bS 0 23 .lss 22 21] [23,22,21,1,2,20,4,3])
  (sQ (.cond (.s 23) .skip
  (.exit 2))
  (sQ (.block 3 (sQ (rG 0 [iA 0 24 1 20 22,lF 1 25 24,mS 2 6 25] [6,22,21,1,2,20,4,3])
  (rG 0 [mS 0 26 4,o1 1 27 (.aaddr 12 1 (.s 3) (.s 26)),mS 3 29 6,o1 4 30 (.aaddr 12 1 (.s 3) (.s 29)),mS 6 32 6,o1 7 33 (.conv .u64 (.s 32)),o1 8 34 (.bin .shl (.k (.c (.int .u32 1))) (.s 33)),lF 2 28 27,lF 5 31 30,bS 9 35 .or 31 34,bS 10 36 .or 28 35,o1 11 37 (.aaddr 12 1 (.s 3) (.s 26)),o0 12 (.store 1 (.s 37) (.s 36))] [22,21,1,2,20,4,3])))
  (rG 0 [bI 0 38 .add 22 1,mS 1 22 38] [22,21,1,2,20,4,3]))))
def c_roads_reach_l2 : CC := (sQ (sQ (rG 0 [mS 0 11 4,bI 1 12 .geq 11 0] [12,1,2,4,3])
  (.cond (.s 12) .skip
  (.exit 0)))
  (sQ (.block 1 (sQ (rG 0 [fA 0 15 1 1,lF 1 16 15,mS 2 17 4,iA 3 18 5 16 17,fA 4 19 4 18,lF 5 20 19,lN 6 21 20,mI 7 22 0] [22,21,1,2,20,4,3])
  (.block 2 (.loop (some [22,21,1,2,20,4,3]) c_roads_reach_l1))))
  (rG 0 [mS 0 13 4,bI 1 14 .sub 13 1,mS 2 4 14] [2,1,4,3])))
abbrev f_roads_reach : Nat := 168
def c_roads_reach : CFn := { frz := true,rnd := none,nargs := 1,ntmps := 40,res := [(.cell 2 true 12)],code :=
  (sQ (rG 2 [o1 0 1 (.box 0 5 (.s 0)),o1 1 2 (.box 1 12 (.k (.a [(.int .u32 0),(.int .u32 0),(.int .u32 0),(.int .u32 0),(.int .u32 0),(.int .u32 0),(.int .u32 0),(.int .u32 0),(.int .u32 0),(.int .u32 0),(.int .u32 0),(.int .u32 0)])))] [2,1])
  (sQ (rG 1 [o1 0 3 (.box 0 12 (.k (.a [(.int .u32 0),(.int .u32 0),(.int .u32 0),(.int .u32 0),(.int .u32 0),(.int .u32 0),(.int .u32 0),(.int .u32 0),(.int .u32 0),(.int .u32 0),(.int .u32 0),(.int .u32 0)])))] [2,1,3])
  (sQ (sQ (rG 0 [fA 0 7 1 1,lF 1 8 7,lN 2 9 8,bI 3 10 .sub 9 1,mS 4 4 10] [2,1,4,3])
  (.block 0 (.loop (some [2,1,4,3]) c_roads_reach_l2)))
  (sQ (rG 0 [lT 0 39 12 3,o0 1 (.store 12 (.s 2) (.s 39))] [2])
  .ret)))) }
abbrev f_slices_ContainsFunc_Part : Nat := 169
def c_slices_ContainsFunc_Part : CFn := { frz := true,rnd := none,nargs := 2,ntmps := 9,res := [(.slot 4)],code :=
  (sQ (rG 0 [mB 0 4 false] [0,1])
  (sQ (rG 0 [mS 0 5 0,mS 1 6 1,cA 2 7 173 [(.s 5),(.s 6)],bI 3 8 .geq 7 0,mS 4 4 8] [4])
  .ret)) }
abbrev f_roads_entry_1 : Nat := 170
def c_roads_entry_1 : CFn := { frz := true,rnd := none,nargs := 3,ntmps := 11,res := [(.slot 4)],code :=
  (sQ (rG 1 [o1 0 3 (.box 0 4 (.s 0)),mB 1 4 false] [3,1,2])
  (sQ (rG 0 [fA 0 5 0 3,lF 1 6 5,o1 2 7 (.aaddr 12 1 (.s 1) (.s 6)),lF 3 8 7,lF 4 9 2,cA 5 10 171 [(.s 8),(.s 9)],mS 6 4 10] [4])
  .ret)) }
abbrev f_roads_set_has : Nat := 171
def c_roads_set_has : CFn := { frz := true,rnd := none,nargs := 2,ntmps := 11,res := [(.slot 4)],code :=
  (sQ (rG 0 [mB 0 4 false] [0,1])
  (sQ (rG 0 [mS 0 5 0,mS 1 6 1,o1 2 7 (.conv .u64 (.s 6)),bS 3 8 .shr 5 7,o1 4 9 (.bin .and (.s 8) (.k (.c (.int .u32 1)))),o1 5 10 (.bin .eql (.s 9) (.k (.c (.int .u32 1)))),mS 6 4 10] [4])
  .ret)) }
def c_roads_entries_l1 : CC := (sQ (rG 0 [bS 0 12 .lss 11 10] [12,5,11,10,9,2,3])
  (sQ (.cond (.s 12) .skip
  (.exit 0))
  (sQ (.block 1 (sQ (rG 1 [iA 0 13 4 9 11,lT 1 14 4 13,o1 2 7 (.box 0 4 (.k (.a [(I 0),(I 0),(I 0),(I 0)]))),o0 3 (.store 4 (.s 7) (.s 14))] [5,7,11,10,9,2,3])
  (sQ (rG 0 [lT 0 15 5 2,lT 1 16 2 3,fA 2 17 0 7,lF 3 18 17,cA 4 19 126 [(.s 15),(.s 16),(.s 18)]] [19,5,7,11,10,9,2,3])
  (.cond (.s 19) (rG 1 [mS 0 20 5,fA 1 21 0 7,lF 2 22 21,o1 3 23 (.lit 0 1 [[(I 0)]] [(0,(.s 22))]),o1 4 24 (.append 1 8 (.s 20) (.s 23)),mS 5 5 24] [11,5,10,9,2,3])
  .skip))))
  (rG 0 [bI 0 25 .add 11 1,mS 1 11 25] [5,11,10,9,2,3]))))
abbrev f_roads_entries : Nat := 172
def c_roads_entries : CFn := { frz := true,rnd := none,nargs := 2,ntmps := 27,res := [(.slot 4)],code :=
  (sQ (rG 3 [o1 0 2 (.box 0 5 (.s 0)),o1 1 3 (.box 1 2 (.s 1)),o1 2 4 (.newsl 2 1)] [2,3])
  (sQ (rG 1 [o1 0 5 (.newsl 0 1)] [5,2,3])
  (sQ (sQ (rG 0 [fA 0 8 0 3,lF 1 9 8,lN 2 10 9,mI 3 11 0] [5,11,10,9,2,3])
  (.block 0 (.loop (some [5,11,10,9,2,3]) c_roads_entries_l1)))
  (sQ (rG 0 [mS 0 26 5,mS 1 4 26] [4])
  .ret)))) }
def c_slices_IndexFunc_Part_l1 : CC := (sQ (rG 0 [bS 0 9 .lss 8 7] [9,0,1,7,8])
  (sQ (.cond (.s 9) .skip
  (.exit 0))
  (sQ (.block 1 (sQ (rG 0 [mS 0 10 8,mS 1 5 10] [0,1,7,8,5])
  (sQ (rG 0 [mS 0 11 1,mS 1 12 0,mS 2 13 5,iA 3 14 4 12 13,lT 4 15 4 14,⟨5,(some 16),none,.call ⟨true⟩ (.s 11) [(.s 15)]⟩] [16,0,1,7,8,5])
  (.cond (.s 16) (sQ (rG 0 [mS 0 17 5,mS 1 4 17] [4])
  .ret)
  .skip))))
  (rG 0 [bI 0 18 .add 8 1,mS 1 8 18] [7,1,0,8]))))
abbrev f_slices_IndexFunc_Part : Nat := 173
def c_slices_IndexFunc_Part : CFn := { frz := true,rnd := none,nargs := 2,ntmps := 19,res := [(.slot 4)],code :=
  (sQ (rG 0 [mI 0 4 0] [1,0])
  (sQ (sQ (rG 0 [mS 0 6 0,lN 1 7 6,mI 2 8 0] [7,1,0,8])
  (.block 0 (.loop (some [7,1,0,8]) c_slices_IndexFunc_Part_l1)))
  (sQ (rG 0 [mI 0 4 (-1)] [4])
  .ret))) }
abbrev f_roads_part_1 : Nat := 174
def c_roads_part_1 : CFn := { frz := true,rnd := none,nargs := 2,ntmps := 8,res := [(.slot 3)],code :=
  (sQ (rG 1 [o1 0 2 (.box 0 4 (.s 0)),mB 1 3 false] [2,1])
  (sQ (rG 0 [fA 0 4 0 2,lF 1 5 4,lF 2 6 1,bS 3 7 .eql 5 6,mS 4 3 7] [3])
  .ret)) }
def c_slices_stableCmpFunc_Pass_l1 : CC := (sQ (sQ (rG 0 [mS 0 11 8,mS 1 12 1,bS 2 13 .leq 11 12] [13,7,8,1,0,2,6])
  (.cond (.s 13) .skip
  (.exit 0)))
  (.block 1 (sQ (rG 0 [mS 0 14 0,mS 1 15 7,mS 2 16 8,mS 3 17 2,⟨4,(some 18),none,.call ⟨false⟩ (.k (.c (.fn 216 [] []))) [(.s 14),(.s 15),(.s 16),(.s 17)]⟩] [8,1,0,2,6])
  (sQ (rG 0 [mS 0 19 8,mS 1 7 19] [8,7,1,0,2,6])
  (rG 0 [mS 0 20 8,mS 1 21 6,bS 2 22 .add 20 21,mS 3 8 22] [7,8,1,0,2,6])))))
def c_slices_stableCmpFunc_Pass_l2 : CC := (sQ (sQ (rG 0 [mS 0 33 8,mS 1 34 1,bS 2 35 .leq 33 34] [35,7,8,1,0,2,6])
  (.cond (.s 35) .skip
  (.exit 4)))
  (.block 5 (sQ (rG 0 [mS 0 36 0,mS 1 37 7,mS 2 38 7,mS 3 39 6,bS 4 40 .add 38 39,mS 5 41 8,mS 6 42 2,⟨7,(some 43),none,.call ⟨false⟩ (.k (.c (.fn 217 [] []))) [(.s 36),(.s 37),(.s 40),(.s 41),(.s 42)]⟩] [8,1,0,2,6])
  (sQ (rG 0 [mS 0 44 8,mS 1 7 44] [8,7,1,0,2,6])
  (rG 0 [mS 0 45 8,mS 1 46 6,o1 2 47 (.bin .mul (kI 2) (.s 46)),bS 3 48 .add 45 47,mS 4 8 48] [7,8,1,0,2,6])))))
def c_slices_stableCmpFunc_Pass_l3 : CC := (sQ (sQ (rG 0 [mS 0 28 6,mS 1 29 1,bS 2 30 .lss 28 29] [30,1,0,2,6])
  (.cond (.s 30) .skip
  (.exit 2)))
  (.block 3 (sQ (rG 0 [mS 0 31 6,o1 1 32 (.bin .mul (kI 2) (.s 31)),mI 2 7 0,mS 3 8 32] [7,8,1,0,2,6])
  (sQ (.block 4 (.loop (some [7,8,1,0,2,6]) c_slices_stableCmpFunc_Pass_l2))
  (sQ (sQ (rG 0 [mS 0 49 7,mS 1 50 6,bS 2 51 .add 49 50,mS 3 9 51] [7,9,6,1,0,2])
  (sQ (rG 0 [mS 0 52 9,mS 1 53 1,bS 2 54 .lss 52 53] [54,7,9,6,1,0,2])
  (.cond (.s 54) (rG 0 [mS 0 55 0,mS 1 56 7,mS 2 57 9,mS 3 58 1,mS 4 59 2,⟨5,(some 60),none,.call ⟨false⟩ (.k (.c (.fn 217 [] []))) [(.s 55),(.s 56),(.s 57),(.s 58),(.s 59)]⟩] [6,1,0,2])
  .skip)))
  (rG 0 [mS 0 61 6,bI 1 62 .mul 61 2,mS 2 6 62] [1,0,2,6]))))))
abbrev f_slices_stableCmpFunc_Pass : Nat := 175
def c_slices_stableCmpFunc_Pass : CFn := { frz := true,rnd := none,nargs := 3,ntmps := 63,res := [],code :=
  (sQ (rG 0 [mI 0 6 20] [1,0,2,6])
  (sQ (rG 0 [mS 0 10 6,mI 1 7 0,mS 2 8 10] [7,8,1,0,2,6])
  (sQ (.block 0 (.loop (some [7,8,1,0,2,6]) c_slices_stableCmpFunc_Pass_l1))
  (sQ (rG 0 [mS 0 23 0,mS 1 24 7,mS 2 25 1,mS 3 26 2,⟨4,(some 27),none,.call ⟨false⟩ (.k (.c (.fn 216 [] []))) [(.s 23),(.s 24),(.s 25),(.s 26)]⟩] [1,0,2,6])
  (.block 2 (.loop (some [1,0,2,6]) c_slices_stableCmpFunc_Pass_l3)))))) }
abbrev f_cmp_isNaN_int64 : Nat := 176
def c_cmp_isNaN_int64 : CFn := { frz := true,rnd := none,nargs := 1,ntmps := 6,res := [(.slot 2)],code :=
  (sQ (rG 0 [mB 0 2 false] [0])
  (sQ (rG 0 [mS 0 3 0,mS 1 4 0,bS 2 5 .neq 3 4,mS 3 2 5] [2])
  .ret)) }
abbrev f_cmp_isNaN_int : Nat := 177
def c_cmp_isNaN_int : CFn := { frz := true,rnd := none,nargs := 1,ntmps := 6,res := [(.slot 2)],code :=
  (sQ (rG 0 [mB 0 2 false] [0])
  (sQ (rG 0 [mS 0 3 0,mS 1 4 0,bS 2 5 .neq 3 4,mS 3 2 5] [2])
  .ret)) }
abbrev f_track_within : Nat := 178
def c_track_within : CFn := { frz := true,rnd := none,nargs := 3,ntmps := 15,res := [(.slot 6)],code :=
  (sQ (rG 0 [mB 0 6 false] [1,0,2])
  (sQ (rG 0 [mS 0 7 1,mS 1 8 0,bS 2 9 .leq 7 8,mS 3 10 9,oG 4 11 10 true (.mv (.s 0)),oG 5 12 10 true (.mv (.s 2)),oG 6 13 10 true (.bin .leq (.s 11) (.s 12)),o1 7 14 (.pick (.s 10) (.s 13) (kB false)),mS 8 6 14] [6])
  .ret)) }
def c_slices_IndexFunc_int64_l1 : CC := (sQ (rG 0 [bS 0 9 .lss 8 7] [9,0,1,7,8])
  (sQ (.cond (.s 9) .skip
  (.exit 0))
  (sQ (.block 1 (sQ (rG 0 [mS 0 10 8,mS 1 5 10] [0,1,7,8,5])
  (sQ (rG 0 [mS 0 11 1,mS 1 12 0,mS 2 13 5,iA 3 14 1 12 13,lF 4 15 14,⟨5,(some 16),none,.call ⟨true⟩ (.s 11) [(.s 15)]⟩] [16,0,1,7,8,5])
  (.cond (.s 16) (sQ (rG 0 [mS 0 17 5,mS 1 4 17] [4])
  .ret)
  .skip))))
  (rG 0 [bI 0 18 .add 8 1,mS 1 8 18] [7,1,0,8]))))
abbrev f_slices_IndexFunc_int64 : Nat := 179
def c_slices_IndexFunc_int64 : CFn := { frz := true,rnd := none,nargs := 2,ntmps := 19,res := [(.slot 4)],code :=
  (sQ (rG 0 [mI 0 4 0] [1,0])
  (sQ (sQ (rG 0 [mS 0 6 0,lN 1 7 6,mI 2 8 0] [7,1,0,8])
  (.block 0 (.loop (some [7,1,0,8]) c_slices_IndexFunc_int64_l1)))
  (sQ (rG 0 [mI 0 4 (-1)] [4])
  .ret))) }
abbrev f_plan_judge_ahead : Nat := 180
def c_plan_judge_ahead : CFn := { frz := true,rnd := none,nargs := 4,ntmps := 10,res := [(.slot 8)],code :=
  (sQ (rG 4 [o1 0 4 (.box 0 1 (.s 0)),o1 1 5 (.box 1 6 (.s 1)),o1 2 6 (.box 2 1 (.s 2)),o1 3 7 (.box 3 1 (.s 3)),o1 4 8 (.mv (.k (.c .nilfn)))] [7,5,4,6])
  (sQ (rG 0 [o1 0 9 (.mkfn 218 [] [(.s 6),(.s 4),(.s 5),(.s 7)]),mS 1 8 9] [8])
  .ret)) }
abbrev f_plan_judge_onRoute : Nat := 181
def c_plan_judge_onRoute : CFn := { frz := true,rnd := none,nargs := 1,ntmps := 15,res := [(.slot 2)],code :=
  (sQ (rG 0 [mI 0 2 0] [0])
  (sQ (sQ (rG 0 [mS 0 3 0,nC 1 4 3,fA 2 5 19 4,fA 3 6 2 5,fA 4 7 1 6,mS 6 9 0,nC 7 10 9,fA 8 11 0 10,fA 9 12 7 11,lF 5 8 7,lF 10 13 12,bS 11 14 .gtr 8 13] [14])
  (.cond (.s 14) (sQ (rG 0 [mI 0 2 3] [2])
  .ret)
  .skip))
  (sQ (rG 0 [mI 0 2 0] [2])
  .ret))) }
abbrev f_plan_judge_slow : Nat := 182
def c_plan_judge_slow : CFn := { frz := true,rnd := none,nargs := 1,ntmps := 26,res := [(.slot 2)],code :=
  (sQ (rG 0 [mI 0 2 0] [0])
  (sQ (sQ (rG 1 [mS 0 4 0,nC 1 5 4,fA 2 6 19 5,fA 3 7 2 6,lT 4 8 4 7,o1 5 3 (.box 0 4 (.k (.a [(I 0),(I 0),(I 0),(I 0)]))),o0 6 (.store 4 (.s 3) (.s 8))] [3,0])
  (sQ (.region 0 [fA 0 9 3 3,mS 2 11 0,nC 3 12 11,fA 4 13 0 12,fA 6 15 0 3,fA 8 17 1 3,mS 10 19 0,nC 11 20 19,fA 12 21 19 20,fA 13 22 0 21,lF 1 10 9,lT 5 14 11 13,lF 7 16 15,lF 9 18 17,lF 14 23 22,cA 15 24 219 [(.s 14),(.s 16),(.s 18),(.s 23)],bS 16 25 .gtr 10 24] [(10,15)] (some [25]))
  (.cond (.s 25) (sQ (rG 0 [mI 0 2 2] [2])
  .ret)
  .skip)))
  (sQ (rG 0 [mI 0 2 0] [2])
  .ret))) }
def c_plan_judge_apart_l1 : CC := (sQ (rG 0 [bS 0 19 .lss 18 17] [19,0,16,17,18])
  (sQ (.cond (.s 19) .skip
  (.exit 0))
  (sQ (.block 1 (sQ (rG 1 [iA 0 20 4 16 18,lT 1 21 4 20,o1 2 4 (.box 0 4 (.k (.a [(I 0),(I 0),(I 0),(.bool false)]))),o0 3 (.store 4 (.s 4) (.s 21))] [4,0,16,17,18])
  (sQ (rG 0 [mS 0 22 0,nC 1 23 22,fA 2 24 0 23,fA 3 25 5 24,fA 5 27 0 4,lF 4 26 25,lF 6 28 27,cA 7 29 132 [(.s 26),(.s 28)],mS 8 5 29] [5,4,0,16,17,18])
  (sQ (rG 0 [mS 0 30 5,bI 1 31 .geq 30 0,mS 2 32 31,oG 3 33 32 true (.faddr 3 (.s 4)),oG 4 34 32 true (.load false 1 (.s 33)),oG 5 35 32 true (.un .not (.s 34)),o1 6 36 (.pick (.s 32) (.s 35) (kB false)),mS 7 37 36,oG 8 38 37 true (.mv (.s 0)),oG 9 39 37 true (.nilck (.s 38)),oG 10 40 37 true (.faddr 0 (.s 39)),oG 11 41 37 true (.faddr 6 (.s 40)),oG 13 43 37 true (.mv (.s 5)),oG 16 46 37 true (.faddr 1 (.s 4)),oG 19 49 37 true (.mv (.s 0)),oG 20 50 37 true (.nilck (.s 49)),oG 21 51 37 true (.faddr 19 (.s 50)),oG 22 52 37 true (.faddr 2 (.s 51)),oG 23 53 37 true (.faddr 1 (.s 52)),oG 12 42 37 true (.load false 1 (.s 41)),oG 14 44 37 true (.iaddr 1 (.s 42) (.s 43)),oG 15 45 37 true (.load false 1 (.s 44)),oG 17 47 37 true (.load false 1 (.s 46)),oG 18 48 37 true (.bin .add (.s 45) (.s 47)),oG 24 54 37 true (.load false 1 (.s 53)),oG 25 55 37 true (.bin .leq (.s 48) (.s 54)),o1 26 56 (.pick (.s 37) (.s 55) (kB false))] [56,0,16,17,18])
  (.cond (.s 56) (sQ (rG 0 [mI 0 2 4] [2])
  .ret)
  .skip)))))
  (rG 0 [bI 0 57 .add 18 1,mS 1 18 57] [17,16,0,18]))))
abbrev f_plan_judge_apart : Nat := 183
def c_plan_judge_apart : CFn := { frz := true,rnd := none,nargs := 1,ntmps := 58,res := [(.slot 2)],code :=
  (sQ (rG 0 [mI 0 2 0] [0])
  (sQ (sQ (rG 0 [mS 0 6 0,nC 1 7 6,fA 2 8 19 7,fA 3 9 2 8,fA 4 10 3 9,lF 5 11 10,bI 6 12 .eql 11 0] [12,0])
  (.cond (.s 12) (sQ (rG 0 [mI 0 2 0] [2])
  .ret)
  .skip))
  (sQ (sQ (rG 0 [mS 0 13 0,nC 1 14 13,fA 2 15 25 14,lF 3 16 15,lN 4 17 16,mI 5 18 0] [17,16,0,18])
  (.block 0 (.loop (some [17,16,0,18]) c_plan_judge_apart_l1)))
  (sQ (rG 0 [mI 0 2 0] [2])
  .ret)))) }
def c_plan_judge_alone_l1 : CC := (sQ (rG 0 [bS 0 32 .lss 31 30] [32,0,4,3,29,30,31])
  (sQ (.cond (.s 32) .skip
  (.exit 0))
  (sQ (.block 1 (sQ (rG 1 [iA 0 33 10 29 31,lT 1 34 10 33,o1 2 6 (.box 0 10 (.k (.a [(I 0),(I 0),(I 0),(I 0),(I 0),(I 0),(I 0),(I 0),(I 0),(I 0)]))),o0 3 (.store 10 (.s 6) (.s 34))] [6,0,4,3,29,30,31])
  (sQ (rG 0 [o1 0 35 (.mkfn 220 [] [(.s 6),(.s 4),(.s 3)]),mS 1 7 35] [7,6,0,4,3,29,30,31])
  (sQ (rG 0 [mS 0 36 0,nC 1 37 36,fA 2 38 11 37,lF 3 39 38,mS 4 40 7,cA 5 41 80 [(.s 39),(.s 40)],mS 6 42 41,oG 7 43 42 true (.mv (.s 0)),oG 8 44 42 true (.load true 10 (.s 6)),⟨9,(some 45),(some (42,true)),.call ⟨true⟩ (.k (.c (.fn 221 [] []))) [(.s 43),(.s 44)]⟩,o1 10 46 (.pick (.s 42) (.s 45) (kB false))] [46,0,4,3,29,30,31])
  (.cond (.s 46) (sQ (rG 0 [mI 0 2 5] [2])
  .ret)
  .skip)))))
  (rG 0 [bI 0 47 .add 31 1,mS 1 31 47] [30,29,3,4,0,31]))))
abbrev f_plan_judge_alone : Nat := 184
def c_plan_judge_alone : CFn := { frz := true,rnd := none,nargs := 1,ntmps := 48,res := [(.slot 2)],code :=
  (sQ (rG 0 [mI 0 2 0] [0])
  (sQ (.region 2 [mS 0 8 0,nC 1 9 8,fA 2 10 13 9,fA 3 11 2 10,fA 4 12 0 11,mS 6 14 0,nC 7 15 14,fA 8 16 0 15,fA 9 17 8 16,mS 12 20 0,nC 13 21 20,fA 14 22 19 21,fA 15 23 2 22,fA 16 24 1 23,lF 5 13 12,lF 10 18 17,bS 11 19 .sub 13 18,lF 17 25 24,o1 18 3 (.box 0 1 (.k (.a [(I 0)]))),o1 19 4 (.box 1 1 (.k (.a [(I 0)]))),o0 20 (.store 1 (.s 3) (.s 19)),o0 21 (.store 1 (.s 4) (.s 25))] [(14,18),(14,19),(15,18),(15,19),(17,18),(17,19),(17,20),(18,19)] (some [3,4,0]))
  (sQ (sQ (rG 0 [mS 0 26 0,nC 1 27 26,fA 2 28 12 27,lF 3 29 28,lN 4 30 29,mI 5 31 0] [30,29,3,4,0,31])
  (.block 0 (.loop (some [30,29,3,4,0,31]) c_plan_judge_alone_l1)))
  (sQ (rG 0 [mI 0 2 0] [2])
  .ret)))) }
def c_plan_judge_allowed_l1 : CC := (sQ (rG 0 [bS 0 13 .lss 12 11] [13,0,10,11,12])
  (sQ (.cond (.s 13) .skip
  (.exit 0))
  (sQ (.block 1 (sQ (rG 1 [iA 0 14 10 10 12,lT 1 15 10 14,o1 2 4 (.box 0 10 (.k (.a [(I 0),(I 0),(I 0),(I 0),(I 0),(I 0),(I 0),(I 0),(I 0),(I 0)]))),o0 3 (.store 10 (.s 4) (.s 15))] [4,0,10,11,12])
  (sQ (.region 1 [mS 0 16 0,nC 1 17 16,fA 2 18 0 17,fA 3 19 0 18,fA 4 20 2 19,fA 6 22 0 4,lF 5 21 20,lF 7 23 22,iA 8 24 2 21 23,lT 9 25 2 24,o1 10 5 (.box 0 2 (.k (.a [.nilslice,(I 0)]))),o0 11 (.store 2 (.s 5) (.s 25))] [(6,10),(7,10),(9,10)] (some [5,4,0,10,11,12]))
  (sQ (rG 0 [fA 0 26 1 5,lF 1 27 26,bI 2 28 .gtr 27 0,mS 3 29 28,oG 4 30 29 true (.mv (.s 0)),oG 5 31 29 true (.nilck (.s 30)),oG 6 32 29 true (.faddr 19 (.s 31)),oG 7 33 29 true (.faddr 2 (.s 32)),oG 8 34 29 true (.faddr 1 (.s 33)),oG 10 36 29 true (.faddr 2 (.s 4)),oG 11 37 29 true (.faddr 2 (.s 36)),oG 9 35 29 true (.load false 1 (.s 34)),oG 12 38 29 true (.load false 1 (.s 37)),oG 13 39 29 true (.bin .geq (.s 35) (.s 38)),o1 14 40 (.pick (.s 29) (.s 39) (kB false)),mS 15 41 40,oG 16 42 41 true (.mv (.s 0)),oG 17 43 41 true (.nilck (.s 42)),oG 18 44 41 true (.faddr 13 (.s 43)),oG 19 45 41 true (.faddr 2 (.s 44)),oG 20 46 41 true (.faddr 0 (.s 45)),oG 22 48 41 true (.faddr 2 (.s 4)),oG 23 49 41 true (.faddr 2 (.s 48)),oG 21 47 41 true (.load false 1 (.s 46)),oG 24 50 41 true (.load false 1 (.s 49)),oG 25 51 41 true (.bin .lss (.s 47) (.s 50)),o1 26 52 (.pick (.s 41) (.s 51) (kB false)),mS 27 6 52] [6,5,4,0,10,11,12])
  (sQ (rG 0 [mS 0 53 6,mS 1 54 53,oG 2 55 54 true (.mv (.s 0)),oG 3 56 54 true (.nilck (.s 55)),oG 4 57 54 true (.faddr 0 (.s 56)),oG 5 58 54 true (.faddr 0 (.s 57)),oG 6 59 54 true (.faddr 3 (.s 58)),oG 8 61 54 true (.faddr 1 (.s 5)),oG 13 66 54 true (.faddr 0 (.s 5)),oG 15 68 54 true (.faddr 1 (.s 4)),oG 20 73 54 true (.mv (.s 0)),oG 21 74 54 true (.nilck (.s 73)),oG 22 75 54 true (.faddr 13 (.s 74)),oG 23 76 54 true (.faddr 0 (.s 75)),oG 7 60 54 true (.load false 1 (.s 59)),oG 9 62 54 true (.load false 1 (.s 61)),oG 10 63 54 true (.bin .sub (.s 62) (kI 1)),oG 11 64 54 true (.iaddr 2 (.s 60) (.s 63)),oG 12 65 54 true (.load true 2 (.s 64)),oG 14 67 54 true (.load false 1 (.s 66)),oG 16 69 54 true (.load false 1 (.s 68)),oG 17 70 54 true (.iaddr 4 (.s 67) (.s 69)),oG 18 71 54 true (.faddr 0 (.s 70)),oG 19 72 54 true (.load false 1 (.s 71)),oG 24 77 54 true (.load false 1 (.s 76)),⟨25,(some 78),(some (54,true)),.call ⟨true⟩ (.k (.c (.fn 222 [] []))) [(.s 65),(.s 72),(.s 77)]⟩,oG 26 79 54 true (.un .not (.s 78)),o1 27 80 (.pick (.s 54) (.s 79) (kB false))] [80,0,10,11,12])
  (.cond (.s 80) (sQ (rG 0 [mI 0 2 6] [2])
  .ret)
  .skip))))))
  (rG 0 [bI 0 81 .add 12 1,mS 1 12 81] [11,10,0,12]))))
abbrev f_plan_judge_allowed : Nat := 185
def c_plan_judge_allowed : CFn := { frz := true,rnd := none,nargs := 1,ntmps := 82,res := [(.slot 2)],code :=
  (sQ (rG 0 [mI 0 2 0] [0])
  (sQ (sQ (rG 0 [mS 0 7 0,nC 1 8 7,fA 2 9 12 8,lF 3 10 9,lN 4 11 10,mI 5 12 0] [11,10,0,12])
  (.block 0 (.loop (some [11,10,0,12]) c_plan_judge_allowed_l1)))
  (sQ (rG 0 [mI 0 2 0] [2])
  .ret))) }
abbrev f_plan_judge_stands : Nat := 186
def c_plan_judge_stands : CFn := { frz := true,rnd := none,nargs := 1,ntmps := 21,res := [(.slot 2)],code :=
  (sQ (rG 1 [o1 0 1 (.box 0 1 (.s 0)),mB 1 2 false] [1])
  (sQ (rG 1 [lF 0 4 1,nC 1 5 4,fA 2 6 13 5,fA 3 7 2 6,lT 4 8 4 7,o1 5 3 (.box 0 4 (.k (.a [(I 0),(I 0),(I 0),(I 0)]))),o0 6 (.store 4 (.s 3) (.s 8))] [1,3])
  (sQ (rG 0 [fA 0 9 3 3,lF 1 10 9,bI 2 11 .eql 10 0,mS 3 12 11,oG 4 13 12 true (.load false 1 (.s 1)),oG 5 14 12 true (.nilck (.s 13)),oG 6 15 12 true (.faddr 12 (.s 14)),oG 7 16 12 true (.load false 1 (.s 15)),oG 8 17 12 true (.mkfn 224 [] [(.s 3),(.s 1)]),⟨9,(some 18),(some (12,true)),.call ⟨true⟩ (.k (.c (.fn 223 [] []))) [(.s 16),(.s 17)]⟩,oG 10 19 12 true (.un .not (.s 18)),o1 11 20 (.pick (.s 12) (.s 19) (kB false)),mS 12 2 20] [2])
  .ret))) }
abbrev f_motion_Course_Drive : Nat := 187
def c_motion_Course_Drive : CFn := { frz := true,rnd := none,nargs := 3,ntmps := 56,res := [(.cell 6 true 4)],code :=
  (sQ (rG 4 [o1 0 3 (.box 0 11 (.s 0)),o1 1 4 (.box 1 4 (.s 1)),o1 2 5 (.box 2 1 (.s 2)),o1 3 6 (.box 3 4 (.k (.a [(I 0),(I 0),(I 0),(I 0)])))] [3,5,4,6])
  (sQ (.region 1 [fA 0 12 0 3,fA 1 13 1 12,fA 3 15 5 3,lF 2 14 13,lF 4 16 15,o1 5 17 (.iaddr 1 (.s 16) (kI 0)),lF 6 18 17,iA 7 19 5 14 18,fA 8 20 0 19,lF 9 21 20,cA 10 22 65 [(.s 21)],mS 11 11 22,eX 12 23 11 0,eX 13 24 11 1,eX 14 25 11 2,o1 15 7 (.box 0 1 (.k (.a [(I 0)]))),o0 16 (.store 1 (.s 7) (.s 23)),mS 17 8 24,mS 18 9 25] [(3,15),(4,15),(6,15),(9,15),(10,15)] (some [9,8,7,5,4,6]))
  (sQ (rG 0 [mS 0 26 9,o1 1 27 (.un .neg (.s 26)),lF 2 28 5,mS 3 29 8,o1 4 30 (.minmax false [(.s 28),(.s 29)]),o1 5 31 (.minmax true [(.s 27),(.s 30)]),o0 6 (.store 1 (.s 5) (.s 31))] [7,5,4,6])
  (sQ (rG 0 [o1 0 32 (.mkfn 225 [] [(.s 5),(.s 7)]),mS 1 10 32] [10,4,6])
  (sQ (.region 0 [mS 0 33 10,fA 1 34 2 4,mS 4 37 10,fA 5 38 3 4,lF 2 35 34,lF 6 39 38,⟨3,(some 36),none,.call ⟨true⟩ (.s 33) [(.s 35)]⟩,fA 8 41 2 4,⟨7,(some 40),none,.call ⟨true⟩ (.s 37) [(.s 39)]⟩,o0 9 (.store 1 (.s 41) (.s 36)),fA 10 42 3 4,o0 11 (.store 1 (.s 42) (.s 40))] [(5,6)] (some [4,6]))
  (sQ (rG 0 [fA 0 43 0 4,lF 1 44 43,fA 2 45 2 4,lF 3 46 45,bS 4 47 .add 44 46,fA 5 48 1 4,lF 6 49 48,fA 7 50 3 4,lF 8 51 50,bS 9 52 .add 49 51,fA 10 53 0 4,o0 11 (.store 1 (.s 53) (.s 47)),fA 12 54 1 4,o0 13 (.store 1 (.s 54) (.s 52))] [4,6])
  (sQ (rG 0 [lT 0 55 4 4,o0 1 (.store 4 (.s 6) (.s 55))] [6])
  .ret))))))) }
def c_track_Found_l1 : CC := (sQ (rG 0 [bS 0 28 .lss 27 26] [28,7,27,26,5,21,20,1,25,2,6])
  (sQ (.cond (.s 28) .skip
  (.exit 2))
  (sQ (.block 3 (sQ (rG 1 [iA 0 29 3 25 27,lT 1 30 3 29,o1 2 9 (.box 0 3 (.k (.a [(I 0),(I 0),(I 0)]))),o0 3 (.store 3 (.s 9) (.s 30))] [7,9,27,26,5,21,20,1,25,2,6])
  (rG 0 [mS 0 31 7,lT 1 32 5 2,mS 2 33 6,lT 3 34 3 9,cA 4 35 197 [(.s 32),(.s 33),(.s 34)],o1 5 36 (.append 5 40 (.s 31) (.s 35)),mS 6 7 36] [27,7,26,5,21,20,1,25,2,6])))
  (rG 0 [bI 0 37 .add 27 1,mS 1 27 37] [7,27,26,5,21,20,1,25,2,6]))))
def c_track_Found_l2 : CC := (sQ (rG 0 [bS 0 45 .lss 44 43] [45,44,43,2,1,20,21,42,10,5])
  (sQ (.cond (.s 45) .skip
  (.exit 4))
  (sQ (.block 5 (sQ (rG 1 [iA 0 46 5 42 44,lT 1 47 5 46,o1 2 12 (.box 0 5 (.k (.a [(I 0),(I 0),(I 0),(I 0),(I 0)]))),o0 3 (.store 5 (.s 12) (.s 47))] [12,44,43,2,1,20,21,42,10,5])
  (sQ (sQ (rG 0 [mS 0 48 5,lN 1 49 48,bI 2 50 .sub 49 1,mS 3 13 50] [13,12,44,43,2,1,20,21,42,10,5])
  (sQ (rG 0 [mS 0 51 13,mS 1 52 10,bS 2 53 .geq 51 52,mS 3 54 53,oG 4 55 54 true (.faddr 1 (.s 12)),oG 6 57 54 true (.mv (.s 5)),oG 7 58 54 true (.mv (.s 13)),oG 8 59 54 true (.iaddr 5 (.s 57) (.s 58)),oG 9 60 54 true (.faddr 2 (.s 59)),oG 5 56 54 true (.load false 1 (.s 55)),oG 10 61 54 true (.load false 1 (.s 60)),oG 11 62 54 true (.bin .sub (.s 56) (.s 61)),oG 12 63 54 true (.bin .leq (.s 62) (kI 500)),o1 13 64 (.pick (.s 54) (.s 63) (kB false))] [64,13,12,44,43,2,1,20,21,42,10,5])
  (.cond (.s 64) (sQ (rG 0 [mS 0 65 5,mS 1 66 13,iA 2 67 5 65 66,mS 3 14 67] [14,12,44,43,2,1,20,21,42,10,5])
  (sQ (.region 0 [mS 0 68 14,mS 1 69 14,mS 2 70 14,mS 3 71 14,nC 4 72 71,fA 5 73 2 72,fA 7 75 2 12,mS 10 78 14,nC 11 79 78,fA 12 80 3 79,fA 14 82 3 12,mS 17 85 14,nC 18 86 85,fA 19 87 4 86,fA 21 89 4 12,lF 6 74 73,lF 8 76 75,lF 13 81 80,lF 15 83 82,lF 20 88 87,lF 22 90 89,o1 9 77 (.minmax true [(.s 74),(.s 76)]),nC 24 92 68,fA 25 93 2 92,o1 16 84 (.minmax false [(.s 81),(.s 83)]),o1 23 91 (.minmax true [(.s 88),(.s 90)]),o0 26 (.store 1 (.s 93) (.s 77)),nC 27 94 69,fA 28 95 3 94,o0 29 (.store 1 (.s 95) (.s 84)),nC 30 96 70,fA 31 97 4 96,o0 32 (.store 1 (.s 97) (.s 91))] [(18,26),(20,26),(20,29)] (some [44,43,2,1,20,21,42,10,5]))
  (.exit 5)))
  .skip)))
  (rG 1 [mS 0 98 5,lT 1 99 5 12,o1 2 100 (.lit 0 5 [[(I 0),(I 0),(I 0),(I 0),(I 0)]] [(0,(.s 99))]),o1 3 101 (.append 5 40 (.s 98) (.s 100)),mS 4 5 101] [44,43,2,1,20,21,42,10,5]))))
  (rG 0 [bI 0 102 .add 44 1,mS 1 44 102] [44,43,2,1,20,21,42,10,5]))))
def c_track_Found_l3 : CC := (sQ (rG 0 [bS 0 22 .lss 21 20] [22,5,21,20,1,2])
  (sQ (.cond (.s 22) .skip
  (.exit 0))
  (sQ (.block 1 (sQ (rG 0 [mS 0 23 21,mS 1 6 23] [5,21,20,1,2,6])
  (sQ (rG 1 [o1 0 7 (.newsl 0 5)] [7,5,21,20,1,2,6])
  (sQ (sQ (rG 0 [mS 0 24 1,cA 1 25 194 [(.s 24)],lN 2 26 25,mI 3 27 0] [7,27,26,5,21,20,1,25,2,6])
  (.block 2 (.loop (some [7,27,26,5,21,20,1,25,2,6]) c_track_Found_l1)))
  (sQ (rG 0 [mS 0 38 7,⟨1,(some 39),none,.call ⟨false⟩ (.k (.c (.fn 226 [] []))) [(.s 38),(.k (.c (.fn 227 [] [])))]⟩] [7,2,1,20,21,5])
  (sQ (rG 0 [mS 0 40 5,lN 1 41 40,mS 2 10 41] [7,2,1,20,21,10,5])
  (sQ (rG 0 [mS 0 42 7,lN 1 43 42,mI 2 44 0] [44,43,2,1,20,21,42,10,5])
  (.block 4 (.loop (some [44,43,2,1,20,21,42,10,5]) c_track_Found_l2)))))))))
  (rG 0 [bI 0 103 .add 21 1,mS 1 21 103] [5,21,20,1,2]))))
abbrev f_track_Found : Nat := 188
def c_track_Found : CFn := { frz := true,rnd := none,nargs := 2,ntmps := 105,res := [(.slot 4)],code :=
  (sQ (rG 2 [o1 0 2 (.box 0 5 (.s 0)),o1 1 4 (.newsl 1 5)] [2,1])
  (sQ (sQ (rG 0 [lT 0 15 5 2,cA 1 16 38 [(.s 15)],bI 2 17 .neq 16 0] [17,2,1])
  (.cond (.s 17) (sQ (rG 1 [o1 0 4 (.newsl 0 5)] [4])
  .ret)
  .skip))
  (sQ (rG 1 [o1 0 5 (.newsl 0 5)] [5,1,2])
  (sQ (sQ (rG 0 [fA 0 18 1 2,lF 1 19 18,lN 2 20 19,mI 3 21 0] [5,21,20,1,2])
  (.block 0 (.loop (some [5,21,20,1,2]) c_track_Found_l3)))
  (sQ (rG 0 [mS 0 104 5,mS 1 4 104] [4])
  .ret))))) }
def c_track_whole_l1 : CC := (sQ (rG 0 [bS 0 14 .lss 13 12] [14,5,13,12,11,2])
  (sQ (.cond (.s 14) .skip
  (.exit 0))
  (sQ (.block 1 (sQ (rG 1 [iA 0 15 3 11 13,lT 1 16 3 15,o1 2 7 (.box 0 3 (.k (.a [(I 0),(I 0),(I 0)]))),o0 3 (.store 3 (.s 7) (.s 16))] [5,7,13,12,11,2])
  (sQ (rG 0 [lT 0 17 5 2,lT 1 18 3 7,cA 2 19 228 [(.s 17),(.s 18)]] [19,5,7,13,12,11,2])
  (.cond (.s 19) (rG 1 [mS 0 20 5,fA 1 21 0 7,lF 2 22 21,fA 3 23 1 7,lF 4 24 23,fA 5 25 2 7,lF 6 26 25,o1 7 27 (.build [(I 0),(I 0),(I 0),(I 0),(I 0),(I 0)] [(0,1,(.s 22)),(1,1,(.s 24)),(2,1,(.s 26))]),o1 8 28 (.lit 0 6 [[(I 0),(I 0),(I 0),(I 0),(I 0),(I 0)]] [(0,(.s 27))]),o1 9 29 (.append 6 48 (.s 20) (.s 28)),mS 10 5 29] [13,5,12,11,2])
  .skip))))
  (rG 0 [bI 0 30 .add 13 1,mS 1 13 30] [5,13,12,11,2]))))
def c_track_whole_l2 : CC := (sQ (rG 0 [bS 0 35 .lss 34 33] [35,8,34,33,32])
  (sQ (.cond (.s 35) .skip
  (.exit 2))
  (sQ (.block 3 (sQ (rG 1 [iA 0 36 6 32 34,lT 1 37 6 36,o1 2 10 (.box 0 6 (.k (.a [(I 0),(I 0),(I 0),(I 0),(I 0),(I 0)]))),o0 3 (.store 6 (.s 10) (.s 37))] [8,10,34,33,32])
  (rG 1 [mS 0 38 8,fA 1 39 0 10,lF 2 40 39,fA 3 41 1 10,lF 4 42 41,fA 5 43 2 10,lF 6 44 43,o1 7 45 (.build [(I 0),(I 0),(I 0)] [(0,1,(.s 40)),(1,1,(.s 42)),(2,1,(.s 44))]),o1 8 46 (.lit 0 3 [[(I 0),(I 0),(I 0)]] [(0,(.s 45))]),o1 9 47 (.append 3 24 (.s 38) (.s 46)),mS 10 8 47] [34,8,33,32])))
  (rG 0 [bI 0 48 .add 34 1,mS 1 34 48] [8,34,33,32]))))
abbrev f_track_whole : Nat := 189
def c_track_whole : CFn := { frz := true,rnd := none,nargs := 2,ntmps := 50,res := [(.slot 4)],code :=
  (sQ (rG 2 [o1 0 2 (.box 0 5 (.s 0)),o1 1 4 (.newsl 1 3)] [1,2])
  (sQ (rG 1 [o1 0 5 (.newsl 0 6)] [1,5,2])
  (sQ (sQ (rG 0 [mS 0 11 1,lN 1 12 11,mI 2 13 0] [5,13,12,11,2])
  (.block 0 (.loop (some [5,13,12,11,2]) c_track_whole_l1)))
  (sQ (rG 1 [o1 0 8 (.newsl 0 3)] [5,8])
  (sQ (sQ (rG 0 [mS 0 31 5,cA 1 32 229 [(.s 31)],lN 2 33 32,mI 3 34 0] [8,34,33,32])
  (.block 2 (.loop (some [8,34,33,32]) c_track_whole_l2)))
  (sQ (rG 0 [mS 0 49 8,mS 1 4 49] [4])
  .ret)))))) }
def c_track_Free_l1 : CC := (sQ (rG 0 [bS 0 20 .lss 19 18] [20,7,19,18,17,3])
  (sQ (.cond (.s 20) .skip
  (.exit 0))
  (sQ (.block 1 (sQ (rG 1 [iA 0 21 5 17 19,lT 1 22 5 21,o1 2 9 (.box 0 5 (.k (.a [(I 0),(I 0),(I 0),(I 0),(I 0)]))),o0 3 (.store 5 (.s 9) (.s 22))] [9,7,19,18,17,3])
  (sQ (rG 1 [fA 0 23 0 9,lF 1 24 23,fA 2 25 1 9,lF 3 26 25,fA 4 27 2 9,lF 5 28 27,o1 6 29 (.build [(I 0),(I 0),(I 0)] [(0,1,(.s 24)),(1,1,(.s 26)),(2,1,(.s 28))]),o1 7 10 (.box 0 3 (.k (.a [(I 0),(I 0),(I 0)]))),o0 8 (.store 3 (.s 10) (.s 29))] [7,10,19,18,17,3])
  (sQ (rG 0 [lT 0 30 5 3,lT 1 31 3 10,cA 2 32 228 [(.s 30),(.s 31)]] [32,7,10,19,18,17,3])
  (.cond (.s 32) (rG 0 [mS 0 33 7,lT 1 34 3 10,cA 2 35 230 [(.s 33),(.s 34)],mS 3 7 35] [19,7,18,17,3])
  .skip)))))
  (rG 0 [bI 0 36 .add 19 1,mS 1 19 36] [7,19,18,17,3]))))
abbrev f_track_Free : Nat := 190
def c_track_Free : CFn := { frz := true,rnd := none,nargs := 3,ntmps := 38,res := [(.slot 6)],code :=
  (sQ (rG 2 [o1 0 3 (.box 0 5 (.s 0)),o1 1 6 (.newsl 1 3)] [3,2,1])
  (sQ (sQ (rG 0 [lT 0 11 5 3,cA 1 12 38 [(.s 11)],bI 2 13 .neq 12 0] [13,3,2,1])
  (.cond (.s 13) (sQ (rG 1 [o1 0 6 (.newsl 0 3)] [6])
  .ret)
  .skip))
  (sQ (rG 0 [lT 0 14 5 3,mS 1 15 1,cA 2 16 189 [(.s 14),(.s 15)],mS 3 7 16] [2,7,3])
  (sQ (sQ (rG 0 [mS 0 17 2,lN 1 18 17,mI 2 19 0] [7,19,18,17,3])
  (.block 0 (.loop (some [7,19,18,17,3]) c_track_Free_l1)))
  (sQ (rG 0 [mS 0 37 7,mS 1 6 37] [6])
  .ret))))) }
abbrev f_slices_ContainsFunc_Span : Nat := 191
def c_slices_ContainsFunc_Span : CFn := { frz := true,rnd := none,nargs := 2,ntmps := 9,res := [(.slot 4)],code :=
  (sQ (rG 0 [mB 0 4 false] [0,1])
  (sQ (rG 0 [mS 0 5 0,mS 1 6 1,cA 2 7 231 [(.s 5),(.s 6)],bI 3 8 .geq 7 0,mS 4 4 8] [4])
  .ret)) }
abbrev f_track_Update_1 : Nat := 192
def c_track_Update_1 : CFn := { frz := true,rnd := none,nargs := 2,ntmps := 23,res := [(.slot 3)],code :=
  (sQ (rG 1 [o1 0 2 (.box 0 3 (.s 0)),mB 1 3 false] [1,2])
  (sQ (rG 0 [fA 0 4 0 2,lF 1 5 4,fA 2 6 0 1,lF 3 7 6,bS 4 8 .eql 5 7,mS 5 9 8,oG 6 10 9 true (.faddr 1 (.s 2)),oG 7 11 9 true (.load false 1 (.s 10)),oG 8 12 9 true (.faddr 1 (.s 1)),oG 9 13 9 true (.load false 1 (.s 12)),oG 10 14 9 true (.bin .leq (.s 11) (.s 13)),o1 11 15 (.pick (.s 9) (.s 14) (kB false)),mS 12 16 15,oG 13 17 16 true (.faddr 2 (.s 1)),oG 14 18 16 true (.load false 1 (.s 17)),oG 15 19 16 true (.faddr 2 (.s 2)),oG 16 20 16 true (.load false 1 (.s 19)),oG 17 21 16 true (.bin .leq (.s 18) (.s 20)),o1 18 22 (.pick (.s 16) (.s 21) (kB false)),mS 19 3 22] [3])
  .ret)) }
def c_track_narrow_l1 : CC := (sQ (rG 0 [bS 0 14 .lss 13 12] [14,6,13,12,4,11,2])
  (sQ (.cond (.s 14) .skip
  (.exit 0))
  (sQ (.block 1 (sQ (rG 1 [iA 0 15 5 11 13,lT 1 16 5 15,o1 2 8 (.box 0 5 (.k (.a [(I 0),(I 0),(I 0),(I 0),(I 0)]))),o0 3 (.store 5 (.s 8) (.s 16))] [6,8,13,12,4,11,2])
  (sQ (rG 0 [fA 0 17 0 8,lF 1 18 17,fA 2 19 0 2,lF 3 20 19,bS 4 21 .eql 18 20,mS 5 22 21,oG 6 23 22 true (.faddr 1 (.s 8)),oG 7 24 22 true (.load false 1 (.s 23)),oG 8 25 22 true (.faddr 2 (.s 2)),oG 9 26 22 true (.load false 1 (.s 25)),oG 10 27 22 true (.bin .leq (.s 24) (.s 26)),o1 11 28 (.pick (.s 22) (.s 27) (kB false)),mS 12 29 28,oG 13 30 29 true (.faddr 1 (.s 2)),oG 14 31 29 true (.load false 1 (.s 30)),oG 15 32 29 true (.faddr 2 (.s 8)),oG 16 33 29 true (.load false 1 (.s 32)),oG 17 34 29 true (.bin .leq (.s 31) (.s 33)),o1 18 35 (.pick (.s 29) (.s 34) (kB false))] [35,6,8,13,12,4,11,2])
  (.cond (.s 35) (rG 1 [mS 0 36 6,lT 1 37 5 8,o1 2 38 (.lit 0 5 [[(I 0),(I 0),(I 0),(I 0),(I 0)]] [(0,(.s 37))]),o1 3 39 (.append 5 40 (.s 36) (.s 38)),mS 4 6 39] [13,6,12,4,11,2])
  .skip))))
  (rG 0 [bI 0 40 .add 13 1,mS 1 13 40] [6,13,12,4,11,2]))))
abbrev f_track_narrow : Nat := 193
def c_track_narrow : CFn := { frz := true,rnd := none,nargs := 2,ntmps := 67,res := [(.cell 4 true 6),(.slot 5)],code :=
  (sQ (rG 2 [o1 0 2 (.box 0 6 (.s 0)),o1 1 4 (.box 1 6 (.k (.a [(I 0),(I 0),(I 0),(I 0),(I 0),(I 0)]))),mB 2 5 false] [1,4,2])
  (sQ (rG 1 [o1 0 6 (.newsl 0 5)] [1,6,4,2])
  (sQ (sQ (rG 0 [mS 0 11 1,lN 1 12 11,mI 2 13 0] [6,13,12,4,11,2])
  (.block 0 (.loop (some [6,13,12,4,11,2]) c_track_narrow_l1)))
  (sQ (sQ (rG 0 [mS 0 41 6,lN 1 42 41,bI 2 43 .eql 42 0] [43,6,2,4])
  (.cond (.s 43) (sQ (rG 0 [lT 0 44 6 2,o0 1 (.store 6 (.s 4) (.s 44)),mB 2 5 true] [4,5])
  .ret)
  .skip))
  (sQ (rG 1 [mS 0 45 6,⟨1,(some 46),none,.call ⟨true⟩ (.k (.c (.fn 232 [] []))) [(.s 45),(.k (.c (.fn 233 [] [])))]⟩,o1 2 9 (.box 0 5 (.k (.a [(I 0),(I 0),(I 0),(I 0),(I 0)]))),o0 3 (.store 5 (.s 9) (.s 46))] [6,9,2,4])
  (sQ (rG 1 [mS 0 47 6,⟨1,(some 48),none,.call ⟨true⟩ (.k (.c (.fn 234 [] []))) [(.s 47),(.k (.c (.fn 235 [] [])))]⟩,o1 2 10 (.box 0 5 (.k (.a [(I 0),(I 0),(I 0),(I 0),(I 0)]))),o0 3 (.store 5 (.s 10) (.s 48))] [9,10,2,4])
  (sQ (.region 0 [fA 0 49 3 2,fA 2 51 3 9,fA 5 54 4 2,fA 7 56 4 10,lF 1 50 49,lF 3 52 51,lF 6 55 54,lF 8 57 56,o1 4 53 (.minmax true [(.s 50),(.s 52)]),fA 10 59 3 2,o1 9 58 (.minmax false [(.s 55),(.s 57)]),o0 11 (.store 1 (.s 59) (.s 53)),fA 12 60 4 2,o0 13 (.store 1 (.s 60) (.s 58))] [(7,11)] (some [2,4]))
  (sQ (.region 0 [fA 1 62 3 2,fA 3 64 4 2,lT 0 61 6 2,lF 2 63 62,lF 4 65 64,bS 5 66 .leq 63 65,o0 6 (.store 6 (.s 4) (.s 61)),mS 7 5 66] [(3,6),(4,6)] (some [4,5]))
  .ret)))))))) }
def c_track_counted_l1 : CC := (sQ (rG 0 [bS 0 13 .lss 12 11] [13,3,12,11,10])
  (sQ (.cond (.s 13) .skip
  (.exit 0))
  (sQ (.block 1 (sQ (rG 1 [iA 0 14 3 10 12,lT 1 15 3 14,o1 2 5 (.box 0 3 (.k (.a [(I 0),(I 0),(I 0)]))),o0 3 (.store 3 (.s 5) (.s 15))] [3,5,12,11,10])
  (sQ (rG 0 [fA 0 16 2 5,lF 1 17 16,cA 2 18 178 [(.s 17),(kI (-5)),(kI 2005)]] [18,3,5,12,11,10])
  (.cond (.s 18) (rG 1 [mS 0 19 3,lT 1 20 3 5,o1 2 21 (.lit 0 3 [[(I 0),(I 0),(I 0)]] [(0,(.s 20))]),o1 3 22 (.append 3 24 (.s 19) (.s 21)),mS 4 3 22] [12,3,11,10])
  .skip))))
  (rG 0 [bI 0 23 .add 12 1,mS 1 12 23] [3,12,11,10]))))
abbrev f_track_counted : Nat := 194
def c_track_counted : CFn := { frz := true,rnd := none,nargs := 1,ntmps := 25,res := [(.slot 2)],code :=
  (sQ (rG 1 [o1 0 2 (.newsl 0 3)] [0])
  (sQ (rG 1 [o1 0 3 (.newsl 0 3)] [0,3])
  (sQ (sQ (rG 0 [mS 0 6 0,mS 1 7 0,lN 2 8 7,o1 3 9 (.minmax false [(.s 8),(kI 1000)]),o1 4 10 (.slice 3 (.s 6) none (some (.s 9)) none),lN 5 11 10,mI 6 12 0] [3,12,11,10])
  (.block 0 (.loop (some [3,12,11,10]) c_track_counted_l1)))
  (sQ (rG 0 [mS 0 24 3,mS 1 2 24] [2])
  .ret)))) }
abbrev f_track_Explained_1 : Nat := 195
def c_track_Explained_1 : CFn := { frz := true,rnd := none,nargs := 3,ntmps := 25,res := [(.slot 4)],code :=
  (sQ (rG 1 [o1 0 3 (.box 0 6 (.s 0)),mB 1 4 false] [1,2,3])
  (sQ (rG 0 [fA 0 5 0 3,lF 1 6 5,bI 2 7 .geq 6 0,mS 3 8 7,oG 4 9 8 true (.faddr 0 (.s 3)),oG 5 10 8 true (.load false 1 (.s 9)),oG 6 11 8 true (.faddr 1 (.s 1)),oG 7 12 8 true (.load false 1 (.s 11)),oG 8 13 8 true (.len (.s 12)),oG 9 14 8 true (.bin .lss (.s 10) (.s 13)),o1 10 15 (.pick (.s 8) (.s 14) (kB false)),mS 11 16 15,oG 12 17 16 true (.load true 5 (.s 1)),oG 13 18 16 true (.faddr 0 (.s 3)),oG 14 19 16 true (.load false 1 (.s 18)),oG 15 20 16 true (.load true 3 (.s 2)),⟨16,(some 21),(some (16,true)),.call ⟨true⟩ (.k (.c (.fn 197 [] []))) [(.s 17),(.s 19),(.s 20)]⟩,oG 17 22 16 true (.mkfn 198 [] [(.s 3)]),⟨18,(some 23),(some (16,true)),.call ⟨true⟩ (.k (.c (.fn 196 [] []))) [(.s 21),(.s 22)]⟩,o1 19 24 (.pick (.s 16) (.s 23) (kB false)),mS 20 4 24] [4])
  .ret)) }
abbrev f_slices_ContainsFunc_Found : Nat := 196
def c_slices_ContainsFunc_Found : CFn := { frz := true,rnd := none,nargs := 2,ntmps := 9,res := [(.slot 4)],code :=
  (sQ (rG 0 [mB 0 4 false] [0,1])
  (sQ (rG 0 [mS 0 5 0,mS 1 6 1,cA 2 7 236 [(.s 5),(.s 6)],bI 3 8 .geq 7 0,mS 4 4 8] [4])
  .ret)) }
def c_track_feet_l1 : CC := (sQ (rG 0 [bS 0 24 .lss 23 22] [24,7,23,22,21,1,5,3])
  (sQ (.cond (.s 24) .skip
  (.exit 0))
  (sQ (.block 1 (sQ (rG 0 [iA 0 25 1 21 23,lF 1 26 25,mS 2 9 26] [7,9,23,22,21,1,5,3])
  (.region 1 [mS 0 27 7,mS 1 28 1,mS 2 29 9,bI 3 30 .sub 29 100,mS 5 32 9,bI 6 33 .add 32 100,mS 8 35 1,fA 11 38 2 5,fA 15 42 2 5,lT 7 34 5 3,lF 12 39 38,bI 13 40 .sub 39 5,lF 16 43 42,bI 17 44 .add 43 5,o1 4 31 (.minmax true [(kI 0),(.s 30)]),cA 9 36 61 [(.s 34),(.s 35)],o1 10 37 (.minmax false [(.s 33),(.s 36)]),o1 14 41 (.minmax true [(kI 0),(.s 40)]),o1 18 45 (.build [(I 0),(I 0),(I 0),(I 0),(I 0)] [(0,1,(.s 28)),(1,1,(.s 31)),(2,1,(.s 37)),(3,1,(.s 41)),(4,1,(.s 44))]),o1 19 46 (.lit 0 5 [[(I 0),(I 0),(I 0),(I 0),(I 0)]] [(0,(.s 45))]),o1 20 47 (.append 5 40 (.s 27) (.s 46)),mS 21 7 47] [(10,15),(12,15)] (some [23,7,22,21,1,5,3]))))
  (rG 0 [bI 0 48 .add 23 1,mS 1 23 48] [7,23,22,21,1,5,3]))))
abbrev f_track_feet : Nat := 197
def c_track_feet : CFn := { frz := true,rnd := none,nargs := 3,ntmps := 50,res := [(.slot 6)],code :=
  (sQ (rG 3 [o1 0 3 (.box 0 5 (.s 0)),o1 1 5 (.box 1 3 (.s 2)),o1 2 6 (.newsl 2 5)] [1,5,3])
  (sQ (rG 1 [o1 0 7 (.newsl 0 5)] [7,1,5,3])
  (sQ (sQ (rG 0 [fA 0 10 1 3,mS 2 12 1,fA 6 16 0 5,fA 8 18 1 5,mI 13 23 0,lF 1 11 10,iA 3 13 5 11 12,fA 4 14 1 13,lT 5 15 1 14,lF 7 17 16,lF 9 19 18,o1 10 20 (.build [(I 0),(I 0)] [(0,1,(.s 17)),(1,1,(.s 19))]),cA 11 21 237 [(.s 15),(.s 20),(kI 100)],lN 12 22 21] [7,23,22,21,1,5,3])
  (.block 0 (.loop (some [7,23,22,21,1,5,3]) c_track_feet_l1)))
  (sQ (rG 0 [mS 0 49 7,mS 1 6 49] [6])
  .ret)))) }
abbrev f_track_Explained_1_1 : Nat := 198
def c_track_Explained_1_1 : CFn := { frz := true,rnd := none,nargs := 2,ntmps := 16,res := [(.slot 3)],code :=
  (sQ (rG 1 [o1 0 2 (.box 0 5 (.s 0)),mB 1 3 false] [1,2])
  (sQ (rG 0 [fA 0 4 1 2,lF 1 5 4,fA 2 6 2 1,lF 3 7 6,bS 4 8 .leq 5 7,mS 5 9 8,oG 6 10 9 true (.faddr 1 (.s 1)),oG 7 11 9 true (.load false 1 (.s 10)),oG 8 12 9 true (.faddr 2 (.s 2)),oG 9 13 9 true (.load false 1 (.s 12)),oG 10 14 9 true (.bin .leq (.s 11) (.s 13)),o1 11 15 (.pick (.s 9) (.s 14) (kB false)),mS 12 3 15] [3])
  .ret)) }
abbrev f_slices_ContainsFunc_Blob : Nat := 199
def c_slices_ContainsFunc_Blob : CFn := { frz := true,rnd := none,nargs := 2,ntmps := 9,res := [(.slot 4)],code :=
  (sQ (rG 0 [mB 0 4 false] [0,1])
  (sQ (rG 0 [mS 0 5 0,mS 1 6 1,cA 2 7 238 [(.s 5),(.s 6)],bI 3 8 .geq 7 0,mS 4 4 8] [4])
  .ret)) }
def c_motion_Course_moved_l1 : CC := (sQ (rG 0 [bS 0 87 .lss 86 85] [87,5,14,84,85,86,13,8])
  (sQ (.cond (.s 87) .skip
  (.exit 0))
  (sQ (.block 1 (sQ (rG 0 [iA 0 88 1 84 86,lF 1 89 88,mS 2 16 89] [5,14,84,85,86,16,13,8])
  (sQ (rG 0 [mS 0 90 16,fA 1 91 2 5,lF 2 92 91,bS 3 93 .gtr 90 92,mS 4 94 93,oG 5 95 94 true (.mv (.s 14)),oG 6 96 94 true (.mv (.s 16)),oG 7 97 94 true (.bin .lss (.s 95) (.s 96)),oG 8 98 94 true (.mv (.s 97)),oG 9 99 98 false (.faddr 5 (.s 5)),oG 10 100 98 false (.load false 1 (.s 99)),oG 11 101 98 false (.bin .neq (.s 100) (kI 0)),oG 12 102 98 false (.mv (.s 101)),oG 13 103 102 true (.faddr 5 (.s 5)),oG 14 104 102 true (.load false 1 (.s 103)),oG 15 105 102 true (.mv (.s 16)),oG 16 106 102 true (.bin .leq (.s 104) (.s 105)),oG 17 107 98 false (.pick (.s 102) (.s 106) (kB false)),oG 18 108 94 true (.pick (.s 98) (kB true) (.s 107)),o1 19 109 (.pick (.s 94) (.s 108) (kB false))] [109,5,14,84,85,86,16,13,8])
  (.cond (.s 109) (sQ (rG 0 [fA 0 110 2 13,lF 1 111 110,mS 2 112 16,bI 3 113 .sub 112 1,o1 4 114 (.minmax false [(.s 111),(.s 113)]),mS 5 115 16,fA 6 116 2 13,o0 7 (.store 1 (.s 116) (.s 114)),fA 8 117 5 13,o0 9 (.store 1 (.s 117) (.s 115))] [13,8])
  (.exit 0))
  .skip))))
  (rG 0 [bI 0 118 .add 86 1,mS 1 86 118] [85,84,14,5,86,13,8]))))
abbrev f_motion_Course_moved : Nat := 200
def c_motion_Course_moved : CFn := { frz := true,rnd := none,nargs := 4,ntmps := 125,res := [(.cell 8 true 6),(.slot 9)],code :=
  (sQ (rG 3 [o1 0 4 (.box 0 11 (.s 0)),o1 1 5 (.box 1 6 (.s 1)),o1 2 8 (.box 2 6 (.k (.a [(I 0),(I 0),(I 0),(I 0),(I 0),(I 0)]))),mB 3 9 false] [3,5,2,4,8])
  (sQ (rG 0 [fA 0 18 0 4,fA 1 19 1 18,lF 2 20 19,fA 3 21 0 5,lF 4 22 21,iA 5 23 5 20 22,fA 6 24 0 23,lF 7 25 24,cA 8 26 65 [(.s 25)],mS 9 17 26,eX 10 27 17 0,eX 11 28 17 1,eX 12 29 17 2,mS 13 10 27,mS 14 11 28,mS 15 12 29] [10,11,3,5,2,4,12,8])
  (sQ (rG 1 [lT 0 30 6 5,o1 1 13 (.box 0 6 (.k (.a [(I 0),(I 0),(I 0),(I 0),(I 0),(I 0)]))),o0 2 (.store 6 (.s 13) (.s 30))] [10,11,3,5,2,4,12,13,8])
  (sQ (.region 0 [fA 0 31 3 5,mS 2 33 12,mS 5 36 10,fA 6 37 4 5,mS 8 39 11,lF 1 32 31,bS 3 34 .sub 32 33,lF 7 38 37,bS 9 40 .add 38 39,o1 4 35 (.minmax true [(kI 0),(.s 34)]),fA 11 42 3 13,o1 10 41 (.minmax false [(.s 36),(.s 40)]),o0 12 (.store 1 (.s 42) (.s 35)),fA 13 43 4 13,o0 14 (.store 1 (.s 43) (.s 41))] [(7,12)] (some [3,5,2,4,12,13,8]))
  (sQ (.region 0 [fA 0 44 1 5,fA 2 46 3 13,fA 5 49 2 5,fA 7 51 4 13,lF 1 45 44,lF 3 47 46,bS 4 48 .add 45 47,lF 6 50 49,lF 8 52 51,bS 9 53 .add 50 52,fA 10 54 1 13,o0 11 (.store 1 (.s 54) (.s 48)),fA 12 55 2 13,o0 13 (.store 1 (.s 55) (.s 53)),fA 14 56 5 13,o0 15 (.store 1 (.s 56) (kI 0))] [(7,11)] (some [3,5,2,4,12,13,8]))
  (sQ (sQ (rG 0 [fA 0 57 1 5,lF 1 58 57,bI 2 59 .eql 58 0,mS 3 60 59,oG 4 61 60 true (.faddr 10 (.s 4)),oG 5 62 60 true (.load false 1 (.s 61)),oG 6 63 60 true (.faddr 0 (.s 5)),oG 7 64 60 true (.load false 1 (.s 63)),oG 8 65 60 true (.iaddr 1 (.s 62) (.s 64)),oG 9 66 60 true (.load false 1 (.s 65)),o1 10 67 (.pick (.s 60) (.s 66) (kB false))] [67,3,5,2,4,12,13,8])
  (.cond (.s 67) (rG 0 [fA 0 68 1 13,o0 1 (.store 1 (.s 68) (kI 0))] [3,5,2,4,12,13,8])
  .skip))
  (sQ (sQ (rG 0 [mS 0 69 3,o1 1 70 (.un .not (.s 69))] [70,5,2,4,12,13,8])
  (.cond (.s 70) (sQ (rG 0 [lT 0 71 6 13,o0 1 (.store 6 (.s 8) (.s 71)),mB 2 9 true] [8,9])
  .ret)
  .skip))
  (sQ (.region 0 [fA 0 72 2 5,fA 2 74 4 5,mS 4 76 12,lF 1 73 72,lF 3 75 74,cA 5 77 239 [(.s 75),(.s 76)],bS 6 78 .add 73 77,mS 7 14 78] [(3,5)] (some [4,2,14,5,13,8]))
  (sQ (sQ (rG 0 [fA 0 79 0 4,lT 1 80 5 79,fA 2 81 0 5,lF 3 82 81,mS 4 83 2,cA 5 84 240 [(.s 80),(.s 82),(.s 83)],lN 6 85 84,mI 7 86 0] [85,84,14,5,86,13,8])
  (.block 0 (.loop (some [85,84,14,5,86,13,8]) c_motion_Course_moved_l1)))
  (sQ (.region 0 [fA 1 120 1 13,fA 3 122 2 13,lT 0 119 6 13,lF 2 121 120,lF 4 123 122,bS 5 124 .leq 121 123,o0 6 (.store 6 (.s 8) (.s 119)),mS 7 9 124] [(3,6),(4,6)] (some [8,9]))
  .ret)))))))))) }
abbrev f_motion_layer_lay : Nat := 201
def c_motion_layer_lay : CFn := { frz := true,rnd := none,nargs := 5,ntmps := 21,res := [(.slot 10)],code :=
  (sQ (rG 3 [o1 0 5 (.box 0 16 (.s 0)),o1 1 6 (.box 1 6 (.s 1)),o1 2 10 (.newsl 2 7)] [5,6,2,3,4])
  (sQ (rG 1 [o1 0 11 (.box 0 1 (.k (.a [.nilslice])))] [5,6,2,3,4,11])
  (sQ (rG 1 [o1 0 12 (.box 0 1 (.k (.a [.nilfn])))] [5,12,6,2,3,4,11])
  (sQ (rG 0 [o1 0 13 (.mkfn 241 [] [(.s 5),(.s 11),(.s 12)]),o0 1 (.store 1 (.s 12) (.s 13))] [12,6,2,3,4,11])
  (sQ (rG 0 [lF 0 14 12,lT 1 15 6 6,mS 2 16 2,mS 3 17 3,mS 4 18 4,⟨5,(some 19),none,.call ⟨true⟩ (.s 14) [(.s 15),(.s 16),(.s 17),(.s 18)]⟩] [11])
  (sQ (rG 0 [lF 0 20 11,mS 1 10 20] [10])
  .ret)))))) }
abbrev f_slices_SortFunc_Sweep : Nat := 202
def c_slices_SortFunc_Sweep : CFn := { frz := true,rnd := none,nargs := 2,ntmps := 14,res := [],code :=
  (sQ (rG 0 [mS 0 5 0,lN 1 6 5,mS 2 4 6] [0,4,1])
  (rG 0 [mS 0 7 0,mS 1 8 4,mS 2 9 4,o1 3 10 (.conv .u64 (.s 9)),cA 4 11 208 [(.s 10)],mS 5 12 1,⟨6,(some 13),none,.call ⟨false⟩ (.k (.c (.fn 242 [] []))) [(.s 7),(kI 0),(.s 8),(.s 11),(.s 12)]⟩] [])) }
abbrev f_motion_less : Nat := 203
def c_motion_less : CFn := { frz := true,rnd := none,nargs := 2,ntmps := 32,res := [(.slot 4)],code :=
  (sQ (rG 2 [o1 0 2 (.box 0 4 (.s 0)),o1 1 3 (.box 1 4 (.s 1)),mI 2 4 0] [2,3])
  (sQ (rG 0 [o1 0 5 (.mv (.k (.c (.fn 243 [] []))))] [2,5,3])
  (sQ (.region 1 [fA 0 6 0 2,fA 2 8 0 3,fA 5 11 1 2,fA 7 13 1 3,fA 10 16 2 2,fA 12 18 2 3,mS 15 21 5,fA 16 22 3 2,mS 19 25 5,fA 20 26 3 3,lF 1 7 6,lF 3 9 8,lF 6 12 11,lF 8 14 13,lF 11 17 16,lF 13 19 18,lF 17 23 22,lF 21 27 26,cA 4 10 137 [(.s 7),(.s 9)],cA 9 15 136 [(.s 12),(.s 14)],cA 14 20 136 [(.s 17),(.s 19)],⟨18,(some 24),none,.call ⟨true⟩ (.s 21) [(.s 23)]⟩,⟨22,(some 28),none,.call ⟨true⟩ (.s 25) [(.s 27)]⟩,bS 23 29 .sub 24 28,o1 24 30 (.lit 0 1 [[(I 0)],[(I 0)],[(I 0)],[(I 0)]] [(0,(.s 10)),(1,(.s 15)),(2,(.s 20)),(3,(.s 29))]),cA 25 31 135 [(.s 30)],mS 26 4 31] [(12,18),(13,18),(14,18),(14,19),(15,18),(15,19),(16,18),(16,19),(16,20),(17,18),(17,19),(17,20),(17,21)] (some [4]))
  .ret))) }
def c_motion_Join_l1 : CC := (sQ (rG 0 [bS 0 16 .lss 15 14] [16,15,14,13,4])
  (sQ (.cond (.s 16) .skip
  (.exit 0))
  (sQ (.block 1 (sQ (rG 1 [iA 0 17 6 13 15,lT 1 18 6 17,o1 2 6 (.box 0 6 (.k (.a [(I 0),(I 0),(I 0),(I 0),(I 0),(I 0)]))),o0 3 (.store 6 (.s 6) (.s 18))] [6,15,14,13,4])
  (sQ (rG 0 [mS 0 19 4,lN 1 20 19,mS 2 7 20] [7,6,15,14,13,4])
  (sQ (rG 0 [mS 0 21 7,bI 1 22 .gtr 21 0,mS 2 23 22,oG 3 24 23 true (.mv (.s 4)),oG 4 25 23 true (.mv (.s 7)),oG 5 26 23 true (.bin .sub (.s 25) (kI 1)),oG 6 27 23 true (.iaddr 6 (.s 24) (.s 26)),oG 7 28 23 true (.faddr 0 (.s 27)),oG 9 30 23 true (.faddr 0 (.s 6)),oG 8 29 23 true (.load false 1 (.s 28)),oG 10 31 23 true (.load false 1 (.s 30)),oG 11 32 23 true (.bin .eql (.s 29) (.s 31)),o1 12 33 (.pick (.s 23) (.s 32) (kB false)),mS 13 34 33,oG 14 35 34 true (.faddr 1 (.s 6)),oG 16 37 34 true (.mv (.s 4)),oG 17 38 34 true (.mv (.s 7)),oG 18 39 34 true (.bin .sub (.s 38) (kI 1)),oG 19 40 34 true (.iaddr 6 (.s 37) (.s 39)),oG 20 41 34 true (.faddr 2 (.s 40)),oG 15 36 34 true (.load false 1 (.s 35)),oG 21 42 34 true (.load false 1 (.s 41)),oG 22 43 34 true (.bin .leq (.s 36) (.s 42)),oG 23 44 34 true (.mv (.s 43)),oG 24 45 44 false (.faddr 1 (.s 6)),oG 27 48 44 false (.mv (.s 4)),oG 28 49 44 false (.mv (.s 7)),oG 29 50 44 false (.bin .sub (.s 49) (kI 1)),oG 30 51 44 false (.iaddr 6 (.s 48) (.s 50)),oG 31 52 44 false (.faddr 2 (.s 51)),oG 25 46 44 false (.load false 1 (.s 45)),oG 26 47 44 false (.bin .sub (.s 46) (kI 1)),oG 32 53 44 false (.load false 1 (.s 52)),oG 33 54 44 false (.bin .eql (.s 47) (.s 53)),oG 34 55 34 true (.pick (.s 44) (kB true) (.s 54)),o1 35 56 (.pick (.s 34) (.s 55) (kB false))] [56,7,6,15,14,13,4])
  (.cond (.s 56) (rG 0 [mS 0 57 4,mS 1 58 7,bI 2 59 .sub 58 1,mS 3 60 4,mS 4 61 7,bI 5 62 .sub 61 1,iA 6 63 6 60 62,lT 7 64 6 63,lT 8 65 6 6,cA 9 66 248 [(.s 64),(.s 65)],iA 10 67 6 57 59,o0 11 (.store 6 (.s 67) (.s 66))] [15,14,13,4])
  (rG 1 [mS 0 68 4,lT 1 69 6 6,o1 2 70 (.lit 0 6 [[(I 0),(I 0),(I 0),(I 0),(I 0),(I 0)]] [(0,(.s 69))]),o1 3 71 (.append 6 48 (.s 68) (.s 70)),mS 4 4 71] [15,14,13,4]))))))
  (rG 0 [bI 0 72 .add 15 1,mS 1 15 72] [15,14,13,4]))))
abbrev f_motion_Join : Nat := 204
def c_motion_Join : CFn := { frz := true,rnd := none,nargs := 1,ntmps := 74,res := [(.slot 2)],code :=
  (sQ (rG 1 [o1 0 2 (.newsl 0 6)] [0])
  (sQ (rG 0 [mS 0 8 0,cA 1 9 64 [(.s 8)],⟨2,(some 10),none,.call ⟨false⟩ (.k (.c (.fn 244 [] []))) [(.s 9),(.k (.c (.fn 245 [] [])))]⟩,mS 3 3 10] [3])
  (sQ (rG 0 [mS 0 11 3,⟨1,(some 12),none,.call ⟨false⟩ (.k (.c (.fn 246 [] []))) [(.s 11),(.k (.c (.fn 247 [] [])))]⟩] [3])
  (sQ (rG 1 [o1 0 4 (.newsl 0 6)] [3,4])
  (sQ (sQ (rG 0 [mS 0 13 3,lN 1 14 13,mI 2 15 0] [15,14,13,4])
  (.block 0 (.loop (some [15,14,13,4]) c_motion_Join_l1)))
  (sQ (rG 0 [mS 0 73 4,mS 1 2 73] [2])
  .ret)))))) }
def c_slices_Compact_Sweep_l1 : CC := (sQ (sQ (rG 0 [mS 0 29 5,mS 1 30 4,lN 2 31 30,bS 3 32 .lss 29 31] [32,3,5,0,4])
  (.cond (.s 32) .skip
  (.exit 2)))
  (sQ (.block 3 (sQ (rG 0 [mS 0 35 4,mS 1 36 5,iA 2 37 4 35 36,mS 4 39 4,mS 5 40 5,bI 6 41 .sub 40 1,iA 7 42 4 39 41,lT 3 38 4 37,lT 8 43 4 42,o1 9 44 (.eqa true [false,false,false,true] (.s 38) (.s 43))] [44,3,5,0,4])
  (.cond (.s 44) (sQ (rG 0 [mS 0 45 0,mS 1 46 3,mS 2 47 4,mS 3 48 5,iA 4 49 4 47 48,lT 5 50 4 49,iA 6 51 4 45 46,o0 7 (.store 4 (.s 51) (.s 50))] [3,5,0,4])
  (rG 0 [mS 0 52 3,bI 1 53 .add 52 1,mS 2 3 53] [5,3,0,4]))
  .skip)))
  (rG 0 [mS 0 33 5,bI 1 34 .add 33 1,mS 2 5 34] [3,5,0,4])))
def c_slices_Compact_Sweep_l2 : CC := (sQ (sQ (rG 0 [mS 0 10 3,mS 1 11 0,lN 2 12 11,bS 3 13 .lss 10 12] [13,3,0])
  (.cond (.s 13) .skip
  (.exit 0)))
  (sQ (.block 1 (sQ (rG 0 [mS 0 16 0,mS 1 17 3,iA 2 18 4 16 17,mS 4 20 0,mS 5 21 3,bI 6 22 .sub 21 1,iA 7 23 4 20 22,lT 3 19 4 18,lT 8 24 4 23,o1 9 25 (.eqa false [false,false,false,true] (.s 19) (.s 24))] [25,3,0])
  (.cond (.s 25) (sQ (rG 0 [mS 0 26 0,mS 1 27 3,o1 2 28 (.slice 4 (.s 26) (some (.s 27)) none none),mS 3 4 28] [3,0,4])
  (sQ (sQ (rG 0 [mI 0 5 1] [3,5,0,4])
  (.block 2 (.loop (some [3,5,0,4]) c_slices_Compact_Sweep_l1)))
  (sQ (rG 0 [mS 0 54 0,mS 1 55 3,o1 2 56 (.slice 4 (.s 54) (some (.s 55)) none none),o0 3 (.clear [(I 0),(I 0),(I 0),(.bool false)] (.s 56))] [0,3])
  (sQ (rG 0 [mS 0 57 0,mS 1 58 3,o1 2 59 (.slice 4 (.s 57) none (some (.s 58)) none),mS 3 2 59] [2])
  .ret))))
  .skip)))
  (rG 0 [mS 0 14 3,bI 1 15 .add 14 1,mS 2 3 15] [3,0])))
abbrev f_slices_Compact_Sweep : Nat := 205
def c_slices_Compact_Sweep : CFn := { frz := false,rnd := none,nargs := 1,ntmps := 61,res := [(.slot 2)],code :=
  (sQ (rG 1 [o1 0 2 (.newsl 0 4)] [0])
  (sQ (sQ (rG 0 [mS 0 6 0,lN 1 7 6,bI 2 8 .lss 7 2] [8,0])
  (.cond (.s 8) (sQ (rG 0 [mS 0 9 0,mS 1 2 9] [2])
  .ret)
  .skip))
  (sQ (sQ (rG 0 [mI 0 3 1] [3,0])
  (.block 0 (.loop (some [3,0]) c_slices_Compact_Sweep_l2)))
  (sQ (rG 0 [mS 0 60 0,mS 1 2 60] [2])
  .ret)))) }
abbrev f_slices_AppendSeq_int64 : Nat := 206
def c_slices_AppendSeq_int64 : CFn := { frz := false,rnd := none,nargs := 2,ntmps := 13,res := [(.slot 4)],code :=
  (sQ (rG 2 [o1 0 2 (.box 0 1 (.s 0)),o1 1 4 (.newsl 1 1)] [1,4,2])
  (sQ (sQ (rG 0 [mS 0 6 1] [4,6,2])
  (.block 0 (.rng (.s 6) 3628 [2])))
  (sQ (rG 0 [lF 0 12 2,mS 1 4 12] [4])
  .ret))) }
abbrev f_slices_AppendSeq_int64_r1 : Nat := 3628
def c_slices_AppendSeq_int64_r1 : CFn := { frz := false,rnd := (some ([7],(rG 0 [mS 0 5 7] [5,2]))),nargs := 2,ntmps := 13,res := [],code :=
  (.block 1 (rG 1 [lF 0 8 2,mS 1 9 5,o1 2 10 (.lit 0 1 [[(I 0)]] [(0,(.s 9))]),o1 3 11 (.append 1 8 (.s 8) (.s 10)),o0 4 (.store 1 (.s 2) (.s 11))] [])) }
def c_slices_pdqsortOrdered_int64_l1 : CC := (.block 1 (sQ (rG 0 [mS 0 19 2,mS 1 20 1,bS 2 21 .sub 19 20,mS 3 10 21] [3,9,8,10,0,1,2])
  (sQ (sQ (rG 0 [mS 0 22 10,bI 1 23 .leq 22 12] [23,3,9,8,10,0,1,2])
  (.cond (.s 23) (sQ (rG 0 [mS 0 24 0,mS 1 25 1,mS 2 26 2,⟨3,(some 27),none,.call ⟨false⟩ (.k (.c (.fn 249 [] []))) [(.s 24),(.s 25),(.s 26)]⟩] [])
  .ret)
  .skip))
  (sQ (sQ (rG 0 [mS 0 28 3,bI 1 29 .eql 28 0] [29,10,8,9,3,0,1,2])
  (.cond (.s 29) (sQ (rG 0 [mS 0 30 0,mS 1 31 1,mS 2 32 2,⟨3,(some 33),none,.call ⟨false⟩ (.k (.c (.fn 250 [] []))) [(.s 30),(.s 31),(.s 32)]⟩] [])
  .ret)
  .skip))
  (sQ (sQ (rG 0 [mS 0 34 8,o1 1 35 (.un .not (.s 34))] [35,3,2,0,9,8,1,10])
  (.cond (.s 35) (sQ (rG 0 [mS 0 36 0,mS 1 37 1,mS 2 38 2,⟨3,(some 39),none,.call ⟨false⟩ (.k (.c (.fn 251 [] []))) [(.s 36),(.s 37),(.s 38)]⟩] [3,2,0,9,8,1,10])
  (rG 0 [mS 0 40 3,bI 1 41 .sub 40 1,mS 2 3 41] [2,0,9,8,3,1,10]))
  .skip))
  (sQ (rG 0 [mS 0 43 0,mS 1 44 1,mS 2 45 2,⟨3,(some 46),none,.call ⟨false⟩ (.k (.c (.fn 252 [] []))) [(.s 43),(.s 44),(.s 45)]⟩,mS 4 42 46,eX 5 47 42 0,eX 6 48 42 1,mS 7 11 47,mS 8 12 48] [12,11,2,0,9,8,3,1,10])
  (sQ (sQ (rG 0 [mS 0 49 12,bI 1 50 .eql 49 2] [50,12,11,2,0,9,8,3,1,10])
  (.cond (.s 50) (sQ (rG 0 [mS 0 51 0,mS 1 52 1,mS 2 53 2,⟨3,(some 54),none,.call ⟨false⟩ (.k (.c (.fn 253 [] []))) [(.s 51),(.s 52),(.s 53)]⟩] [11,2,0,9,8,3,1,10])
  (sQ (rG 0 [mS 0 55 2,bI 1 56 .sub 55 1,mS 2 57 11,mS 3 58 1,bS 4 59 .sub 57 58,bS 5 60 .sub 56 59,mS 6 11 60] [2,0,9,8,3,11,1,10])
  (rG 0 [mI 0 12 1] [12,2,0,9,8,3,11,1,10])))
  .skip))
  (sQ (sQ (rG 0 [mS 0 61 8,mS 1 62 61,oG 2 63 62 true (.mv (.s 9)),o1 3 64 (.pick (.s 62) (.s 63) (kB false)),mS 4 65 64,oG 5 66 65 true (.mv (.s 12)),oG 6 67 65 true (.bin .eql (.s 66) (kI 1)),o1 7 68 (.pick (.s 65) (.s 67) (kB false))] [68,2,0,9,8,3,11,1,10])
  (.cond (.s 68) (sQ (rG 0 [mS 0 69 0,mS 1 70 1,mS 2 71 2,⟨3,(some 72),none,.call ⟨false⟩ (.k (.c (.fn 254 [] []))) [(.s 69),(.s 70),(.s 71)]⟩] [72,2,0,9,8,3,11,1,10])
  (.cond (.s 72) .ret
  .skip))
  .skip))
  (sQ (sQ (rG 0 [mS 0 73 1,bI 1 74 .gtr 73 0,mS 2 75 74,oG 3 76 75 true (.mv (.s 0)),oG 4 77 75 true (.mv (.s 1)),oG 5 78 75 true (.bin .sub (.s 77) (kI 1)),oG 6 79 75 true (.iaddr 1 (.s 76) (.s 78)),oG 8 81 75 true (.mv (.s 0)),oG 9 82 75 true (.mv (.s 11)),oG 10 83 75 true (.iaddr 1 (.s 81) (.s 82)),oG 7 80 75 true (.load false 1 (.s 79)),oG 11 84 75 true (.load false 1 (.s 83)),⟨12,(some 85),(some (75,true)),.call ⟨true⟩ (.k (.c (.fn 255 [] []))) [(.s 80),(.s 84)]⟩,oG 13 86 75 true (.un .not (.s 85)),o1 14 87 (.pick (.s 75) (.s 86) (kB false))] [87,10,1,11,3,8,9,0,2])
  (.cond (.s 87) (sQ (rG 0 [mS 0 88 0,mS 1 89 1,mS 2 90 2,mS 3 91 11,⟨4,(some 92),none,.call ⟨false⟩ (.k (.c (.fn 256 [] []))) [(.s 88),(.s 89),(.s 90),(.s 91)]⟩,mS 5 13 92] [13,3,8,9,0,2])
  (sQ (rG 0 [mS 0 93 13,mS 1 1 93] [3,8,9,0,1,2])
  (.exit 1)))
  .skip))
  (sQ (rG 0 [mS 0 95 0,mS 1 96 1,mS 2 97 2,mS 3 98 11,⟨4,(some 99),none,.call ⟨false⟩ (.k (.c (.fn 257 [] []))) [(.s 95),(.s 96),(.s 97),(.s 98)]⟩,mS 5 94 99,eX 6 100 94 0,eX 7 101 94 1,mS 8 14 100,mS 9 15 101] [15,10,1,14,3,0,2])
  (sQ (rG 0 [mS 0 102 15,mS 1 9 102] [10,1,14,3,9,0,2])
  (sQ (rG 0 [mS 0 103 14,mS 1 104 1,bS 2 105 .sub 103 104,mS 3 106 2,mS 4 107 14,bS 5 108 .sub 106 107,mS 6 16 105,mS 7 17 108] [10,17,16,1,14,3,9,0,2])
  (sQ (rG 0 [mS 0 109 10,bI 1 110 .quo 109 8,mS 2 18 110] [17,16,18,1,14,3,9,0,2])
  (sQ (rG 0 [mS 0 111 16,mS 1 112 17,bS 2 113 .lss 111 112] [113,17,16,18,1,14,3,9,0,2])
  (.cond (.s 113) (sQ (rG 0 [mS 0 114 16,mS 1 115 18,bS 2 116 .geq 114 115,mS 3 8 116] [1,14,3,8,9,0,2])
  (sQ (rG 0 [mS 0 117 0,mS 1 118 1,mS 2 119 14,mS 3 120 3,⟨4,(some 121),none,.call ⟨false⟩ (.k (.c (.fn 207 [] []))) [(.s 117),(.s 118),(.s 119),(.s 120)]⟩] [14,3,8,9,0,2])
  (rG 0 [mS 0 122 14,bI 1 123 .add 122 1,mS 2 1 123] [3,8,9,0,1,2])))
  (sQ (rG 0 [mS 0 124 17,mS 1 125 18,bS 2 126 .geq 124 125,mS 3 8 126] [2,14,3,8,9,0,1])
  (sQ (rG 0 [mS 0 127 0,mS 1 128 14,bI 2 129 .add 128 1,mS 3 130 2,mS 4 131 3,⟨5,(some 132),none,.call ⟨false⟩ (.k (.c (.fn 207 [] []))) [(.s 127),(.s 129),(.s 130),(.s 131)]⟩] [14,3,8,9,0,1])
  (rG 0 [mS 0 133 14,mS 1 2 133] [3,8,9,0,1,2]))))))))))))))))))
abbrev f_slices_pdqsortOrdered_int64 : Nat := 207
def c_slices_pdqsortOrdered_int64 : CFn := { frz := true,rnd := none,nargs := 4,ntmps := 134,res := [],code :=
  (sQ (rG 0 [mB 0 8 true] [3,8,0,1,2])
  (sQ (rG 0 [mB 0 9 true] [3,8,9,0,1,2])
  (.block 0 (.loop (some [3,8,9,0,1,2]) c_slices_pdqsortOrdered_int64_l1)))) }
abbrev f_math_bits_Len : Nat := 208
def c_math_bits_Len : CFn := { frz := true,rnd := none,nargs := 1,ntmps := 8,res := [(.slot 2)],code :=
  (sQ (rG 0 [mI 0 2 0] [0])
  (sQ (.cond (kB false) (sQ (rG 0 [mS 0 3 0,o1 1 4 (.conv .u32 (.s 3)),cA 2 5 258 [(.s 4)],mS 3 2 5] [2])
  .ret)
  .skip)
  (sQ (rG 0 [mS 0 6 0,cA 1 7 259 [(.s 6)],mS 2 2 7] [2])
  .ret))) }
def c_plan_Search_l1 : CC := (sQ (rG 0 [bS 0 52 .lss 51 50] [52,51,50,49,6,7,11,23,10,22,21,19,20,16])
  (sQ (.cond (.s 52) .skip
  (.exit 0))
  (sQ (.block 1 (sQ (rG 1 [mS 0 53 51,iA 1 54 1 49 51,lT 2 55 1 54,o1 3 25 (.box 0 1 (.k (.a [.nilslice]))),mS 4 24 53,o0 5 (.store 1 (.s 25) (.s 55))] [24,51,50,49,6,7,11,23,10,22,25,21,19,20,16])
  (sQ (sQ (rG 0 [mS 0 56 24,mS 1 57 6,bS 2 58 .geq 56 57] [58,24,51,50,49,6,7,11,23,10,22,25,21,19,20,16])
  (.cond (.s 58) (.exit 0)
  .skip))
  (sQ (rG 0 [mS 0 59 20,bI 1 60 .add 59 1,mS 2 20 60] [25,21,22,10,23,11,7,6,49,50,51,24,19,20,16])
  (sQ (rG 0 [mS 0 61 22,mS 1 62 61,oG 2 63 62 true (.load true 5 (.s 10)),oG 3 64 62 true (.load true 1 (.s 25)),⟨4,(some 65),(some (62,true)),.call ⟨true⟩ (.k (.c (.fn 83 [] []))) [(.s 63),(.s 64)]⟩,oG 5 66 62 true (.bin .eql (.s 65) (kI 0)),o1 6 67 (.pick (.s 62) (.s 66) (kB false)),mS 7 68 67,oG 8 69 68 true (.mv (.s 23)),oG 9 70 68 true (.load true 6 (.s 11)),oG 10 71 68 true (.load true 1 (.s 25)),oG 11 72 68 true (.mv (.s 7)),⟨12,(some 73),(some (68,true)),.call ⟨true⟩ (.k (.c (.fn 85 [] []))) [(.s 69),(.s 70),(.s 71),(.s 72)]⟩,oG 13 74 68 true (.field false 0 1 (.s 73)),o1 14 75 (.pick (.s 68) (.s 74) (kB false))] [75,21,22,10,23,11,7,6,49,50,51,24,19,20,16])
  (.cond (.s 75) (sQ (rG 0 [mS 0 76 24,mS 1 21 76] [21,19,20,16])
  (.exit 0))
  .skip))))))
  (rG 0 [bI 0 77 .add 51 1,mS 1 51 77] [51,50,49,6,7,11,23,10,22,21,19,20,16]))))
abbrev f_plan_Search : Nat := 209
def c_plan_Search : CFn := { frz := true,rnd := none,nargs := 8,ntmps := 87,res := [(.cell 16 true 1),(.slot 17),(.slot 18)],code :=
  (sQ (rG 4 [o1 0 8 (.box 0 5 (.s 0)),o1 1 10 (.box 1 5 (.s 2)),o1 2 11 (.box 2 6 (.s 3)),o1 3 16 (.box 3 1 (.k (.a [.nilslice]))),mI 4 17 0,mB 5 18 false] [4,5,8,1,6,7,11,10,16])
  (sQ (sQ (rG 0 [lT 0 26 5 10,mS 1 27 4,mS 2 28 5,fA 3 29 2 11,fA 4 30 3 29,lF 5 31 30,cA 6 32 260 [(.s 26),(.s 27),(.s 28),(.s 31)],mS 7 19 32] [8,1,6,7,11,10,19,16])
  (sQ (rG 0 [mI 0 20 0,mI 1 21 (-1)] [8,1,6,7,11,10,21,19,20,16])
  (sQ (rG 0 [mS 0 33 19,lN 1 34 33,bI 2 35 .gtr 34 0,mS 3 36 35,oG 4 37 36 true (.load true 5 (.s 8)),oG 5 38 36 true (.mv (.s 1)),oG 6 39 36 true (.load true 5 (.s 10)),oG 7 40 36 true (.load true 6 (.s 11)),⟨8,(some 41),(some (36,true)),.call ⟨true⟩ (.k (.c (.fn 82 [] []))) [(.s 37),(.s 38),(.s 39),(.s 40)]⟩,o1 9 42 (.pick (.s 36) (.s 41) (kB false)),mS 10 22 42] [8,1,6,7,11,10,22,21,19,20,16])
  (sQ (rG 0 [o1 0 23 (.mv (.k (.c .nilptr)))] [23,8,1,6,7,11,10,22,21,19,20,16])
  (sQ (sQ (rG 0 [mS 0 43 22] [43,23,8,1,6,7,11,10,22,21,19,20,16])
  (.cond (.s 43) (rG 0 [lT 0 44 5 8,mS 1 45 1,fA 2 46 0 10,lF 3 47 46,cA 4 48 84 [(.s 44),(.s 45),(.s 47)],mS 5 23 48] [6,7,11,23,10,22,21,19,20,16])
  .skip))
  (sQ .skip
  (sQ (sQ (rG 0 [mS 0 49 19,lN 1 50 49,mI 2 51 0] [51,50,49,6,7,11,23,10,22,21,19,20,16])
  (.block 0 (.loop (some [51,50,49,6,7,11,23,10,22,21,19,20,16]) c_plan_Search_l1)))
  (sQ (sQ (rG 0 [mS 0 78 21,bI 1 79 .lss 78 0] [79,21,19,20,16])
  (.cond (.s 79) (sQ (rG 0 [o1 0 80 (.build [.nilslice] []),mS 1 81 20,o0 2 (.store 1 (.s 16) (.s 80)),mS 3 17 81,mB 4 18 false] [16,17,18])
  .ret)
  .skip))
  (sQ (rG 0 [mS 0 82 19,mS 1 83 21,iA 2 84 1 82 83,lT 3 85 1 84,mS 4 86 20,o0 5 (.store 1 (.s 16) (.s 85)),mS 6 17 86,mB 7 18 true] [16,17,18])
  .ret)))))))))
  .skip)) }
abbrev f_drive_ring_add : Nat := 210
def c_drive_ring_add : CFn := { frz := true,rnd := none,nargs := 2,ntmps := 25,res := [],code :=
  (sQ (rG 0 [mS 0 5 0,nC 1 6 5,fA 2 7 5 6,lF 3 8 7,lN 4 9 8,mS 5 4 9] [1,0,4])
  (sQ (rG 0 [mS 0 10 0,mS 1 11 4,mS 2 12 1,nC 3 13 10,fA 4 14 0 13,o1 5 15 (.aaddr 5 1 (.s 14) (.s 11)),o0 6 (.store 1 (.s 15) (.s 12))] [0,4])
  (rG 0 [mS 0 16 0,mS 1 17 0,nC 2 18 17,fA 3 19 0 18,mS 4 20 4,bI 5 21 .add 20 1,o1 6 22 (.pop (.aslice 5 1 false true) [(.s 19),(.s 21)]),nC 7 23 16,fA 8 24 5 23,o0 9 (.store 1 (.s 24) (.s 22))] []))) }
abbrev f_plan_Tail : Nat := 211
def c_plan_Tail : CFn := { frz := true,rnd := none,nargs := 1,ntmps := 15,res := [(.cell 2 true 1)],code :=
  (sQ (rG 2 [o1 0 1 (.box 0 1 (.s 0)),o1 1 2 (.box 1 1 (.k (.a [.nilslice])))] [1,2])
  (sQ (sQ (rG 0 [fA 0 3 0 1,lF 1 4 3,lN 2 5 4,bI 3 6 .gtr 5 1] [6,1,2])
  (.cond (.s 6) (rG 0 [fA 0 7 0 1,lF 1 8 7,o1 2 9 (.slice 1 (.s 8) (some (kI 1)) none none),fA 3 10 0 1,o0 4 (.store 1 (.s 10) (.s 9))] [1,2])
  .skip))
  (sQ (rG 0 [fA 0 11 0 1,lF 1 12 11,cA 2 13 29 [(.s 12)],o1 3 14 (.build [.nilslice] [(0,1,(.s 13))]),o0 4 (.store 1 (.s 2) (.s 14))] [2])
  .ret))) }
def c_kerbstoneref01_Same_l1 : CC := (sQ (sQ (rG 0 [mS 0 13 5,fA 1 14 0 2,lF 2 15 14,lN 3 16 15,bS 4 17 .lss 13 16] [17,3,2,5])
  (.cond (.s 17) .skip
  (.exit 0)))
  (sQ (.block 1 (sQ (rG 0 [fA 0 20 0 2,mS 2 22 5,fA 5 25 0 3,mS 7 27 5,lF 1 21 20,iA 3 23 2 21 22,lT 4 24 2 23,lF 6 26 25,iA 8 28 2 26 27,lT 9 29 2 28,o1 10 30 (.eqa true [false,false] (.s 24) (.s 29))] [30,3,2,5])
  (.cond (.s 30) (sQ (rG 0 [mB 0 4 false] [4])
  .ret)
  .skip)))
  (rG 0 [mS 0 18 5,bI 1 19 .add 18 1,mS 2 5 19] [2,3,5])))
abbrev f_kerbstoneref01_Same : Nat := 212
def c_kerbstoneref01_Same : CFn := { frz := true,rnd := none,nargs := 2,ntmps := 31,res := [(.slot 4)],code :=
  (sQ (rG 2 [o1 0 2 (.box 0 1 (.s 0)),o1 1 3 (.box 1 1 (.s 1)),mB 2 4 false] [3,2])
  (sQ (sQ (rG 0 [fA 0 6 0 2,lF 1 7 6,lN 2 8 7,fA 3 9 0 3,lF 4 10 9,lN 5 11 10,bS 6 12 .neq 8 11] [12,3,2])
  (.cond (.s 12) (sQ (rG 0 [mB 0 4 false] [4])
  .ret)
  .skip))
  (sQ (sQ (rG 0 [mI 0 5 0] [2,3,5])
  (.block 0 (.loop (some [2,3,5]) c_kerbstoneref01_Same_l1)))
  (sQ (rG 0 [mB 0 4 true] [4])
  .ret)))) }
def c_kerbstoneref03_sameInts_l1 : CC := (sQ (sQ (rG 0 [mS 0 6 5,mS 1 7 0,lN 2 8 7,bS 3 9 .lss 6 8,mS 4 10 9,oG 5 11 10 true (.mv (.s 5)),oG 6 12 10 true (.mv (.s 1)),oG 7 13 10 true (.len (.s 12)),oG 8 14 10 true (.bin .lss (.s 11) (.s 13)),o1 9 15 (.pick (.s 10) (.s 14) (kB false))] [15,1,0,5])
  (.cond (.s 15) .skip
  (.exit 0)))
  (sQ (.block 1 (sQ (rG 0 [mS 0 18 0,mS 1 19 5,iA 2 20 1 18 19,mS 4 22 1,mS 5 23 5,iA 6 24 1 22 23,lF 3 21 20,lF 7 25 24,bS 8 26 .neq 21 25] [26,1,0,5])
  (.cond (.s 26) (sQ (rG 0 [mB 0 4 false] [4])
  .ret)
  .skip)))
  (rG 0 [mS 0 16 5,bI 1 17 .add 16 1,mS 2 5 17] [0,1,5])))
abbrev f_kerbstoneref03_sameInts : Nat := 213
def c_kerbstoneref03_sameInts : CFn := { frz := true,rnd := none,nargs := 2,ntmps := 32,res := [(.slot 4)],code :=
  (sQ (rG 0 [mB 0 4 false] [0,1])
  (sQ (sQ (rG 0 [mI 0 5 0] [0,1,5])
  (.block 0 (.loop (some [0,1,5]) c_kerbstoneref03_sameInts_l1)))
  (sQ (rG 0 [mS 0 27 0,lN 1 28 27,mS 2 29 1,lN 3 30 29,bS 4 31 .eql 28 30,mS 5 4 31] [4])
  .ret))) }
abbrev f_curve_through : Nat := 214
def c_curve_through : CFn := { frz := true,rnd := none,nargs := 1,ntmps := 6,res := [(.cell 2 true 1)],code :=
  (sQ (rG 1 [o1 0 2 (.box 0 1 (.k (.a [.nilslice])))] [0,2])
  (sQ (rG 0 [mS 0 3 0,cA 1 4 261 [(.s 3)],o1 2 5 (.build [.nilslice] [(0,1,(.s 4))]),o0 3 (.store 1 (.s 2) (.s 5))] [2])
  .ret)) }
abbrev f_curve_Pieces : Nat := 215
def c_curve_Pieces : CFn := { frz := true,rnd := none,nargs := 1,ntmps := 19,res := [(.slot 2)],code :=
  (sQ (rG 2 [o1 0 1 (.box 0 1 (.s 0)),o1 1 2 (.newsl 1 1)] [2,1])
  (sQ (sQ (rG 0 [lT 0 6 1 1,cA 1 7 116 [(.s 6)],bI 2 8 .neq 7 0] [8,2,1])
  (.cond (.s 8) (sQ (rG 1 [o1 0 2 (.newsl 0 1)] [2])
  .ret)
  .skip))
  (sQ (rG 1 [o1 0 3 (.box 0 1 (.k (.a [.nilslice])))] [1,2,3])
  (sQ (sQ (rG 0 [lT 0 9 1 1,cA 1 10 262 [(.s 9)]] [2,10,3])
  (.block 0 (.rng (.s 10) 3772 [3])))
  (sQ (rG 0 [lF 0 18 3,mS 1 2 18] [2])
  .ret))))) }
abbrev f_curve_Pieces_r1 : Nat := 3772
def c_curve_Pieces_r1 : CFn := { frz := false,rnd := (some ([11,12],(rG 1 [o1 0 5 (.box 0 6 (.k (.a [(I 0),(I 0),(I 0),(I 0),(I 0),(I 0)]))),o0 1 (.store 6 (.s 5) (.s 12))] [5,3]))),nargs := 3,ntmps := 19,res := [],code :=
  (.block 1 (rG 1 [lF 0 13 3,fA 1 14 4 5,lF 2 15 14,o1 3 16 (.lit 0 1 [[(I 0)]] [(0,(.s 15))]),o1 4 17 (.append 1 8 (.s 13) (.s 16)),o0 5 (.store 1 (.s 3) (.s 17))] [])) }
def c_slices_insertionSortCmpFunc_Pass_l1 : CC := (sQ (sQ (rG 0 [mS 0 18 9,mS 1 19 1,bS 2 20 .gtr 18 19,mS 3 21 20,oG 4 22 21 true (.mv (.s 3)),oG 5 23 21 true (.mv (.s 0)),oG 6 24 21 true (.mv (.s 9)),oG 7 25 21 true (.iaddr 4 (.s 23) (.s 24)),oG 9 27 21 true (.mv (.s 0)),oG 10 28 21 true (.mv (.s 9)),oG 11 29 21 true (.bin .sub (.s 28) (kI 1)),oG 12 30 21 true (.iaddr 4 (.s 27) (.s 29)),oG 8 26 21 true (.load true 4 (.s 25)),oG 13 31 21 true (.load true 4 (.s 30)),⟨14,(some 32),(some (21,true)),.call ⟨true⟩ (.s 22) [(.s 26),(.s 31)]⟩,oG 15 33 21 true (.bin .lss (.s 32) (kI 0)),o1 16 34 (.pick (.s 21) (.s 33) (kB false))] [34,9,3,1,2,8,0])
  (.cond (.s 34) .skip
  (.exit 2)))
  (sQ (.block 3 (rG 0 [mS 0 37 0,mS 1 38 9,mS 2 39 0,mS 3 40 9,bI 4 41 .sub 40 1,mS 5 42 0,mS 6 43 9,bI 7 44 .sub 43 1,iA 8 45 4 42 44,mS 10 47 0,mS 11 48 9,iA 12 49 4 47 48,lT 9 46 4 45,lT 13 50 4 49,iA 14 51 4 37 38,o0 15 (.store 4 (.s 51) (.s 46)),iA 16 52 4 39 41,o0 17 (.store 4 (.s 52) (.s 50))] [9,3,1,2,8,0]))
  (rG 0 [mS 0 35 9,bI 1 36 .sub 35 1,mS 2 9 36] [9,3,1,2,8,0])))
def c_slices_insertionSortCmpFunc_Pass_l2 : CC := (sQ (sQ (rG 0 [mS 0 12 8,mS 1 13 2,bS 2 14 .lss 12 13] [14,3,1,2,8,0])
  (.cond (.s 14) .skip
  (.exit 0)))
  (sQ (.block 1 (sQ (rG 0 [mS 0 17 8,mS 1 9 17] [9,3,1,2,8,0])
  (.block 2 (.loop (some [9,3,1,2,8,0]) c_slices_insertionSortCmpFunc_Pass_l1))))
  (rG 0 [mS 0 15 8,bI 1 16 .add 15 1,mS 2 8 16] [2,1,3,8,0])))
abbrev f_slices_insertionSortCmpFunc_Pass : Nat := 216
def c_slices_insertionSortCmpFunc_Pass : CFn := { frz := true,rnd := none,nargs := 4,ntmps := 53,res := [],code :=
  (sQ (rG 0 [mS 0 10 1,bI 1 11 .add 10 1,mS 2 8 11] [2,1,3,8,0])
  (.block 0 (.loop (some [2,1,3,8,0]) c_slices_insertionSortCmpFunc_Pass_l2))) }
def c_slices_symMergeCmpFunc_Pass_l1 : CC := (sQ (sQ (rG 0 [mS 0 31 10,mS 1 32 11,bS 2 33 .lss 31 32] [33,10,11,4,0,1])
  (.cond (.s 33) .skip
  (.exit 0)))
  (.block 1 (sQ (rG 0 [mS 0 34 10,mS 1 35 11,bS 2 36 .add 34 35,o1 3 37 (.conv .u64 (.s 36)),o1 4 38 (.bin .shr (.s 37) (.k (.c (.int .u64 1)))),o1 5 39 (.conv .i64 (.s 38)),mS 6 12 39] [10,12,11,4,0,1])
  (sQ (rG 0 [mS 0 40 4,mS 1 41 0,mS 2 42 12,iA 3 43 4 41 42,mS 5 45 0,mS 6 46 1,iA 7 47 4 45 46,lT 4 44 4 43,lT 8 48 4 47,⟨9,(some 49),none,.call ⟨true⟩ (.s 40) [(.s 44),(.s 48)]⟩,bI 10 50 .lss 49 0] [50,10,12,11,4,0,1])
  (.cond (.s 50) (rG 0 [mS 0 51 12,bI 1 52 .add 51 1,mS 2 10 52] [10,11,4,0,1])
  (rG 0 [mS 0 53 12,mS 1 11 53] [10,11,4,0,1]))))))
def c_slices_symMergeCmpFunc_Pass_l2 : CC := (sQ (sQ (rG 0 [mS 0 55 13,mS 1 56 10,bI 2 57 .sub 56 1,bS 3 58 .lss 55 57] [58,13,10,0])
  (.cond (.s 58) .skip
  (.exit 2)))
  (sQ (.block 3 (rG 0 [mS 0 61 0,mS 1 62 13,mS 2 63 0,mS 3 64 13,bI 4 65 .add 64 1,mS 5 66 0,mS 6 67 13,bI 7 68 .add 67 1,iA 8 69 4 66 68,mS 10 71 0,mS 11 72 13,iA 12 73 4 71 72,lT 9 70 4 69,lT 13 74 4 73,iA 14 75 4 61 62,o0 15 (.store 4 (.s 75) (.s 70)),iA 16 76 4 63 65,o0 17 (.store 4 (.s 76) (.s 74))] [13,10,0]))
  (rG 0 [mS 0 59 13,bI 1 60 .add 59 1,mS 2 13 60] [13,10,0])))
def c_slices_symMergeCmpFunc_Pass_l3 : CC := (sQ (sQ (rG 0 [mS 0 83 14,mS 1 84 15,bS 2 85 .lss 83 84] [85,14,15,4,2,0])
  (.cond (.s 85) .skip
  (.exit 4)))
  (.block 5 (sQ (rG 0 [mS 0 86 14,mS 1 87 15,bS 2 88 .add 86 87,o1 3 89 (.conv .u64 (.s 88)),o1 4 90 (.bin .shr (.s 89) (.k (.c (.int .u64 1)))),o1 5 91 (.conv .i64 (.s 90)),mS 6 16 91] [14,16,15,4,2,0])
  (sQ (rG 0 [mS 0 92 4,mS 1 93 0,mS 2 94 2,iA 3 95 4 93 94,mS 5 97 0,mS 6 98 16,iA 7 99 4 97 98,lT 4 96 4 95,lT 8 100 4 99,⟨9,(some 101),none,.call ⟨true⟩ (.s 92) [(.s 96),(.s 100)]⟩,bI 10 102 .lss 101 0,o1 11 103 (.un .not (.s 102))] [103,14,16,15,4,2,0])
  (.cond (.s 103) (rG 0 [mS 0 104 16,bI 1 105 .add 104 1,mS 2 14 105] [14,15,4,2,0])
  (rG 0 [mS 0 106 16,mS 1 15 106] [14,15,4,2,0]))))))
def c_slices_symMergeCmpFunc_Pass_l4 : CC := (sQ (sQ (rG 0 [mS 0 108 17,mS 1 109 14,bS 2 110 .gtr 108 109] [110,17,14,0])
  (.cond (.s 110) .skip
  (.exit 6)))
  (sQ (.block 7 (rG 0 [mS 0 113 0,mS 1 114 17,mS 2 115 0,mS 3 116 17,bI 4 117 .sub 116 1,mS 5 118 0,mS 6 119 17,bI 7 120 .sub 119 1,iA 8 121 4 118 120,mS 10 123 0,mS 11 124 17,iA 12 125 4 123 124,lT 9 122 4 121,lT 13 126 4 125,iA 14 127 4 113 114,o0 15 (.store 4 (.s 127) (.s 122)),iA 16 128 4 115 117,o0 17 (.store 4 (.s 128) (.s 126))] [17,14,0]))
  (rG 0 [mS 0 111 17,bI 1 112 .sub 111 1,mS 2 17 112] [17,14,0])))
def c_slices_symMergeCmpFunc_Pass_l5 : CC := (sQ (sQ (rG 0 [mS 0 149 20,mS 1 150 21,bS 2 151 .lss 149 150] [151,20,3,18,1,2,19,21,4,22,0])
  (.cond (.s 151) .skip
  (.exit 8)))
  (.block 9 (sQ (rG 0 [mS 0 152 20,mS 1 153 21,bS 2 154 .add 152 153,o1 3 155 (.conv .u64 (.s 154)),o1 4 156 (.bin .shr (.s 155) (.k (.c (.int .u64 1)))),o1 5 157 (.conv .i64 (.s 156)),mS 6 23 157] [20,23,3,18,1,2,19,21,4,22,0])
  (sQ (rG 0 [mS 0 158 4,mS 1 159 0,mS 2 160 22,mS 3 161 23,bS 4 162 .sub 160 161,iA 5 163 4 159 162,mS 7 165 0,mS 8 166 23,iA 9 167 4 165 166,lT 6 164 4 163,lT 10 168 4 167,⟨11,(some 169),none,.call ⟨true⟩ (.s 158) [(.s 164),(.s 168)]⟩,bI 12 170 .lss 169 0,o1 13 171 (.un .not (.s 170))] [171,20,23,3,18,1,2,19,21,4,22,0])
  (.cond (.s 171) (rG 0 [mS 0 172 23,bI 1 173 .add 172 1,mS 2 20 173] [20,3,18,1,2,19,21,4,22,0])
  (rG 0 [mS 0 174 23,mS 1 21 174] [20,3,18,1,2,19,21,4,22,0]))))))
abbrev f_slices_symMergeCmpFunc_Pass : Nat := 217
def c_slices_symMergeCmpFunc_Pass : CFn := { frz := true,rnd := none,nargs := 5,ntmps := 220,res := [],code :=
  (sQ (sQ (rG 0 [mS 0 25 2,mS 1 26 1,bS 2 27 .sub 25 26,bI 3 28 .eql 27 1] [28,2,3,4,0,1])
  (.cond (.s 28) (sQ (rG 0 [mS 0 29 2,mS 1 10 29] [3,10,4,0,1])
  (sQ (rG 0 [mS 0 30 3,mS 1 11 30] [10,11,4,0,1])
  (sQ (.block 0 (.loop (some [10,11,4,0,1]) c_slices_symMergeCmpFunc_Pass_l1))
  (sQ (sQ (rG 0 [mS 0 54 1,mS 1 13 54] [13,10,0])
  (.block 2 (.loop (some [13,10,0]) c_slices_symMergeCmpFunc_Pass_l2)))
  .ret))))
  .skip))
  (sQ (sQ (rG 0 [mS 0 77 3,mS 1 78 2,bS 2 79 .sub 77 78,bI 3 80 .eql 79 1] [80,3,1,4,2,0])
  (.cond (.s 80) (sQ (rG 0 [mS 0 81 1,mS 1 14 81] [14,4,2,0])
  (sQ (rG 0 [mS 0 82 2,mS 1 15 82] [14,15,4,2,0])
  (sQ (.block 4 (.loop (some [14,15,4,2,0]) c_slices_symMergeCmpFunc_Pass_l3))
  (sQ (sQ (rG 0 [mS 0 107 2,mS 1 17 107] [17,14,0])
  (.block 6 (.loop (some [17,14,0]) c_slices_symMergeCmpFunc_Pass_l4)))
  .ret))))
  .skip))
  (sQ (rG 0 [mS 0 129 1,mS 1 130 3,bS 2 131 .add 129 130,o1 3 132 (.conv .u64 (.s 131)),o1 4 133 (.bin .shr (.s 132) (.k (.c (.int .u64 1)))),o1 5 134 (.conv .i64 (.s 133)),mS 6 18 134] [3,18,1,2,4,0])
  (sQ (rG 0 [mS 0 135 18,mS 1 136 2,bS 2 137 .add 135 136,mS 3 19 137] [3,18,1,2,19,4,0])
  (sQ (rG 0 [mI 0 20 0,mI 1 21 0] [3,18,1,2,19,4,0])
  (sQ (sQ (rG 0 [mS 0 138 2,mS 1 139 18,bS 2 140 .gtr 138 139] [140,3,18,1,2,19,4,0])
  (.cond (.s 140) (sQ (rG 0 [mS 0 141 19,mS 1 142 3,bS 2 143 .sub 141 142,mS 3 20 143] [20,3,18,1,2,19,4,0])
  (rG 0 [mS 0 144 18,mS 1 21 144] [20,3,18,1,2,19,21,4,0]))
  (sQ (rG 0 [mS 0 145 1,mS 1 20 145] [20,3,18,1,2,19,4,0])
  (rG 0 [mS 0 146 2,mS 1 21 146] [20,3,18,1,2,19,21,4,0]))))
  (sQ (rG 0 [mS 0 147 19,bI 1 148 .sub 147 1,mS 2 22 148] [20,3,18,1,2,19,21,4,22,0])
  (sQ (.block 8 (.loop (some [20,3,18,1,2,19,21,4,22,0]) c_slices_symMergeCmpFunc_Pass_l5))
  (sQ (rG 0 [mS 0 175 19,mS 1 176 20,bS 2 177 .sub 175 176,mS 3 24 177] [2,1,20,0,18,24,3,4])
  (sQ (sQ (rG 0 [mS 0 178 20,mS 1 179 2,bS 2 180 .lss 178 179,mS 3 181 180,oG 4 182 181 true (.mv (.s 2)),oG 5 183 181 true (.mv (.s 24)),oG 6 184 181 true (.bin .lss (.s 182) (.s 183)),o1 7 185 (.pick (.s 181) (.s 184) (kB false))] [185,2,1,20,0,18,24,3,4])
  (.cond (.s 185) (rG 0 [mS 0 186 0,mS 1 187 20,mS 2 188 2,mS 3 189 24,mS 4 190 4,⟨5,(some 191),none,.call ⟨false⟩ (.k (.c (.fn 263 [] []))) [(.s 186),(.s 187),(.s 188),(.s 189),(.s 190)]⟩] [1,20,0,18,24,3,4])
  .skip))
  (sQ (sQ (rG 0 [mS 0 192 1,mS 1 193 20,bS 2 194 .lss 192 193,mS 3 195 194,oG 4 196 195 true (.mv (.s 20)),oG 5 197 195 true (.mv (.s 18)),oG 6 198 195 true (.bin .lss (.s 196) (.s 197)),o1 7 199 (.pick (.s 195) (.s 198) (kB false))] [199,1,20,0,18,24,3,4])
  (.cond (.s 199) (rG 0 [mS 0 200 0,mS 1 201 1,mS 2 202 20,mS 3 203 18,mS 4 204 4,⟨5,(some 205),none,.call ⟨false⟩ (.k (.c (.fn 217 [] []))) [(.s 200),(.s 201),(.s 202),(.s 203),(.s 204)]⟩] [0,18,24,3,4])
  .skip))
  (sQ (rG 0 [mS 0 206 18,mS 1 207 24,bS 2 208 .lss 206 207,mS 3 209 208,oG 4 210 209 true (.mv (.s 24)),oG 5 211 209 true (.mv (.s 3)),oG 6 212 209 true (.bin .lss (.s 210) (.s 211)),o1 7 213 (.pick (.s 209) (.s 212) (kB false))] [213,0,18,24,3,4])
  (.cond (.s 213) (rG 0 [mS 0 214 0,mS 1 215 18,mS 2 216 24,mS 3 217 3,mS 4 218 4,⟨5,(some 219),none,.call ⟨false⟩ (.k (.c (.fn 217 [] []))) [(.s 214),(.s 215),(.s 216),(.s 217),(.s 218)]⟩] [])
  .skip))))))))))))) }
def c_plan_judge_ahead_1_l1 : CC := (sQ (rG 0 [bS 0 14 .lss 13 12] [14,3,0,4,2,11,12,13])
  (sQ (.cond (.s 14) .skip
  (.exit 0))
  (sQ (.block 1 (sQ (rG 0 [iA 0 15 1 11 13,lF 1 16 15,mS 2 7 16] [7,3,0,4,2,11,12,13])
  (sQ (.region 1 [mS 5 23 7,lF 0 18 2,nC 1 19 18,fA 2 20 0 19,lT 3 21 11 20,lT 4 22 6 3,lF 6 24 4,cA 7 25 147 [(.s 21),(.s 22),(.s 23),(.s 24)],mS 8 17 25,eX 9 26 17 0,eX 10 27 17 1,o1 11 8 (.box 0 6 (.k (.a [(I 0),.nilslice,(I 0),(I 0),(I 0),(I 0)]))),o0 12 (.store 6 (.s 8) (.s 26)),mS 13 9 27] [(1,11),(4,11),(5,11),(6,11),(7,11)] (some [9,3,0,4,2,11,12,13,8]))
  (sQ (sQ (rG 0 [mS 0 28 0,lT 1 29 6 8,mS 2 30 9,⟨3,(some 31),none,.call ⟨true⟩ (.s 28) [(.s 29),(.s 30)]⟩,o1 4 32 (.un .not (.s 31))] [32,3,0,4,2,11,12,13,8])
  (.cond (.s 32) .ret
  .skip))
  (rG 0 [lT 0 33 6 8,o0 1 (.store 6 (.s 3) (.s 33))] [13,12,11,2,4,0,3])))))
  (rG 0 [bI 0 34 .add 13 1,mS 1 13 34] [12,11,2,4,0,3,13]))))
abbrev f_plan_judge_ahead_1 : Nat := 218
def c_plan_judge_ahead_1 : CFn := { frz := true,rnd := none,nargs := 5,ntmps := 35,res := [],code :=
  (sQ (rG 0 [fA 0 10 0 1,lF 1 11 10,lN 2 12 11,mI 3 13 0] [12,11,2,4,0,3,13])
  (.block 0 (.loop (some [12,11,2,4,0,3,13]) c_plan_judge_ahead_1_l1))) }
def c_plan_lowest_l1 : CC := (sQ (rG 0 [bS 0 61 .lss 60 59] [61,14,60,59,4,2,1,18,19,20,9,58,11,13,12,3])
  (sQ (.cond (.s 61) .skip
  (.exit 2))
  (sQ (.block 3 (sQ (rG 1 [iA 0 62 6 58 60,lT 1 63 6 62,o1 2 16 (.box 0 6 (.k (.a [(I 0),(I 0),(I 0),(I 0),(I 0),(I 0)]))),o0 3 (.store 6 (.s 16) (.s 63))] [14,16,60,59,4,2,1,18,19,20,9,58,11,13,12,3])
  (sQ (rG 0 [fA 0 64 0 16,lF 1 65 64,mS 2 66 11,bS 3 67 .eql 65 66,mS 4 68 67,oG 5 69 68 true (.faddr 1 (.s 16)),oG 6 70 68 true (.load false 1 (.s 69)),oG 7 71 68 true (.mv (.s 13)),oG 8 72 68 true (.bin .leq (.s 70) (.s 71)),o1 9 73 (.pick (.s 68) (.s 72) (kB false)),mS 10 74 73,oG 11 75 74 true (.mv (.s 12)),oG 12 76 74 true (.faddr 2 (.s 16)),oG 13 77 74 true (.load false 1 (.s 76)),oG 14 78 74 true (.bin .leq (.s 75) (.s 77)),o1 15 79 (.pick (.s 74) (.s 78) (kB false)),mS 16 80 79,oG 17 81 80 true (.faddr 3 (.s 16)),oG 18 82 80 true (.load false 1 (.s 81)),oG 19 83 80 true (.mv (.s 3)),oG 20 84 80 true (.bin .leq (.s 82) (.s 83)),o1 21 85 (.pick (.s 80) (.s 84) (kB false)),mS 22 86 85,oG 23 87 86 true (.mv (.s 3)),oG 24 88 86 true (.faddr 4 (.s 16)),oG 25 89 86 true (.load false 1 (.s 88)),oG 26 90 86 true (.bin .lss (.s 87) (.s 89)),o1 27 91 (.pick (.s 86) (.s 90) (kB false))] [91,14,16,60,59,4,2,1,18,19,20,9,58,11,13,12,3])
  (.cond (.s 91) (rG 0 [mS 0 92 14,fA 1 93 5 16,lF 2 94 93,o1 3 95 (.minmax false [(.s 92),(.s 94)]),mS 4 14 95] [60,14,59,4,2,1,18,19,20,9,58,11,13,12,3])
  .skip))))
  (rG 0 [bI 0 96 .add 60 1,mS 1 60 96] [14,60,59,4,2,1,18,19,20,9,58,11,13,12,3]))))
def c_plan_lowest_l2 : CC := (sQ (rG 0 [bS 0 21 .lss 20 19] [21,20,19,18,1,2,3,9,4])
  (sQ (.cond (.s 21) .skip
  (.exit 0))
  (sQ (.block 1 (sQ (rG 0 [mS 0 22 20,iA 1 23 1 18 20,lF 2 24 23,mS 3 10 22,mS 4 11 24] [10,11,20,19,18,1,2,3,9,4])
  (sQ (rG 0 [mS 0 25 1,fA 1 26 6 4,mS 3 28 10,mS 8 33 2,fA 9 34 6 4,mS 11 36 10,fA 15 40 9 4,mS 17 42 11,lF 2 27 26,iA 4 29 1 27 28,lF 5 30 29,bS 6 31 .sub 25 30,lF 10 35 34,iA 12 37 1 35 36,lF 13 38 37,bS 14 39 .sub 33 38,lF 16 41 40,iA 18 43 1 41 42,lF 19 44 43,o1 7 32 (.minmax true [(kI 0),(.s 31)]),mS 21 12 32,o1 20 45 (.minmax false [(.s 39),(.s 44)]),mS 22 13 45] [12,13,11,20,19,18,1,2,3,9,4])
  (sQ (sQ (rG 0 [mS 0 46 12,mS 1 47 13,bS 2 48 .gtr 46 47] [48,12,13,11,20,19,18,1,2,3,9,4])
  (.cond (.s 48) (.exit 1)
  .skip))
  (sQ (rG 0 [fA 0 49 0 4,fA 1 50 1 49,lF 2 51 50,mS 3 52 11,iA 4 53 5 51 52,fA 5 54 3 53,lF 6 55 54,mS 7 14 55] [14,4,2,1,18,19,20,9,11,13,12,3])
  (sQ (sQ (rG 0 [fA 0 56 0 4,fA 1 57 4 56,lF 2 58 57,lN 3 59 58,mI 4 60 0] [14,60,59,4,2,1,18,19,20,9,58,11,13,12,3])
  (.block 2 (.loop (some [14,60,59,4,2,1,18,19,20,9,58,11,13,12,3]) c_plan_lowest_l1)))
  (sQ (rG 0 [mS 0 97 9,bI 1 98 .lss 97 0,mS 2 99 98,oG 3 100 99 false (.mv (.s 14)),oG 4 101 99 false (.mv (.s 9)),oG 5 102 99 false (.bin .lss (.s 100) (.s 101)),o1 6 103 (.pick (.s 99) (kB true) (.s 102))] [103,9,14,20,19,18,1,2,3,4])
  (.cond (.s 103) (rG 0 [mS 0 104 14,mS 1 9 104] [20,19,18,1,2,3,9,4])
  .skip))))))))
  (rG 0 [bI 0 105 .add 20 1,mS 1 20 105] [20,19,18,1,2,3,9,4]))))
abbrev f_plan_lowest : Nat := 219
def c_plan_lowest : CFn := { frz := true,rnd := none,nargs := 4,ntmps := 108,res := [(.slot 8)],code :=
  (sQ (rG 1 [o1 0 4 (.box 0 11 (.s 0)),mI 1 8 0] [1,2,3,4])
  (sQ (rG 0 [mI 0 9 (-1)] [1,2,3,9,4])
  (sQ (sQ (rG 0 [fA 0 17 5 4,lF 1 18 17,lN 2 19 18,mI 3 20 0] [20,19,18,1,2,3,9,4])
  (.block 0 (.loop (some [20,19,18,1,2,3,9,4]) c_plan_lowest_l2)))
  (sQ (rG 0 [mS 0 106 9,o1 1 107 (.minmax true [(.s 106),(kI 0)]),mS 2 8 107] [8])
  .ret)))) }
abbrev f_plan_judge_alone_1 : Nat := 220
def c_plan_judge_alone_1 : CFn := { frz := true,rnd := none,nargs := 4,ntmps := 23,res := [(.slot 5)],code :=
  (sQ (rG 1 [o1 0 4 (.box 0 4 (.s 0)),mB 1 5 false] [1,2,3,4])
  (sQ (rG 0 [fA 0 6 0 4,lF 1 7 6,fA 2 8 0 1,lF 3 9 8,bS 4 10 .eql 7 9,mS 5 11 10,oG 6 12 11 true (.faddr 2 (.s 4)),oG 7 13 11 true (.load false 1 (.s 12)),oG 8 14 11 true (.load false 1 (.s 2)),oG 9 15 11 true (.bin .leq (.s 13) (.s 14)),o1 10 16 (.pick (.s 11) (.s 15) (kB false)),mS 11 17 16,oG 12 18 17 true (.load false 1 (.s 3)),oG 13 19 17 true (.faddr 3 (.s 4)),oG 14 20 17 true (.load false 1 (.s 19)),oG 15 21 17 true (.bin .leq (.s 18) (.s 20)),o1 16 22 (.pick (.s 17) (.s 21) (kB false)),mS 17 5 22] [5])
  .ret)) }
def c_plan_judge_taken_l1 : CC := (sQ (rG 0 [bS 0 21 .lss 20 19] [21,0,3,18,19,20])
  (sQ (.cond (.s 21) .skip
  (.exit 0))
  (sQ (.block 1 (sQ (rG 1 [mS 0 22 20,iA 1 23 4 18 20,lT 2 24 4 23,o1 3 6 (.box 0 4 (.k (.a [(I 0),(I 0),(I 0),(I 0)]))),mS 4 5 22,o0 5 (.store 4 (.s 6) (.s 24))] [6,5,0,3,18,19,20])
  (sQ (rG 0 [o1 0 25 (.mkfn 264 [] [(.s 6)]),mS 1 7 25] [5,7,0,3,18,19,20])
  (sQ (rG 0 [mS 0 26 5,fA 1 27 1 3,lF 2 28 27,bS 3 29 .neq 26 28,mS 4 30 29,oG 5 31 30 true (.mv (.s 0)),oG 6 32 30 true (.nilck (.s 31)),oG 7 33 30 true (.faddr 25 (.s 32)),oG 8 34 30 true (.load false 1 (.s 33)),oG 9 35 30 true (.mv (.s 7)),⟨10,(some 36),(some (30,true)),.call ⟨true⟩ (.k (.c (.fn 265 [] []))) [(.s 34),(.s 35)]⟩,o1 11 37 (.pick (.s 30) (.s 36) (kB false))] [37,0,3,18,19,20])
  (.cond (.s 37) (sQ (rG 0 [mB 0 4 true] [4])
  .ret)
  .skip)))))
  (rG 0 [bI 0 38 .add 20 1,mS 1 20 38] [19,18,3,0,20]))))
abbrev f_plan_judge_taken : Nat := 221
def c_plan_judge_taken : CFn := { frz := true,rnd := none,nargs := 2,ntmps := 39,res := [(.slot 4)],code :=
  (sQ (rG 1 [o1 0 3 (.box 0 10 (.s 1)),mB 1 4 false] [3,0])
  (sQ (sQ (rG 0 [mS 0 8 0,nC 1 9 8,fA 2 10 0 9,fA 3 11 0 10,fA 4 12 2 11,fA 6 14 0 3,mI 12 20 0,lF 5 13 12,lF 7 15 14,iA 8 16 2 13 15,fA 9 17 0 16,lF 10 18 17,lN 11 19 18] [19,18,3,0,20])
  (.block 0 (.loop (some [19,18,3,0,20]) c_plan_judge_taken_l1)))
  (sQ (rG 0 [mB 0 4 false] [4])
  .ret))) }
end Go.NilRun
