/- This text lists functions of this seat's program, compiled for the evaluator; no condition. -/
import Derived.Test.YtoeljnnolbplaaaGreatTrTab1
import Derived.KernelRfl
set_option linter.unusedVariables false
namespace Go.TrRun
open Go Go.Eng
def c_kerbstoneref01_root_l1 : CC := (.seq (.seq (.region 0 [⟨0, (some 5), none, .mv (.s 4)⟩, ⟨1, (some 6), none, .bin .gtr (.s 5) (.k (.c (.int .i64 0)))⟩] [] (some [6, 3, 4, 0]))
  (.cond (.s 6) .skip
  (.exit 0)))
  (.seq (.block 1 (.seq (.region 0 [⟨0, (some 9), none, .mv (.s 3)⟩, ⟨1, (some 10), none, .mv (.s 4)⟩, ⟨2, (some 11), none, .bin .add (.s 9) (.s 10)⟩, ⟨3, (some 12), none, .mv (.s 3)⟩, ⟨4, (some 13), none, .mv (.s 4)⟩, ⟨5, (some 14), none, .bin .add (.s 12) (.s 13)⟩, ⟨6, (some 15), none, .bin .mul (.s 11) (.s 14)⟩, ⟨7, (some 16), none, .mv (.s 0)⟩, ⟨8, (some 17), none, .bin .leq (.s 15) (.s 16)⟩] [] (some [17, 3, 4, 0]))
  (.cond (.s 17) (.region 0 [⟨0, (some 18), none, .mv (.s 3)⟩, ⟨1, (some 19), none, .mv (.s 4)⟩, ⟨2, (some 20), none, .bin .add (.s 18) (.s 19)⟩, ⟨3, (some 3), none, .mv (.s 20)⟩] [] (some [4, 3, 0]))
  .skip)))
  (.region 0 [⟨0, (some 7), none, .mv (.s 4)⟩, ⟨1, (some 8), none, .bin .quo (.s 7) (.k (.c (.int .i64 2)))⟩, ⟨2, (some 4), none, .mv (.s 8)⟩] [] (some [3, 4, 0]))))
/-- kerbstone/kerbstoneref01.root -/
abbrev f_kerbstoneref01_root : Nat := 207
def c_kerbstoneref01_root : CFn := { frz := true, rnd := none, nargs := 1, ntmps := 22, res := [(.slot 2)], code :=
  (.seq (.region 0 [⟨0, (some 2), none, .mv (.k (.c (.int .i64 0)))⟩] [] (some [0]))
  (.seq (.region 0 [⟨0, (some 3), none, .mv (.k (.c (.int .i64 0)))⟩] [] (some [3, 0]))
  (.seq (.seq (.region 0 [⟨0, (some 4), none, .mv (.k (.c (.int .i64 67108864)))⟩] [] (some [3, 4, 0]))
  (.block 0 (.loop (some [3, 4, 0]) c_kerbstoneref01_root_l1)))
  (.seq (.region 0 [⟨0, (some 21), none, .mv (.s 3)⟩, ⟨1, (some 2), none, .mv (.s 21)⟩] [] (some [2]))
  .ret)))) }
def c_curve_pieces_1_l1 : CC := (.seq (.region 0 [⟨0, (some 13), none, .bin .lss (.s 12) (.s 11)⟩] [] (some [13, 1, 0, 11, 12, 3]))
  (.seq (.cond (.s 13) .skip
  (.exit 0))
  (.seq (.block 1 (.seq (.region 0 [⟨0, (some 14), none, .mv (.s 12)⟩, ⟨1, (some 4), none, .mv (.s 14)⟩] [] (some [4, 1, 0, 11, 12, 3]))
  (.seq (.region 1 [⟨0, (some 15), none, .faddr 0 (.s 1)⟩, ⟨2, (some 17), none, .mv (.s 4)⟩, ⟨5, (some 20), none, .faddr 0 (.s 1)⟩, ⟨7, (some 22), none, .mv (.s 4)⟩, ⟨8, (some 23), none, .bin .add (.s 22) (.k (.c (.int .i64 1)))⟩, ⟨1, (some 16), none, .load false 1 (.s 15)⟩, ⟨3, (some 18), none, .iaddr 2 (.s 16) (.s 17)⟩, ⟨4, (some 19), none, .load true 2 (.s 18)⟩, ⟨6, (some 21), none, .load false 1 (.s 20)⟩, ⟨9, (some 24), none, .iaddr 2 (.s 21) (.s 23)⟩, ⟨10, (some 25), none, .load true 2 (.s 24)⟩, ⟨11, (some 26), none, .call ⟨true⟩ (.k (.c (.fn 180 [] []))) [(.s 19), (.s 25)]⟩, ⟨12, (some 5), none, .box 0 2 (.k (.a [(.int .i64 0), (.int .i64 0)]))⟩, ⟨13, none, none, .store 2 (.s 5) (.s 26)⟩] [(5, 12), (7, 12), (8, 12), (10, 12), (11, 12)] (some [4, 5, 1, 0, 11, 12, 3]))
  (.seq (.region 0 [⟨0, (some 28), none, .load true 2 (.s 5)⟩, ⟨1, (some 29), none, .load true 2 (.s 5)⟩, ⟨2, (some 30), none, .call ⟨true⟩ (.k (.c (.fn 181 [] []))) [(.s 28), (.s 29)]⟩, ⟨3, (some 31), none, .call ⟨true⟩ (.k (.c (.fn 204 [] []))) [(.s 30)]⟩, ⟨4, (some 27), none, .mv (.s 31)⟩, ⟨5, (some 32), none, .extract 27 0⟩, ⟨6, (some 33), none, .extract 27 1⟩, ⟨7, (some 6), none, .mv (.s 32)⟩, ⟨8, (some 7), none, .mv (.s 33)⟩] [] (some [4, 5, 1, 0, 11, 12, 6, 3]))
  (.seq (.seq (.region 0 [⟨0, (some 34), none, .mv (.s 0)⟩, ⟨1, (some 35), none, .mv (.s 4)⟩, ⟨2, (some 36), none, .faddr 0 (.s 1)⟩, ⟨4, (some 38), none, .mv (.s 4)⟩, ⟨8, (some 42), none, .mv (.s 6)⟩, ⟨9, (some 43), none, .mv (.s 3)⟩, ⟨3, (some 37), none, .load false 1 (.s 36)⟩, ⟨5, (some 39), none, .iaddr 2 (.s 37) (.s 38)⟩, ⟨6, (some 40), none, .load true 2 (.s 39)⟩, ⟨7, (some 41), none, .load true 2 (.s 5)⟩, ⟨10, (some 44), none, .build [(.int .i64 0), (.int .i64 0), (.int .i64 0), (.int .i64 0), (.int .i64 0), (.int .i64 0)] [(0, 2, (.s 40)), (2, 2, (.s 41)), (4, 1, (.s 42)), (5, 1, (.s 43))]⟩, ⟨11, (some 45), none, .call ⟨true⟩ (.s 34) [(.s 35), (.s 44)]⟩, ⟨12, (some 46), none, .un .not (.s 45)⟩] [] (some [46, 1, 0, 11, 12, 6, 3]))
  (.cond (.s 46) .ret
  .skip))
  (.region 0 [⟨0, (some 47), none, .mv (.s 3)⟩, ⟨1, (some 48), none, .mv (.s 6)⟩, ⟨2, (some 49), none, .bin .add (.s 47) (.s 48)⟩, ⟨3, (some 3), none, .mv (.s 49)⟩] [] (some [12, 11, 0, 1, 3])))))))
  (.region 0 [⟨0, (some 50), none, .bin .add (.s 12) (.k (.c (.int .i64 1)))⟩, ⟨1, (some 12), none, .mv (.s 50)⟩] [] (some [11, 0, 1, 12, 3])))))
/-- kerbstone/curve.pieces$1 -/
abbrev f_curve_pieces_1 : Nat := 210
def c_curve_pieces_1 : CFn := { frz := true, rnd := none, nargs := 2, ntmps := 51, res := [], code :=
  (.seq (.region 0 [⟨0, (some 3), none, .mv (.k (.c (.int .i64 0)))⟩] [] (some [0, 1, 3]))
  (.seq (.region 0 [⟨0, (some 8), none, .faddr 0 (.s 1)⟩, ⟨1, (some 9), none, .load false 1 (.s 8)⟩, ⟨2, (some 10), none, .len (.s 9)⟩, ⟨3, (some 11), none, .bin .sub (.s 10) (.k (.c (.int .i64 1)))⟩, ⟨4, (some 12), none, .mv (.k (.c (.int .i64 0)))⟩] [] (some [11, 0, 1, 12, 3]))
  (.block 0 (.loop (some [11, 0, 1, 12, 3]) c_curve_pieces_1_l1)))) }
def c_slices_insertionSortCmpFunc_Blob_l1 : CC := (.seq (.seq (.region 0 [⟨0, (some 18), none, .mv (.s 9)⟩, ⟨1, (some 19), none, .mv (.s 1)⟩, ⟨2, (some 20), none, .bin .gtr (.s 18) (.s 19)⟩, ⟨3, (some 21), none, .mv (.s 20)⟩, ⟨4, (some 22), (some (21, true)), .mv (.s 3)⟩, ⟨5, (some 23), (some (21, true)), .mv (.s 0)⟩, ⟨6, (some 24), (some (21, true)), .mv (.s 9)⟩, ⟨7, (some 25), (some (21, true)), .iaddr 6 (.s 23) (.s 24)⟩, ⟨9, (some 27), (some (21, true)), .mv (.s 0)⟩, ⟨10, (some 28), (some (21, true)), .mv (.s 9)⟩, ⟨11, (some 29), (some (21, true)), .bin .sub (.s 28) (.k (.c (.int .i64 1)))⟩, ⟨12, (some 30), (some (21, true)), .iaddr 6 (.s 27) (.s 29)⟩, ⟨8, (some 26), (some (21, true)), .load true 6 (.s 25)⟩, ⟨13, (some 31), (some (21, true)), .load true 6 (.s 30)⟩, ⟨14, (some 32), (some (21, true)), .call ⟨true⟩ (.s 22) [(.s 26), (.s 31)]⟩, ⟨15, (some 33), (some (21, true)), .bin .lss (.s 32) (.k (.c (.int .i64 0)))⟩, ⟨16, (some 34), none, .pick (.s 21) (.s 33) (.k (.c (.bool false)))⟩] [] (some [34, 9, 3, 1, 2, 8, 0]))
  (.cond (.s 34) .skip
  (.exit 2)))
  (.seq (.block 3 (.region 0 [⟨0, (some 37), none, .mv (.s 0)⟩, ⟨1, (some 38), none, .mv (.s 9)⟩, ⟨2, (some 39), none, .mv (.s 0)⟩, ⟨3, (some 40), none, .mv (.s 9)⟩, ⟨4, (some 41), none, .bin .sub (.s 40) (.k (.c (.int .i64 1)))⟩, ⟨5, (some 42), none, .mv (.s 0)⟩, ⟨6, (some 43), none, .mv (.s 9)⟩, ⟨7, (some 44), none, .bin .sub (.s 43) (.k (.c (.int .i64 1)))⟩, ⟨8, (some 45), none, .iaddr 6 (.s 42) (.s 44)⟩, ⟨10, (some 47), none, .mv (.s 0)⟩, ⟨11, (some 48), none, .mv (.s 9)⟩, ⟨12, (some 49), none, .iaddr 6 (.s 47) (.s 48)⟩, ⟨9, (some 46), none, .load true 6 (.s 45)⟩, ⟨13, (some 50), none, .load true 6 (.s 49)⟩, ⟨14, (some 51), none, .iaddr 6 (.s 37) (.s 38)⟩, ⟨15, none, none, .store 6 (.s 51) (.s 46)⟩, ⟨16, (some 52), none, .iaddr 6 (.s 39) (.s 41)⟩, ⟨17, none, none, .store 6 (.s 52) (.s 50)⟩] [] (some [9, 3, 1, 2, 8, 0])))
  (.region 0 [⟨0, (some 35), none, .mv (.s 9)⟩, ⟨1, (some 36), none, .bin .sub (.s 35) (.k (.c (.int .i64 1)))⟩, ⟨2, (some 9), none, .mv (.s 36)⟩] [] (some [9, 3, 1, 2, 8, 0]))))
def c_slices_insertionSortCmpFunc_Blob_l2 : CC := (.seq (.seq (.region 0 [⟨0, (some 12), none, .mv (.s 8)⟩, ⟨1, (some 13), none, .mv (.s 2)⟩, ⟨2, (some 14), none, .bin .lss (.s 12) (.s 13)⟩] [] (some [14, 3, 1, 2, 8, 0]))
  (.cond (.s 14) .skip
  (.exit 0)))
  (.seq (.block 1 (.seq (.region 0 [⟨0, (some 17), none, .mv (.s 8)⟩, ⟨1, (some 9), none, .mv (.s 17)⟩] [] (some [9, 3, 1, 2, 8, 0]))
  (.block 2 (.loop (some [9, 3, 1, 2, 8, 0]) c_slices_insertionSortCmpFunc_Blob_l1))))
  (.region 0 [⟨0, (some 15), none, .mv (.s 8)⟩, ⟨1, (some 16), none, .bin .add (.s 15) (.k (.c (.int .i64 1)))⟩, ⟨2, (some 8), none, .mv (.s 16)⟩] [] (some [2, 1, 3, 8, 0]))))
/-- slices.insertionSortCmpFunc[kerbstone/api.Blob] -/
abbrev f_slices_insertionSortCmpFunc_Blob : Nat := 216
def c_slices_insertionSortCmpFunc_Blob : CFn := { frz := true, rnd := none, nargs := 4, ntmps := 53, res := [], code :=
  (.seq (.region 0 [⟨0, (some 10), none, .mv (.s 1)⟩, ⟨1, (some 11), none, .bin .add (.s 10) (.k (.c (.int .i64 1)))⟩, ⟨2, (some 8), none, .mv (.s 11)⟩] [] (some [2, 1, 3, 8, 0]))
  (.block 0 (.loop (some [2, 1, 3, 8, 0]) c_slices_insertionSortCmpFunc_Blob_l2))) }
def c_slices_symMergeCmpFunc_Blob_l1 : CC := (.seq (.seq (.region 0 [⟨0, (some 31), none, .mv (.s 10)⟩, ⟨1, (some 32), none, .mv (.s 11)⟩, ⟨2, (some 33), none, .bin .lss (.s 31) (.s 32)⟩] [] (some [33, 10, 11, 4, 0, 1]))
  (.cond (.s 33) .skip
  (.exit 0)))
  (.block 1 (.seq (.region 0 [⟨0, (some 34), none, .mv (.s 10)⟩, ⟨1, (some 35), none, .mv (.s 11)⟩, ⟨2, (some 36), none, .bin .add (.s 34) (.s 35)⟩, ⟨3, (some 37), none, .conv .u64 (.s 36)⟩, ⟨4, (some 38), none, .bin .shr (.s 37) (.k (.c (.int .u64 1)))⟩, ⟨5, (some 39), none, .conv .i64 (.s 38)⟩, ⟨6, (some 12), none, .mv (.s 39)⟩] [] (some [10, 12, 11, 4, 0, 1]))
  (.seq (.region 0 [⟨0, (some 40), none, .mv (.s 4)⟩, ⟨1, (some 41), none, .mv (.s 0)⟩, ⟨2, (some 42), none, .mv (.s 12)⟩, ⟨3, (some 43), none, .iaddr 6 (.s 41) (.s 42)⟩, ⟨5, (some 45), none, .mv (.s 0)⟩, ⟨6, (some 46), none, .mv (.s 1)⟩, ⟨7, (some 47), none, .iaddr 6 (.s 45) (.s 46)⟩, ⟨4, (some 44), none, .load true 6 (.s 43)⟩, ⟨8, (some 48), none, .load true 6 (.s 47)⟩, ⟨9, (some 49), none, .call ⟨true⟩ (.s 40) [(.s 44), (.s 48)]⟩, ⟨10, (some 50), none, .bin .lss (.s 49) (.k (.c (.int .i64 0)))⟩] [] (some [50, 10, 12, 11, 4, 0, 1]))
  (.cond (.s 50) (.region 0 [⟨0, (some 51), none, .mv (.s 12)⟩, ⟨1, (some 52), none, .bin .add (.s 51) (.k (.c (.int .i64 1)))⟩, ⟨2, (some 10), none, .mv (.s 52)⟩] [] (some [10, 11, 4, 0, 1]))
  (.region 0 [⟨0, (some 53), none, .mv (.s 12)⟩, ⟨1, (some 11), none, .mv (.s 53)⟩] [] (some [10, 11, 4, 0, 1])))))))
def c_slices_symMergeCmpFunc_Blob_l2 : CC := (.seq (.seq (.region 0 [⟨0, (some 55), none, .mv (.s 13)⟩, ⟨1, (some 56), none, .mv (.s 10)⟩, ⟨2, (some 57), none, .bin .sub (.s 56) (.k (.c (.int .i64 1)))⟩, ⟨3, (some 58), none, .bin .lss (.s 55) (.s 57)⟩] [] (some [58, 13, 10, 0]))
  (.cond (.s 58) .skip
  (.exit 2)))
  (.seq (.block 3 (.region 0 [⟨0, (some 61), none, .mv (.s 0)⟩, ⟨1, (some 62), none, .mv (.s 13)⟩, ⟨2, (some 63), none, .mv (.s 0)⟩, ⟨3, (some 64), none, .mv (.s 13)⟩, ⟨4, (some 65), none, .bin .add (.s 64) (.k (.c (.int .i64 1)))⟩, ⟨5, (some 66), none, .mv (.s 0)⟩, ⟨6, (some 67), none, .mv (.s 13)⟩, ⟨7, (some 68), none, .bin .add (.s 67) (.k (.c (.int .i64 1)))⟩, ⟨8, (some 69), none, .iaddr 6 (.s 66) (.s 68)⟩, ⟨10, (some 71), none, .mv (.s 0)⟩, ⟨11, (some 72), none, .mv (.s 13)⟩, ⟨12, (some 73), none, .iaddr 6 (.s 71) (.s 72)⟩, ⟨9, (some 70), none, .load true 6 (.s 69)⟩, ⟨13, (some 74), none, .load true 6 (.s 73)⟩, ⟨14, (some 75), none, .iaddr 6 (.s 61) (.s 62)⟩, ⟨15, none, none, .store 6 (.s 75) (.s 70)⟩, ⟨16, (some 76), none, .iaddr 6 (.s 63) (.s 65)⟩, ⟨17, none, none, .store 6 (.s 76) (.s 74)⟩] [] (some [13, 10, 0])))
  (.region 0 [⟨0, (some 59), none, .mv (.s 13)⟩, ⟨1, (some 60), none, .bin .add (.s 59) (.k (.c (.int .i64 1)))⟩, ⟨2, (some 13), none, .mv (.s 60)⟩] [] (some [13, 10, 0]))))
def c_slices_symMergeCmpFunc_Blob_l3 : CC := (.seq (.seq (.region 0 [⟨0, (some 83), none, .mv (.s 14)⟩, ⟨1, (some 84), none, .mv (.s 15)⟩, ⟨2, (some 85), none, .bin .lss (.s 83) (.s 84)⟩] [] (some [85, 14, 15, 4, 2, 0]))
  (.cond (.s 85) .skip
  (.exit 4)))
  (.block 5 (.seq (.region 0 [⟨0, (some 86), none, .mv (.s 14)⟩, ⟨1, (some 87), none, .mv (.s 15)⟩, ⟨2, (some 88), none, .bin .add (.s 86) (.s 87)⟩, ⟨3, (some 89), none, .conv .u64 (.s 88)⟩, ⟨4, (some 90), none, .bin .shr (.s 89) (.k (.c (.int .u64 1)))⟩, ⟨5, (some 91), none, .conv .i64 (.s 90)⟩, ⟨6, (some 16), none, .mv (.s 91)⟩] [] (some [14, 16, 15, 4, 2, 0]))
  (.seq (.region 0 [⟨0, (some 92), none, .mv (.s 4)⟩, ⟨1, (some 93), none, .mv (.s 0)⟩, ⟨2, (some 94), none, .mv (.s 2)⟩, ⟨3, (some 95), none, .iaddr 6 (.s 93) (.s 94)⟩, ⟨5, (some 97), none, .mv (.s 0)⟩, ⟨6, (some 98), none, .mv (.s 16)⟩, ⟨7, (some 99), none, .iaddr 6 (.s 97) (.s 98)⟩, ⟨4, (some 96), none, .load true 6 (.s 95)⟩, ⟨8, (some 100), none, .load true 6 (.s 99)⟩, ⟨9, (some 101), none, .call ⟨true⟩ (.s 92) [(.s 96), (.s 100)]⟩, ⟨10, (some 102), none, .bin .lss (.s 101) (.k (.c (.int .i64 0)))⟩, ⟨11, (some 103), none, .un .not (.s 102)⟩] [] (some [103, 14, 16, 15, 4, 2, 0]))
  (.cond (.s 103) (.region 0 [⟨0, (some 104), none, .mv (.s 16)⟩, ⟨1, (some 105), none, .bin .add (.s 104) (.k (.c (.int .i64 1)))⟩, ⟨2, (some 14), none, .mv (.s 105)⟩] [] (some [14, 15, 4, 2, 0]))
  (.region 0 [⟨0, (some 106), none, .mv (.s 16)⟩, ⟨1, (some 15), none, .mv (.s 106)⟩] [] (some [14, 15, 4, 2, 0])))))))
def c_slices_symMergeCmpFunc_Blob_l4 : CC := (.seq (.seq (.region 0 [⟨0, (some 108), none, .mv (.s 17)⟩, ⟨1, (some 109), none, .mv (.s 14)⟩, ⟨2, (some 110), none, .bin .gtr (.s 108) (.s 109)⟩] [] (some [110, 17, 14, 0]))
  (.cond (.s 110) .skip
  (.exit 6)))
  (.seq (.block 7 (.region 0 [⟨0, (some 113), none, .mv (.s 0)⟩, ⟨1, (some 114), none, .mv (.s 17)⟩, ⟨2, (some 115), none, .mv (.s 0)⟩, ⟨3, (some 116), none, .mv (.s 17)⟩, ⟨4, (some 117), none, .bin .sub (.s 116) (.k (.c (.int .i64 1)))⟩, ⟨5, (some 118), none, .mv (.s 0)⟩, ⟨6, (some 119), none, .mv (.s 17)⟩, ⟨7, (some 120), none, .bin .sub (.s 119) (.k (.c (.int .i64 1)))⟩, ⟨8, (some 121), none, .iaddr 6 (.s 118) (.s 120)⟩, ⟨10, (some 123), none, .mv (.s 0)⟩, ⟨11, (some 124), none, .mv (.s 17)⟩, ⟨12, (some 125), none, .iaddr 6 (.s 123) (.s 124)⟩, ⟨9, (some 122), none, .load true 6 (.s 121)⟩, ⟨13, (some 126), none, .load true 6 (.s 125)⟩, ⟨14, (some 127), none, .iaddr 6 (.s 113) (.s 114)⟩, ⟨15, none, none, .store 6 (.s 127) (.s 122)⟩, ⟨16, (some 128), none, .iaddr 6 (.s 115) (.s 117)⟩, ⟨17, none, none, .store 6 (.s 128) (.s 126)⟩] [] (some [17, 14, 0])))
  (.region 0 [⟨0, (some 111), none, .mv (.s 17)⟩, ⟨1, (some 112), none, .bin .sub (.s 111) (.k (.c (.int .i64 1)))⟩, ⟨2, (some 17), none, .mv (.s 112)⟩] [] (some [17, 14, 0]))))
def c_slices_symMergeCmpFunc_Blob_l5 : CC := (.seq (.seq (.region 0 [⟨0, (some 149), none, .mv (.s 20)⟩, ⟨1, (some 150), none, .mv (.s 21)⟩, ⟨2, (some 151), none, .bin .lss (.s 149) (.s 150)⟩] [] (some [151, 20, 3, 18, 1, 2, 19, 21, 4, 22, 0]))
  (.cond (.s 151) .skip
  (.exit 8)))
  (.block 9 (.seq (.region 0 [⟨0, (some 152), none, .mv (.s 20)⟩, ⟨1, (some 153), none, .mv (.s 21)⟩, ⟨2, (some 154), none, .bin .add (.s 152) (.s 153)⟩, ⟨3, (some 155), none, .conv .u64 (.s 154)⟩, ⟨4, (some 156), none, .bin .shr (.s 155) (.k (.c (.int .u64 1)))⟩, ⟨5, (some 157), none, .conv .i64 (.s 156)⟩, ⟨6, (some 23), none, .mv (.s 157)⟩] [] (some [20, 23, 3, 18, 1, 2, 19, 21, 4, 22, 0]))
  (.seq (.region 0 [⟨0, (some 158), none, .mv (.s 4)⟩, ⟨1, (some 159), none, .mv (.s 0)⟩, ⟨2, (some 160), none, .mv (.s 22)⟩, ⟨3, (some 161), none, .mv (.s 23)⟩, ⟨4, (some 162), none, .bin .sub (.s 160) (.s 161)⟩, ⟨5, (some 163), none, .iaddr 6 (.s 159) (.s 162)⟩, ⟨7, (some 165), none, .mv (.s 0)⟩, ⟨8, (some 166), none, .mv (.s 23)⟩, ⟨9, (some 167), none, .iaddr 6 (.s 165) (.s 166)⟩, ⟨6, (some 164), none, .load true 6 (.s 163)⟩, ⟨10, (some 168), none, .load true 6 (.s 167)⟩, ⟨11, (some 169), none, .call ⟨true⟩ (.s 158) [(.s 164), (.s 168)]⟩, ⟨12, (some 170), none, .bin .lss (.s 169) (.k (.c (.int .i64 0)))⟩, ⟨13, (some 171), none, .un .not (.s 170)⟩] [] (some [171, 20, 23, 3, 18, 1, 2, 19, 21, 4, 22, 0]))
  (.cond (.s 171) (.region 0 [⟨0, (some 172), none, .mv (.s 23)⟩, ⟨1, (some 173), none, .bin .add (.s 172) (.k (.c (.int .i64 1)))⟩, ⟨2, (some 20), none, .mv (.s 173)⟩] [] (some [20, 3, 18, 1, 2, 19, 21, 4, 22, 0]))
  (.region 0 [⟨0, (some 174), none, .mv (.s 23)⟩, ⟨1, (some 21), none, .mv (.s 174)⟩] [] (some [20, 3, 18, 1, 2, 19, 21, 4, 22, 0])))))))
/-- slices.symMergeCmpFunc[kerbstone/api.Blob] -/
abbrev f_slices_symMergeCmpFunc_Blob : Nat := 217
def c_slices_symMergeCmpFunc_Blob : CFn := { frz := true, rnd := none, nargs := 5, ntmps := 220, res := [], code :=
  (.seq (.seq (.region 0 [⟨0, (some 25), none, .mv (.s 2)⟩, ⟨1, (some 26), none, .mv (.s 1)⟩, ⟨2, (some 27), none, .bin .sub (.s 25) (.s 26)⟩, ⟨3, (some 28), none, .bin .eql (.s 27) (.k (.c (.int .i64 1)))⟩] [] (some [28, 2, 3, 4, 0, 1]))
  (.cond (.s 28) (.seq (.region 0 [⟨0, (some 29), none, .mv (.s 2)⟩, ⟨1, (some 10), none, .mv (.s 29)⟩] [] (some [3, 10, 4, 0, 1]))
  (.seq (.region 0 [⟨0, (some 30), none, .mv (.s 3)⟩, ⟨1, (some 11), none, .mv (.s 30)⟩] [] (some [10, 11, 4, 0, 1]))
  (.seq (.block 0 (.loop (some [10, 11, 4, 0, 1]) c_slices_symMergeCmpFunc_Blob_l1))
  (.seq (.seq (.region 0 [⟨0, (some 54), none, .mv (.s 1)⟩, ⟨1, (some 13), none, .mv (.s 54)⟩] [] (some [13, 10, 0]))
  (.block 2 (.loop (some [13, 10, 0]) c_slices_symMergeCmpFunc_Blob_l2)))
  .ret))))
  .skip))
  (.seq (.seq (.region 0 [⟨0, (some 77), none, .mv (.s 3)⟩, ⟨1, (some 78), none, .mv (.s 2)⟩, ⟨2, (some 79), none, .bin .sub (.s 77) (.s 78)⟩, ⟨3, (some 80), none, .bin .eql (.s 79) (.k (.c (.int .i64 1)))⟩] [] (some [80, 3, 1, 4, 2, 0]))
  (.cond (.s 80) (.seq (.region 0 [⟨0, (some 81), none, .mv (.s 1)⟩, ⟨1, (some 14), none, .mv (.s 81)⟩] [] (some [14, 4, 2, 0]))
  (.seq (.region 0 [⟨0, (some 82), none, .mv (.s 2)⟩, ⟨1, (some 15), none, .mv (.s 82)⟩] [] (some [14, 15, 4, 2, 0]))
  (.seq (.block 4 (.loop (some [14, 15, 4, 2, 0]) c_slices_symMergeCmpFunc_Blob_l3))
  (.seq (.seq (.region 0 [⟨0, (some 107), none, .mv (.s 2)⟩, ⟨1, (some 17), none, .mv (.s 107)⟩] [] (some [17, 14, 0]))
  (.block 6 (.loop (some [17, 14, 0]) c_slices_symMergeCmpFunc_Blob_l4)))
  .ret))))
  .skip))
  (.seq (.region 0 [⟨0, (some 129), none, .mv (.s 1)⟩, ⟨1, (some 130), none, .mv (.s 3)⟩, ⟨2, (some 131), none, .bin .add (.s 129) (.s 130)⟩, ⟨3, (some 132), none, .conv .u64 (.s 131)⟩, ⟨4, (some 133), none, .bin .shr (.s 132) (.k (.c (.int .u64 1)))⟩, ⟨5, (some 134), none, .conv .i64 (.s 133)⟩, ⟨6, (some 18), none, .mv (.s 134)⟩] [] (some [3, 18, 1, 2, 4, 0]))
  (.seq (.region 0 [⟨0, (some 135), none, .mv (.s 18)⟩, ⟨1, (some 136), none, .mv (.s 2)⟩, ⟨2, (some 137), none, .bin .add (.s 135) (.s 136)⟩, ⟨3, (some 19), none, .mv (.s 137)⟩] [] (some [3, 18, 1, 2, 19, 4, 0]))
  (.seq (.region 0 [⟨0, (some 20), none, .mv (.k (.c (.int .i64 0)))⟩, ⟨1, (some 21), none, .mv (.k (.c (.int .i64 0)))⟩] [] (some [3, 18, 1, 2, 19, 4, 0]))
  (.seq (.seq (.region 0 [⟨0, (some 138), none, .mv (.s 2)⟩, ⟨1, (some 139), none, .mv (.s 18)⟩, ⟨2, (some 140), none, .bin .gtr (.s 138) (.s 139)⟩] [] (some [140, 3, 18, 1, 2, 19, 4, 0]))
  (.cond (.s 140) (.seq (.region 0 [⟨0, (some 141), none, .mv (.s 19)⟩, ⟨1, (some 142), none, .mv (.s 3)⟩, ⟨2, (some 143), none, .bin .sub (.s 141) (.s 142)⟩, ⟨3, (some 20), none, .mv (.s 143)⟩] [] (some [20, 3, 18, 1, 2, 19, 4, 0]))
  (.region 0 [⟨0, (some 144), none, .mv (.s 18)⟩, ⟨1, (some 21), none, .mv (.s 144)⟩] [] (some [20, 3, 18, 1, 2, 19, 21, 4, 0])))
  (.seq (.region 0 [⟨0, (some 145), none, .mv (.s 1)⟩, ⟨1, (some 20), none, .mv (.s 145)⟩] [] (some [20, 3, 18, 1, 2, 19, 4, 0]))
  (.region 0 [⟨0, (some 146), none, .mv (.s 2)⟩, ⟨1, (some 21), none, .mv (.s 146)⟩] [] (some [20, 3, 18, 1, 2, 19, 21, 4, 0])))))
  (.seq (.region 0 [⟨0, (some 147), none, .mv (.s 19)⟩, ⟨1, (some 148), none, .bin .sub (.s 147) (.k (.c (.int .i64 1)))⟩, ⟨2, (some 22), none, .mv (.s 148)⟩] [] (some [20, 3, 18, 1, 2, 19, 21, 4, 22, 0]))
  (.seq (.block 8 (.loop (some [20, 3, 18, 1, 2, 19, 21, 4, 22, 0]) c_slices_symMergeCmpFunc_Blob_l5))
  (.seq (.region 0 [⟨0, (some 175), none, .mv (.s 19)⟩, ⟨1, (some 176), none, .mv (.s 20)⟩, ⟨2, (some 177), none, .bin .sub (.s 175) (.s 176)⟩, ⟨3, (some 24), none, .mv (.s 177)⟩] [] (some [2, 1, 20, 0, 18, 24, 3, 4]))
  (.seq (.seq (.region 0 [⟨0, (some 178), none, .mv (.s 20)⟩, ⟨1, (some 179), none, .mv (.s 2)⟩, ⟨2, (some 180), none, .bin .lss (.s 178) (.s 179)⟩, ⟨3, (some 181), none, .mv (.s 180)⟩, ⟨4, (some 182), (some (181, true)), .mv (.s 2)⟩, ⟨5, (some 183), (some (181, true)), .mv (.s 24)⟩, ⟨6, (some 184), (some (181, true)), .bin .lss (.s 182) (.s 183)⟩, ⟨7, (some 185), none, .pick (.s 181) (.s 184) (.k (.c (.bool false)))⟩] [] (some [185, 2, 1, 20, 0, 18, 24, 3, 4]))
  (.cond (.s 185) (.region 0 [⟨0, (some 186), none, .mv (.s 0)⟩, ⟨1, (some 187), none, .mv (.s 20)⟩, ⟨2, (some 188), none, .mv (.s 2)⟩, ⟨3, (some 189), none, .mv (.s 24)⟩, ⟨4, (some 190), none, .mv (.s 4)⟩, ⟨5, (some 191), none, .call ⟨false⟩ (.k (.c (.fn 219 [] []))) [(.s 186), (.s 187), (.s 188), (.s 189), (.s 190)]⟩] [] (some [1, 20, 0, 18, 24, 3, 4]))
  .skip))
  (.seq (.seq (.region 0 [⟨0, (some 192), none, .mv (.s 1)⟩, ⟨1, (some 193), none, .mv (.s 20)⟩, ⟨2, (some 194), none, .bin .lss (.s 192) (.s 193)⟩, ⟨3, (some 195), none, .mv (.s 194)⟩, ⟨4, (some 196), (some (195, true)), .mv (.s 20)⟩, ⟨5, (some 197), (some (195, true)), .mv (.s 18)⟩, ⟨6, (some 198), (some (195, true)), .bin .lss (.s 196) (.s 197)⟩, ⟨7, (some 199), none, .pick (.s 195) (.s 198) (.k (.c (.bool false)))⟩] [] (some [199, 1, 20, 0, 18, 24, 3, 4]))
  (.cond (.s 199) (.region 0 [⟨0, (some 200), none, .mv (.s 0)⟩, ⟨1, (some 201), none, .mv (.s 1)⟩, ⟨2, (some 202), none, .mv (.s 20)⟩, ⟨3, (some 203), none, .mv (.s 18)⟩, ⟨4, (some 204), none, .mv (.s 4)⟩, ⟨5, (some 205), none, .call ⟨false⟩ (.k (.c (.fn 217 [] []))) [(.s 200), (.s 201), (.s 202), (.s 203), (.s 204)]⟩] [] (some [0, 18, 24, 3, 4]))
  .skip))
  (.seq (.region 0 [⟨0, (some 206), none, .mv (.s 18)⟩, ⟨1, (some 207), none, .mv (.s 24)⟩, ⟨2, (some 208), none, .bin .lss (.s 206) (.s 207)⟩, ⟨3, (some 209), none, .mv (.s 208)⟩, ⟨4, (some 210), (some (209, true)), .mv (.s 24)⟩, ⟨5, (some 211), (some (209, true)), .mv (.s 3)⟩, ⟨6, (some 212), (some (209, true)), .bin .lss (.s 210) (.s 211)⟩, ⟨7, (some 213), none, .pick (.s 209) (.s 212) (.k (.c (.bool false)))⟩] [] (some [213, 0, 18, 24, 3, 4]))
  (.cond (.s 213) (.region 0 [⟨0, (some 214), none, .mv (.s 0)⟩, ⟨1, (some 215), none, .mv (.s 18)⟩, ⟨2, (some 216), none, .mv (.s 24)⟩, ⟨3, (some 217), none, .mv (.s 3)⟩, ⟨4, (some 218), none, .mv (.s 4)⟩, ⟨5, (some 219), none, .call ⟨false⟩ (.k (.c (.fn 217 [] []))) [(.s 214), (.s 215), (.s 216), (.s 217), (.s 218)]⟩] [] (some []))
  .skip))))))))))))) }
def c_slices_rotateCmpFunc_Blob_l1 : CC := (.seq (.seq (.region 0 [⟨0, (some 18), none, .mv (.s 10)⟩, ⟨1, (some 19), none, .mv (.s 11)⟩, ⟨2, (some 20), none, .bin .neq (.s 18) (.s 19)⟩] [] (some [20, 10, 0, 2, 4, 11]))
  (.cond (.s 20) .skip
  (.exit 0)))
  (.block 1 (.seq (.region 0 [⟨0, (some 21), none, .mv (.s 10)⟩, ⟨1, (some 22), none, .mv (.s 11)⟩, ⟨2, (some 23), none, .bin .gtr (.s 21) (.s 22)⟩] [] (some [23, 10, 0, 2, 4, 11]))
  (.cond (.s 23) (.seq (.region 0 [⟨0, (some 24), none, .mv (.s 0)⟩, ⟨1, (some 25), none, .mv (.s 2)⟩, ⟨2, (some 26), none, .mv (.s 10)⟩, ⟨3, (some 27), none, .bin .sub (.s 25) (.s 26)⟩, ⟨4, (some 28), none, .mv (.s 2)⟩, ⟨5, (some 29), none, .mv (.s 11)⟩, ⟨6, (some 30), none, .mv (.s 4)⟩, ⟨7, (some 31), none, .call ⟨false⟩ (.k (.c (.fn 220 [] []))) [(.s 24), (.s 27), (.s 28), (.s 29), (.s 30)]⟩] [] (some [10, 0, 2, 4, 11]))
  (.region 0 [⟨0, (some 32), none, .mv (.s 10)⟩, ⟨1, (some 33), none, .mv (.s 11)⟩, ⟨2, (some 34), none, .bin .sub (.s 32) (.s 33)⟩, ⟨3, (some 10), none, .mv (.s 34)⟩] [] (some [10, 0, 2, 4, 11])))
  (.seq (.region 0 [⟨0, (some 35), none, .mv (.s 0)⟩, ⟨1, (some 36), none, .mv (.s 2)⟩, ⟨2, (some 37), none, .mv (.s 10)⟩, ⟨3, (some 38), none, .bin .sub (.s 36) (.s 37)⟩, ⟨4, (some 39), none, .mv (.s 2)⟩, ⟨5, (some 40), none, .mv (.s 11)⟩, ⟨6, (some 41), none, .bin .add (.s 39) (.s 40)⟩, ⟨7, (some 42), none, .mv (.s 10)⟩, ⟨8, (some 43), none, .bin .sub (.s 41) (.s 42)⟩, ⟨9, (some 44), none, .mv (.s 10)⟩, ⟨10, (some 45), none, .mv (.s 4)⟩, ⟨11, (some 46), none, .call ⟨false⟩ (.k (.c (.fn 220 [] []))) [(.s 35), (.s 38), (.s 43), (.s 44), (.s 45)]⟩] [] (some [11, 10, 0, 2, 4]))
  (.region 0 [⟨0, (some 47), none, .mv (.s 11)⟩, ⟨1, (some 48), none, .mv (.s 10)⟩, ⟨2, (some 49), none, .bin .sub (.s 47) (.s 48)⟩, ⟨3, (some 11), none, .mv (.s 49)⟩] [] (some [10, 0, 2, 4, 11])))))))
/-- slices.rotateCmpFunc[kerbstone/api.Blob] -/
abbrev f_slices_rotateCmpFunc_Blob : Nat := 219
def c_slices_rotateCmpFunc_Blob : CFn := { frz := true, rnd := none, nargs := 5, ntmps := 58, res := [], code :=
  (.seq (.region 0 [⟨0, (some 12), none, .mv (.s 2)⟩, ⟨1, (some 13), none, .mv (.s 1)⟩, ⟨2, (some 14), none, .bin .sub (.s 12) (.s 13)⟩, ⟨3, (some 10), none, .mv (.s 14)⟩] [] (some [3, 10, 0, 2, 4]))
  (.seq (.region 0 [⟨0, (some 15), none, .mv (.s 3)⟩, ⟨1, (some 16), none, .mv (.s 2)⟩, ⟨2, (some 17), none, .bin .sub (.s 15) (.s 16)⟩, ⟨3, (some 11), none, .mv (.s 17)⟩] [] (some [10, 0, 2, 4, 11]))
  (.seq (.block 0 (.loop (some [10, 0, 2, 4, 11]) c_slices_rotateCmpFunc_Blob_l1))
  (.region 0 [⟨0, (some 50), none, .mv (.s 0)⟩, ⟨1, (some 51), none, .mv (.s 2)⟩, ⟨2, (some 52), none, .mv (.s 10)⟩, ⟨3, (some 53), none, .bin .sub (.s 51) (.s 52)⟩, ⟨4, (some 54), none, .mv (.s 2)⟩, ⟨5, (some 55), none, .mv (.s 10)⟩, ⟨6, (some 56), none, .mv (.s 4)⟩, ⟨7, (some 57), none, .call ⟨false⟩ (.k (.c (.fn 220 [] []))) [(.s 50), (.s 53), (.s 54), (.s 55), (.s 56)]⟩] [] (some []))))) }
def c_slices_swapRangeCmpFunc_Blob_l1 : CC := (.seq (.seq (.region 0 [⟨0, (some 11), none, .mv (.s 10)⟩, ⟨1, (some 12), none, .mv (.s 3)⟩, ⟨2, (some 13), none, .bin .lss (.s 11) (.s 12)⟩] [] (some [13, 10, 3, 2, 0, 1]))
  (.cond (.s 13) .skip
  (.exit 0)))
  (.seq (.block 1 (.region 0 [⟨0, (some 16), none, .mv (.s 0)⟩, ⟨1, (some 17), none, .mv (.s 1)⟩, ⟨2, (some 18), none, .mv (.s 10)⟩, ⟨3, (some 19), none, .bin .add (.s 17) (.s 18)⟩, ⟨4, (some 20), none, .mv (.s 0)⟩, ⟨5, (some 21), none, .mv (.s 2)⟩, ⟨6, (some 22), none, .mv (.s 10)⟩, ⟨7, (some 23), none, .bin .add (.s 21) (.s 22)⟩, ⟨8, (some 24), none, .mv (.s 0)⟩, ⟨9, (some 25), none, .mv (.s 2)⟩, ⟨10, (some 26), none, .mv (.s 10)⟩, ⟨11, (some 27), none, .bin .add (.s 25) (.s 26)⟩, ⟨12, (some 28), none, .iaddr 6 (.s 24) (.s 27)⟩, ⟨14, (some 30), none, .mv (.s 0)⟩, ⟨15, (some 31), none, .mv (.s 1)⟩, ⟨16, (some 32), none, .mv (.s 10)⟩, ⟨17, (some 33), none, .bin .add (.s 31) (.s 32)⟩, ⟨18, (some 34), none, .iaddr 6 (.s 30) (.s 33)⟩, ⟨13, (some 29), none, .load true 6 (.s 28)⟩, ⟨19, (some 35), none, .load true 6 (.s 34)⟩, ⟨20, (some 36), none, .iaddr 6 (.s 16) (.s 19)⟩, ⟨21, none, none, .store 6 (.s 36) (.s 29)⟩, ⟨22, (some 37), none, .iaddr 6 (.s 20) (.s 23)⟩, ⟨23, none, none, .store 6 (.s 37) (.s 35)⟩] [] (some [10, 3, 2, 0, 1])))
  (.region 0 [⟨0, (some 14), none, .mv (.s 10)⟩, ⟨1, (some 15), none, .bin .add (.s 14) (.k (.c (.int .i64 1)))⟩, ⟨2, (some 10), none, .mv (.s 15)⟩] [] (some [10, 3, 2, 0, 1]))))
/-- slices.swapRangeCmpFunc[kerbstone/api.Blob] -/
abbrev f_slices_swapRangeCmpFunc_Blob : Nat := 220
def c_slices_swapRangeCmpFunc_Blob : CFn := { frz := true, rnd := none, nargs := 5, ntmps := 38, res := [], code :=
  (.seq (.region 0 [⟨0, (some 10), none, .mv (.k (.c (.int .i64 0)))⟩] [] (some [10, 3, 2, 0, 1]))
  (.block 0 (.loop (some [10, 3, 2, 0, 1]) c_slices_swapRangeCmpFunc_Blob_l1))) }
def Cs : List (Nat × Nat × Nat × Bool) := [(78, 6, 48, false)]
def L : List (Nat × CFn) := [(3, c_kerbstonelaw05_TrackOwns), (8, c_kerbstonelaw05_awake), (9, c_kerbstonekit_Map), (10, c_kerbstoneref05_Copy), (11, c_kerbstoneref05_Same), (12, c_track_Own), (13, c_kerbstoneref05_Own), (17, c_track_All), (27, c_track_Copy), (35, c_kerbstoneref05_Check), (36, c_track_Join), (37, c_kerbstonekit_Cross), (38, c_kerbstonelaw05_start), (39, c_kerbstonekit_SameBlobs), (40, c_kerbstonekit_Mod), (41, c_kerbstonekit_road), (42, c_kerbstonekit_signal), (43, c_track_Check), (44, c_roads_CheckRoute), (45, c_track_able), (46, c_motion_Along), (47, c_motion_Course_Own), (48, c_kerbstoneref03_CheckRoute), (49, c_kerbstoneref05_own), (54, c_roads_Check), (55, c_roads_Bounds), (56, c_roads_Length), (57, c_kerbstoneref03_Bounds), (62, c_kerbstoneref03_length), (66, c_track_within), (83, c_cmp_Compare_int64), (85, c_kerbstoneref03_Check), (89, c_kerbstoneref05_cut), (90, c_motion_Cut_Blob), (94, c_kerbstoneref05_checkBlob), (95, c_motion_Join), (96, c_roads_before), (97, c_slices_Contains_int), (98, c_roads_Starts), (99, c_roads_RouteLength), (100, c_roads_Sources), (101, c_motion_Course_gap), (102, c_kerbstoneref03_before), (103, c_kerbstoneref03_has), (104, c_kerbstoneref03_Begins), (107, c_roads_check_numbers), (108, c_roads_check_lanes), (109, c_roads_check_joints), (110, c_roads_check_signals), (111, c_roads_check_zones), (112, c_roads_check_works), (113, c_roads_is), (114, c_roads_long), (116, c_kerbstoneref01_Length), (131, c_slices_IndexFunc_Blob), (138, c_cmp_isNaN_int64), (139, c_kerbstoneref03_within), (140, c_kerbstoneref03_checkLane), (141, c_kerbstoneref03_checkNext), (142, c_kerbstoneref03_checkSignal), (143, c_kerbstoneref03_checkZone), (144, c_kerbstoneref03_checkWork), (145, c_kerbstoneref03_Long), (147, c_motion_ends_Blob), (153, c_slices_DeleteFunc_Blob), (154, c_motion_Join_1), (155, c_slices_SortStableFunc_Blob), (156, c_motion_Join_2), (157, c_cmp_Or_int), (158, c_cmp_Compare_int), (159, c_motion_hull), (160, c_slices_Index_int), (161, c_roads_follow), (162, c_roads_within), (163, c_curve_Check), (164, c_roads_rising), (165, c_slices_ContainsFunc_Phase), (166, c_roads_check_signals_1), (167, c_roads_check_signals_2), (168, c_curve_Length), (169, c_kerbstoneref01_Pieces), (178, c_curve_fair), (179, c_curve_pieces), (180, c_curve_from), (181, c_curve_vector_dot), (195, c_kerbstoneref01_Check), (196, c_kerbstoneref03_ordered), (197, c_kerbstoneref01_Valid), (198, c_kerbstoneref01_Minus), (199, c_kerbstoneref01_Dot), (202, c_slices_stableCmpFunc_Blob), (203, c_cmp_isNaN_int), (204, c_curve_root), (205, c_slices_IndexFunc_Phase), (206, c_curve_Pieces), (3535, c_curve_Pieces_r1), (207, c_kerbstoneref01_root), (210, c_curve_pieces_1), (216, c_slices_insertionSortCmpFunc_Blob), (217, c_slices_symMergeCmpFunc_Blob), (219, c_slices_rotateCmpFunc_Blob), (220, c_slices_swapRangeCmpFunc_Blob)]
theorem F_kerbstonelaw05_TrackOwns : L.lookup 3 = some c_kerbstonelaw05_TrackOwns := by kernel_rfl
theorem F_kerbstonelaw05_awake : L.lookup 8 = some c_kerbstonelaw05_awake := by kernel_rfl
theorem F_kerbstonekit_Map : L.lookup 9 = some c_kerbstonekit_Map := by kernel_rfl
theorem F_kerbstoneref05_Copy : L.lookup 10 = some c_kerbstoneref05_Copy := by kernel_rfl
theorem F_kerbstoneref05_Same : L.lookup 11 = some c_kerbstoneref05_Same := by kernel_rfl
theorem F_track_Own : L.lookup 12 = some c_track_Own := by kernel_rfl
theorem F_kerbstoneref05_Own : L.lookup 13 = some c_kerbstoneref05_Own := by kernel_rfl
theorem F_track_All : L.lookup 17 = some c_track_All := by kernel_rfl
theorem F_track_Copy : L.lookup 27 = some c_track_Copy := by kernel_rfl
theorem F_kerbstoneref05_Check : L.lookup 35 = some c_kerbstoneref05_Check := by kernel_rfl
theorem F_track_Join : L.lookup 36 = some c_track_Join := by kernel_rfl
theorem F_kerbstonekit_Cross : L.lookup 37 = some c_kerbstonekit_Cross := by kernel_rfl
theorem F_kerbstonelaw05_start : L.lookup 38 = some c_kerbstonelaw05_start := by kernel_rfl
theorem F_kerbstonekit_SameBlobs : L.lookup 39 = some c_kerbstonekit_SameBlobs := by kernel_rfl
theorem F_kerbstonekit_Mod : L.lookup 40 = some c_kerbstonekit_Mod := by kernel_rfl
theorem F_kerbstonekit_road : L.lookup 41 = some c_kerbstonekit_road := by kernel_rfl
theorem F_kerbstonekit_signal : L.lookup 42 = some c_kerbstonekit_signal := by kernel_rfl
theorem F_track_Check : L.lookup 43 = some c_track_Check := by kernel_rfl
theorem F_roads_CheckRoute : L.lookup 44 = some c_roads_CheckRoute := by kernel_rfl
theorem F_track_able : L.lookup 45 = some c_track_able := by kernel_rfl
theorem F_motion_Along : L.lookup 46 = some c_motion_Along := by kernel_rfl
theorem F_motion_Course_Own : L.lookup 47 = some c_motion_Course_Own := by kernel_rfl
theorem F_kerbstoneref03_CheckRoute : L.lookup 48 = some c_kerbstoneref03_CheckRoute := by kernel_rfl
theorem F_kerbstoneref05_own : L.lookup 49 = some c_kerbstoneref05_own := by kernel_rfl
theorem F_roads_Check : L.lookup 54 = some c_roads_Check := by kernel_rfl
theorem F_roads_Bounds : L.lookup 55 = some c_roads_Bounds := by kernel_rfl
theorem F_roads_Length : L.lookup 56 = some c_roads_Length := by kernel_rfl
theorem F_kerbstoneref03_Bounds : L.lookup 57 = some c_kerbstoneref03_Bounds := by kernel_rfl
theorem F_kerbstoneref03_length : L.lookup 62 = some c_kerbstoneref03_length := by kernel_rfl
theorem F_track_within : L.lookup 66 = some c_track_within := by kernel_rfl
theorem F_cmp_Compare_int64 : L.lookup 83 = some c_cmp_Compare_int64 := by kernel_rfl
theorem F_kerbstoneref03_Check : L.lookup 85 = some c_kerbstoneref03_Check := by kernel_rfl
theorem F_kerbstoneref05_cut : L.lookup 89 = some c_kerbstoneref05_cut := by kernel_rfl
theorem F_motion_Cut_Blob : L.lookup 90 = some c_motion_Cut_Blob := by kernel_rfl
theorem F_kerbstoneref05_checkBlob : L.lookup 94 = some c_kerbstoneref05_checkBlob := by kernel_rfl
theorem F_motion_Join : L.lookup 95 = some c_motion_Join := by kernel_rfl
theorem F_roads_before : L.lookup 96 = some c_roads_before := by kernel_rfl
theorem F_slices_Contains_int : L.lookup 97 = some c_slices_Contains_int := by kernel_rfl
theorem F_roads_Starts : L.lookup 98 = some c_roads_Starts := by kernel_rfl
theorem F_roads_RouteLength : L.lookup 99 = some c_roads_RouteLength := by kernel_rfl
theorem F_roads_Sources : L.lookup 100 = some c_roads_Sources := by kernel_rfl
theorem F_motion_Course_gap : L.lookup 101 = some c_motion_Course_gap := by kernel_rfl
theorem F_kerbstoneref03_before : L.lookup 102 = some c_kerbstoneref03_before := by kernel_rfl
theorem F_kerbstoneref03_has : L.lookup 103 = some c_kerbstoneref03_has := by kernel_rfl
theorem F_kerbstoneref03_Begins : L.lookup 104 = some c_kerbstoneref03_Begins := by kernel_rfl
theorem F_roads_check_numbers : L.lookup 107 = some c_roads_check_numbers := by kernel_rfl
theorem F_roads_check_lanes : L.lookup 108 = some c_roads_check_lanes := by kernel_rfl
theorem F_roads_check_joints : L.lookup 109 = some c_roads_check_joints := by kernel_rfl
theorem F_roads_check_signals : L.lookup 110 = some c_roads_check_signals := by kernel_rfl
theorem F_roads_check_zones : L.lookup 111 = some c_roads_check_zones := by kernel_rfl
theorem F_roads_check_works : L.lookup 112 = some c_roads_check_works := by kernel_rfl
theorem F_roads_is : L.lookup 113 = some c_roads_is := by kernel_rfl
theorem F_roads_long : L.lookup 114 = some c_roads_long := by kernel_rfl
theorem F_kerbstoneref01_Length : L.lookup 116 = some c_kerbstoneref01_Length := by kernel_rfl
theorem F_slices_IndexFunc_Blob : L.lookup 131 = some c_slices_IndexFunc_Blob := by kernel_rfl
theorem F_cmp_isNaN_int64 : L.lookup 138 = some c_cmp_isNaN_int64 := by kernel_rfl
theorem F_kerbstoneref03_within : L.lookup 139 = some c_kerbstoneref03_within := by kernel_rfl
theorem F_kerbstoneref03_checkLane : L.lookup 140 = some c_kerbstoneref03_checkLane := by kernel_rfl
theorem F_kerbstoneref03_checkNext : L.lookup 141 = some c_kerbstoneref03_checkNext := by kernel_rfl
theorem F_kerbstoneref03_checkSignal : L.lookup 142 = some c_kerbstoneref03_checkSignal := by kernel_rfl
theorem F_kerbstoneref03_checkZone : L.lookup 143 = some c_kerbstoneref03_checkZone := by kernel_rfl
theorem F_kerbstoneref03_checkWork : L.lookup 144 = some c_kerbstoneref03_checkWork := by kernel_rfl
theorem F_kerbstoneref03_Long : L.lookup 145 = some c_kerbstoneref03_Long := by kernel_rfl
theorem F_motion_ends_Blob : L.lookup 147 = some c_motion_ends_Blob := by kernel_rfl
theorem F_slices_DeleteFunc_Blob : L.lookup 153 = some c_slices_DeleteFunc_Blob := by kernel_rfl
theorem F_motion_Join_1 : L.lookup 154 = some c_motion_Join_1 := by kernel_rfl
theorem F_slices_SortStableFunc_Blob : L.lookup 155 = some c_slices_SortStableFunc_Blob := by kernel_rfl
theorem F_motion_Join_2 : L.lookup 156 = some c_motion_Join_2 := by kernel_rfl
theorem F_cmp_Or_int : L.lookup 157 = some c_cmp_Or_int := by kernel_rfl
theorem F_cmp_Compare_int : L.lookup 158 = some c_cmp_Compare_int := by kernel_rfl
theorem F_motion_hull : L.lookup 159 = some c_motion_hull := by kernel_rfl
theorem F_slices_Index_int : L.lookup 160 = some c_slices_Index_int := by kernel_rfl
theorem F_roads_follow : L.lookup 161 = some c_roads_follow := by kernel_rfl
theorem F_roads_within : L.lookup 162 = some c_roads_within := by kernel_rfl
theorem F_curve_Check : L.lookup 163 = some c_curve_Check := by kernel_rfl
theorem F_roads_rising : L.lookup 164 = some c_roads_rising := by kernel_rfl
theorem F_slices_ContainsFunc_Phase : L.lookup 165 = some c_slices_ContainsFunc_Phase := by kernel_rfl
theorem F_roads_check_signals_1 : L.lookup 166 = some c_roads_check_signals_1 := by kernel_rfl
theorem F_roads_check_signals_2 : L.lookup 167 = some c_roads_check_signals_2 := by kernel_rfl
theorem F_curve_Length : L.lookup 168 = some c_curve_Length := by kernel_rfl
theorem F_kerbstoneref01_Pieces : L.lookup 169 = some c_kerbstoneref01_Pieces := by kernel_rfl
theorem F_curve_fair : L.lookup 178 = some c_curve_fair := by kernel_rfl
theorem F_curve_pieces : L.lookup 179 = some c_curve_pieces := by kernel_rfl
theorem F_curve_from : L.lookup 180 = some c_curve_from := by kernel_rfl
theorem F_curve_vector_dot : L.lookup 181 = some c_curve_vector_dot := by kernel_rfl
theorem F_kerbstoneref01_Check : L.lookup 195 = some c_kerbstoneref01_Check := by kernel_rfl
theorem F_kerbstoneref03_ordered : L.lookup 196 = some c_kerbstoneref03_ordered := by kernel_rfl
theorem F_kerbstoneref01_Valid : L.lookup 197 = some c_kerbstoneref01_Valid := by kernel_rfl
theorem F_kerbstoneref01_Minus : L.lookup 198 = some c_kerbstoneref01_Minus := by kernel_rfl
theorem F_kerbstoneref01_Dot : L.lookup 199 = some c_kerbstoneref01_Dot := by kernel_rfl
theorem F_slices_stableCmpFunc_Blob : L.lookup 202 = some c_slices_stableCmpFunc_Blob := by kernel_rfl
theorem F_cmp_isNaN_int : L.lookup 203 = some c_cmp_isNaN_int := by kernel_rfl
theorem F_curve_root : L.lookup 204 = some c_curve_root := by kernel_rfl
theorem F_slices_IndexFunc_Phase : L.lookup 205 = some c_slices_IndexFunc_Phase := by kernel_rfl
theorem F_curve_Pieces : L.lookup 206 = some c_curve_Pieces := by kernel_rfl
theorem F_curve_Pieces_r1 : L.lookup 3535 = some c_curve_Pieces_r1 := by kernel_rfl
theorem F_kerbstoneref01_root : L.lookup 207 = some c_kerbstoneref01_root := by kernel_rfl
theorem F_curve_pieces_1 : L.lookup 210 = some c_curve_pieces_1 := by kernel_rfl
theorem F_slices_insertionSortCmpFunc_Blob : L.lookup 216 = some c_slices_insertionSortCmpFunc_Blob := by kernel_rfl
theorem F_slices_symMergeCmpFunc_Blob : L.lookup 217 = some c_slices_symMergeCmpFunc_Blob := by kernel_rfl
theorem F_slices_rotateCmpFunc_Blob : L.lookup 219 = some c_slices_rotateCmpFunc_Blob := by kernel_rfl
theorem F_slices_swapRangeCmpFunc_Blob : L.lookup 220 = some c_slices_swapRangeCmpFunc_Blob := by kernel_rfl

end Go.TrRun
