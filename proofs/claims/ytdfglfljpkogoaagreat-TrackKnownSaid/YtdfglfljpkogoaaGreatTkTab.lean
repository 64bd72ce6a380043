/- This text lists functions of this seat's program, compiled for the evaluator; no condition. -/
import Derived.Test.YtdfglfljpkogoaaGreatTkTab1
import Derived.KernelRfl
set_option linter.unusedVariables false
namespace Go.TkRun
open Go Go.Eng
def c_slices_pdqsortCmpFunc_Sweep_l1 : CC := (.block 1 (.seq (.region 0 [⟨0, (some 21), none, .mv (.s 2)⟩, ⟨1, (some 22), none, .mv (.s 1)⟩, ⟨2, (some 23), none, .bin .sub (.s 21) (.s 22)⟩, ⟨3, (some 12), none, .mv (.s 23)⟩] [] (some [3, 11, 10, 12, 0, 1, 2, 4]))
  (.seq (.seq (.region 0 [⟨0, (some 24), none, .mv (.s 12)⟩, ⟨1, (some 25), none, .bin .leq (.s 24) (.k (.c (.int .i64 12)))⟩] [] (some [25, 3, 11, 10, 12, 0, 1, 2, 4]))
  (.cond (.s 25) (.seq (.region 0 [⟨0, (some 26), none, .mv (.s 0)⟩, ⟨1, (some 27), none, .mv (.s 1)⟩, ⟨2, (some 28), none, .mv (.s 2)⟩, ⟨3, (some 29), none, .mv (.s 4)⟩, ⟨4, (some 30), none, .call ⟨false⟩ (.k (.c (.fn 225 [] []))) [(.s 26), (.s 27), (.s 28), (.s 29)]⟩] [] (some []))
  .ret)
  .skip))
  (.seq (.seq (.region 0 [⟨0, (some 31), none, .mv (.s 3)⟩, ⟨1, (some 32), none, .bin .eql (.s 31) (.k (.c (.int .i64 0)))⟩] [] (some [32, 12, 10, 11, 3, 0, 1, 2, 4]))
  (.cond (.s 32) (.seq (.region 0 [⟨0, (some 33), none, .mv (.s 0)⟩, ⟨1, (some 34), none, .mv (.s 1)⟩, ⟨2, (some 35), none, .mv (.s 2)⟩, ⟨3, (some 36), none, .mv (.s 4)⟩, ⟨4, (some 37), none, .call ⟨false⟩ (.k (.c (.fn 226 [] []))) [(.s 33), (.s 34), (.s 35), (.s 36)]⟩] [] (some []))
  .ret)
  .skip))
  (.seq (.seq (.region 0 [⟨0, (some 38), none, .mv (.s 10)⟩, ⟨1, (some 39), none, .un .not (.s 38)⟩] [] (some [39, 3, 4, 2, 0, 11, 10, 1, 12]))
  (.cond (.s 39) (.seq (.region 0 [⟨0, (some 40), none, .mv (.s 0)⟩, ⟨1, (some 41), none, .mv (.s 1)⟩, ⟨2, (some 42), none, .mv (.s 2)⟩, ⟨3, (some 43), none, .mv (.s 4)⟩, ⟨4, (some 44), none, .call ⟨false⟩ (.k (.c (.fn 227 [] []))) [(.s 40), (.s 41), (.s 42), (.s 43)]⟩] [] (some [3, 4, 2, 0, 11, 10, 1, 12]))
  (.region 0 [⟨0, (some 45), none, .mv (.s 3)⟩, ⟨1, (some 46), none, .bin .sub (.s 45) (.k (.c (.int .i64 1)))⟩, ⟨2, (some 3), none, .mv (.s 46)⟩] [] (some [4, 2, 0, 11, 10, 3, 1, 12])))
  .skip))
  (.seq (.region 0 [⟨0, (some 48), none, .mv (.s 0)⟩, ⟨1, (some 49), none, .mv (.s 1)⟩, ⟨2, (some 50), none, .mv (.s 2)⟩, ⟨3, (some 51), none, .mv (.s 4)⟩, ⟨4, (some 52), none, .call ⟨false⟩ (.k (.c (.fn 228 [] []))) [(.s 48), (.s 49), (.s 50), (.s 51)]⟩, ⟨5, (some 47), none, .mv (.s 52)⟩, ⟨6, (some 53), none, .extract 47 0⟩, ⟨7, (some 54), none, .extract 47 1⟩, ⟨8, (some 13), none, .mv (.s 53)⟩, ⟨9, (some 14), none, .mv (.s 54)⟩] [] (some [14, 13, 4, 2, 0, 11, 10, 3, 1, 12]))
  (.seq (.seq (.region 0 [⟨0, (some 55), none, .mv (.s 14)⟩, ⟨1, (some 56), none, .bin .eql (.s 55) (.k (.c (.int .i64 2)))⟩] [] (some [56, 14, 13, 4, 2, 0, 11, 10, 3, 1, 12]))
  (.cond (.s 56) (.seq (.region 0 [⟨0, (some 57), none, .mv (.s 0)⟩, ⟨1, (some 58), none, .mv (.s 1)⟩, ⟨2, (some 59), none, .mv (.s 2)⟩, ⟨3, (some 60), none, .mv (.s 4)⟩, ⟨4, (some 61), none, .call ⟨false⟩ (.k (.c (.fn 229 [] []))) [(.s 57), (.s 58), (.s 59), (.s 60)]⟩] [] (some [13, 4, 2, 0, 11, 10, 3, 1, 12]))
  (.seq (.region 0 [⟨0, (some 62), none, .mv (.s 2)⟩, ⟨1, (some 63), none, .bin .sub (.s 62) (.k (.c (.int .i64 1)))⟩, ⟨2, (some 64), none, .mv (.s 13)⟩, ⟨3, (some 65), none, .mv (.s 1)⟩, ⟨4, (some 66), none, .bin .sub (.s 64) (.s 65)⟩, ⟨5, (some 67), none, .bin .sub (.s 63) (.s 66)⟩, ⟨6, (some 13), none, .mv (.s 67)⟩] [] (some [4, 2, 0, 11, 10, 3, 13, 1, 12]))
  (.region 0 [⟨0, (some 14), none, .mv (.k (.c (.int .i64 1)))⟩] [] (some [14, 4, 2, 0, 11, 10, 3, 13, 1, 12]))))
  .skip))
  (.seq (.seq (.region 0 [⟨0, (some 68), none, .mv (.s 10)⟩, ⟨1, (some 69), none, .mv (.s 68)⟩, ⟨2, (some 70), (some (69, true)), .mv (.s 11)⟩, ⟨3, (some 71), none, .pick (.s 69) (.s 70) (.k (.c (.bool false)))⟩, ⟨4, (some 72), none, .mv (.s 71)⟩, ⟨5, (some 73), (some (72, true)), .mv (.s 14)⟩, ⟨6, (some 74), (some (72, true)), .bin .eql (.s 73) (.k (.c (.int .i64 1)))⟩, ⟨7, (some 75), none, .pick (.s 72) (.s 74) (.k (.c (.bool false)))⟩] [] (some [75, 4, 2, 0, 11, 10, 3, 13, 1, 12]))
  (.cond (.s 75) (.seq (.region 0 [⟨0, (some 76), none, .mv (.s 0)⟩, ⟨1, (some 77), none, .mv (.s 1)⟩, ⟨2, (some 78), none, .mv (.s 2)⟩, ⟨3, (some 79), none, .mv (.s 4)⟩, ⟨4, (some 80), none, .call ⟨false⟩ (.k (.c (.fn 230 [] []))) [(.s 76), (.s 77), (.s 78), (.s 79)]⟩] [] (some [80, 4, 2, 0, 11, 10, 3, 13, 1, 12]))
  (.cond (.s 80) .ret
  .skip))
  .skip))
  (.seq (.seq (.region 0 [⟨0, (some 81), none, .mv (.s 1)⟩, ⟨1, (some 82), none, .bin .gtr (.s 81) (.k (.c (.int .i64 0)))⟩, ⟨2, (some 83), none, .mv (.s 82)⟩, ⟨3, (some 84), (some (83, true)), .mv (.s 4)⟩, ⟨4, (some 85), (some (83, true)), .mv (.s 0)⟩, ⟨5, (some 86), (some (83, true)), .mv (.s 1)⟩, ⟨6, (some 87), (some (83, true)), .bin .sub (.s 86) (.k (.c (.int .i64 1)))⟩, ⟨7, (some 88), (some (83, true)), .iaddr 4 (.s 85) (.s 87)⟩, ⟨9, (some 90), (some (83, true)), .mv (.s 0)⟩, ⟨10, (some 91), (some (83, true)), .mv (.s 13)⟩, ⟨11, (some 92), (some (83, true)), .iaddr 4 (.s 90) (.s 91)⟩, ⟨8, (some 89), (some (83, true)), .load true 4 (.s 88)⟩, ⟨12, (some 93), (some (83, true)), .load true 4 (.s 92)⟩, ⟨13, (some 94), (some (83, true)), .call ⟨true⟩ (.s 84) [(.s 89), (.s 93)]⟩, ⟨14, (some 95), (some (83, true)), .bin .lss (.s 94) (.k (.c (.int .i64 0)))⟩, ⟨15, (some 96), (some (83, true)), .un .not (.s 95)⟩, ⟨16, (some 97), none, .pick (.s 83) (.s 96) (.k (.c (.bool false)))⟩] [] (some [97, 12, 1, 13, 3, 10, 11, 0, 2, 4]))
  (.cond (.s 97) (.seq (.region 0 [⟨0, (some 98), none, .mv (.s 0)⟩, ⟨1, (some 99), none, .mv (.s 1)⟩, ⟨2, (some 100), none, .mv (.s 2)⟩, ⟨3, (some 101), none, .mv (.s 13)⟩, ⟨4, (some 102), none, .mv (.s 4)⟩, ⟨5, (some 103), none, .call ⟨false⟩ (.k (.c (.fn 231 [] []))) [(.s 98), (.s 99), (.s 100), (.s 101), (.s 102)]⟩, ⟨6, (some 15), none, .mv (.s 103)⟩] [] (some [15, 3, 10, 11, 0, 2, 4]))
  (.seq (.region 0 [⟨0, (some 104), none, .mv (.s 15)⟩, ⟨1, (some 1), none, .mv (.s 104)⟩] [] (some [3, 10, 11, 0, 1, 2, 4]))
  (.exit 1)))
  .skip))
  (.seq (.region 0 [⟨0, (some 106), none, .mv (.s 0)⟩, ⟨1, (some 107), none, .mv (.s 1)⟩, ⟨2, (some 108), none, .mv (.s 2)⟩, ⟨3, (some 109), none, .mv (.s 13)⟩, ⟨4, (some 110), none, .mv (.s 4)⟩, ⟨5, (some 111), none, .call ⟨false⟩ (.k (.c (.fn 232 [] []))) [(.s 106), (.s 107), (.s 108), (.s 109), (.s 110)]⟩, ⟨6, (some 105), none, .mv (.s 111)⟩, ⟨7, (some 112), none, .extract 105 0⟩, ⟨8, (some 113), none, .extract 105 1⟩, ⟨9, (some 16), none, .mv (.s 112)⟩, ⟨10, (some 17), none, .mv (.s 113)⟩] [] (some [17, 12, 1, 16, 3, 0, 2, 4]))
  (.seq (.region 0 [⟨0, (some 114), none, .mv (.s 17)⟩, ⟨1, (some 11), none, .mv (.s 114)⟩] [] (some [12, 1, 16, 3, 11, 0, 2, 4]))
  (.seq (.region 0 [⟨0, (some 115), none, .mv (.s 16)⟩, ⟨1, (some 116), none, .mv (.s 1)⟩, ⟨2, (some 117), none, .bin .sub (.s 115) (.s 116)⟩, ⟨3, (some 118), none, .mv (.s 2)⟩, ⟨4, (some 119), none, .mv (.s 16)⟩, ⟨5, (some 120), none, .bin .sub (.s 118) (.s 119)⟩, ⟨6, (some 18), none, .mv (.s 117)⟩, ⟨7, (some 19), none, .mv (.s 120)⟩] [] (some [12, 19, 18, 1, 16, 3, 11, 0, 2, 4]))
  (.seq (.region 0 [⟨0, (some 121), none, .mv (.s 12)⟩, ⟨1, (some 122), none, .bin .quo (.s 121) (.k (.c (.int .i64 8)))⟩, ⟨2, (some 20), none, .mv (.s 122)⟩] [] (some [19, 18, 20, 1, 16, 3, 11, 0, 2, 4]))
  (.seq (.region 0 [⟨0, (some 123), none, .mv (.s 18)⟩, ⟨1, (some 124), none, .mv (.s 19)⟩, ⟨2, (some 125), none, .bin .lss (.s 123) (.s 124)⟩] [] (some [125, 19, 18, 20, 1, 16, 3, 11, 0, 2, 4]))
  (.cond (.s 125) (.seq (.region 0 [⟨0, (some 126), none, .mv (.s 18)⟩, ⟨1, (some 127), none, .mv (.s 20)⟩, ⟨2, (some 128), none, .bin .geq (.s 126) (.s 127)⟩, ⟨3, (some 10), none, .mv (.s 128)⟩] [] (some [1, 16, 3, 10, 11, 0, 2, 4]))
  (.seq (.region 0 [⟨0, (some 129), none, .mv (.s 0)⟩, ⟨1, (some 130), none, .mv (.s 1)⟩, ⟨2, (some 131), none, .mv (.s 16)⟩, ⟨3, (some 132), none, .mv (.s 3)⟩, ⟨4, (some 133), none, .mv (.s 4)⟩, ⟨5, (some 134), none, .call ⟨false⟩ (.k (.c (.fn 158 [] []))) [(.s 129), (.s 130), (.s 131), (.s 132), (.s 133)]⟩] [] (some [16, 3, 10, 11, 0, 2, 4]))
  (.region 0 [⟨0, (some 135), none, .mv (.s 16)⟩, ⟨1, (some 136), none, .bin .add (.s 135) (.k (.c (.int .i64 1)))⟩, ⟨2, (some 1), none, .mv (.s 136)⟩] [] (some [3, 10, 11, 0, 1, 2, 4]))))
  (.seq (.region 0 [⟨0, (some 137), none, .mv (.s 19)⟩, ⟨1, (some 138), none, .mv (.s 20)⟩, ⟨2, (some 139), none, .bin .geq (.s 137) (.s 138)⟩, ⟨3, (some 10), none, .mv (.s 139)⟩] [] (some [2, 16, 3, 10, 11, 0, 1, 4]))
  (.seq (.region 0 [⟨0, (some 140), none, .mv (.s 0)⟩, ⟨1, (some 141), none, .mv (.s 16)⟩, ⟨2, (some 142), none, .bin .add (.s 141) (.k (.c (.int .i64 1)))⟩, ⟨3, (some 143), none, .mv (.s 2)⟩, ⟨4, (some 144), none, .mv (.s 3)⟩, ⟨5, (some 145), none, .mv (.s 4)⟩, ⟨6, (some 146), none, .call ⟨false⟩ (.k (.c (.fn 158 [] []))) [(.s 140), (.s 142), (.s 143), (.s 144), (.s 145)]⟩] [] (some [16, 3, 10, 11, 0, 1, 4]))
  (.region 0 [⟨0, (some 147), none, .mv (.s 16)⟩, ⟨1, (some 2), none, .mv (.s 147)⟩] [] (some [3, 10, 11, 0, 1, 2, 4])))))))))))))))))))
abbrev f_slices_pdqsortCmpFunc_Sweep : Nat := 158
def c_slices_pdqsortCmpFunc_Sweep : CFn := { frz := true, rnd := none, nargs := 5, ntmps := 148, res := [], code :=
  (.seq (.region 0 [⟨0, (some 10), none, .mv (.k (.c (.bool true)))⟩] [] (some [3, 10, 0, 1, 2, 4]))
  (.seq (.region 0 [⟨0, (some 11), none, .mv (.k (.c (.bool true)))⟩] [] (some [3, 10, 11, 0, 1, 2, 4]))
  (.block 0 (.loop (some [3, 10, 11, 0, 1, 2, 4]) c_slices_pdqsortCmpFunc_Sweep_l1)))) }
abbrev f_motion_less_1 : Nat := 159
def c_motion_less_1 : CFn := { frz := true, rnd := none, nargs := 1, ntmps := 4, res := [(.slot 2)], code :=
  (.seq (.region 0 [⟨0, (some 2), none, .mv (.k (.c (.int .i64 0)))⟩] [] (some [0]))
  (.seq (.seq (.region 0 [⟨0, (some 3), none, .mv (.s 0)⟩] [] (some [3]))
  (.cond (.s 3) (.seq (.region 0 [⟨0, (some 2), none, .mv (.k (.c (.int .i64 1)))⟩] [] (some [2]))
  .ret)
  .skip))
  (.seq (.region 0 [⟨0, (some 2), none, .mv (.k (.c (.int .i64 0)))⟩] [] (some [2]))
  .ret))) }
def c_cmp_Or_int_l1 : CC := (.seq (.region 0 [⟨0, (some 9), none, .bin .lss (.s 8) (.s 7)⟩] [] (some [9, 3, 6, 7, 8]))
  (.seq (.cond (.s 9) .skip
  (.exit 0))
  (.seq (.block 1 (.seq (.region 0 [⟨0, (some 10), none, .iaddr 1 (.s 6) (.s 8)⟩, ⟨1, (some 11), none, .load false 1 (.s 10)⟩, ⟨2, (some 5), none, .mv (.s 11)⟩] [] (some [3, 6, 7, 8, 5]))
  (.seq (.region 0 [⟨0, (some 12), none, .mv (.s 5)⟩, ⟨1, (some 13), none, .mv (.s 3)⟩, ⟨2, (some 14), none, .bin .neq (.s 12) (.s 13)⟩] [] (some [14, 3, 6, 7, 8, 5]))
  (.cond (.s 14) (.seq (.region 0 [⟨0, (some 15), none, .mv (.s 5)⟩, ⟨1, (some 2), none, .mv (.s 15)⟩] [] (some [2]))
  .ret)
  .skip))))
  (.region 0 [⟨0, (some 16), none, .bin .add (.s 8) (.k (.c (.int .i64 1)))⟩, ⟨1, (some 8), none, .mv (.s 16)⟩] [] (some [7, 6, 3, 8])))))
abbrev f_cmp_Or_int : Nat := 160
def c_cmp_Or_int : CFn := { frz := true, rnd := none, nargs := 1, ntmps := 18, res := [(.slot 2)], code :=
  (.seq (.region 0 [⟨0, (some 2), none, .mv (.k (.c (.int .i64 0)))⟩] [] (some [0]))
  (.seq (.region 0 [⟨0, (some 3), none, .mv (.k (.c (.int .i64 0)))⟩] [] (some [0, 3]))
  (.seq (.seq (.region 0 [⟨0, (some 6), none, .mv (.s 0)⟩, ⟨1, (some 7), none, .len (.s 6)⟩, ⟨2, (some 8), none, .mv (.k (.c (.int .i64 0)))⟩] [] (some [7, 6, 3, 8]))
  (.block 0 (.loop (some [7, 6, 3, 8]) c_cmp_Or_int_l1)))
  (.seq (.region 0 [⟨0, (some 17), none, .mv (.s 3)⟩, ⟨1, (some 2), none, .mv (.s 17)⟩] [] (some [2]))
  .ret)))) }
abbrev f_cmp_Compare_int : Nat := 161
def c_cmp_Compare_int : CFn := { frz := true, rnd := none, nargs := 2, ntmps := 20, res := [(.slot 4)], code :=
  (.seq (.region 0 [⟨0, (some 4), none, .mv (.k (.c (.int .i64 0)))⟩] [] (some [1, 0]))
  (.seq (.region 0 [⟨0, (some 7), none, .mv (.s 0)⟩, ⟨1, (some 8), none, .call ⟨true⟩ (.k (.c (.fn 233 [] []))) [(.s 7)]⟩, ⟨2, (some 5), none, .mv (.s 8)⟩] [] (some [5, 1, 0]))
  (.seq (.region 0 [⟨0, (some 9), none, .mv (.s 1)⟩, ⟨1, (some 10), none, .call ⟨true⟩ (.k (.c (.fn 233 [] []))) [(.s 9)]⟩, ⟨2, (some 6), none, .mv (.s 10)⟩] [] (some [5, 1, 0, 6]))
  (.seq (.seq (.region 0 [⟨0, (some 11), none, .mv (.s 5)⟩] [] (some [11, 1, 0, 6]))
  (.cond (.s 11) (.seq (.seq (.region 0 [⟨0, (some 12), none, .mv (.s 6)⟩] [] (some [12]))
  (.cond (.s 12) (.seq (.region 0 [⟨0, (some 4), none, .mv (.k (.c (.int .i64 0)))⟩] [] (some [4]))
  .ret)
  .skip))
  (.seq (.region 0 [⟨0, (some 4), none, .mv (.k (.c (.int .i64 (-1))))⟩] [] (some [4]))
  .ret))
  .skip))
  (.seq (.seq (.region 0 [⟨0, (some 13), none, .mv (.s 6)⟩] [] (some [13, 0, 1]))
  (.cond (.s 13) (.seq (.region 0 [⟨0, (some 4), none, .mv (.k (.c (.int .i64 1)))⟩] [] (some [4]))
  .ret)
  .skip))
  (.seq (.seq (.region 0 [⟨0, (some 14), none, .mv (.s 0)⟩, ⟨1, (some 15), none, .mv (.s 1)⟩, ⟨2, (some 16), none, .bin .lss (.s 14) (.s 15)⟩] [] (some [16, 1, 0]))
  (.cond (.s 16) (.seq (.region 0 [⟨0, (some 4), none, .mv (.k (.c (.int .i64 (-1))))⟩] [] (some [4]))
  .ret)
  .skip))
  (.seq (.seq (.region 0 [⟨0, (some 17), none, .mv (.s 0)⟩, ⟨1, (some 18), none, .mv (.s 1)⟩, ⟨2, (some 19), none, .bin .gtr (.s 17) (.s 18)⟩] [] (some [19]))
  (.cond (.s 19) (.seq (.region 0 [⟨0, (some 4), none, .mv (.k (.c (.int .i64 1)))⟩] [] (some [4]))
  .ret)
  .skip))
  (.seq (.region 0 [⟨0, (some 4), none, .mv (.k (.c (.int .i64 0)))⟩] [] (some [4]))
  .ret)))))))) }
def c_slices_DeleteFunc_Blob_l1 : CC := (.seq (.seq (.region 0 [⟨0, (some 16), none, .mv (.s 6)⟩, ⟨1, (some 17), none, .mv (.s 0)⟩, ⟨2, (some 18), none, .len (.s 17)⟩, ⟨3, (some 19), none, .bin .lss (.s 16) (.s 18)⟩] [] (some [19, 5, 6, 1, 0]))
  (.cond (.s 19) .skip
  (.exit 0)))
  (.seq (.block 1 (.seq (.region 1 [⟨0, (some 22), none, .mv (.s 0)⟩, ⟨1, (some 23), none, .mv (.s 6)⟩, ⟨2, (some 24), none, .iaddr 6 (.s 22) (.s 23)⟩, ⟨3, (some 25), none, .load true 6 (.s 24)⟩, ⟨4, (some 7), none, .box 0 6 (.k (.a [(.int .i64 0), (.int .i64 0), (.int .i64 0), (.int .i64 0), (.int .i64 0), (.int .i64 0)]))⟩, ⟨5, none, none, .store 6 (.s 7) (.s 25)⟩] [] (some [7, 5, 6, 1, 0]))
  (.seq (.region 0 [⟨0, (some 26), none, .mv (.s 1)⟩, ⟨1, (some 27), none, .load true 6 (.s 7)⟩, ⟨2, (some 28), none, .call ⟨true⟩ (.s 26) [(.s 27)]⟩, ⟨3, (some 29), none, .un .not (.s 28)⟩] [] (some [29, 7, 5, 6, 1, 0]))
  (.cond (.s 29) (.seq (.region 0 [⟨0, (some 30), none, .mv (.s 0)⟩, ⟨1, (some 31), none, .mv (.s 5)⟩, ⟨2, (some 32), none, .load true 6 (.s 7)⟩, ⟨3, (some 33), none, .iaddr 6 (.s 30) (.s 31)⟩, ⟨4, none, none, .store 6 (.s 33) (.s 32)⟩] [] (some [5, 6, 1, 0]))
  (.region 0 [⟨0, (some 34), none, .mv (.s 5)⟩, ⟨1, (some 35), none, .bin .add (.s 34) (.k (.c (.int .i64 1)))⟩, ⟨2, (some 5), none, .mv (.s 35)⟩] [] (some [6, 5, 1, 0])))
  .skip))))
  (.region 0 [⟨0, (some 20), none, .mv (.s 6)⟩, ⟨1, (some 21), none, .bin .add (.s 20) (.k (.c (.int .i64 1)))⟩, ⟨2, (some 6), none, .mv (.s 21)⟩] [] (some [5, 6, 1, 0]))))
abbrev f_slices_DeleteFunc_Blob : Nat := 162
def c_slices_DeleteFunc_Blob : CFn := { frz := false, rnd := none, nargs := 2, ntmps := 42, res := [(.slot 4)], code :=
  (.seq (.region 1 [⟨0, (some 4), none, .newsl 0 6⟩] [] (some [1, 0]))
  (.seq (.region 0 [⟨0, (some 8), none, .mv (.s 0)⟩, ⟨1, (some 9), none, .mv (.s 1)⟩, ⟨2, (some 10), none, .call ⟨true⟩ (.k (.c (.fn 234 [] []))) [(.s 8), (.s 9)]⟩, ⟨3, (some 5), none, .mv (.s 10)⟩] [] (some [1, 5, 0]))
  (.seq (.seq (.region 0 [⟨0, (some 11), none, .mv (.s 5)⟩, ⟨1, (some 12), none, .bin .eql (.s 11) (.k (.c (.int .i64 (-1))))⟩] [] (some [12, 1, 5, 0]))
  (.cond (.s 12) (.seq (.region 0 [⟨0, (some 13), none, .mv (.s 0)⟩, ⟨1, (some 4), none, .mv (.s 13)⟩] [] (some [4]))
  .ret)
  .skip))
  (.seq (.seq (.region 0 [⟨0, (some 14), none, .mv (.s 5)⟩, ⟨1, (some 15), none, .bin .add (.s 14) (.k (.c (.int .i64 1)))⟩, ⟨2, (some 6), none, .mv (.s 15)⟩] [] (some [5, 6, 1, 0]))
  (.block 0 (.loop (some [5, 6, 1, 0]) c_slices_DeleteFunc_Blob_l1)))
  (.seq (.region 0 [⟨0, (some 36), none, .mv (.s 0)⟩, ⟨1, (some 37), none, .mv (.s 5)⟩, ⟨2, (some 38), none, .slice 6 (.s 36) (some (.s 37)) none none⟩, ⟨3, none, none, .clear [(.int .i64 0), (.int .i64 0), (.int .i64 0), (.int .i64 0), (.int .i64 0), (.int .i64 0)] (.s 38)⟩] [] (some [0, 5]))
  (.seq (.region 0 [⟨0, (some 39), none, .mv (.s 0)⟩, ⟨1, (some 40), none, .mv (.s 5)⟩, ⟨2, (some 41), none, .slice 6 (.s 39) none (some (.s 40)) none⟩, ⟨3, (some 4), none, .mv (.s 41)⟩] [] (some [4]))
  .ret)))))) }
abbrev f_motion_Join_1 : Nat := 163
def c_motion_Join_1 : CFn := { frz := true, rnd := none, nargs := 1, ntmps := 8, res := [(.slot 2)], code :=
  (.seq (.region 1 [⟨0, (some 1), none, .box 0 6 (.s 0)⟩, ⟨1, (some 2), none, .mv (.k (.c (.bool false)))⟩] [] (some [1]))
  (.seq (.region 0 [⟨0, (some 3), none, .faddr 1 (.s 1)⟩, ⟨1, (some 4), none, .load false 1 (.s 3)⟩, ⟨2, (some 5), none, .faddr 2 (.s 1)⟩, ⟨3, (some 6), none, .load false 1 (.s 5)⟩, ⟨4, (some 7), none, .bin .gtr (.s 4) (.s 6)⟩, ⟨5, (some 2), none, .mv (.s 7)⟩] [] (some [2]))
  .ret)) }
abbrev f_slices_SortStableFunc_Blob : Nat := 164
def c_slices_SortStableFunc_Blob : CFn := { frz := true, rnd := none, nargs := 2, ntmps := 9, res := [], code :=
  (.region 0 [⟨0, (some 4), none, .mv (.s 0)⟩, ⟨1, (some 5), none, .mv (.s 0)⟩, ⟨2, (some 6), none, .len (.s 5)⟩, ⟨3, (some 7), none, .mv (.s 1)⟩, ⟨4, (some 8), none, .call ⟨false⟩ (.k (.c (.fn 235 [] []))) [(.s 4), (.s 6), (.s 7)]⟩] [] (some [])) }
abbrev f_motion_Join_2 : Nat := 165
def c_motion_Join_2 : CFn := { frz := true, rnd := none, nargs := 2, ntmps := 17, res := [(.slot 4)], code :=
  (.seq (.region 2 [⟨0, (some 2), none, .box 0 6 (.s 0)⟩, ⟨1, (some 3), none, .box 1 6 (.s 1)⟩, ⟨2, (some 4), none, .mv (.k (.c (.int .i64 0)))⟩] [] (some [2, 3]))
  (.seq (.region 1 [⟨0, (some 5), none, .faddr 0 (.s 2)⟩, ⟨2, (some 7), none, .faddr 0 (.s 3)⟩, ⟨5, (some 10), none, .faddr 1 (.s 2)⟩, ⟨7, (some 12), none, .faddr 1 (.s 3)⟩, ⟨1, (some 6), none, .load false 1 (.s 5)⟩, ⟨3, (some 8), none, .load false 1 (.s 7)⟩, ⟨6, (some 11), none, .load false 1 (.s 10)⟩, ⟨8, (some 13), none, .load false 1 (.s 12)⟩, ⟨4, (some 9), none, .call ⟨true⟩ (.k (.c (.fn 161 [] []))) [(.s 6), (.s 8)]⟩, ⟨9, (some 14), none, .call ⟨true⟩ (.k (.c (.fn 54 [] []))) [(.s 11), (.s 13)]⟩, ⟨10, (some 15), none, .lit 0 1 [[(.int .i64 0)], [(.int .i64 0)]] [(0, (.s 9)), (1, (.s 14))]⟩, ⟨11, (some 16), none, .call ⟨true⟩ (.k (.c (.fn 160 [] []))) [(.s 15)]⟩, ⟨12, (some 4), none, .mv (.s 16)⟩] [(6, 8), (7, 8)] (some [4]))
  .ret)) }
abbrev f_motion_hull : Nat := 166
def c_motion_hull : CFn := { frz := true, rnd := none, nargs := 2, ntmps := 48, res := [(.cell 4 true 6)], code :=
  (.seq (.region 3 [⟨0, (some 2), none, .box 0 6 (.s 0)⟩, ⟨1, (some 3), none, .box 1 6 (.s 1)⟩, ⟨2, (some 4), none, .box 2 6 (.k (.a [(.int .i64 0), (.int .i64 0), (.int .i64 0), (.int .i64 0), (.int .i64 0), (.int .i64 0)]))⟩] [] (some [3, 2, 4]))
  (.seq (.region 0 [⟨0, (some 5), none, .faddr 1 (.s 2)⟩, ⟨2, (some 7), none, .faddr 1 (.s 3)⟩, ⟨5, (some 10), none, .faddr 2 (.s 2)⟩, ⟨7, (some 12), none, .faddr 2 (.s 3)⟩, ⟨10, (some 15), none, .faddr 3 (.s 2)⟩, ⟨12, (some 17), none, .faddr 3 (.s 3)⟩, ⟨15, (some 20), none, .faddr 4 (.s 2)⟩, ⟨17, (some 22), none, .faddr 4 (.s 3)⟩, ⟨1, (some 6), none, .load false 1 (.s 5)⟩, ⟨3, (some 8), none, .load false 1 (.s 7)⟩, ⟨6, (some 11), none, .load false 1 (.s 10)⟩, ⟨8, (some 13), none, .load false 1 (.s 12)⟩, ⟨11, (some 16), none, .load false 1 (.s 15)⟩, ⟨13, (some 18), none, .load false 1 (.s 17)⟩, ⟨16, (some 21), none, .load false 1 (.s 20)⟩, ⟨18, (some 23), none, .load false 1 (.s 22)⟩, ⟨4, (some 9), none, .minmax false [(.s 6), (.s 8)]⟩, ⟨20, (some 25), none, .faddr 1 (.s 2)⟩, ⟨9, (some 14), none, .minmax true [(.s 11), (.s 13)]⟩, ⟨14, (some 19), none, .minmax false [(.s 16), (.s 18)]⟩, ⟨19, (some 24), none, .minmax true [(.s 21), (.s 23)]⟩, ⟨21, none, none, .store 1 (.s 25) (.s 9)⟩, ⟨22, (some 26), none, .faddr 2 (.s 2)⟩, ⟨23, none, none, .store 1 (.s 26) (.s 14)⟩, ⟨24, (some 27), none, .faddr 3 (.s 2)⟩, ⟨25, none, none, .store 1 (.s 27) (.s 19)⟩, ⟨26, (some 28), none, .faddr 4 (.s 2)⟩, ⟨27, none, none, .store 1 (.s 28) (.s 24)⟩] [(11, 21), (13, 21), (13, 23), (15, 21), (15, 23), (15, 25)] (some [3, 2, 4]))
  (.seq (.seq (.region 0 [⟨0, (some 29), none, .faddr 5 (.s 2)⟩, ⟨1, (some 30), none, .load false 1 (.s 29)⟩, ⟨2, (some 31), none, .bin .eql (.s 30) (.k (.c (.int .i64 0)))⟩, ⟨3, (some 32), none, .mv (.s 31)⟩, ⟨4, (some 33), (some (32, false)), .faddr 5 (.s 3)⟩, ⟨5, (some 34), (some (32, false)), .load false 1 (.s 33)⟩, ⟨6, (some 35), (some (32, false)), .bin .eql (.s 34) (.k (.c (.int .i64 0)))⟩, ⟨7, (some 36), none, .pick (.s 32) (.k (.c (.bool true))) (.s 35)⟩] [] (some [36, 3, 2, 4]))
  (.cond (.s 36) (.region 0 [⟨0, (some 37), none, .faddr 5 (.s 2)⟩, ⟨1, none, none, .store 1 (.s 37) (.k (.c (.int .i64 0)))⟩] [] (some [3, 2, 4]))
  .skip))
  (.seq (.seq (.region 0 [⟨0, (some 38), none, .faddr 5 (.s 2)⟩, ⟨1, (some 39), none, .load false 1 (.s 38)⟩, ⟨2, (some 40), none, .bin .neq (.s 39) (.k (.c (.int .i64 0)))⟩] [] (some [40, 3, 2, 4]))
  (.cond (.s 40) (.region 0 [⟨0, (some 41), none, .faddr 5 (.s 2)⟩, ⟨1, (some 42), none, .load false 1 (.s 41)⟩, ⟨2, (some 43), none, .faddr 5 (.s 3)⟩, ⟨3, (some 44), none, .load false 1 (.s 43)⟩, ⟨4, (some 45), none, .minmax true [(.s 42), (.s 44)]⟩, ⟨5, (some 46), none, .faddr 5 (.s 2)⟩, ⟨6, none, none, .store 1 (.s 46) (.s 45)⟩] [] (some [2, 4]))
  .skip))
  (.seq (.region 0 [⟨0, (some 47), none, .load true 6 (.s 2)⟩, ⟨1, none, none, .store 6 (.s 4) (.s 47)⟩] [] (some [4]))
  .ret))))) }
def c_curve_fair_l1 : CC := (.seq (.region 0 [⟨0, (some 8), none, .bin .lss (.s 7) (.s 6)⟩] [] (some [8, 5, 6, 7]))
  (.seq (.cond (.s 8) .skip
  (.exit 0))
  (.seq (.block 1 (.seq (.region 1 [⟨0, (some 9), none, .iaddr 2 (.s 5) (.s 7)⟩, ⟨1, (some 10), none, .load true 2 (.s 9)⟩, ⟨2, (some 4), none, .box 0 2 (.k (.a [(.int .i64 0), (.int .i64 0)]))⟩, ⟨3, none, none, .store 2 (.s 4) (.s 10)⟩] [] (some [4, 5, 6, 7]))
  (.seq (.region 0 [⟨0, (some 11), none, .faddr 0 (.s 4)⟩, ⟨1, (some 12), none, .load false 1 (.s 11)⟩, ⟨2, (some 13), none, .faddr 1 (.s 4)⟩, ⟨3, (some 14), none, .load false 1 (.s 13)⟩, ⟨4, (some 15), none, .minmax false [(.s 12), (.s 14)]⟩, ⟨5, (some 16), none, .bin .lss (.s 15) (.k (.c (.int .i64 (-16777216))))⟩, ⟨6, (some 17), none, .mv (.s 16)⟩, ⟨7, (some 18), (some (17, false)), .faddr 0 (.s 4)⟩, ⟨8, (some 19), (some (17, false)), .load false 1 (.s 18)⟩, ⟨9, (some 20), (some (17, false)), .faddr 1 (.s 4)⟩, ⟨10, (some 21), (some (17, false)), .load false 1 (.s 20)⟩, ⟨11, (some 22), (some (17, false)), .minmax true [(.s 19), (.s 21)]⟩, ⟨12, (some 23), (some (17, false)), .bin .gtr (.s 22) (.k (.c (.int .i64 16777216)))⟩, ⟨13, (some 24), none, .pick (.s 17) (.k (.c (.bool true))) (.s 23)⟩] [] (some [24, 5, 6, 7]))
  (.cond (.s 24) (.seq (.region 0 [⟨0, (some 2), none, .mv (.k (.c (.bool false)))⟩] [] (some [2]))
  .ret)
  .skip))))
  (.region 0 [⟨0, (some 25), none, .bin .add (.s 7) (.k (.c (.int .i64 1)))⟩, ⟨1, (some 7), none, .mv (.s 25)⟩] [] (some [6, 5, 7])))))
abbrev f_curve_fair : Nat := 167
def c_curve_fair : CFn := { frz := true, rnd := none, nargs := 1, ntmps := 26, res := [(.slot 2)], code :=
  (.seq (.region 0 [⟨0, (some 2), none, .mv (.k (.c (.bool false)))⟩] [] (some [0]))
  (.seq (.seq (.region 0 [⟨0, (some 5), none, .mv (.s 0)⟩, ⟨1, (some 6), none, .len (.s 5)⟩, ⟨2, (some 7), none, .mv (.k (.c (.int .i64 0)))⟩] [] (some [6, 5, 7]))
  (.block 0 (.loop (some [6, 5, 7]) c_curve_fair_l1)))
  (.seq (.region 0 [⟨0, (some 2), none, .mv (.k (.c (.bool true)))⟩] [] (some [2]))
  .ret))) }
abbrev f_curve_pieces : Nat := 168
def c_curve_pieces : CFn := { frz := true, rnd := none, nargs := 1, ntmps := 4, res := [(.slot 2)], code :=
  (.seq (.region 1 [⟨0, (some 1), none, .box 0 1 (.s 0)⟩, ⟨1, (some 2), none, .mv (.k (.c .nilfn))⟩] [] (some [1]))
  (.seq (.region 0 [⟨0, (some 3), none, .mkfn 236 [] [(.s 1)]⟩, ⟨1, (some 2), none, .mv (.s 3)⟩] [] (some [2]))
  .ret)) }
abbrev f_curve_from : Nat := 169
def c_curve_from : CFn := { frz := true, rnd := none, nargs := 2, ntmps := 16, res := [(.cell 4 true 2)], code :=
  (.seq (.region 3 [⟨0, (some 2), none, .box 0 2 (.s 0)⟩, ⟨1, (some 3), none, .box 1 2 (.s 1)⟩, ⟨2, (some 4), none, .box 2 2 (.k (.a [(.int .i64 0), (.int .i64 0)]))⟩] [] (some [3, 2, 4]))
  (.seq (.region 0 [⟨0, (some 5), none, .faddr 0 (.s 3)⟩, ⟨1, (some 6), none, .load false 1 (.s 5)⟩, ⟨2, (some 7), none, .faddr 0 (.s 2)⟩, ⟨3, (some 8), none, .load false 1 (.s 7)⟩, ⟨4, (some 9), none, .bin .sub (.s 6) (.s 8)⟩, ⟨5, (some 10), none, .faddr 1 (.s 3)⟩, ⟨6, (some 11), none, .load false 1 (.s 10)⟩, ⟨7, (some 12), none, .faddr 1 (.s 2)⟩, ⟨8, (some 13), none, .load false 1 (.s 12)⟩, ⟨9, (some 14), none, .bin .sub (.s 11) (.s 13)⟩, ⟨10, (some 15), none, .build [(.int .i64 0), (.int .i64 0)] [(0, 1, (.s 9)), (1, 1, (.s 14))]⟩, ⟨11, none, none, .store 2 (.s 4) (.s 15)⟩] [] (some [4]))
  .ret)) }
abbrev f_curve_vector_dot : Nat := 170
def c_curve_vector_dot : CFn := { frz := true, rnd := none, nargs := 2, ntmps := 16, res := [(.slot 4)], code :=
  (.seq (.region 2 [⟨0, (some 2), none, .box 0 2 (.s 0)⟩, ⟨1, (some 3), none, .box 1 2 (.s 1)⟩, ⟨2, (some 4), none, .mv (.k (.c (.int .i64 0)))⟩] [] (some [2, 3]))
  (.seq (.region 0 [⟨0, (some 5), none, .faddr 0 (.s 2)⟩, ⟨1, (some 6), none, .load false 1 (.s 5)⟩, ⟨2, (some 7), none, .faddr 0 (.s 3)⟩, ⟨3, (some 8), none, .load false 1 (.s 7)⟩, ⟨4, (some 9), none, .bin .mul (.s 6) (.s 8)⟩, ⟨5, (some 10), none, .faddr 1 (.s 2)⟩, ⟨6, (some 11), none, .load false 1 (.s 10)⟩, ⟨7, (some 12), none, .faddr 1 (.s 3)⟩, ⟨8, (some 13), none, .load false 1 (.s 12)⟩, ⟨9, (some 14), none, .bin .mul (.s 11) (.s 13)⟩, ⟨10, (some 15), none, .bin .add (.s 9) (.s 14)⟩, ⟨11, (some 4), none, .mv (.s 15)⟩] [] (some [4]))
  .ret)) }
abbrev f_curve_abs : Nat := 171
def c_curve_abs : CFn := { frz := true, rnd := none, nargs := 1, ntmps := 7, res := [(.slot 2)], code :=
  (.seq (.region 0 [⟨0, (some 2), none, .mv (.k (.c (.int .i64 0)))⟩] [] (some [0]))
  (.seq (.region 0 [⟨0, (some 3), none, .mv (.s 0)⟩, ⟨1, (some 4), none, .mv (.s 0)⟩, ⟨2, (some 5), none, .un .neg (.s 4)⟩, ⟨3, (some 6), none, .minmax true [(.s 3), (.s 5)]⟩, ⟨4, (some 2), none, .mv (.s 6)⟩] [] (some [2]))
  .ret)) }
abbrev f_curve_vector_cross : Nat := 172
def c_curve_vector_cross : CFn := { frz := true, rnd := none, nargs := 2, ntmps := 16, res := [(.slot 4)], code :=
  (.seq (.region 2 [⟨0, (some 2), none, .box 0 2 (.s 0)⟩, ⟨1, (some 3), none, .box 1 2 (.s 1)⟩, ⟨2, (some 4), none, .mv (.k (.c (.int .i64 0)))⟩] [] (some [2, 3]))
  (.seq (.region 0 [⟨0, (some 5), none, .faddr 0 (.s 2)⟩, ⟨1, (some 6), none, .load false 1 (.s 5)⟩, ⟨2, (some 7), none, .faddr 1 (.s 3)⟩, ⟨3, (some 8), none, .load false 1 (.s 7)⟩, ⟨4, (some 9), none, .bin .mul (.s 6) (.s 8)⟩, ⟨5, (some 10), none, .faddr 1 (.s 2)⟩, ⟨6, (some 11), none, .load false 1 (.s 10)⟩, ⟨7, (some 12), none, .faddr 0 (.s 3)⟩, ⟨8, (some 13), none, .load false 1 (.s 12)⟩, ⟨9, (some 14), none, .bin .mul (.s 11) (.s 13)⟩, ⟨10, (some 15), none, .bin .sub (.s 9) (.s 14)⟩, ⟨11, (some 4), none, .mv (.s 15)⟩] [] (some [4]))
  .ret)) }
abbrev f_curve_floor : Nat := 173
def c_curve_floor : CFn := { frz := true, rnd := none, nargs := 2, ntmps := 16, res := [(.slot 4)], code :=
  (.seq (.region 0 [⟨0, (some 4), none, .mv (.k (.c (.int .i64 0)))⟩] [] (some [0, 1]))
  (.seq (.region 0 [⟨0, (some 6), none, .mv (.s 0)⟩, ⟨1, (some 7), none, .mv (.s 1)⟩, ⟨2, (some 8), none, .bin .quo (.s 6) (.s 7)⟩, ⟨3, (some 5), none, .mv (.s 8)⟩] [] (some [0, 1, 5]))
  (.seq (.seq (.region 0 [⟨0, (some 9), none, .mv (.s 0)⟩, ⟨1, (some 10), none, .mv (.s 1)⟩, ⟨2, (some 11), none, .bin .rem (.s 9) (.s 10)⟩, ⟨3, (some 12), none, .bin .lss (.s 11) (.k (.c (.int .i64 0)))⟩] [] (some [12, 5]))
  (.cond (.s 12) (.region 0 [⟨0, (some 13), none, .mv (.s 5)⟩, ⟨1, (some 14), none, .bin .sub (.s 13) (.k (.c (.int .i64 1)))⟩, ⟨2, (some 5), none, .mv (.s 14)⟩] [] (some [5]))
  .skip))
  (.seq (.region 0 [⟨0, (some 15), none, .mv (.s 5)⟩, ⟨1, (some 4), none, .mv (.s 15)⟩] [] (some [4]))
  .ret)))) }
def c_slices_insertionSortCmpFunc_Found_l1 : CC := (.seq (.seq (.region 0 [⟨0, (some 18), none, .mv (.s 9)⟩, ⟨1, (some 19), none, .mv (.s 1)⟩, ⟨2, (some 20), none, .bin .gtr (.s 18) (.s 19)⟩, ⟨3, (some 21), none, .mv (.s 20)⟩, ⟨4, (some 22), (some (21, true)), .mv (.s 3)⟩, ⟨5, (some 23), (some (21, true)), .mv (.s 0)⟩, ⟨6, (some 24), (some (21, true)), .mv (.s 9)⟩, ⟨7, (some 25), (some (21, true)), .iaddr 5 (.s 23) (.s 24)⟩, ⟨9, (some 27), (some (21, true)), .mv (.s 0)⟩, ⟨10, (some 28), (some (21, true)), .mv (.s 9)⟩, ⟨11, (some 29), (some (21, true)), .bin .sub (.s 28) (.k (.c (.int .i64 1)))⟩, ⟨12, (some 30), (some (21, true)), .iaddr 5 (.s 27) (.s 29)⟩, ⟨8, (some 26), (some (21, true)), .load true 5 (.s 25)⟩, ⟨13, (some 31), (some (21, true)), .load true 5 (.s 30)⟩, ⟨14, (some 32), (some (21, true)), .call ⟨true⟩ (.s 22) [(.s 26), (.s 31)]⟩, ⟨15, (some 33), (some (21, true)), .bin .lss (.s 32) (.k (.c (.int .i64 0)))⟩, ⟨16, (some 34), none, .pick (.s 21) (.s 33) (.k (.c (.bool false)))⟩] [] (some [34, 9, 3, 1, 2, 8, 0]))
  (.cond (.s 34) .skip
  (.exit 2)))
  (.seq (.block 3 (.region 0 [⟨0, (some 37), none, .mv (.s 0)⟩, ⟨1, (some 38), none, .mv (.s 9)⟩, ⟨2, (some 39), none, .mv (.s 0)⟩, ⟨3, (some 40), none, .mv (.s 9)⟩, ⟨4, (some 41), none, .bin .sub (.s 40) (.k (.c (.int .i64 1)))⟩, ⟨5, (some 42), none, .mv (.s 0)⟩, ⟨6, (some 43), none, .mv (.s 9)⟩, ⟨7, (some 44), none, .bin .sub (.s 43) (.k (.c (.int .i64 1)))⟩, ⟨8, (some 45), none, .iaddr 5 (.s 42) (.s 44)⟩, ⟨10, (some 47), none, .mv (.s 0)⟩, ⟨11, (some 48), none, .mv (.s 9)⟩, ⟨12, (some 49), none, .iaddr 5 (.s 47) (.s 48)⟩, ⟨9, (some 46), none, .load true 5 (.s 45)⟩, ⟨13, (some 50), none, .load true 5 (.s 49)⟩, ⟨14, (some 51), none, .iaddr 5 (.s 37) (.s 38)⟩, ⟨15, none, none, .store 5 (.s 51) (.s 46)⟩, ⟨16, (some 52), none, .iaddr 5 (.s 39) (.s 41)⟩, ⟨17, none, none, .store 5 (.s 52) (.s 50)⟩] [] (some [9, 3, 1, 2, 8, 0])))
  (.region 0 [⟨0, (some 35), none, .mv (.s 9)⟩, ⟨1, (some 36), none, .bin .sub (.s 35) (.k (.c (.int .i64 1)))⟩, ⟨2, (some 9), none, .mv (.s 36)⟩] [] (some [9, 3, 1, 2, 8, 0]))))
def c_slices_insertionSortCmpFunc_Found_l2 : CC := (.seq (.seq (.region 0 [⟨0, (some 12), none, .mv (.s 8)⟩, ⟨1, (some 13), none, .mv (.s 2)⟩, ⟨2, (some 14), none, .bin .lss (.s 12) (.s 13)⟩] [] (some [14, 3, 1, 2, 8, 0]))
  (.cond (.s 14) .skip
  (.exit 0)))
  (.seq (.block 1 (.seq (.region 0 [⟨0, (some 17), none, .mv (.s 8)⟩, ⟨1, (some 9), none, .mv (.s 17)⟩] [] (some [9, 3, 1, 2, 8, 0]))
  (.block 2 (.loop (some [9, 3, 1, 2, 8, 0]) c_slices_insertionSortCmpFunc_Found_l1))))
  (.region 0 [⟨0, (some 15), none, .mv (.s 8)⟩, ⟨1, (some 16), none, .bin .add (.s 15) (.k (.c (.int .i64 1)))⟩, ⟨2, (some 8), none, .mv (.s 16)⟩] [] (some [2, 1, 3, 8, 0]))))
abbrev f_slices_insertionSortCmpFunc_Found : Nat := 174
def c_slices_insertionSortCmpFunc_Found : CFn := { frz := true, rnd := none, nargs := 4, ntmps := 53, res := [], code :=
  (.seq (.region 0 [⟨0, (some 10), none, .mv (.s 1)⟩, ⟨1, (some 11), none, .bin .add (.s 10) (.k (.c (.int .i64 1)))⟩, ⟨2, (some 8), none, .mv (.s 11)⟩] [] (some [2, 1, 3, 8, 0]))
  (.block 0 (.loop (some [2, 1, 3, 8, 0]) c_slices_insertionSortCmpFunc_Found_l2))) }
def c_slices_heapSortCmpFunc_Found_l1 : CC := (.seq (.seq (.region 0 [⟨0, (some 20), none, .mv (.s 11)⟩, ⟨1, (some 21), none, .bin .geq (.s 20) (.k (.c (.int .i64 0)))⟩] [] (some [21, 11, 9, 0, 10, 8, 3]))
  (.cond (.s 21) .skip
  (.exit 0)))
  (.seq (.block 1 (.region 0 [⟨0, (some 24), none, .mv (.s 0)⟩, ⟨1, (some 25), none, .mv (.s 11)⟩, ⟨2, (some 26), none, .mv (.s 10)⟩, ⟨3, (some 27), none, .mv (.s 8)⟩, ⟨4, (some 28), none, .mv (.s 3)⟩, ⟨5, (some 29), none, .call ⟨false⟩ (.k (.c (.fn 237 [] []))) [(.s 24), (.s 25), (.s 26), (.s 27), (.s 28)]⟩] [] (some [11, 9, 0, 10, 8, 3])))
  (.region 0 [⟨0, (some 22), none, .mv (.s 11)⟩, ⟨1, (some 23), none, .bin .sub (.s 22) (.k (.c (.int .i64 1)))⟩, ⟨2, (some 11), none, .mv (.s 23)⟩] [] (some [11, 9, 0, 10, 8, 3]))))
def c_slices_heapSortCmpFunc_Found_l2 : CC := (.seq (.seq (.region 0 [⟨0, (some 32), none, .mv (.s 12)⟩, ⟨1, (some 33), none, .bin .geq (.s 32) (.k (.c (.int .i64 0)))⟩] [] (some [33, 12, 0, 9, 8, 3]))
  (.cond (.s 33) .skip
  (.exit 2)))
  (.seq (.block 3 (.seq (.region 0 [⟨0, (some 36), none, .mv (.s 0)⟩, ⟨1, (some 37), none, .mv (.s 8)⟩, ⟨2, (some 38), none, .mv (.s 0)⟩, ⟨3, (some 39), none, .mv (.s 8)⟩, ⟨4, (some 40), none, .mv (.s 12)⟩, ⟨5, (some 41), none, .bin .add (.s 39) (.s 40)⟩, ⟨6, (some 42), none, .mv (.s 0)⟩, ⟨7, (some 43), none, .mv (.s 8)⟩, ⟨8, (some 44), none, .mv (.s 12)⟩, ⟨9, (some 45), none, .bin .add (.s 43) (.s 44)⟩, ⟨10, (some 46), none, .iaddr 5 (.s 42) (.s 45)⟩, ⟨12, (some 48), none, .mv (.s 0)⟩, ⟨13, (some 49), none, .mv (.s 8)⟩, ⟨14, (some 50), none, .iaddr 5 (.s 48) (.s 49)⟩, ⟨11, (some 47), none, .load true 5 (.s 46)⟩, ⟨15, (some 51), none, .load true 5 (.s 50)⟩, ⟨16, (some 52), none, .iaddr 5 (.s 36) (.s 37)⟩, ⟨17, none, none, .store 5 (.s 52) (.s 47)⟩, ⟨18, (some 53), none, .iaddr 5 (.s 38) (.s 41)⟩, ⟨19, none, none, .store 5 (.s 53) (.s 51)⟩] [] (some [12, 0, 9, 8, 3]))
  (.region 0 [⟨0, (some 54), none, .mv (.s 0)⟩, ⟨1, (some 55), none, .mv (.s 9)⟩, ⟨2, (some 56), none, .mv (.s 12)⟩, ⟨3, (some 57), none, .mv (.s 8)⟩, ⟨4, (some 58), none, .mv (.s 3)⟩, ⟨5, (some 59), none, .call ⟨false⟩ (.k (.c (.fn 237 [] []))) [(.s 54), (.s 55), (.s 56), (.s 57), (.s 58)]⟩] [] (some [12, 0, 9, 8, 3]))))
  (.region 0 [⟨0, (some 34), none, .mv (.s 12)⟩, ⟨1, (some 35), none, .bin .sub (.s 34) (.k (.c (.int .i64 1)))⟩, ⟨2, (some 12), none, .mv (.s 35)⟩] [] (some [12, 0, 9, 8, 3]))))
abbrev f_slices_heapSortCmpFunc_Found : Nat := 175
def c_slices_heapSortCmpFunc_Found : CFn := { frz := true, rnd := none, nargs := 4, ntmps := 60, res := [], code :=
  (.seq (.region 0 [⟨0, (some 13), none, .mv (.s 1)⟩, ⟨1, (some 8), none, .mv (.s 13)⟩] [] (some [2, 1, 0, 8, 3]))
  (.seq (.region 0 [⟨0, (some 9), none, .mv (.k (.c (.int .i64 0)))⟩] [] (some [2, 1, 9, 0, 8, 3]))
  (.seq (.region 0 [⟨0, (some 14), none, .mv (.s 2)⟩, ⟨1, (some 15), none, .mv (.s 1)⟩, ⟨2, (some 16), none, .bin .sub (.s 14) (.s 15)⟩, ⟨3, (some 10), none, .mv (.s 16)⟩] [] (some [9, 0, 10, 8, 3]))
  (.seq (.seq (.region 0 [⟨0, (some 17), none, .mv (.s 10)⟩, ⟨1, (some 18), none, .bin .sub (.s 17) (.k (.c (.int .i64 1)))⟩, ⟨2, (some 19), none, .bin .quo (.s 18) (.k (.c (.int .i64 2)))⟩, ⟨3, (some 11), none, .mv (.s 19)⟩] [] (some [11, 9, 0, 10, 8, 3]))
  (.block 0 (.loop (some [11, 9, 0, 10, 8, 3]) c_slices_heapSortCmpFunc_Found_l1)))
  (.seq (.region 0 [⟨0, (some 30), none, .mv (.s 10)⟩, ⟨1, (some 31), none, .bin .sub (.s 30) (.k (.c (.int .i64 1)))⟩, ⟨2, (some 12), none, .mv (.s 31)⟩] [] (some [12, 0, 9, 8, 3]))
  (.block 2 (.loop (some [12, 0, 9, 8, 3]) c_slices_heapSortCmpFunc_Found_l2))))))) }
def c_slices_breakPatternsCmpFunc_Found_l1 : CC := (.seq (.seq (.region 0 [⟨0, (some 28), none, .mv (.s 11)⟩, ⟨1, (some 29), none, .mv (.s 1)⟩, ⟨2, (some 30), none, .mv (.s 8)⟩, ⟨3, (some 31), none, .bin .quo (.s 30) (.k (.c (.int .i64 4)))⟩, ⟨4, (some 32), none, .bin .mul (.s 31) (.k (.c (.int .i64 2)))⟩, ⟨5, (some 33), none, .bin .add (.s 29) (.s 32)⟩, ⟨6, (some 34), none, .bin .add (.s 33) (.k (.c (.int .i64 1)))⟩, ⟨7, (some 35), none, .bin .leq (.s 28) (.s 34)⟩] [] (some [35, 11, 9, 10, 8, 1, 0]))
  (.cond (.s 35) .skip
  (.exit 0)))
  (.seq (.block 1 (.seq (.region 0 [⟨0, (some 38), none, .call ⟨true⟩ (.k (.c (.fn 239 [] []))) [(.s 9)]⟩, ⟨1, (some 39), none, .mv (.s 10)⟩, ⟨2, (some 40), none, .bin .sub (.s 39) (.k (.c (.int .u64 1)))⟩, ⟨3, (some 41), none, .bin .and (.s 38) (.s 40)⟩, ⟨4, (some 42), none, .conv .i64 (.s 41)⟩, ⟨5, (some 12), none, .mv (.s 42)⟩] [] (some [12, 11, 9, 10, 8, 1, 0]))
  (.seq (.seq (.region 0 [⟨0, (some 43), none, .mv (.s 12)⟩, ⟨1, (some 44), none, .mv (.s 8)⟩, ⟨2, (some 45), none, .bin .geq (.s 43) (.s 44)⟩] [] (some [45, 12, 11, 9, 10, 8, 1, 0]))
  (.cond (.s 45) (.region 0 [⟨0, (some 46), none, .mv (.s 12)⟩, ⟨1, (some 47), none, .mv (.s 8)⟩, ⟨2, (some 48), none, .bin .sub (.s 46) (.s 47)⟩, ⟨3, (some 12), none, .mv (.s 48)⟩] [] (some [12, 11, 9, 10, 8, 1, 0]))
  .skip))
  (.region 0 [⟨0, (some 49), none, .mv (.s 0)⟩, ⟨1, (some 50), none, .mv (.s 11)⟩, ⟨2, (some 51), none, .mv (.s 0)⟩, ⟨3, (some 52), none, .mv (.s 1)⟩, ⟨4, (some 53), none, .mv (.s 12)⟩, ⟨5, (some 54), none, .bin .add (.s 52) (.s 53)⟩, ⟨6, (some 55), none, .mv (.s 0)⟩, ⟨7, (some 56), none, .mv (.s 1)⟩, ⟨8, (some 57), none, .mv (.s 12)⟩, ⟨9, (some 58), none, .bin .add (.s 56) (.s 57)⟩, ⟨10, (some 59), none, .iaddr 5 (.s 55) (.s 58)⟩, ⟨12, (some 61), none, .mv (.s 0)⟩, ⟨13, (some 62), none, .mv (.s 11)⟩, ⟨14, (some 63), none, .iaddr 5 (.s 61) (.s 62)⟩, ⟨11, (some 60), none, .load true 5 (.s 59)⟩, ⟨15, (some 64), none, .load true 5 (.s 63)⟩, ⟨16, (some 65), none, .iaddr 5 (.s 49) (.s 50)⟩, ⟨17, none, none, .store 5 (.s 65) (.s 60)⟩, ⟨18, (some 66), none, .iaddr 5 (.s 51) (.s 54)⟩, ⟨19, none, none, .store 5 (.s 66) (.s 64)⟩] [] (some [11, 9, 10, 8, 1, 0])))))
  (.region 0 [⟨0, (some 36), none, .mv (.s 11)⟩, ⟨1, (some 37), none, .bin .add (.s 36) (.k (.c (.int .i64 1)))⟩, ⟨2, (some 11), none, .mv (.s 37)⟩] [] (some [11, 9, 10, 8, 1, 0]))))
abbrev f_slices_breakPatternsCmpFunc_Found : Nat := 176
def c_slices_breakPatternsCmpFunc_Found : CFn := { frz := true, rnd := none, nargs := 4, ntmps := 67, res := [], code :=
  (.seq (.region 0 [⟨0, (some 13), none, .mv (.s 2)⟩, ⟨1, (some 14), none, .mv (.s 1)⟩, ⟨2, (some 15), none, .bin .sub (.s 13) (.s 14)⟩, ⟨3, (some 8), none, .mv (.s 15)⟩] [] (some [8, 1, 0]))
  (.seq (.region 0 [⟨0, (some 16), none, .mv (.s 8)⟩, ⟨1, (some 17), none, .bin .geq (.s 16) (.k (.c (.int .i64 8)))⟩] [] (some [17, 8, 1, 0]))
  (.cond (.s 17) (.seq (.region 1 [⟨0, (some 18), none, .mv (.s 8)⟩, ⟨1, (some 19), none, .conv .u64 (.s 18)⟩, ⟨2, (some 9), none, .box 0 1 (.k (.a [(.int .u64 0)]))⟩, ⟨3, none, none, .store 1 (.s 9) (.s 19)⟩] [] (some [9, 8, 1, 0]))
  (.seq (.region 0 [⟨0, (some 20), none, .mv (.s 8)⟩, ⟨1, (some 21), none, .call ⟨true⟩ (.k (.c (.fn 238 [] []))) [(.s 20)]⟩, ⟨2, (some 10), none, .mv (.s 21)⟩] [] (some [9, 10, 8, 1, 0]))
  (.seq (.region 0 [⟨0, (some 22), none, .mv (.s 1)⟩, ⟨1, (some 23), none, .mv (.s 8)⟩, ⟨2, (some 24), none, .bin .quo (.s 23) (.k (.c (.int .i64 4)))⟩, ⟨3, (some 25), none, .bin .mul (.s 24) (.k (.c (.int .i64 2)))⟩, ⟨4, (some 26), none, .bin .add (.s 22) (.s 25)⟩, ⟨5, (some 27), none, .bin .sub (.s 26) (.k (.c (.int .i64 1)))⟩, ⟨6, (some 11), none, .mv (.s 27)⟩] [] (some [11, 9, 10, 8, 1, 0]))
  (.block 0 (.loop (some [11, 9, 10, 8, 1, 0]) c_slices_breakPatternsCmpFunc_Found_l1)))))
  .skip))) }
abbrev f_slices_choosePivotCmpFunc_Found : Nat := 177
def c_slices_choosePivotCmpFunc_Found : CFn := { frz := true, rnd := none, nargs := 4, ntmps := 63, res := [(.slot 8), (.slot 9)], code :=
  (.seq (.region 0 [⟨0, (some 8), none, .mv (.k (.c (.int .i64 0)))⟩, ⟨1, (some 9), none, .mv (.k (.c (.int .i64 0)))⟩] [] (some [2, 1, 0, 3]))
  (.seq (.region 0 [⟨0, (some 15), none, .mv (.s 2)⟩, ⟨1, (some 16), none, .mv (.s 1)⟩, ⟨2, (some 17), none, .bin .sub (.s 15) (.s 16)⟩, ⟨3, (some 10), none, .mv (.s 17)⟩] [] (some [1, 10, 0, 3]))
  (.seq (.region 1 [⟨0, (some 11), none, .box 0 1 (.k (.a [(.int .i64 0)]))⟩] [] (some [1, 10, 0, 3, 11]))
  (.seq (.region 0 [⟨0, (some 18), none, .mv (.s 1)⟩, ⟨1, (some 19), none, .mv (.s 10)⟩, ⟨2, (some 20), none, .bin .quo (.s 19) (.k (.c (.int .i64 4)))⟩, ⟨3, (some 21), none, .bin .mul (.s 20) (.k (.c (.int .i64 1)))⟩, ⟨4, (some 22), none, .bin .add (.s 18) (.s 21)⟩, ⟨5, (some 12), none, .mv (.s 22)⟩] [] (some [1, 10, 12, 0, 3, 11]))
  (.seq (.region 0 [⟨0, (some 23), none, .mv (.s 1)⟩, ⟨1, (some 24), none, .mv (.s 10)⟩, ⟨2, (some 25), none, .bin .quo (.s 24) (.k (.c (.int .i64 4)))⟩, ⟨3, (some 26), none, .bin .mul (.s 25) (.k (.c (.int .i64 2)))⟩, ⟨4, (some 27), none, .bin .add (.s 23) (.s 26)⟩, ⟨5, (some 13), none, .mv (.s 27)⟩] [] (some [1, 10, 12, 13, 0, 3, 11]))
  (.seq (.region 0 [⟨0, (some 28), none, .mv (.s 1)⟩, ⟨1, (some 29), none, .mv (.s 10)⟩, ⟨2, (some 30), none, .bin .quo (.s 29) (.k (.c (.int .i64 4)))⟩, ⟨3, (some 31), none, .bin .mul (.s 30) (.k (.c (.int .i64 3)))⟩, ⟨4, (some 32), none, .bin .add (.s 28) (.s 31)⟩, ⟨5, (some 14), none, .mv (.s 32)⟩] [] (some [10, 12, 13, 14, 0, 3, 11]))
  (.seq (.seq (.region 0 [⟨0, (some 33), none, .mv (.s 10)⟩, ⟨1, (some 34), none, .bin .geq (.s 33) (.k (.c (.int .i64 8)))⟩] [] (some [34, 10, 12, 13, 14, 0, 3, 11]))
  (.cond (.s 34) (.seq (.seq (.region 0 [⟨0, (some 35), none, .mv (.s 10)⟩, ⟨1, (some 36), none, .bin .geq (.s 35) (.k (.c (.int .i64 50)))⟩] [] (some [36, 12, 13, 14, 0, 3, 11]))
  (.cond (.s 36) (.seq (.region 0 [⟨0, (some 37), none, .mv (.s 0)⟩, ⟨1, (some 38), none, .mv (.s 12)⟩, ⟨2, (some 39), none, .mv (.s 3)⟩, ⟨3, (some 40), none, .call ⟨false⟩ (.k (.c (.fn 240 [] []))) [(.s 37), (.s 38), (.s 11), (.s 39)]⟩, ⟨4, (some 12), none, .mv (.s 40)⟩] [] (some [13, 14, 0, 12, 3, 11]))
  (.seq (.region 0 [⟨0, (some 41), none, .mv (.s 0)⟩, ⟨1, (some 42), none, .mv (.s 13)⟩, ⟨2, (some 43), none, .mv (.s 3)⟩, ⟨3, (some 44), none, .call ⟨false⟩ (.k (.c (.fn 240 [] []))) [(.s 41), (.s 42), (.s 11), (.s 43)]⟩, ⟨4, (some 13), none, .mv (.s 44)⟩] [] (some [14, 0, 12, 13, 3, 11]))
  (.region 0 [⟨0, (some 45), none, .mv (.s 0)⟩, ⟨1, (some 46), none, .mv (.s 14)⟩, ⟨2, (some 47), none, .mv (.s 3)⟩, ⟨3, (some 48), none, .call ⟨false⟩ (.k (.c (.fn 240 [] []))) [(.s 45), (.s 46), (.s 11), (.s 47)]⟩, ⟨4, (some 14), none, .mv (.s 48)⟩] [] (some [0, 12, 13, 14, 3, 11]))))
  .skip))
  (.region 0 [⟨0, (some 49), none, .mv (.s 0)⟩, ⟨1, (some 50), none, .mv (.s 12)⟩, ⟨2, (some 51), none, .mv (.s 13)⟩, ⟨3, (some 52), none, .mv (.s 14)⟩, ⟨4, (some 53), none, .mv (.s 3)⟩, ⟨5, (some 54), none, .call ⟨false⟩ (.k (.c (.fn 241 [] []))) [(.s 49), (.s 50), (.s 51), (.s 52), (.s 11), (.s 53)]⟩, ⟨6, (some 13), none, .mv (.s 54)⟩] [] (some [11, 13])))
  .skip))
  (.seq (.region 0 [⟨0, (some 55), none, .load false 1 (.s 11)⟩] [] (some [55, 13]))
  (.block 0 (.seq (.region 0 [⟨0, (some 58), none, .bin .eql (.s 55) (.k (.c (.int .i64 0)))⟩, ⟨1, (some 57), none, .mv (.s 58)⟩] [] (some [57, 55, 13]))
  (.cond (.s 57) (.seq (.region 0 [⟨0, (some 59), none, .mv (.s 13)⟩, ⟨1, (some 8), none, .mv (.s 59)⟩, ⟨2, (some 9), none, .mv (.k (.c (.int .i64 1)))⟩] [] (some [8, 9]))
  .ret)
  (.seq (.region 0 [⟨0, (some 61), none, .bin .eql (.s 55) (.k (.c (.int .i64 12)))⟩, ⟨1, (some 60), none, .mv (.s 61)⟩] [] (some [60, 13]))
  (.cond (.s 60) (.seq (.region 0 [⟨0, (some 62), none, .mv (.s 13)⟩, ⟨1, (some 8), none, .mv (.s 62)⟩, ⟨2, (some 9), none, .mv (.k (.c (.int .i64 2)))⟩] [] (some [8, 9]))
  .ret)
  (.seq (.region 0 [⟨0, (some 56), none, .mv (.s 13)⟩, ⟨1, (some 8), none, .mv (.s 56)⟩, ⟨2, (some 9), none, .mv (.k (.c (.int .i64 0)))⟩] [] (some [8, 9]))
  .ret)))))))))))))) }
def c_slices_reverseRangeCmpFunc_Found_l1 : CC := (.seq (.seq (.region 0 [⟨0, (some 13), none, .mv (.s 8)⟩, ⟨1, (some 14), none, .mv (.s 9)⟩, ⟨2, (some 15), none, .bin .lss (.s 13) (.s 14)⟩] [] (some [15, 8, 9, 0]))
  (.cond (.s 15) .skip
  (.exit 0)))
  (.block 1 (.seq (.region 0 [⟨0, (some 16), none, .mv (.s 0)⟩, ⟨1, (some 17), none, .mv (.s 8)⟩, ⟨2, (some 18), none, .mv (.s 0)⟩, ⟨3, (some 19), none, .mv (.s 9)⟩, ⟨4, (some 20), none, .mv (.s 0)⟩, ⟨5, (some 21), none, .mv (.s 9)⟩, ⟨6, (some 22), none, .iaddr 5 (.s 20) (.s 21)⟩, ⟨8, (some 24), none, .mv (.s 0)⟩, ⟨9, (some 25), none, .mv (.s 8)⟩, ⟨10, (some 26), none, .iaddr 5 (.s 24) (.s 25)⟩, ⟨7, (some 23), none, .load true 5 (.s 22)⟩, ⟨11, (some 27), none, .load true 5 (.s 26)⟩, ⟨12, (some 28), none, .iaddr 5 (.s 16) (.s 17)⟩, ⟨13, none, none, .store 5 (.s 28) (.s 23)⟩, ⟨14, (some 29), none, .iaddr 5 (.s 18) (.s 19)⟩, ⟨15, none, none, .store 5 (.s 29) (.s 27)⟩] [] (some [8, 9, 0]))
  (.seq (.region 0 [⟨0, (some 30), none, .mv (.s 8)⟩, ⟨1, (some 31), none, .bin .add (.s 30) (.k (.c (.int .i64 1)))⟩, ⟨2, (some 8), none, .mv (.s 31)⟩] [] (some [9, 8, 0]))
  (.region 0 [⟨0, (some 32), none, .mv (.s 9)⟩, ⟨1, (some 33), none, .bin .sub (.s 32) (.k (.c (.int .i64 1)))⟩, ⟨2, (some 9), none, .mv (.s 33)⟩] [] (some [8, 9, 0]))))))
abbrev f_slices_reverseRangeCmpFunc_Found : Nat := 178
def c_slices_reverseRangeCmpFunc_Found : CFn := { frz := true, rnd := none, nargs := 4, ntmps := 34, res := [], code :=
  (.seq (.region 0 [⟨0, (some 10), none, .mv (.s 1)⟩, ⟨1, (some 8), none, .mv (.s 10)⟩] [] (some [2, 8, 0]))
  (.seq (.region 0 [⟨0, (some 11), none, .mv (.s 2)⟩, ⟨1, (some 12), none, .bin .sub (.s 11) (.k (.c (.int .i64 1)))⟩, ⟨2, (some 9), none, .mv (.s 12)⟩] [] (some [8, 9, 0]))
  (.block 0 (.loop (some [8, 9, 0]) c_slices_reverseRangeCmpFunc_Found_l1)))) }
def c_slices_partialInsertionSortCmpFunc_Found_l1 : CC := (.seq (.seq (.region 0 [⟨0, (some 19), none, .mv (.s 9)⟩, ⟨1, (some 20), none, .mv (.s 2)⟩, ⟨2, (some 21), none, .bin .lss (.s 19) (.s 20)⟩, ⟨3, (some 22), none, .mv (.s 21)⟩, ⟨4, (some 23), (some (22, true)), .mv (.s 3)⟩, ⟨5, (some 24), (some (22, true)), .mv (.s 0)⟩, ⟨6, (some 25), (some (22, true)), .mv (.s 9)⟩, ⟨7, (some 26), (some (22, true)), .iaddr 5 (.s 24) (.s 25)⟩, ⟨9, (some 28), (some (22, true)), .mv (.s 0)⟩, ⟨10, (some 29), (some (22, true)), .mv (.s 9)⟩, ⟨11, (some 30), (some (22, true)), .bin .sub (.s 29) (.k (.c (.int .i64 1)))⟩, ⟨12, (some 31), (some (22, true)), .iaddr 5 (.s 28) (.s 30)⟩, ⟨8, (some 27), (some (22, true)), .load true 5 (.s 26)⟩, ⟨13, (some 32), (some (22, true)), .load true 5 (.s 31)⟩, ⟨14, (some 33), (some (22, true)), .call ⟨true⟩ (.s 23) [(.s 27), (.s 32)]⟩, ⟨15, (some 34), (some (22, true)), .bin .lss (.s 33) (.k (.c (.int .i64 0)))⟩, ⟨16, (some 35), (some (22, true)), .un .not (.s 34)⟩, ⟨17, (some 36), none, .pick (.s 22) (.s 35) (.k (.c (.bool false)))⟩] [] (some [36, 9, 1, 2, 3, 0, 10]))
  (.cond (.s 36) .skip
  (.exit 2)))
  (.block 3 (.region 0 [⟨0, (some 37), none, .mv (.s 9)⟩, ⟨1, (some 38), none, .bin .add (.s 37) (.k (.c (.int .i64 1)))⟩, ⟨2, (some 9), none, .mv (.s 38)⟩] [] (some [9, 1, 2, 3, 0, 10]))))
def c_slices_partialInsertionSortCmpFunc_Found_l2 : CC := (.seq (.seq (.region 0 [⟨0, (some 68), none, .mv (.s 11)⟩, ⟨1, (some 69), none, .bin .geq (.s 68) (.k (.c (.int .i64 1)))⟩] [] (some [69, 11, 10, 9, 0, 3, 2, 1]))
  (.cond (.s 69) .skip
  (.exit 4)))
  (.seq (.block 5 (.seq (.seq (.region 0 [⟨0, (some 72), none, .mv (.s 3)⟩, ⟨1, (some 73), none, .mv (.s 0)⟩, ⟨2, (some 74), none, .mv (.s 11)⟩, ⟨3, (some 75), none, .iaddr 5 (.s 73) (.s 74)⟩, ⟨5, (some 77), none, .mv (.s 0)⟩, ⟨6, (some 78), none, .mv (.s 11)⟩, ⟨7, (some 79), none, .bin .sub (.s 78) (.k (.c (.int .i64 1)))⟩, ⟨8, (some 80), none, .iaddr 5 (.s 77) (.s 79)⟩, ⟨4, (some 76), none, .load true 5 (.s 75)⟩, ⟨9, (some 81), none, .load true 5 (.s 80)⟩, ⟨10, (some 82), none, .call ⟨true⟩ (.s 72) [(.s 76), (.s 81)]⟩, ⟨11, (some 83), none, .bin .lss (.s 82) (.k (.c (.int .i64 0)))⟩, ⟨12, (some 84), none, .un .not (.s 83)⟩] [] (some [84, 11, 10, 9, 0, 3, 2, 1]))
  (.cond (.s 84) (.exit 4)
  .skip))
  (.region 0 [⟨0, (some 85), none, .mv (.s 0)⟩, ⟨1, (some 86), none, .mv (.s 11)⟩, ⟨2, (some 87), none, .mv (.s 0)⟩, ⟨3, (some 88), none, .mv (.s 11)⟩, ⟨4, (some 89), none, .bin .sub (.s 88) (.k (.c (.int .i64 1)))⟩, ⟨5, (some 90), none, .mv (.s 0)⟩, ⟨6, (some 91), none, .mv (.s 11)⟩, ⟨7, (some 92), none, .bin .sub (.s 91) (.k (.c (.int .i64 1)))⟩, ⟨8, (some 93), none, .iaddr 5 (.s 90) (.s 92)⟩, ⟨10, (some 95), none, .mv (.s 0)⟩, ⟨11, (some 96), none, .mv (.s 11)⟩, ⟨12, (some 97), none, .iaddr 5 (.s 95) (.s 96)⟩, ⟨9, (some 94), none, .load true 5 (.s 93)⟩, ⟨13, (some 98), none, .load true 5 (.s 97)⟩, ⟨14, (some 99), none, .iaddr 5 (.s 85) (.s 86)⟩, ⟨15, none, none, .store 5 (.s 99) (.s 94)⟩, ⟨16, (some 100), none, .iaddr 5 (.s 87) (.s 89)⟩, ⟨17, none, none, .store 5 (.s 100) (.s 98)⟩] [] (some [11, 10, 9, 0, 3, 2, 1]))))
  (.region 0 [⟨0, (some 70), none, .mv (.s 11)⟩, ⟨1, (some 71), none, .bin .sub (.s 70) (.k (.c (.int .i64 1)))⟩, ⟨2, (some 11), none, .mv (.s 71)⟩] [] (some [11, 10, 9, 0, 3, 2, 1]))))
def c_slices_partialInsertionSortCmpFunc_Found_l3 : CC := (.seq (.seq (.region 0 [⟨0, (some 107), none, .mv (.s 12)⟩, ⟨1, (some 108), none, .mv (.s 2)⟩, ⟨2, (some 109), none, .bin .lss (.s 107) (.s 108)⟩] [] (some [109, 12, 10, 9, 0, 3, 2, 1]))
  (.cond (.s 109) .skip
  (.exit 6)))
  (.seq (.block 7 (.seq (.seq (.region 0 [⟨0, (some 112), none, .mv (.s 3)⟩, ⟨1, (some 113), none, .mv (.s 0)⟩, ⟨2, (some 114), none, .mv (.s 12)⟩, ⟨3, (some 115), none, .iaddr 5 (.s 113) (.s 114)⟩, ⟨5, (some 117), none, .mv (.s 0)⟩, ⟨6, (some 118), none, .mv (.s 12)⟩, ⟨7, (some 119), none, .bin .sub (.s 118) (.k (.c (.int .i64 1)))⟩, ⟨8, (some 120), none, .iaddr 5 (.s 117) (.s 119)⟩, ⟨4, (some 116), none, .load true 5 (.s 115)⟩, ⟨9, (some 121), none, .load true 5 (.s 120)⟩, ⟨10, (some 122), none, .call ⟨true⟩ (.s 112) [(.s 116), (.s 121)]⟩, ⟨11, (some 123), none, .bin .lss (.s 122) (.k (.c (.int .i64 0)))⟩, ⟨12, (some 124), none, .un .not (.s 123)⟩] [] (some [124, 12, 10, 9, 0, 3, 2, 1]))
  (.cond (.s 124) (.exit 6)
  .skip))
  (.region 0 [⟨0, (some 125), none, .mv (.s 0)⟩, ⟨1, (some 126), none, .mv (.s 12)⟩, ⟨2, (some 127), none, .mv (.s 0)⟩, ⟨3, (some 128), none, .mv (.s 12)⟩, ⟨4, (some 129), none, .bin .sub (.s 128) (.k (.c (.int .i64 1)))⟩, ⟨5, (some 130), none, .mv (.s 0)⟩, ⟨6, (some 131), none, .mv (.s 12)⟩, ⟨7, (some 132), none, .bin .sub (.s 131) (.k (.c (.int .i64 1)))⟩, ⟨8, (some 133), none, .iaddr 5 (.s 130) (.s 132)⟩, ⟨10, (some 135), none, .mv (.s 0)⟩, ⟨11, (some 136), none, .mv (.s 12)⟩, ⟨12, (some 137), none, .iaddr 5 (.s 135) (.s 136)⟩, ⟨9, (some 134), none, .load true 5 (.s 133)⟩, ⟨13, (some 138), none, .load true 5 (.s 137)⟩, ⟨14, (some 139), none, .iaddr 5 (.s 125) (.s 126)⟩, ⟨15, none, none, .store 5 (.s 139) (.s 134)⟩, ⟨16, (some 140), none, .iaddr 5 (.s 127) (.s 129)⟩, ⟨17, none, none, .store 5 (.s 140) (.s 138)⟩] [] (some [12, 10, 9, 0, 3, 2, 1]))))
  (.region 0 [⟨0, (some 110), none, .mv (.s 12)⟩, ⟨1, (some 111), none, .bin .add (.s 110) (.k (.c (.int .i64 1)))⟩, ⟨2, (some 12), none, .mv (.s 111)⟩] [] (some [12, 10, 9, 0, 3, 2, 1]))))
def c_slices_partialInsertionSortCmpFunc_Found_l4 : CC := (.seq (.seq (.region 0 [⟨0, (some 15), none, .mv (.s 10)⟩, ⟨1, (some 16), none, .bin .lss (.s 15) (.k (.c (.int .i64 5)))⟩] [] (some [16, 9, 1, 2, 3, 0, 10]))
  (.cond (.s 16) .skip
  (.exit 0)))
  (.seq (.block 1 (.seq (.block 2 (.loop (some [9, 1, 2, 3, 0, 10]) c_slices_partialInsertionSortCmpFunc_Found_l1))
  (.seq (.seq (.region 0 [⟨0, (some 39), none, .mv (.s 9)⟩, ⟨1, (some 40), none, .mv (.s 2)⟩, ⟨2, (some 41), none, .bin .eql (.s 39) (.s 40)⟩] [] (some [41, 10, 9, 0, 3, 2, 1]))
  (.cond (.s 41) (.seq (.region 0 [⟨0, (some 8), none, .mv (.k (.c (.bool true)))⟩] [] (some [8]))
  .ret)
  .skip))
  (.seq (.seq (.region 0 [⟨0, (some 42), none, .mv (.s 2)⟩, ⟨1, (some 43), none, .mv (.s 1)⟩, ⟨2, (some 44), none, .bin .sub (.s 42) (.s 43)⟩, ⟨3, (some 45), none, .bin .lss (.s 44) (.k (.c (.int .i64 50)))⟩] [] (some [45, 1, 2, 3, 0, 9, 10]))
  (.cond (.s 45) (.seq (.region 0 [⟨0, (some 8), none, .mv (.k (.c (.bool false)))⟩] [] (some [8]))
  .ret)
  .skip))
  (.seq (.region 0 [⟨0, (some 46), none, .mv (.s 0)⟩, ⟨1, (some 47), none, .mv (.s 9)⟩, ⟨2, (some 48), none, .mv (.s 0)⟩, ⟨3, (some 49), none, .mv (.s 9)⟩, ⟨4, (some 50), none, .bin .sub (.s 49) (.k (.c (.int .i64 1)))⟩, ⟨5, (some 51), none, .mv (.s 0)⟩, ⟨6, (some 52), none, .mv (.s 9)⟩, ⟨7, (some 53), none, .bin .sub (.s 52) (.k (.c (.int .i64 1)))⟩, ⟨8, (some 54), none, .iaddr 5 (.s 51) (.s 53)⟩, ⟨10, (some 56), none, .mv (.s 0)⟩, ⟨11, (some 57), none, .mv (.s 9)⟩, ⟨12, (some 58), none, .iaddr 5 (.s 56) (.s 57)⟩, ⟨9, (some 55), none, .load true 5 (.s 54)⟩, ⟨13, (some 59), none, .load true 5 (.s 58)⟩, ⟨14, (some 60), none, .iaddr 5 (.s 46) (.s 47)⟩, ⟨15, none, none, .store 5 (.s 60) (.s 55)⟩, ⟨16, (some 61), none, .iaddr 5 (.s 48) (.s 50)⟩, ⟨17, none, none, .store 5 (.s 61) (.s 59)⟩] [] (some [10, 9, 0, 3, 2, 1]))
  (.seq (.seq (.region 0 [⟨0, (some 62), none, .mv (.s 9)⟩, ⟨1, (some 63), none, .mv (.s 1)⟩, ⟨2, (some 64), none, .bin .sub (.s 62) (.s 63)⟩, ⟨3, (some 65), none, .bin .geq (.s 64) (.k (.c (.int .i64 2)))⟩] [] (some [65, 10, 9, 0, 3, 2, 1]))
  (.cond (.s 65) (.seq (.region 0 [⟨0, (some 66), none, .mv (.s 9)⟩, ⟨1, (some 67), none, .bin .sub (.s 66) (.k (.c (.int .i64 1)))⟩, ⟨2, (some 11), none, .mv (.s 67)⟩] [] (some [11, 10, 9, 0, 3, 2, 1]))
  (.block 4 (.loop (some [11, 10, 9, 0, 3, 2, 1]) c_slices_partialInsertionSortCmpFunc_Found_l2)))
  .skip))
  (.seq (.region 0 [⟨0, (some 101), none, .mv (.s 2)⟩, ⟨1, (some 102), none, .mv (.s 9)⟩, ⟨2, (some 103), none, .bin .sub (.s 101) (.s 102)⟩, ⟨3, (some 104), none, .bin .geq (.s 103) (.k (.c (.int .i64 2)))⟩] [] (some [104, 10, 9, 0, 3, 2, 1]))
  (.cond (.s 104) (.seq (.region 0 [⟨0, (some 105), none, .mv (.s 9)⟩, ⟨1, (some 106), none, .bin .add (.s 105) (.k (.c (.int .i64 1)))⟩, ⟨2, (some 12), none, .mv (.s 106)⟩] [] (some [12, 10, 9, 0, 3, 2, 1]))
  (.block 6 (.loop (some [12, 10, 9, 0, 3, 2, 1]) c_slices_partialInsertionSortCmpFunc_Found_l3)))
  .skip))))))))
  (.region 0 [⟨0, (some 17), none, .mv (.s 10)⟩, ⟨1, (some 18), none, .bin .add (.s 17) (.k (.c (.int .i64 1)))⟩, ⟨2, (some 10), none, .mv (.s 18)⟩] [] (some [9, 0, 3, 2, 1, 10]))))
abbrev f_slices_partialInsertionSortCmpFunc_Found : Nat := 179
def c_slices_partialInsertionSortCmpFunc_Found : CFn := { frz := true, rnd := none, nargs := 4, ntmps := 141, res := [(.slot 8)], code :=
  (.seq (.region 0 [⟨0, (some 8), none, .mv (.k (.c (.bool false)))⟩] [] (some [0, 3, 2, 1]))
  (.seq (.region 0 [⟨0, (some 13), none, .mv (.s 1)⟩, ⟨1, (some 14), none, .bin .add (.s 13) (.k (.c (.int .i64 1)))⟩, ⟨2, (some 9), none, .mv (.s 14)⟩] [] (some [9, 0, 3, 2, 1]))
  (.seq (.seq (.region 0 [⟨0, (some 10), none, .mv (.k (.c (.int .i64 0)))⟩] [] (some [9, 0, 3, 2, 1, 10]))
  (.block 0 (.loop (some [9, 0, 3, 2, 1, 10]) c_slices_partialInsertionSortCmpFunc_Found_l4)))
  (.seq (.region 0 [⟨0, (some 8), none, .mv (.k (.c (.bool false)))⟩] [] (some [8]))
  .ret)))) }
def c_slices_partitionEqualCmpFunc_Found_l1 : CC := (.seq (.seq (.region 0 [⟨0, (some 31), none, .mv (.s 11)⟩, ⟨1, (some 32), none, .mv (.s 12)⟩, ⟨2, (some 33), none, .bin .leq (.s 31) (.s 32)⟩, ⟨3, (some 34), none, .mv (.s 33)⟩, ⟨4, (some 35), (some (34, true)), .mv (.s 4)⟩, ⟨5, (some 36), (some (34, true)), .mv (.s 0)⟩, ⟨6, (some 37), (some (34, true)), .mv (.s 1)⟩, ⟨7, (some 38), (some (34, true)), .iaddr 5 (.s 36) (.s 37)⟩, ⟨9, (some 40), (some (34, true)), .mv (.s 0)⟩, ⟨10, (some 41), (some (34, true)), .mv (.s 11)⟩, ⟨11, (some 42), (some (34, true)), .iaddr 5 (.s 40) (.s 41)⟩, ⟨8, (some 39), (some (34, true)), .load true 5 (.s 38)⟩, ⟨12, (some 43), (some (34, true)), .load true 5 (.s 42)⟩, ⟨13, (some 44), (some (34, true)), .call ⟨true⟩ (.s 35) [(.s 39), (.s 43)]⟩, ⟨14, (some 45), (some (34, true)), .bin .lss (.s 44) (.k (.c (.int .i64 0)))⟩, ⟨15, (some 46), (some (34, true)), .un .not (.s 45)⟩, ⟨16, (some 47), none, .pick (.s 34) (.s 46) (.k (.c (.bool false)))⟩] [] (some [47, 11, 4, 1, 0, 12]))
  (.cond (.s 47) .skip
  (.exit 2)))
  (.block 3 (.region 0 [⟨0, (some 48), none, .mv (.s 11)⟩, ⟨1, (some 49), none, .bin .add (.s 48) (.k (.c (.int .i64 1)))⟩, ⟨2, (some 11), none, .mv (.s 49)⟩] [] (some [11, 4, 1, 0, 12]))))
def c_slices_partitionEqualCmpFunc_Found_l2 : CC := (.seq (.seq (.region 0 [⟨0, (some 50), none, .mv (.s 11)⟩, ⟨1, (some 51), none, .mv (.s 12)⟩, ⟨2, (some 52), none, .bin .leq (.s 50) (.s 51)⟩, ⟨3, (some 53), none, .mv (.s 52)⟩, ⟨4, (some 54), (some (53, true)), .mv (.s 4)⟩, ⟨5, (some 55), (some (53, true)), .mv (.s 0)⟩, ⟨6, (some 56), (some (53, true)), .mv (.s 1)⟩, ⟨7, (some 57), (some (53, true)), .iaddr 5 (.s 55) (.s 56)⟩, ⟨9, (some 59), (some (53, true)), .mv (.s 0)⟩, ⟨10, (some 60), (some (53, true)), .mv (.s 12)⟩, ⟨11, (some 61), (some (53, true)), .iaddr 5 (.s 59) (.s 60)⟩, ⟨8, (some 58), (some (53, true)), .load true 5 (.s 57)⟩, ⟨12, (some 62), (some (53, true)), .load true 5 (.s 61)⟩, ⟨13, (some 63), (some (53, true)), .call ⟨true⟩ (.s 54) [(.s 58), (.s 62)]⟩, ⟨14, (some 64), (some (53, true)), .bin .lss (.s 63) (.k (.c (.int .i64 0)))⟩, ⟨15, (some 65), none, .pick (.s 53) (.s 64) (.k (.c (.bool false)))⟩] [] (some [65, 12, 11, 0, 1, 4]))
  (.cond (.s 65) .skip
  (.exit 4)))
  (.block 5 (.region 0 [⟨0, (some 66), none, .mv (.s 12)⟩, ⟨1, (some 67), none, .bin .sub (.s 66) (.k (.c (.int .i64 1)))⟩, ⟨2, (some 12), none, .mv (.s 67)⟩] [] (some [12, 11, 0, 1, 4]))))
def c_slices_partitionEqualCmpFunc_Found_l3 : CC := (.block 1 (.seq (.block 2 (.loop (some [11, 4, 1, 0, 12]) c_slices_partitionEqualCmpFunc_Found_l1))
  (.seq (.block 4 (.loop (some [12, 11, 0, 1, 4]) c_slices_partitionEqualCmpFunc_Found_l2))
  (.seq (.seq (.region 0 [⟨0, (some 68), none, .mv (.s 11)⟩, ⟨1, (some 69), none, .mv (.s 12)⟩, ⟨2, (some 70), none, .bin .gtr (.s 68) (.s 69)⟩] [] (some [70, 4, 1, 0, 12, 11]))
  (.cond (.s 70) (.exit 0)
  .skip))
  (.seq (.region 0 [⟨0, (some 71), none, .mv (.s 0)⟩, ⟨1, (some 72), none, .mv (.s 11)⟩, ⟨2, (some 73), none, .mv (.s 0)⟩, ⟨3, (some 74), none, .mv (.s 12)⟩, ⟨4, (some 75), none, .mv (.s 0)⟩, ⟨5, (some 76), none, .mv (.s 12)⟩, ⟨6, (some 77), none, .iaddr 5 (.s 75) (.s 76)⟩, ⟨8, (some 79), none, .mv (.s 0)⟩, ⟨9, (some 80), none, .mv (.s 11)⟩, ⟨10, (some 81), none, .iaddr 5 (.s 79) (.s 80)⟩, ⟨7, (some 78), none, .load true 5 (.s 77)⟩, ⟨11, (some 82), none, .load true 5 (.s 81)⟩, ⟨12, (some 83), none, .iaddr 5 (.s 71) (.s 72)⟩, ⟨13, none, none, .store 5 (.s 83) (.s 78)⟩, ⟨14, (some 84), none, .iaddr 5 (.s 73) (.s 74)⟩, ⟨15, none, none, .store 5 (.s 84) (.s 82)⟩] [] (some [11, 12, 0, 1, 4]))
  (.seq (.region 0 [⟨0, (some 85), none, .mv (.s 11)⟩, ⟨1, (some 86), none, .bin .add (.s 85) (.k (.c (.int .i64 1)))⟩, ⟨2, (some 11), none, .mv (.s 86)⟩] [] (some [12, 11, 0, 1, 4]))
  (.region 0 [⟨0, (some 87), none, .mv (.s 12)⟩, ⟨1, (some 88), none, .bin .sub (.s 87) (.k (.c (.int .i64 1)))⟩, ⟨2, (some 12), none, .mv (.s 88)⟩] [] (some [11, 0, 1, 4, 12]))))))))
abbrev f_slices_partitionEqualCmpFunc_Found : Nat := 180
def c_slices_partitionEqualCmpFunc_Found : CFn := { frz := true, rnd := none, nargs := 5, ntmps := 90, res := [(.slot 10)], code :=
  (.seq (.region 0 [⟨0, (some 10), none, .mv (.k (.c (.int .i64 0)))⟩] [] (some [3, 2, 0, 1, 4]))
  (.seq (.region 0 [⟨0, (some 13), none, .mv (.s 0)⟩, ⟨1, (some 14), none, .mv (.s 1)⟩, ⟨2, (some 15), none, .mv (.s 0)⟩, ⟨3, (some 16), none, .mv (.s 3)⟩, ⟨4, (some 17), none, .mv (.s 0)⟩, ⟨5, (some 18), none, .mv (.s 3)⟩, ⟨6, (some 19), none, .iaddr 5 (.s 17) (.s 18)⟩, ⟨8, (some 21), none, .mv (.s 0)⟩, ⟨9, (some 22), none, .mv (.s 1)⟩, ⟨10, (some 23), none, .iaddr 5 (.s 21) (.s 22)⟩, ⟨7, (some 20), none, .load true 5 (.s 19)⟩, ⟨11, (some 24), none, .load true 5 (.s 23)⟩, ⟨12, (some 25), none, .iaddr 5 (.s 13) (.s 14)⟩, ⟨13, none, none, .store 5 (.s 25) (.s 20)⟩, ⟨14, (some 26), none, .iaddr 5 (.s 15) (.s 16)⟩, ⟨15, none, none, .store 5 (.s 26) (.s 24)⟩] [] (some [2, 0, 1, 4]))
  (.seq (.region 0 [⟨0, (some 27), none, .mv (.s 1)⟩, ⟨1, (some 28), none, .bin .add (.s 27) (.k (.c (.int .i64 1)))⟩, ⟨2, (some 29), none, .mv (.s 2)⟩, ⟨3, (some 30), none, .bin .sub (.s 29) (.k (.c (.int .i64 1)))⟩, ⟨4, (some 11), none, .mv (.s 28)⟩, ⟨5, (some 12), none, .mv (.s 30)⟩] [] (some [11, 0, 1, 4, 12]))
  (.seq (.block 0 (.loop (some [11, 0, 1, 4, 12]) c_slices_partitionEqualCmpFunc_Found_l3))
  (.seq (.region 0 [⟨0, (some 89), none, .mv (.s 11)⟩, ⟨1, (some 10), none, .mv (.s 89)⟩] [] (some [10]))
  .ret))))) }
def c_slices_partitionCmpFunc_Found_l1 : CC := (.seq (.seq (.region 0 [⟨0, (some 32), none, .mv (.s 12)⟩, ⟨1, (some 33), none, .mv (.s 13)⟩, ⟨2, (some 34), none, .bin .leq (.s 32) (.s 33)⟩, ⟨3, (some 35), none, .mv (.s 34)⟩, ⟨4, (some 36), (some (35, true)), .mv (.s 4)⟩, ⟨5, (some 37), (some (35, true)), .mv (.s 0)⟩, ⟨6, (some 38), (some (35, true)), .mv (.s 12)⟩, ⟨7, (some 39), (some (35, true)), .iaddr 5 (.s 37) (.s 38)⟩, ⟨9, (some 41), (some (35, true)), .mv (.s 0)⟩, ⟨10, (some 42), (some (35, true)), .mv (.s 1)⟩, ⟨11, (some 43), (some (35, true)), .iaddr 5 (.s 41) (.s 42)⟩, ⟨8, (some 40), (some (35, true)), .load true 5 (.s 39)⟩, ⟨12, (some 44), (some (35, true)), .load true 5 (.s 43)⟩, ⟨13, (some 45), (some (35, true)), .call ⟨true⟩ (.s 36) [(.s 40), (.s 44)]⟩, ⟨14, (some 46), (some (35, true)), .bin .lss (.s 45) (.k (.c (.int .i64 0)))⟩, ⟨15, (some 47), none, .pick (.s 35) (.s 46) (.k (.c (.bool false)))⟩] [] (some [47, 12, 4, 1, 0, 13]))
  (.cond (.s 47) .skip
  (.exit 0)))
  (.block 1 (.region 0 [⟨0, (some 48), none, .mv (.s 12)⟩, ⟨1, (some 49), none, .bin .add (.s 48) (.k (.c (.int .i64 1)))⟩, ⟨2, (some 12), none, .mv (.s 49)⟩] [] (some [12, 4, 1, 0, 13]))))
def c_slices_partitionCmpFunc_Found_l2 : CC := (.seq (.seq (.region 0 [⟨0, (some 50), none, .mv (.s 12)⟩, ⟨1, (some 51), none, .mv (.s 13)⟩, ⟨2, (some 52), none, .bin .leq (.s 50) (.s 51)⟩, ⟨3, (some 53), none, .mv (.s 52)⟩, ⟨4, (some 54), (some (53, true)), .mv (.s 4)⟩, ⟨5, (some 55), (some (53, true)), .mv (.s 0)⟩, ⟨6, (some 56), (some (53, true)), .mv (.s 13)⟩, ⟨7, (some 57), (some (53, true)), .iaddr 5 (.s 55) (.s 56)⟩, ⟨9, (some 59), (some (53, true)), .mv (.s 0)⟩, ⟨10, (some 60), (some (53, true)), .mv (.s 1)⟩, ⟨11, (some 61), (some (53, true)), .iaddr 5 (.s 59) (.s 60)⟩, ⟨8, (some 58), (some (53, true)), .load true 5 (.s 57)⟩, ⟨12, (some 62), (some (53, true)), .load true 5 (.s 61)⟩, ⟨13, (some 63), (some (53, true)), .call ⟨true⟩ (.s 54) [(.s 58), (.s 62)]⟩, ⟨14, (some 64), (some (53, true)), .bin .lss (.s 63) (.k (.c (.int .i64 0)))⟩, ⟨15, (some 65), (some (53, true)), .un .not (.s 64)⟩, ⟨16, (some 66), none, .pick (.s 53) (.s 65) (.k (.c (.bool false)))⟩] [] (some [66, 13, 0, 1, 12, 4]))
  (.cond (.s 66) .skip
  (.exit 2)))
  (.block 3 (.region 0 [⟨0, (some 67), none, .mv (.s 13)⟩, ⟨1, (some 68), none, .bin .sub (.s 67) (.k (.c (.int .i64 1)))⟩, ⟨2, (some 13), none, .mv (.s 68)⟩] [] (some [13, 0, 1, 12, 4]))))
def c_slices_partitionCmpFunc_Found_l3 : CC := (.seq (.seq (.region 0 [⟨0, (some 105), none, .mv (.s 12)⟩, ⟨1, (some 106), none, .mv (.s 13)⟩, ⟨2, (some 107), none, .bin .leq (.s 105) (.s 106)⟩, ⟨3, (some 108), none, .mv (.s 107)⟩, ⟨4, (some 109), (some (108, true)), .mv (.s 4)⟩, ⟨5, (some 110), (some (108, true)), .mv (.s 0)⟩, ⟨6, (some 111), (some (108, true)), .mv (.s 12)⟩, ⟨7, (some 112), (some (108, true)), .iaddr 5 (.s 110) (.s 111)⟩, ⟨9, (some 114), (some (108, true)), .mv (.s 0)⟩, ⟨10, (some 115), (some (108, true)), .mv (.s 1)⟩, ⟨11, (some 116), (some (108, true)), .iaddr 5 (.s 114) (.s 115)⟩, ⟨8, (some 113), (some (108, true)), .load true 5 (.s 112)⟩, ⟨12, (some 117), (some (108, true)), .load true 5 (.s 116)⟩, ⟨13, (some 118), (some (108, true)), .call ⟨true⟩ (.s 109) [(.s 113), (.s 117)]⟩, ⟨14, (some 119), (some (108, true)), .bin .lss (.s 118) (.k (.c (.int .i64 0)))⟩, ⟨15, (some 120), none, .pick (.s 108) (.s 119) (.k (.c (.bool false)))⟩] [] (some [120, 12, 4, 1, 0, 13]))
  (.cond (.s 120) .skip
  (.exit 6)))
  (.block 7 (.region 0 [⟨0, (some 121), none, .mv (.s 12)⟩, ⟨1, (some 122), none, .bin .add (.s 121) (.k (.c (.int .i64 1)))⟩, ⟨2, (some 12), none, .mv (.s 122)⟩] [] (some [12, 4, 1, 0, 13]))))
def c_slices_partitionCmpFunc_Found_l4 : CC := (.seq (.seq (.region 0 [⟨0, (some 123), none, .mv (.s 12)⟩, ⟨1, (some 124), none, .mv (.s 13)⟩, ⟨2, (some 125), none, .bin .leq (.s 123) (.s 124)⟩, ⟨3, (some 126), none, .mv (.s 125)⟩, ⟨4, (some 127), (some (126, true)), .mv (.s 4)⟩, ⟨5, (some 128), (some (126, true)), .mv (.s 0)⟩, ⟨6, (some 129), (some (126, true)), .mv (.s 13)⟩, ⟨7, (some 130), (some (126, true)), .iaddr 5 (.s 128) (.s 129)⟩, ⟨9, (some 132), (some (126, true)), .mv (.s 0)⟩, ⟨10, (some 133), (some (126, true)), .mv (.s 1)⟩, ⟨11, (some 134), (some (126, true)), .iaddr 5 (.s 132) (.s 133)⟩, ⟨8, (some 131), (some (126, true)), .load true 5 (.s 130)⟩, ⟨12, (some 135), (some (126, true)), .load true 5 (.s 134)⟩, ⟨13, (some 136), (some (126, true)), .call ⟨true⟩ (.s 127) [(.s 131), (.s 135)]⟩, ⟨14, (some 137), (some (126, true)), .bin .lss (.s 136) (.k (.c (.int .i64 0)))⟩, ⟨15, (some 138), (some (126, true)), .un .not (.s 137)⟩, ⟨16, (some 139), none, .pick (.s 126) (.s 138) (.k (.c (.bool false)))⟩] [] (some [139, 13, 0, 1, 12, 4]))
  (.cond (.s 139) .skip
  (.exit 8)))
  (.block 9 (.region 0 [⟨0, (some 140), none, .mv (.s 13)⟩, ⟨1, (some 141), none, .bin .sub (.s 140) (.k (.c (.int .i64 1)))⟩, ⟨2, (some 13), none, .mv (.s 141)⟩] [] (some [13, 0, 1, 12, 4]))))
def c_slices_partitionCmpFunc_Found_l5 : CC := (.block 5 (.seq (.block 6 (.loop (some [12, 4, 1, 0, 13]) c_slices_partitionCmpFunc_Found_l3))
  (.seq (.block 8 (.loop (some [13, 0, 1, 12, 4]) c_slices_partitionCmpFunc_Found_l4))
  (.seq (.seq (.region 0 [⟨0, (some 142), none, .mv (.s 12)⟩, ⟨1, (some 143), none, .mv (.s 13)⟩, ⟨2, (some 144), none, .bin .gtr (.s 142) (.s 143)⟩] [] (some [144, 4, 12, 1, 0, 13]))
  (.cond (.s 144) (.exit 4)
  .skip))
  (.seq (.region 0 [⟨0, (some 145), none, .mv (.s 0)⟩, ⟨1, (some 146), none, .mv (.s 12)⟩, ⟨2, (some 147), none, .mv (.s 0)⟩, ⟨3, (some 148), none, .mv (.s 13)⟩, ⟨4, (some 149), none, .mv (.s 0)⟩, ⟨5, (some 150), none, .mv (.s 13)⟩, ⟨6, (some 151), none, .iaddr 5 (.s 149) (.s 150)⟩, ⟨8, (some 153), none, .mv (.s 0)⟩, ⟨9, (some 154), none, .mv (.s 12)⟩, ⟨10, (some 155), none, .iaddr 5 (.s 153) (.s 154)⟩, ⟨7, (some 152), none, .load true 5 (.s 151)⟩, ⟨11, (some 156), none, .load true 5 (.s 155)⟩, ⟨12, (some 157), none, .iaddr 5 (.s 145) (.s 146)⟩, ⟨13, none, none, .store 5 (.s 157) (.s 152)⟩, ⟨14, (some 158), none, .iaddr 5 (.s 147) (.s 148)⟩, ⟨15, none, none, .store 5 (.s 158) (.s 156)⟩] [] (some [12, 13, 4, 1, 0]))
  (.seq (.region 0 [⟨0, (some 159), none, .mv (.s 12)⟩, ⟨1, (some 160), none, .bin .add (.s 159) (.k (.c (.int .i64 1)))⟩, ⟨2, (some 12), none, .mv (.s 160)⟩] [] (some [13, 12, 4, 1, 0]))
  (.region 0 [⟨0, (some 161), none, .mv (.s 13)⟩, ⟨1, (some 162), none, .bin .sub (.s 161) (.k (.c (.int .i64 1)))⟩, ⟨2, (some 13), none, .mv (.s 162)⟩] [] (some [12, 4, 1, 0, 13]))))))))
abbrev f_slices_partitionCmpFunc_Found : Nat := 181
def c_slices_partitionCmpFunc_Found : CFn := { frz := true, rnd := none, nargs := 5, ntmps := 178, res := [(.slot 10), (.slot 11)], code :=
  (.seq (.region 0 [⟨0, (some 10), none, .mv (.k (.c (.int .i64 0)))⟩, ⟨1, (some 11), none, .mv (.k (.c (.bool false)))⟩] [] (some [3, 2, 4, 1, 0]))
  (.seq (.region 0 [⟨0, (some 14), none, .mv (.s 0)⟩, ⟨1, (some 15), none, .mv (.s 1)⟩, ⟨2, (some 16), none, .mv (.s 0)⟩, ⟨3, (some 17), none, .mv (.s 3)⟩, ⟨4, (some 18), none, .mv (.s 0)⟩, ⟨5, (some 19), none, .mv (.s 3)⟩, ⟨6, (some 20), none, .iaddr 5 (.s 18) (.s 19)⟩, ⟨8, (some 22), none, .mv (.s 0)⟩, ⟨9, (some 23), none, .mv (.s 1)⟩, ⟨10, (some 24), none, .iaddr 5 (.s 22) (.s 23)⟩, ⟨7, (some 21), none, .load true 5 (.s 20)⟩, ⟨11, (some 25), none, .load true 5 (.s 24)⟩, ⟨12, (some 26), none, .iaddr 5 (.s 14) (.s 15)⟩, ⟨13, none, none, .store 5 (.s 26) (.s 21)⟩, ⟨14, (some 27), none, .iaddr 5 (.s 16) (.s 17)⟩, ⟨15, none, none, .store 5 (.s 27) (.s 25)⟩] [] (some [2, 4, 1, 0]))
  (.seq (.region 0 [⟨0, (some 28), none, .mv (.s 1)⟩, ⟨1, (some 29), none, .bin .add (.s 28) (.k (.c (.int .i64 1)))⟩, ⟨2, (some 30), none, .mv (.s 2)⟩, ⟨3, (some 31), none, .bin .sub (.s 30) (.k (.c (.int .i64 1)))⟩, ⟨4, (some 12), none, .mv (.s 29)⟩, ⟨5, (some 13), none, .mv (.s 31)⟩] [] (some [12, 4, 1, 0, 13]))
  (.seq (.block 0 (.loop (some [12, 4, 1, 0, 13]) c_slices_partitionCmpFunc_Found_l1))
  (.seq (.block 2 (.loop (some [13, 0, 1, 12, 4]) c_slices_partitionCmpFunc_Found_l2))
  (.seq (.seq (.region 0 [⟨0, (some 69), none, .mv (.s 12)⟩, ⟨1, (some 70), none, .mv (.s 13)⟩, ⟨2, (some 71), none, .bin .gtr (.s 69) (.s 70)⟩] [] (some [71, 4, 12, 1, 0, 13]))
  (.cond (.s 71) (.seq (.region 0 [⟨0, (some 72), none, .mv (.s 0)⟩, ⟨1, (some 73), none, .mv (.s 13)⟩, ⟨2, (some 74), none, .mv (.s 0)⟩, ⟨3, (some 75), none, .mv (.s 1)⟩, ⟨4, (some 76), none, .mv (.s 0)⟩, ⟨5, (some 77), none, .mv (.s 1)⟩, ⟨6, (some 78), none, .iaddr 5 (.s 76) (.s 77)⟩, ⟨8, (some 80), none, .mv (.s 0)⟩, ⟨9, (some 81), none, .mv (.s 13)⟩, ⟨10, (some 82), none, .iaddr 5 (.s 80) (.s 81)⟩, ⟨7, (some 79), none, .load true 5 (.s 78)⟩, ⟨11, (some 83), none, .load true 5 (.s 82)⟩, ⟨12, (some 84), none, .iaddr 5 (.s 72) (.s 73)⟩, ⟨13, none, none, .store 5 (.s 84) (.s 79)⟩, ⟨14, (some 85), none, .iaddr 5 (.s 74) (.s 75)⟩, ⟨15, none, none, .store 5 (.s 85) (.s 83)⟩] [] (some [13]))
  (.seq (.region 0 [⟨0, (some 86), none, .mv (.s 13)⟩, ⟨1, (some 10), none, .mv (.s 86)⟩, ⟨2, (some 11), none, .mv (.k (.c (.bool true)))⟩] [] (some [10, 11]))
  .ret))
  .skip))
  (.seq (.region 0 [⟨0, (some 87), none, .mv (.s 0)⟩, ⟨1, (some 88), none, .mv (.s 12)⟩, ⟨2, (some 89), none, .mv (.s 0)⟩, ⟨3, (some 90), none, .mv (.s 13)⟩, ⟨4, (some 91), none, .mv (.s 0)⟩, ⟨5, (some 92), none, .mv (.s 13)⟩, ⟨6, (some 93), none, .iaddr 5 (.s 91) (.s 92)⟩, ⟨8, (some 95), none, .mv (.s 0)⟩, ⟨9, (some 96), none, .mv (.s 12)⟩, ⟨10, (some 97), none, .iaddr 5 (.s 95) (.s 96)⟩, ⟨7, (some 94), none, .load true 5 (.s 93)⟩, ⟨11, (some 98), none, .load true 5 (.s 97)⟩, ⟨12, (some 99), none, .iaddr 5 (.s 87) (.s 88)⟩, ⟨13, none, none, .store 5 (.s 99) (.s 94)⟩, ⟨14, (some 100), none, .iaddr 5 (.s 89) (.s 90)⟩, ⟨15, none, none, .store 5 (.s 100) (.s 98)⟩] [] (some [12, 13, 4, 1, 0]))
  (.seq (.region 0 [⟨0, (some 101), none, .mv (.s 12)⟩, ⟨1, (some 102), none, .bin .add (.s 101) (.k (.c (.int .i64 1)))⟩, ⟨2, (some 12), none, .mv (.s 102)⟩] [] (some [13, 12, 4, 1, 0]))
  (.seq (.region 0 [⟨0, (some 103), none, .mv (.s 13)⟩, ⟨1, (some 104), none, .bin .sub (.s 103) (.k (.c (.int .i64 1)))⟩, ⟨2, (some 13), none, .mv (.s 104)⟩] [] (some [12, 4, 1, 0, 13]))
  (.seq (.block 4 (.loop (some [12, 4, 1, 0, 13]) c_slices_partitionCmpFunc_Found_l5))
  (.seq (.region 0 [⟨0, (some 163), none, .mv (.s 0)⟩, ⟨1, (some 164), none, .mv (.s 13)⟩, ⟨2, (some 165), none, .mv (.s 0)⟩, ⟨3, (some 166), none, .mv (.s 1)⟩, ⟨4, (some 167), none, .mv (.s 0)⟩, ⟨5, (some 168), none, .mv (.s 1)⟩, ⟨6, (some 169), none, .iaddr 5 (.s 167) (.s 168)⟩, ⟨8, (some 171), none, .mv (.s 0)⟩, ⟨9, (some 172), none, .mv (.s 13)⟩, ⟨10, (some 173), none, .iaddr 5 (.s 171) (.s 172)⟩, ⟨7, (some 170), none, .load true 5 (.s 169)⟩, ⟨11, (some 174), none, .load true 5 (.s 173)⟩, ⟨12, (some 175), none, .iaddr 5 (.s 163) (.s 164)⟩, ⟨13, none, none, .store 5 (.s 175) (.s 170)⟩, ⟨14, (some 176), none, .iaddr 5 (.s 165) (.s 166)⟩, ⟨15, none, none, .store 5 (.s 176) (.s 174)⟩] [] (some [13]))
  (.seq (.region 0 [⟨0, (some 177), none, .mv (.s 13)⟩, ⟨1, (some 10), none, .mv (.s 177)⟩, ⟨2, (some 11), none, .mv (.k (.c (.bool false)))⟩] [] (some [10, 11]))
  .ret)))))))))))) }
abbrev f_math_bits_Len32 : Nat := 182
def c_math_bits_Len32 : CFn := { frz := true, rnd := none, nargs := 1, ntmps := 19, res := [(.slot 2)], code :=
  (.seq (.region 0 [⟨0, (some 2), none, .mv (.k (.c (.int .i64 0)))⟩] [] (some [2, 0]))
  (.seq (.seq (.region 0 [⟨0, (some 3), none, .mv (.s 0)⟩, ⟨1, (some 4), none, .bin .geq (.s 3) (.k (.c (.int .u32 65536)))⟩] [] (some [4, 2, 0]))
  (.cond (.s 4) (.seq (.region 0 [⟨0, (some 5), none, .mv (.s 0)⟩, ⟨1, (some 6), none, .bin .shr (.s 5) (.k (.c (.int .u64 16)))⟩, ⟨2, (some 0), none, .mv (.s 6)⟩] [] (some [0]))
  (.region 0 [⟨0, (some 2), none, .mv (.k (.c (.int .i64 16)))⟩] [] (some [0, 2])))
  .skip))
  (.seq (.seq (.region 0 [⟨0, (some 7), none, .mv (.s 0)⟩, ⟨1, (some 8), none, .bin .geq (.s 7) (.k (.c (.int .u32 256)))⟩] [] (some [8, 0, 2]))
  (.cond (.s 8) (.seq (.region 0 [⟨0, (some 9), none, .mv (.s 0)⟩, ⟨1, (some 10), none, .bin .shr (.s 9) (.k (.c (.int .u64 8)))⟩, ⟨2, (some 0), none, .mv (.s 10)⟩] [] (some [2, 0]))
  (.region 0 [⟨0, (some 11), none, .mv (.s 2)⟩, ⟨1, (some 12), none, .bin .add (.s 11) (.k (.c (.int .i64 8)))⟩, ⟨2, (some 2), none, .mv (.s 12)⟩] [] (some [2, 0])))
  .skip))
  (.seq (.region 0 [⟨0, (some 13), none, .mv (.s 2)⟩, ⟨1, (some 14), none, .mv (.s 0)⟩, ⟨2, (some 15), none, .conv .u8 (.s 14)⟩, ⟨3, (some 16), none, .p2 .sidx (.k (.c (.str ⟨#[0, 1, 2, 2, 3, 3, 3, 3, 4, 4, 4, 4, 4, 4, 4, 4, 5, 5, 5, 5, 5, 5, 5, 5, 5, 5, 5, 5, 5, 5, 5, 5, 6, 6, 6, 6, 6, 6, 6, 6, 6, 6, 6, 6, 6, 6, 6, 6, 6, 6, 6, 6, 6, 6, 6, 6, 6, 6, 6, 6, 6, 6, 6, 6, 7, 7, 7, 7, 7, 7, 7, 7, 7, 7, 7, 7, 7, 7, 7, 7, 7, 7, 7, 7, 7, 7, 7, 7, 7, 7, 7, 7, 7, 7, 7, 7, 7, 7, 7, 7, 7, 7, 7, 7, 7, 7, 7, 7, 7, 7, 7, 7, 7, 7, 7, 7, 7, 7, 7, 7, 7, 7, 7, 7, 7, 7, 7, 7, 8, 8, 8, 8, 8, 8, 8, 8, 8, 8, 8, 8, 8, 8, 8, 8, 8, 8, 8, 8, 8, 8, 8, 8, 8, 8, 8, 8, 8, 8, 8, 8, 8, 8, 8, 8, 8, 8, 8, 8, 8, 8, 8, 8, 8, 8, 8, 8, 8, 8, 8, 8, 8, 8, 8, 8, 8, 8, 8, 8, 8, 8, 8, 8, 8, 8, 8, 8, 8, 8, 8, 8, 8, 8, 8, 8, 8, 8, 8, 8, 8, 8, 8, 8, 8, 8, 8, 8, 8, 8, 8, 8, 8, 8, 8, 8, 8, 8, 8, 8, 8, 8, 8, 8, 8, 8, 8, 8, 8, 8, 8, 8, 8, 8, 8, 8, 8, 8, 8, 8, 8, 8, 8, 8, 8, 8, 8, 8]⟩))) (.s 15)⟩, ⟨4, (some 17), none, .conv .i64 (.s 16)⟩, ⟨5, (some 18), none, .bin .add (.s 13) (.s 17)⟩, ⟨6, (some 2), none, .mv (.s 18)⟩] [] (some [2]))
  .ret)))) }
abbrev f_math_bits_Len64 : Nat := 183
def c_math_bits_Len64 : CFn := { frz := true, rnd := none, nargs := 1, ntmps := 25, res := [(.slot 2)], code :=
  (.seq (.region 0 [⟨0, (some 2), none, .mv (.k (.c (.int .i64 0)))⟩] [] (some [2, 0]))
  (.seq (.seq (.region 0 [⟨0, (some 3), none, .mv (.s 0)⟩, ⟨1, (some 4), none, .bin .geq (.s 3) (.k (.c (.int .u64 4294967296)))⟩] [] (some [4, 2, 0]))
  (.cond (.s 4) (.seq (.region 0 [⟨0, (some 5), none, .mv (.s 0)⟩, ⟨1, (some 6), none, .bin .shr (.s 5) (.k (.c (.int .u64 32)))⟩, ⟨2, (some 0), none, .mv (.s 6)⟩] [] (some [0]))
  (.region 0 [⟨0, (some 2), none, .mv (.k (.c (.int .i64 32)))⟩] [] (some [0, 2])))
  .skip))
  (.seq (.seq (.region 0 [⟨0, (some 7), none, .mv (.s 0)⟩, ⟨1, (some 8), none, .bin .geq (.s 7) (.k (.c (.int .u64 65536)))⟩] [] (some [8, 0, 2]))
  (.cond (.s 8) (.seq (.region 0 [⟨0, (some 9), none, .mv (.s 0)⟩, ⟨1, (some 10), none, .bin .shr (.s 9) (.k (.c (.int .u64 16)))⟩, ⟨2, (some 0), none, .mv (.s 10)⟩] [] (some [2, 0]))
  (.region 0 [⟨0, (some 11), none, .mv (.s 2)⟩, ⟨1, (some 12), none, .bin .add (.s 11) (.k (.c (.int .i64 16)))⟩, ⟨2, (some 2), none, .mv (.s 12)⟩] [] (some [0, 2])))
  .skip))
  (.seq (.seq (.region 0 [⟨0, (some 13), none, .mv (.s 0)⟩, ⟨1, (some 14), none, .bin .geq (.s 13) (.k (.c (.int .u64 256)))⟩] [] (some [14, 0, 2]))
  (.cond (.s 14) (.seq (.region 0 [⟨0, (some 15), none, .mv (.s 0)⟩, ⟨1, (some 16), none, .bin .shr (.s 15) (.k (.c (.int .u64 8)))⟩, ⟨2, (some 0), none, .mv (.s 16)⟩] [] (some [2, 0]))
  (.region 0 [⟨0, (some 17), none, .mv (.s 2)⟩, ⟨1, (some 18), none, .bin .add (.s 17) (.k (.c (.int .i64 8)))⟩, ⟨2, (some 2), none, .mv (.s 18)⟩] [] (some [2, 0])))
  .skip))
  (.seq (.region 0 [⟨0, (some 19), none, .mv (.s 2)⟩, ⟨1, (some 20), none, .mv (.s 0)⟩, ⟨2, (some 21), none, .conv .u8 (.s 20)⟩, ⟨3, (some 22), none, .p2 .sidx (.k (.c (.str ⟨#[0, 1, 2, 2, 3, 3, 3, 3, 4, 4, 4, 4, 4, 4, 4, 4, 5, 5, 5, 5, 5, 5, 5, 5, 5, 5, 5, 5, 5, 5, 5, 5, 6, 6, 6, 6, 6, 6, 6, 6, 6, 6, 6, 6, 6, 6, 6, 6, 6, 6, 6, 6, 6, 6, 6, 6, 6, 6, 6, 6, 6, 6, 6, 6, 7, 7, 7, 7, 7, 7, 7, 7, 7, 7, 7, 7, 7, 7, 7, 7, 7, 7, 7, 7, 7, 7, 7, 7, 7, 7, 7, 7, 7, 7, 7, 7, 7, 7, 7, 7, 7, 7, 7, 7, 7, 7, 7, 7, 7, 7, 7, 7, 7, 7, 7, 7, 7, 7, 7, 7, 7, 7, 7, 7, 7, 7, 7, 7, 8, 8, 8, 8, 8, 8, 8, 8, 8, 8, 8, 8, 8, 8, 8, 8, 8, 8, 8, 8, 8, 8, 8, 8, 8, 8, 8, 8, 8, 8, 8, 8, 8, 8, 8, 8, 8, 8, 8, 8, 8, 8, 8, 8, 8, 8, 8, 8, 8, 8, 8, 8, 8, 8, 8, 8, 8, 8, 8, 8, 8, 8, 8, 8, 8, 8, 8, 8, 8, 8, 8, 8, 8, 8, 8, 8, 8, 8, 8, 8, 8, 8, 8, 8, 8, 8, 8, 8, 8, 8, 8, 8, 8, 8, 8, 8, 8, 8, 8, 8, 8, 8, 8, 8, 8, 8, 8, 8, 8, 8, 8, 8, 8, 8, 8, 8, 8, 8, 8, 8, 8, 8, 8, 8, 8, 8, 8, 8]⟩))) (.s 21)⟩, ⟨4, (some 23), none, .conv .i64 (.s 22)⟩, ⟨5, (some 24), none, .bin .add (.s 19) (.s 23)⟩, ⟨6, (some 2), none, .mv (.s 24)⟩] [] (some [2]))
  .ret))))) }
abbrev f_slices_Sort_int64 : Nat := 212
def c_slices_Sort_int64 : CFn := { frz := true, rnd := none, nargs := 1, ntmps := 11, res := [], code :=
  (.seq (.region 0 [⟨0, (some 3), none, .mv (.s 0)⟩, ⟨1, (some 4), none, .len (.s 3)⟩, ⟨2, (some 2), none, .mv (.s 4)⟩] [] (some [0, 2]))
  (.region 0 [⟨0, (some 5), none, .mv (.s 0)⟩, ⟨1, (some 6), none, .mv (.s 2)⟩, ⟨2, (some 7), none, .mv (.s 2)⟩, ⟨3, (some 8), none, .conv .u64 (.s 7)⟩, ⟨4, (some 9), none, .call ⟨true⟩ (.k (.c (.fn 107 [] []))) [(.s 8)]⟩, ⟨5, (some 10), none, .call ⟨false⟩ (.k (.c (.fn 268 [] []))) [(.s 5), (.k (.c (.int .i64 0))), (.s 6), (.s 9)]⟩] [] (some []))) }
def c_curve_root_l1 : CC := (.seq (.seq (.region 0 [⟨0, (some 7), none, .mv (.s 4)⟩, ⟨1, (some 8), none, .mv (.s 5)⟩, ⟨2, (some 9), none, .bin .lss (.s 7) (.s 8)⟩] [] (some [9, 4, 5, 0]))
  (.cond (.s 9) .skip
  (.exit 0)))
  (.block 1 (.seq (.region 0 [⟨0, (some 10), none, .mv (.s 4)⟩, ⟨1, (some 11), none, .mv (.s 5)⟩, ⟨2, (some 12), none, .bin .add (.s 10) (.s 11)⟩, ⟨3, (some 13), none, .bin .quo (.s 12) (.k (.c (.int .i64 2)))⟩, ⟨4, (some 6), none, .mv (.s 13)⟩] [] (some [4, 6, 5, 0]))
  (.seq (.region 0 [⟨0, (some 14), none, .mv (.s 6)⟩, ⟨1, (some 15), none, .mv (.s 6)⟩, ⟨2, (some 16), none, .bin .mul (.s 14) (.s 15)⟩, ⟨3, (some 17), none, .mv (.s 0)⟩, ⟨4, (some 18), none, .bin .lss (.s 16) (.s 17)⟩] [] (some [18, 4, 6, 5, 0]))
  (.cond (.s 18) (.region 0 [⟨0, (some 19), none, .mv (.s 6)⟩, ⟨1, (some 20), none, .bin .add (.s 19) (.k (.c (.int .i64 1)))⟩, ⟨2, (some 4), none, .mv (.s 20)⟩] [] (some [4, 5, 0]))
  (.region 0 [⟨0, (some 21), none, .mv (.s 6)⟩, ⟨1, (some 5), none, .mv (.s 21)⟩] [] (some [4, 5, 0])))))))
abbrev f_curve_root : Nat := 220
def c_curve_root : CFn := { frz := true, rnd := none, nargs := 1, ntmps := 28, res := [(.slot 2), (.slot 3)], code :=
  (.seq (.region 0 [⟨0, (some 2), none, .mv (.k (.c (.int .i64 0)))⟩, ⟨1, (some 3), none, .mv (.k (.c (.bool false)))⟩] [] (some [0]))
  (.seq (.region 0 [⟨0, (some 4), none, .mv (.k (.c (.int .i64 0)))⟩, ⟨1, (some 5), none, .mv (.k (.c (.int .i64 67108864)))⟩] [] (some [4, 5, 0]))
  (.seq (.block 0 (.loop (some [4, 5, 0]) c_curve_root_l1))
  (.seq (.region 0 [⟨0, (some 22), none, .mv (.s 4)⟩, ⟨1, (some 23), none, .mv (.s 4)⟩, ⟨2, (some 24), none, .mv (.s 4)⟩, ⟨3, (some 25), none, .bin .mul (.s 23) (.s 24)⟩, ⟨4, (some 26), none, .mv (.s 0)⟩, ⟨5, (some 27), none, .bin .eql (.s 25) (.s 26)⟩, ⟨6, (some 2), none, .mv (.s 22)⟩, ⟨7, (some 3), none, .mv (.s 27)⟩] [] (some [2, 3]))
  .ret)))) }
def c_slices_IndexFunc_Phase_l1 : CC := (.seq (.region 0 [⟨0, (some 9), none, .bin .lss (.s 8) (.s 7)⟩] [] (some [9, 0, 1, 7, 8]))
  (.seq (.cond (.s 9) .skip
  (.exit 0))
  (.seq (.block 1 (.seq (.region 0 [⟨0, (some 10), none, .mv (.s 8)⟩, ⟨1, (some 5), none, .mv (.s 10)⟩] [] (some [0, 1, 7, 8, 5]))
  (.seq (.region 0 [⟨0, (some 11), none, .mv (.s 1)⟩, ⟨1, (some 12), none, .mv (.s 0)⟩, ⟨2, (some 13), none, .mv (.s 5)⟩, ⟨3, (some 14), none, .iaddr 2 (.s 12) (.s 13)⟩, ⟨4, (some 15), none, .load true 2 (.s 14)⟩, ⟨5, (some 16), none, .call ⟨true⟩ (.s 11) [(.s 15)]⟩] [] (some [16, 0, 1, 7, 8, 5]))
  (.cond (.s 16) (.seq (.region 0 [⟨0, (some 17), none, .mv (.s 5)⟩, ⟨1, (some 4), none, .mv (.s 17)⟩] [] (some [4]))
  .ret)
  .skip))))
  (.region 0 [⟨0, (some 18), none, .bin .add (.s 8) (.k (.c (.int .i64 1)))⟩, ⟨1, (some 8), none, .mv (.s 18)⟩] [] (some [7, 1, 0, 8])))))
abbrev f_slices_IndexFunc_Phase : Nat := 221
def c_slices_IndexFunc_Phase : CFn := { frz := true, rnd := none, nargs := 2, ntmps := 19, res := [(.slot 4)], code :=
  (.seq (.region 0 [⟨0, (some 4), none, .mv (.k (.c (.int .i64 0)))⟩] [] (some [1, 0]))
  (.seq (.seq (.region 0 [⟨0, (some 6), none, .mv (.s 0)⟩, ⟨1, (some 7), none, .len (.s 6)⟩, ⟨2, (some 8), none, .mv (.k (.c (.int .i64 0)))⟩] [] (some [7, 1, 0, 8]))
  (.block 0 (.loop (some [7, 1, 0, 8]) c_slices_IndexFunc_Phase_l1)))
  (.seq (.region 0 [⟨0, (some 4), none, .mv (.k (.c (.int .i64 (-1))))⟩] [] (some [4]))
  .ret))) }
abbrev f_curve_Pieces : Nat := 222
def c_curve_Pieces : CFn := { frz := true, rnd := none, nargs := 1, ntmps := 19, res := [(.slot 2)], code :=
  (.seq (.region 2 [⟨0, (some 1), none, .box 0 1 (.s 0)⟩, ⟨1, (some 2), none, .newsl 1 1⟩] [] (some [2, 1]))
  (.seq (.seq (.region 0 [⟨0, (some 6), none, .load true 1 (.s 1)⟩, ⟨1, (some 7), none, .call ⟨true⟩ (.k (.c (.fn 149 [] []))) [(.s 6)]⟩, ⟨2, (some 8), none, .bin .neq (.s 7) (.k (.c (.int .i64 0)))⟩] [] (some [8, 2, 1]))
  (.cond (.s 8) (.seq (.region 1 [⟨0, (some 2), none, .newsl 0 1⟩] [] (some [2]))
  .ret)
  .skip))
  (.seq (.region 1 [⟨0, (some 3), none, .box 0 1 (.k (.a [.nilslice]))⟩] [] (some [1, 2, 3]))
  (.seq (.seq (.region 0 [⟨0, (some 9), none, .load true 1 (.s 1)⟩, ⟨1, (some 10), none, .call ⟨true⟩ (.k (.c (.fn 168 [] []))) [(.s 9)]⟩] [] (some [2, 10, 3]))
  (.block 0 (.rng (.s 10) 3887 [3])))
  (.seq (.region 0 [⟨0, (some 18), none, .load false 1 (.s 3)⟩, ⟨1, (some 2), none, .mv (.s 18)⟩] [] (some [2]))
  .ret))))) }
abbrev f_curve_Pieces_r1 : Nat := 3887
def c_curve_Pieces_r1 : CFn := { frz := false, rnd := (some ([11, 12], (.region 1 [⟨0, (some 5), none, .box 0 6 (.k (.a [(.int .i64 0), (.int .i64 0), (.int .i64 0), (.int .i64 0), (.int .i64 0), (.int .i64 0)]))⟩, ⟨1, none, none, .store 6 (.s 5) (.s 12)⟩] [] (some [5, 3])))), nargs := 3, ntmps := 19, res := [], code :=
  (.block 1 (.region 1 [⟨0, (some 13), none, .load false 1 (.s 3)⟩, ⟨1, (some 14), none, .faddr 4 (.s 5)⟩, ⟨2, (some 15), none, .load false 1 (.s 14)⟩, ⟨3, (some 16), none, .lit 0 1 [[(.int .i64 0)]] [(0, (.s 15))]⟩, ⟨4, (some 17), none, .append 1 8 (.s 13) (.s 16)⟩, ⟨5, none, none, .store 1 (.s 3) (.s 17)⟩] [] (some []))) }
def c_signs_Green_l1 : CC := (.seq (.region 0 [⟨0, (some 17), none, .bin .lss (.s 16) (.s 15)⟩] [] (some [17, 7, 16, 15, 1, 3, 2, 14]))
  (.seq (.cond (.s 17) .skip
  (.exit 0))
  (.seq (.block 1 (.seq (.region 1 [⟨0, (some 18), none, .iaddr 2 (.s 14) (.s 16)⟩, ⟨1, (some 19), none, .load true 2 (.s 18)⟩, ⟨2, (some 9), none, .box 0 2 (.k (.a [(.int .i64 0), .nilslice]))⟩, ⟨3, none, none, .store 2 (.s 9) (.s 19)⟩] [] (some [7, 9, 16, 15, 1, 3, 2, 14]))
  (.region 0 [⟨0, (some 20), none, .mv (.s 7)⟩, ⟨1, (some 21), none, .faddr 0 (.s 9)⟩, ⟨2, (some 22), none, .load false 1 (.s 21)⟩, ⟨3, (some 23), none, .bin .add (.s 20) (.s 22)⟩, ⟨4, (some 7), none, .mv (.s 23)⟩] [] (some [16, 7, 15, 1, 3, 2, 14]))))
  (.region 0 [⟨0, (some 24), none, .bin .add (.s 16) (.k (.c (.int .i64 1)))⟩, ⟨1, (some 16), none, .mv (.s 24)⟩] [] (some [7, 16, 15, 1, 3, 2, 14])))))
def c_signs_Green_l2 : CC := (.seq (.region 0 [⟨0, (some 39), none, .bin .lss (.s 38) (.s 37)⟩] [] (some [39, 10, 38, 37, 36, 1]))
  (.seq (.cond (.s 39) .skip
  (.exit 2))
  (.seq (.block 3 (.seq (.region 1 [⟨0, (some 40), none, .iaddr 2 (.s 36) (.s 38)⟩, ⟨1, (some 41), none, .load true 2 (.s 40)⟩, ⟨2, (some 12), none, .box 0 2 (.k (.a [(.int .i64 0), .nilslice]))⟩, ⟨3, none, none, .store 2 (.s 12) (.s 41)⟩] [] (some [10, 12, 38, 37, 36, 1]))
  (.seq (.seq (.region 0 [⟨0, (some 42), none, .mv (.s 10)⟩, ⟨1, (some 43), none, .faddr 0 (.s 12)⟩, ⟨2, (some 44), none, .load false 1 (.s 43)⟩, ⟨3, (some 45), none, .bin .geq (.s 42) (.s 44)⟩] [] (some [45, 10, 12, 38, 37, 36, 1]))
  (.cond (.s 45) (.seq (.region 0 [⟨0, (some 46), none, .mv (.s 10)⟩, ⟨1, (some 47), none, .faddr 0 (.s 12)⟩, ⟨2, (some 48), none, .load false 1 (.s 47)⟩, ⟨3, (some 49), none, .bin .sub (.s 46) (.s 48)⟩, ⟨4, (some 10), none, .mv (.s 49)⟩] [] (some [38, 10, 37, 36, 1]))
  (.exit 3))
  .skip))
  (.seq (.region 0 [⟨0, (some 50), none, .faddr 1 (.s 12)⟩, ⟨1, (some 51), none, .load false 1 (.s 50)⟩, ⟨2, (some 52), none, .mv (.s 1)⟩, ⟨3, (some 53), none, .call ⟨true⟩ (.k (.c (.fn 84 [] []))) [(.s 51), (.s 52)]⟩, ⟨4, (some 6), none, .mv (.s 53)⟩] [] (some [6]))
  .ret))))
  (.region 0 [⟨0, (some 54), none, .bin .add (.s 38) (.k (.c (.int .i64 1)))⟩, ⟨1, (some 38), none, .mv (.s 54)⟩] [] (some [10, 38, 37, 36, 1])))))
abbrev f_signs_Green : Nat := 223
def c_signs_Green : CFn := { frz := true, rnd := none, nargs := 3, ntmps := 55, res := [(.slot 6)], code :=
  (.seq (.region 1 [⟨0, (some 3), none, .box 0 2 (.s 0)⟩, ⟨1, (some 6), none, .mv (.k (.c (.bool false)))⟩] [] (some [1, 3, 2]))
  (.seq (.seq (.region 0 [⟨0, (some 7), none, .mv (.k (.c (.int .i64 0)))⟩] [] (some [7, 1, 3, 2]))
  (.seq (.seq (.region 0 [⟨0, (some 13), none, .faddr 1 (.s 3)⟩, ⟨1, (some 14), none, .load false 1 (.s 13)⟩, ⟨2, (some 15), none, .len (.s 14)⟩, ⟨3, (some 16), none, .mv (.k (.c (.int .i64 0)))⟩] [] (some [7, 16, 15, 1, 3, 2, 14]))
  (.block 0 (.loop (some [7, 16, 15, 1, 3, 2, 14]) c_signs_Green_l1)))
  (.seq (.region 0 [⟨0, (some 25), none, .faddr 0 (.s 3)⟩, ⟨2, (some 27), none, .mv (.s 7)⟩, ⟨4, (some 29), none, .mv (.s 2)⟩, ⟨5, (some 30), none, .mv (.s 7)⟩, ⟨6, (some 31), none, .bin .rem (.s 29) (.s 30)⟩, ⟨8, (some 33), none, .mv (.s 7)⟩, ⟨1, (some 26), none, .load false 1 (.s 25)⟩, ⟨3, (some 28), none, .bin .rem (.s 26) (.s 27)⟩, ⟨7, (some 32), none, .bin .add (.s 28) (.s 31)⟩, ⟨9, (some 34), none, .bin .rem (.s 32) (.s 33)⟩, ⟨10, (some 10), none, .mv (.s 34)⟩] [] (some [3, 10, 1]))
  (.seq .skip
  (.seq (.seq (.region 0 [⟨0, (some 35), none, .faddr 1 (.s 3)⟩, ⟨1, (some 36), none, .load false 1 (.s 35)⟩, ⟨2, (some 37), none, .len (.s 36)⟩, ⟨3, (some 38), none, .mv (.k (.c (.int .i64 0)))⟩] [] (some [10, 38, 37, 36, 1]))
  (.block 2 (.loop (some [10, 38, 37, 36, 1]) c_signs_Green_l2)))
  (.seq (.region 0 [⟨0, (some 6), none, .mv (.k (.c (.bool false)))⟩] [] (some [6]))
  .ret))))))
  .skip)) }
def c_slices_Compact_int64_l1 : CC := (.seq (.seq (.region 0 [⟨0, (some 29), none, .mv (.s 5)⟩, ⟨1, (some 30), none, .mv (.s 4)⟩, ⟨2, (some 31), none, .len (.s 30)⟩, ⟨3, (some 32), none, .bin .lss (.s 29) (.s 31)⟩] [] (some [32, 3, 5, 0, 4]))
  (.cond (.s 32) .skip
  (.exit 2)))
  (.seq (.block 3 (.seq (.region 0 [⟨0, (some 35), none, .mv (.s 4)⟩, ⟨1, (some 36), none, .mv (.s 5)⟩, ⟨2, (some 37), none, .iaddr 1 (.s 35) (.s 36)⟩, ⟨4, (some 39), none, .mv (.s 4)⟩, ⟨5, (some 40), none, .mv (.s 5)⟩, ⟨6, (some 41), none, .bin .sub (.s 40) (.k (.c (.int .i64 1)))⟩, ⟨7, (some 42), none, .iaddr 1 (.s 39) (.s 41)⟩, ⟨3, (some 38), none, .load false 1 (.s 37)⟩, ⟨8, (some 43), none, .load false 1 (.s 42)⟩, ⟨9, (some 44), none, .bin .neq (.s 38) (.s 43)⟩] [] (some [44, 3, 5, 0, 4]))
  (.cond (.s 44) (.seq (.region 0 [⟨0, (some 45), none, .mv (.s 0)⟩, ⟨1, (some 46), none, .mv (.s 3)⟩, ⟨2, (some 47), none, .mv (.s 4)⟩, ⟨3, (some 48), none, .mv (.s 5)⟩, ⟨4, (some 49), none, .iaddr 1 (.s 47) (.s 48)⟩, ⟨5, (some 50), none, .load false 1 (.s 49)⟩, ⟨6, (some 51), none, .iaddr 1 (.s 45) (.s 46)⟩, ⟨7, none, none, .store 1 (.s 51) (.s 50)⟩] [] (some [3, 5, 0, 4]))
  (.region 0 [⟨0, (some 52), none, .mv (.s 3)⟩, ⟨1, (some 53), none, .bin .add (.s 52) (.k (.c (.int .i64 1)))⟩, ⟨2, (some 3), none, .mv (.s 53)⟩] [] (some [5, 3, 0, 4])))
  .skip)))
  (.region 0 [⟨0, (some 33), none, .mv (.s 5)⟩, ⟨1, (some 34), none, .bin .add (.s 33) (.k (.c (.int .i64 1)))⟩, ⟨2, (some 5), none, .mv (.s 34)⟩] [] (some [3, 5, 0, 4]))))
def c_slices_Compact_int64_l2 : CC := (.seq (.seq (.region 0 [⟨0, (some 10), none, .mv (.s 3)⟩, ⟨1, (some 11), none, .mv (.s 0)⟩, ⟨2, (some 12), none, .len (.s 11)⟩, ⟨3, (some 13), none, .bin .lss (.s 10) (.s 12)⟩] [] (some [13, 3, 0]))
  (.cond (.s 13) .skip
  (.exit 0)))
  (.seq (.block 1 (.seq (.region 0 [⟨0, (some 16), none, .mv (.s 0)⟩, ⟨1, (some 17), none, .mv (.s 3)⟩, ⟨2, (some 18), none, .iaddr 1 (.s 16) (.s 17)⟩, ⟨4, (some 20), none, .mv (.s 0)⟩, ⟨5, (some 21), none, .mv (.s 3)⟩, ⟨6, (some 22), none, .bin .sub (.s 21) (.k (.c (.int .i64 1)))⟩, ⟨7, (some 23), none, .iaddr 1 (.s 20) (.s 22)⟩, ⟨3, (some 19), none, .load false 1 (.s 18)⟩, ⟨8, (some 24), none, .load false 1 (.s 23)⟩, ⟨9, (some 25), none, .bin .eql (.s 19) (.s 24)⟩] [] (some [25, 3, 0]))
  (.cond (.s 25) (.seq (.region 0 [⟨0, (some 26), none, .mv (.s 0)⟩, ⟨1, (some 27), none, .mv (.s 3)⟩, ⟨2, (some 28), none, .slice 1 (.s 26) (some (.s 27)) none none⟩, ⟨3, (some 4), none, .mv (.s 28)⟩] [] (some [3, 0, 4]))
  (.seq (.seq (.region 0 [⟨0, (some 5), none, .mv (.k (.c (.int .i64 1)))⟩] [] (some [3, 5, 0, 4]))
  (.block 2 (.loop (some [3, 5, 0, 4]) c_slices_Compact_int64_l1)))
  (.seq (.region 0 [⟨0, (some 54), none, .mv (.s 0)⟩, ⟨1, (some 55), none, .mv (.s 3)⟩, ⟨2, (some 56), none, .slice 1 (.s 54) (some (.s 55)) none none⟩, ⟨3, none, none, .clear [(.int .i64 0)] (.s 56)⟩] [] (some [0, 3]))
  (.seq (.region 0 [⟨0, (some 57), none, .mv (.s 0)⟩, ⟨1, (some 58), none, .mv (.s 3)⟩, ⟨2, (some 59), none, .slice 1 (.s 57) none (some (.s 58)) none⟩, ⟨3, (some 2), none, .mv (.s 59)⟩] [] (some [2]))
  .ret))))
  .skip)))
  (.region 0 [⟨0, (some 14), none, .mv (.s 3)⟩, ⟨1, (some 15), none, .bin .add (.s 14) (.k (.c (.int .i64 1)))⟩, ⟨2, (some 3), none, .mv (.s 15)⟩] [] (some [3, 0]))))
abbrev f_slices_Compact_int64 : Nat := 224
def c_slices_Compact_int64 : CFn := { frz := false, rnd := none, nargs := 1, ntmps := 61, res := [(.slot 2)], code :=
  (.seq (.region 1 [⟨0, (some 2), none, .newsl 0 1⟩] [] (some [0]))
  (.seq (.seq (.region 0 [⟨0, (some 6), none, .mv (.s 0)⟩, ⟨1, (some 7), none, .len (.s 6)⟩, ⟨2, (some 8), none, .bin .lss (.s 7) (.k (.c (.int .i64 2)))⟩] [] (some [8, 0]))
  (.cond (.s 8) (.seq (.region 0 [⟨0, (some 9), none, .mv (.s 0)⟩, ⟨1, (some 2), none, .mv (.s 9)⟩] [] (some [2]))
  .ret)
  .skip))
  (.seq (.seq (.region 0 [⟨0, (some 3), none, .mv (.k (.c (.int .i64 1)))⟩] [] (some [3, 0]))
  (.block 0 (.loop (some [3, 0]) c_slices_Compact_int64_l2)))
  (.seq (.region 0 [⟨0, (some 60), none, .mv (.s 0)⟩, ⟨1, (some 2), none, .mv (.s 60)⟩] [] (some [2]))
  .ret)))) }
def c_slices_insertionSortCmpFunc_Sweep_l1 : CC := (.seq (.seq (.region 0 [⟨0, (some 18), none, .mv (.s 9)⟩, ⟨1, (some 19), none, .mv (.s 1)⟩, ⟨2, (some 20), none, .bin .gtr (.s 18) (.s 19)⟩, ⟨3, (some 21), none, .mv (.s 20)⟩, ⟨4, (some 22), (some (21, true)), .mv (.s 3)⟩, ⟨5, (some 23), (some (21, true)), .mv (.s 0)⟩, ⟨6, (some 24), (some (21, true)), .mv (.s 9)⟩, ⟨7, (some 25), (some (21, true)), .iaddr 4 (.s 23) (.s 24)⟩, ⟨9, (some 27), (some (21, true)), .mv (.s 0)⟩, ⟨10, (some 28), (some (21, true)), .mv (.s 9)⟩, ⟨11, (some 29), (some (21, true)), .bin .sub (.s 28) (.k (.c (.int .i64 1)))⟩, ⟨12, (some 30), (some (21, true)), .iaddr 4 (.s 27) (.s 29)⟩, ⟨8, (some 26), (some (21, true)), .load true 4 (.s 25)⟩, ⟨13, (some 31), (some (21, true)), .load true 4 (.s 30)⟩, ⟨14, (some 32), (some (21, true)), .call ⟨true⟩ (.s 22) [(.s 26), (.s 31)]⟩, ⟨15, (some 33), (some (21, true)), .bin .lss (.s 32) (.k (.c (.int .i64 0)))⟩, ⟨16, (some 34), none, .pick (.s 21) (.s 33) (.k (.c (.bool false)))⟩] [] (some [34, 9, 3, 1, 2, 8, 0]))
  (.cond (.s 34) .skip
  (.exit 2)))
  (.seq (.block 3 (.region 0 [⟨0, (some 37), none, .mv (.s 0)⟩, ⟨1, (some 38), none, .mv (.s 9)⟩, ⟨2, (some 39), none, .mv (.s 0)⟩, ⟨3, (some 40), none, .mv (.s 9)⟩, ⟨4, (some 41), none, .bin .sub (.s 40) (.k (.c (.int .i64 1)))⟩, ⟨5, (some 42), none, .mv (.s 0)⟩, ⟨6, (some 43), none, .mv (.s 9)⟩, ⟨7, (some 44), none, .bin .sub (.s 43) (.k (.c (.int .i64 1)))⟩, ⟨8, (some 45), none, .iaddr 4 (.s 42) (.s 44)⟩, ⟨10, (some 47), none, .mv (.s 0)⟩, ⟨11, (some 48), none, .mv (.s 9)⟩, ⟨12, (some 49), none, .iaddr 4 (.s 47) (.s 48)⟩, ⟨9, (some 46), none, .load true 4 (.s 45)⟩, ⟨13, (some 50), none, .load true 4 (.s 49)⟩, ⟨14, (some 51), none, .iaddr 4 (.s 37) (.s 38)⟩, ⟨15, none, none, .store 4 (.s 51) (.s 46)⟩, ⟨16, (some 52), none, .iaddr 4 (.s 39) (.s 41)⟩, ⟨17, none, none, .store 4 (.s 52) (.s 50)⟩] [] (some [9, 3, 1, 2, 8, 0])))
  (.region 0 [⟨0, (some 35), none, .mv (.s 9)⟩, ⟨1, (some 36), none, .bin .sub (.s 35) (.k (.c (.int .i64 1)))⟩, ⟨2, (some 9), none, .mv (.s 36)⟩] [] (some [9, 3, 1, 2, 8, 0]))))
def c_slices_insertionSortCmpFunc_Sweep_l2 : CC := (.seq (.seq (.region 0 [⟨0, (some 12), none, .mv (.s 8)⟩, ⟨1, (some 13), none, .mv (.s 2)⟩, ⟨2, (some 14), none, .bin .lss (.s 12) (.s 13)⟩] [] (some [14, 3, 1, 2, 8, 0]))
  (.cond (.s 14) .skip
  (.exit 0)))
  (.seq (.block 1 (.seq (.region 0 [⟨0, (some 17), none, .mv (.s 8)⟩, ⟨1, (some 9), none, .mv (.s 17)⟩] [] (some [9, 3, 1, 2, 8, 0]))
  (.block 2 (.loop (some [9, 3, 1, 2, 8, 0]) c_slices_insertionSortCmpFunc_Sweep_l1))))
  (.region 0 [⟨0, (some 15), none, .mv (.s 8)⟩, ⟨1, (some 16), none, .bin .add (.s 15) (.k (.c (.int .i64 1)))⟩, ⟨2, (some 8), none, .mv (.s 16)⟩] [] (some [2, 1, 3, 8, 0]))))
abbrev f_slices_insertionSortCmpFunc_Sweep : Nat := 225
def c_slices_insertionSortCmpFunc_Sweep : CFn := { frz := true, rnd := none, nargs := 4, ntmps := 53, res := [], code :=
  (.seq (.region 0 [⟨0, (some 10), none, .mv (.s 1)⟩, ⟨1, (some 11), none, .bin .add (.s 10) (.k (.c (.int .i64 1)))⟩, ⟨2, (some 8), none, .mv (.s 11)⟩] [] (some [2, 1, 3, 8, 0]))
  (.block 0 (.loop (some [2, 1, 3, 8, 0]) c_slices_insertionSortCmpFunc_Sweep_l2))) }
def c_slices_heapSortCmpFunc_Sweep_l1 : CC := (.seq (.seq (.region 0 [⟨0, (some 20), none, .mv (.s 11)⟩, ⟨1, (some 21), none, .bin .geq (.s 20) (.k (.c (.int .i64 0)))⟩] [] (some [21, 11, 9, 0, 10, 8, 3]))
  (.cond (.s 21) .skip
  (.exit 0)))
  (.seq (.block 1 (.region 0 [⟨0, (some 24), none, .mv (.s 0)⟩, ⟨1, (some 25), none, .mv (.s 11)⟩, ⟨2, (some 26), none, .mv (.s 10)⟩, ⟨3, (some 27), none, .mv (.s 8)⟩, ⟨4, (some 28), none, .mv (.s 3)⟩, ⟨5, (some 29), none, .call ⟨false⟩ (.k (.c (.fn 274 [] []))) [(.s 24), (.s 25), (.s 26), (.s 27), (.s 28)]⟩] [] (some [11, 9, 0, 10, 8, 3])))
  (.region 0 [⟨0, (some 22), none, .mv (.s 11)⟩, ⟨1, (some 23), none, .bin .sub (.s 22) (.k (.c (.int .i64 1)))⟩, ⟨2, (some 11), none, .mv (.s 23)⟩] [] (some [11, 9, 0, 10, 8, 3]))))
def c_slices_heapSortCmpFunc_Sweep_l2 : CC := (.seq (.seq (.region 0 [⟨0, (some 32), none, .mv (.s 12)⟩, ⟨1, (some 33), none, .bin .geq (.s 32) (.k (.c (.int .i64 0)))⟩] [] (some [33, 12, 0, 9, 8, 3]))
  (.cond (.s 33) .skip
  (.exit 2)))
  (.seq (.block 3 (.seq (.region 0 [⟨0, (some 36), none, .mv (.s 0)⟩, ⟨1, (some 37), none, .mv (.s 8)⟩, ⟨2, (some 38), none, .mv (.s 0)⟩, ⟨3, (some 39), none, .mv (.s 8)⟩, ⟨4, (some 40), none, .mv (.s 12)⟩, ⟨5, (some 41), none, .bin .add (.s 39) (.s 40)⟩, ⟨6, (some 42), none, .mv (.s 0)⟩, ⟨7, (some 43), none, .mv (.s 8)⟩, ⟨8, (some 44), none, .mv (.s 12)⟩, ⟨9, (some 45), none, .bin .add (.s 43) (.s 44)⟩, ⟨10, (some 46), none, .iaddr 4 (.s 42) (.s 45)⟩, ⟨12, (some 48), none, .mv (.s 0)⟩, ⟨13, (some 49), none, .mv (.s 8)⟩, ⟨14, (some 50), none, .iaddr 4 (.s 48) (.s 49)⟩, ⟨11, (some 47), none, .load true 4 (.s 46)⟩, ⟨15, (some 51), none, .load true 4 (.s 50)⟩, ⟨16, (some 52), none, .iaddr 4 (.s 36) (.s 37)⟩, ⟨17, none, none, .store 4 (.s 52) (.s 47)⟩, ⟨18, (some 53), none, .iaddr 4 (.s 38) (.s 41)⟩, ⟨19, none, none, .store 4 (.s 53) (.s 51)⟩] [] (some [12, 0, 9, 8, 3]))
  (.region 0 [⟨0, (some 54), none, .mv (.s 0)⟩, ⟨1, (some 55), none, .mv (.s 9)⟩, ⟨2, (some 56), none, .mv (.s 12)⟩, ⟨3, (some 57), none, .mv (.s 8)⟩, ⟨4, (some 58), none, .mv (.s 3)⟩, ⟨5, (some 59), none, .call ⟨false⟩ (.k (.c (.fn 274 [] []))) [(.s 54), (.s 55), (.s 56), (.s 57), (.s 58)]⟩] [] (some [12, 0, 9, 8, 3]))))
  (.region 0 [⟨0, (some 34), none, .mv (.s 12)⟩, ⟨1, (some 35), none, .bin .sub (.s 34) (.k (.c (.int .i64 1)))⟩, ⟨2, (some 12), none, .mv (.s 35)⟩] [] (some [12, 0, 9, 8, 3]))))
abbrev f_slices_heapSortCmpFunc_Sweep : Nat := 226
def c_slices_heapSortCmpFunc_Sweep : CFn := { frz := true, rnd := none, nargs := 4, ntmps := 60, res := [], code :=
  (.seq (.region 0 [⟨0, (some 13), none, .mv (.s 1)⟩, ⟨1, (some 8), none, .mv (.s 13)⟩] [] (some [2, 1, 0, 8, 3]))
  (.seq (.region 0 [⟨0, (some 9), none, .mv (.k (.c (.int .i64 0)))⟩] [] (some [2, 1, 9, 0, 8, 3]))
  (.seq (.region 0 [⟨0, (some 14), none, .mv (.s 2)⟩, ⟨1, (some 15), none, .mv (.s 1)⟩, ⟨2, (some 16), none, .bin .sub (.s 14) (.s 15)⟩, ⟨3, (some 10), none, .mv (.s 16)⟩] [] (some [9, 0, 10, 8, 3]))
  (.seq (.seq (.region 0 [⟨0, (some 17), none, .mv (.s 10)⟩, ⟨1, (some 18), none, .bin .sub (.s 17) (.k (.c (.int .i64 1)))⟩, ⟨2, (some 19), none, .bin .quo (.s 18) (.k (.c (.int .i64 2)))⟩, ⟨3, (some 11), none, .mv (.s 19)⟩] [] (some [11, 9, 0, 10, 8, 3]))
  (.block 0 (.loop (some [11, 9, 0, 10, 8, 3]) c_slices_heapSortCmpFunc_Sweep_l1)))
  (.seq (.region 0 [⟨0, (some 30), none, .mv (.s 10)⟩, ⟨1, (some 31), none, .bin .sub (.s 30) (.k (.c (.int .i64 1)))⟩, ⟨2, (some 12), none, .mv (.s 31)⟩] [] (some [12, 0, 9, 8, 3]))
  (.block 2 (.loop (some [12, 0, 9, 8, 3]) c_slices_heapSortCmpFunc_Sweep_l2))))))) }
def c_slices_breakPatternsCmpFunc_Sweep_l1 : CC := (.seq (.seq (.region 0 [⟨0, (some 28), none, .mv (.s 11)⟩, ⟨1, (some 29), none, .mv (.s 1)⟩, ⟨2, (some 30), none, .mv (.s 8)⟩, ⟨3, (some 31), none, .bin .quo (.s 30) (.k (.c (.int .i64 4)))⟩, ⟨4, (some 32), none, .bin .mul (.s 31) (.k (.c (.int .i64 2)))⟩, ⟨5, (some 33), none, .bin .add (.s 29) (.s 32)⟩, ⟨6, (some 34), none, .bin .add (.s 33) (.k (.c (.int .i64 1)))⟩, ⟨7, (some 35), none, .bin .leq (.s 28) (.s 34)⟩] [] (some [35, 11, 9, 10, 8, 1, 0]))
  (.cond (.s 35) .skip
  (.exit 0)))
  (.seq (.block 1 (.seq (.region 0 [⟨0, (some 38), none, .call ⟨true⟩ (.k (.c (.fn 239 [] []))) [(.s 9)]⟩, ⟨1, (some 39), none, .mv (.s 10)⟩, ⟨2, (some 40), none, .bin .sub (.s 39) (.k (.c (.int .u64 1)))⟩, ⟨3, (some 41), none, .bin .and (.s 38) (.s 40)⟩, ⟨4, (some 42), none, .conv .i64 (.s 41)⟩, ⟨5, (some 12), none, .mv (.s 42)⟩] [] (some [12, 11, 9, 10, 8, 1, 0]))
  (.seq (.seq (.region 0 [⟨0, (some 43), none, .mv (.s 12)⟩, ⟨1, (some 44), none, .mv (.s 8)⟩, ⟨2, (some 45), none, .bin .geq (.s 43) (.s 44)⟩] [] (some [45, 12, 11, 9, 10, 8, 1, 0]))
  (.cond (.s 45) (.region 0 [⟨0, (some 46), none, .mv (.s 12)⟩, ⟨1, (some 47), none, .mv (.s 8)⟩, ⟨2, (some 48), none, .bin .sub (.s 46) (.s 47)⟩, ⟨3, (some 12), none, .mv (.s 48)⟩] [] (some [12, 11, 9, 10, 8, 1, 0]))
  .skip))
  (.region 0 [⟨0, (some 49), none, .mv (.s 0)⟩, ⟨1, (some 50), none, .mv (.s 11)⟩, ⟨2, (some 51), none, .mv (.s 0)⟩, ⟨3, (some 52), none, .mv (.s 1)⟩, ⟨4, (some 53), none, .mv (.s 12)⟩, ⟨5, (some 54), none, .bin .add (.s 52) (.s 53)⟩, ⟨6, (some 55), none, .mv (.s 0)⟩, ⟨7, (some 56), none, .mv (.s 1)⟩, ⟨8, (some 57), none, .mv (.s 12)⟩, ⟨9, (some 58), none, .bin .add (.s 56) (.s 57)⟩, ⟨10, (some 59), none, .iaddr 4 (.s 55) (.s 58)⟩, ⟨12, (some 61), none, .mv (.s 0)⟩, ⟨13, (some 62), none, .mv (.s 11)⟩, ⟨14, (some 63), none, .iaddr 4 (.s 61) (.s 62)⟩, ⟨11, (some 60), none, .load true 4 (.s 59)⟩, ⟨15, (some 64), none, .load true 4 (.s 63)⟩, ⟨16, (some 65), none, .iaddr 4 (.s 49) (.s 50)⟩, ⟨17, none, none, .store 4 (.s 65) (.s 60)⟩, ⟨18, (some 66), none, .iaddr 4 (.s 51) (.s 54)⟩, ⟨19, none, none, .store 4 (.s 66) (.s 64)⟩] [] (some [11, 9, 10, 8, 1, 0])))))
  (.region 0 [⟨0, (some 36), none, .mv (.s 11)⟩, ⟨1, (some 37), none, .bin .add (.s 36) (.k (.c (.int .i64 1)))⟩, ⟨2, (some 11), none, .mv (.s 37)⟩] [] (some [11, 9, 10, 8, 1, 0]))))
abbrev f_slices_breakPatternsCmpFunc_Sweep : Nat := 227
def c_slices_breakPatternsCmpFunc_Sweep : CFn := { frz := true, rnd := none, nargs := 4, ntmps := 67, res := [], code :=
  (.seq (.region 0 [⟨0, (some 13), none, .mv (.s 2)⟩, ⟨1, (some 14), none, .mv (.s 1)⟩, ⟨2, (some 15), none, .bin .sub (.s 13) (.s 14)⟩, ⟨3, (some 8), none, .mv (.s 15)⟩] [] (some [8, 1, 0]))
  (.seq (.region 0 [⟨0, (some 16), none, .mv (.s 8)⟩, ⟨1, (some 17), none, .bin .geq (.s 16) (.k (.c (.int .i64 8)))⟩] [] (some [17, 8, 1, 0]))
  (.cond (.s 17) (.seq (.region 1 [⟨0, (some 18), none, .mv (.s 8)⟩, ⟨1, (some 19), none, .conv .u64 (.s 18)⟩, ⟨2, (some 9), none, .box 0 1 (.k (.a [(.int .u64 0)]))⟩, ⟨3, none, none, .store 1 (.s 9) (.s 19)⟩] [] (some [9, 8, 1, 0]))
  (.seq (.region 0 [⟨0, (some 20), none, .mv (.s 8)⟩, ⟨1, (some 21), none, .call ⟨true⟩ (.k (.c (.fn 238 [] []))) [(.s 20)]⟩, ⟨2, (some 10), none, .mv (.s 21)⟩] [] (some [9, 10, 8, 1, 0]))
  (.seq (.region 0 [⟨0, (some 22), none, .mv (.s 1)⟩, ⟨1, (some 23), none, .mv (.s 8)⟩, ⟨2, (some 24), none, .bin .quo (.s 23) (.k (.c (.int .i64 4)))⟩, ⟨3, (some 25), none, .bin .mul (.s 24) (.k (.c (.int .i64 2)))⟩, ⟨4, (some 26), none, .bin .add (.s 22) (.s 25)⟩, ⟨5, (some 27), none, .bin .sub (.s 26) (.k (.c (.int .i64 1)))⟩, ⟨6, (some 11), none, .mv (.s 27)⟩] [] (some [11, 9, 10, 8, 1, 0]))
  (.block 0 (.loop (some [11, 9, 10, 8, 1, 0]) c_slices_breakPatternsCmpFunc_Sweep_l1)))))
  .skip))) }
abbrev f_slices_choosePivotCmpFunc_Sweep : Nat := 228
def c_slices_choosePivotCmpFunc_Sweep : CFn := { frz := true, rnd := none, nargs := 4, ntmps := 63, res := [(.slot 8), (.slot 9)], code :=
  (.seq (.region 0 [⟨0, (some 8), none, .mv (.k (.c (.int .i64 0)))⟩, ⟨1, (some 9), none, .mv (.k (.c (.int .i64 0)))⟩] [] (some [2, 1, 0, 3]))
  (.seq (.region 0 [⟨0, (some 15), none, .mv (.s 2)⟩, ⟨1, (some 16), none, .mv (.s 1)⟩, ⟨2, (some 17), none, .bin .sub (.s 15) (.s 16)⟩, ⟨3, (some 10), none, .mv (.s 17)⟩] [] (some [1, 10, 0, 3]))
  (.seq (.region 1 [⟨0, (some 11), none, .box 0 1 (.k (.a [(.int .i64 0)]))⟩] [] (some [1, 10, 0, 3, 11]))
  (.seq (.region 0 [⟨0, (some 18), none, .mv (.s 1)⟩, ⟨1, (some 19), none, .mv (.s 10)⟩, ⟨2, (some 20), none, .bin .quo (.s 19) (.k (.c (.int .i64 4)))⟩, ⟨3, (some 21), none, .bin .mul (.s 20) (.k (.c (.int .i64 1)))⟩, ⟨4, (some 22), none, .bin .add (.s 18) (.s 21)⟩, ⟨5, (some 12), none, .mv (.s 22)⟩] [] (some [1, 10, 12, 0, 3, 11]))
  (.seq (.region 0 [⟨0, (some 23), none, .mv (.s 1)⟩, ⟨1, (some 24), none, .mv (.s 10)⟩, ⟨2, (some 25), none, .bin .quo (.s 24) (.k (.c (.int .i64 4)))⟩, ⟨3, (some 26), none, .bin .mul (.s 25) (.k (.c (.int .i64 2)))⟩, ⟨4, (some 27), none, .bin .add (.s 23) (.s 26)⟩, ⟨5, (some 13), none, .mv (.s 27)⟩] [] (some [1, 10, 12, 13, 0, 3, 11]))
  (.seq (.region 0 [⟨0, (some 28), none, .mv (.s 1)⟩, ⟨1, (some 29), none, .mv (.s 10)⟩, ⟨2, (some 30), none, .bin .quo (.s 29) (.k (.c (.int .i64 4)))⟩, ⟨3, (some 31), none, .bin .mul (.s 30) (.k (.c (.int .i64 3)))⟩, ⟨4, (some 32), none, .bin .add (.s 28) (.s 31)⟩, ⟨5, (some 14), none, .mv (.s 32)⟩] [] (some [10, 12, 13, 14, 0, 3, 11]))
  (.seq (.seq (.region 0 [⟨0, (some 33), none, .mv (.s 10)⟩, ⟨1, (some 34), none, .bin .geq (.s 33) (.k (.c (.int .i64 8)))⟩] [] (some [34, 10, 12, 13, 14, 0, 3, 11]))
  (.cond (.s 34) (.seq (.seq (.region 0 [⟨0, (some 35), none, .mv (.s 10)⟩, ⟨1, (some 36), none, .bin .geq (.s 35) (.k (.c (.int .i64 50)))⟩] [] (some [36, 12, 13, 14, 0, 3, 11]))
  (.cond (.s 36) (.seq (.region 0 [⟨0, (some 37), none, .mv (.s 0)⟩, ⟨1, (some 38), none, .mv (.s 12)⟩, ⟨2, (some 39), none, .mv (.s 3)⟩, ⟨3, (some 40), none, .call ⟨false⟩ (.k (.c (.fn 275 [] []))) [(.s 37), (.s 38), (.s 11), (.s 39)]⟩, ⟨4, (some 12), none, .mv (.s 40)⟩] [] (some [13, 14, 0, 12, 3, 11]))
  (.seq (.region 0 [⟨0, (some 41), none, .mv (.s 0)⟩, ⟨1, (some 42), none, .mv (.s 13)⟩, ⟨2, (some 43), none, .mv (.s 3)⟩, ⟨3, (some 44), none, .call ⟨false⟩ (.k (.c (.fn 275 [] []))) [(.s 41), (.s 42), (.s 11), (.s 43)]⟩, ⟨4, (some 13), none, .mv (.s 44)⟩] [] (some [14, 0, 12, 13, 3, 11]))
  (.region 0 [⟨0, (some 45), none, .mv (.s 0)⟩, ⟨1, (some 46), none, .mv (.s 14)⟩, ⟨2, (some 47), none, .mv (.s 3)⟩, ⟨3, (some 48), none, .call ⟨false⟩ (.k (.c (.fn 275 [] []))) [(.s 45), (.s 46), (.s 11), (.s 47)]⟩, ⟨4, (some 14), none, .mv (.s 48)⟩] [] (some [0, 12, 13, 14, 3, 11]))))
  .skip))
  (.region 0 [⟨0, (some 49), none, .mv (.s 0)⟩, ⟨1, (some 50), none, .mv (.s 12)⟩, ⟨2, (some 51), none, .mv (.s 13)⟩, ⟨3, (some 52), none, .mv (.s 14)⟩, ⟨4, (some 53), none, .mv (.s 3)⟩, ⟨5, (some 54), none, .call ⟨false⟩ (.k (.c (.fn 276 [] []))) [(.s 49), (.s 50), (.s 51), (.s 52), (.s 11), (.s 53)]⟩, ⟨6, (some 13), none, .mv (.s 54)⟩] [] (some [11, 13])))
  .skip))
  (.seq (.region 0 [⟨0, (some 55), none, .load false 1 (.s 11)⟩] [] (some [55, 13]))
  (.block 0 (.seq (.region 0 [⟨0, (some 58), none, .bin .eql (.s 55) (.k (.c (.int .i64 0)))⟩, ⟨1, (some 57), none, .mv (.s 58)⟩] [] (some [57, 55, 13]))
  (.cond (.s 57) (.seq (.region 0 [⟨0, (some 59), none, .mv (.s 13)⟩, ⟨1, (some 8), none, .mv (.s 59)⟩, ⟨2, (some 9), none, .mv (.k (.c (.int .i64 1)))⟩] [] (some [8, 9]))
  .ret)
  (.seq (.region 0 [⟨0, (some 61), none, .bin .eql (.s 55) (.k (.c (.int .i64 12)))⟩, ⟨1, (some 60), none, .mv (.s 61)⟩] [] (some [60, 13]))
  (.cond (.s 60) (.seq (.region 0 [⟨0, (some 62), none, .mv (.s 13)⟩, ⟨1, (some 8), none, .mv (.s 62)⟩, ⟨2, (some 9), none, .mv (.k (.c (.int .i64 2)))⟩] [] (some [8, 9]))
  .ret)
  (.seq (.region 0 [⟨0, (some 56), none, .mv (.s 13)⟩, ⟨1, (some 8), none, .mv (.s 56)⟩, ⟨2, (some 9), none, .mv (.k (.c (.int .i64 0)))⟩] [] (some [8, 9]))
  .ret)))))))))))))) }
def c_slices_reverseRangeCmpFunc_Sweep_l1 : CC := (.seq (.seq (.region 0 [⟨0, (some 13), none, .mv (.s 8)⟩, ⟨1, (some 14), none, .mv (.s 9)⟩, ⟨2, (some 15), none, .bin .lss (.s 13) (.s 14)⟩] [] (some [15, 8, 9, 0]))
  (.cond (.s 15) .skip
  (.exit 0)))
  (.block 1 (.seq (.region 0 [⟨0, (some 16), none, .mv (.s 0)⟩, ⟨1, (some 17), none, .mv (.s 8)⟩, ⟨2, (some 18), none, .mv (.s 0)⟩, ⟨3, (some 19), none, .mv (.s 9)⟩, ⟨4, (some 20), none, .mv (.s 0)⟩, ⟨5, (some 21), none, .mv (.s 9)⟩, ⟨6, (some 22), none, .iaddr 4 (.s 20) (.s 21)⟩, ⟨8, (some 24), none, .mv (.s 0)⟩, ⟨9, (some 25), none, .mv (.s 8)⟩, ⟨10, (some 26), none, .iaddr 4 (.s 24) (.s 25)⟩, ⟨7, (some 23), none, .load true 4 (.s 22)⟩, ⟨11, (some 27), none, .load true 4 (.s 26)⟩, ⟨12, (some 28), none, .iaddr 4 (.s 16) (.s 17)⟩, ⟨13, none, none, .store 4 (.s 28) (.s 23)⟩, ⟨14, (some 29), none, .iaddr 4 (.s 18) (.s 19)⟩, ⟨15, none, none, .store 4 (.s 29) (.s 27)⟩] [] (some [8, 9, 0]))
  (.seq (.region 0 [⟨0, (some 30), none, .mv (.s 8)⟩, ⟨1, (some 31), none, .bin .add (.s 30) (.k (.c (.int .i64 1)))⟩, ⟨2, (some 8), none, .mv (.s 31)⟩] [] (some [9, 8, 0]))
  (.region 0 [⟨0, (some 32), none, .mv (.s 9)⟩, ⟨1, (some 33), none, .bin .sub (.s 32) (.k (.c (.int .i64 1)))⟩, ⟨2, (some 9), none, .mv (.s 33)⟩] [] (some [8, 9, 0]))))))
abbrev f_slices_reverseRangeCmpFunc_Sweep : Nat := 229
def c_slices_reverseRangeCmpFunc_Sweep : CFn := { frz := true, rnd := none, nargs := 4, ntmps := 34, res := [], code :=
  (.seq (.region 0 [⟨0, (some 10), none, .mv (.s 1)⟩, ⟨1, (some 8), none, .mv (.s 10)⟩] [] (some [2, 8, 0]))
  (.seq (.region 0 [⟨0, (some 11), none, .mv (.s 2)⟩, ⟨1, (some 12), none, .bin .sub (.s 11) (.k (.c (.int .i64 1)))⟩, ⟨2, (some 9), none, .mv (.s 12)⟩] [] (some [8, 9, 0]))
  (.block 0 (.loop (some [8, 9, 0]) c_slices_reverseRangeCmpFunc_Sweep_l1)))) }
def c_slices_partialInsertionSortCmpFunc_Sweep_l1 : CC := (.seq (.seq (.region 0 [⟨0, (some 19), none, .mv (.s 9)⟩, ⟨1, (some 20), none, .mv (.s 2)⟩, ⟨2, (some 21), none, .bin .lss (.s 19) (.s 20)⟩, ⟨3, (some 22), none, .mv (.s 21)⟩, ⟨4, (some 23), (some (22, true)), .mv (.s 3)⟩, ⟨5, (some 24), (some (22, true)), .mv (.s 0)⟩, ⟨6, (some 25), (some (22, true)), .mv (.s 9)⟩, ⟨7, (some 26), (some (22, true)), .iaddr 4 (.s 24) (.s 25)⟩, ⟨9, (some 28), (some (22, true)), .mv (.s 0)⟩, ⟨10, (some 29), (some (22, true)), .mv (.s 9)⟩, ⟨11, (some 30), (some (22, true)), .bin .sub (.s 29) (.k (.c (.int .i64 1)))⟩, ⟨12, (some 31), (some (22, true)), .iaddr 4 (.s 28) (.s 30)⟩, ⟨8, (some 27), (some (22, true)), .load true 4 (.s 26)⟩, ⟨13, (some 32), (some (22, true)), .load true 4 (.s 31)⟩, ⟨14, (some 33), (some (22, true)), .call ⟨true⟩ (.s 23) [(.s 27), (.s 32)]⟩, ⟨15, (some 34), (some (22, true)), .bin .lss (.s 33) (.k (.c (.int .i64 0)))⟩, ⟨16, (some 35), (some (22, true)), .un .not (.s 34)⟩, ⟨17, (some 36), none, .pick (.s 22) (.s 35) (.k (.c (.bool false)))⟩] [] (some [36, 9, 1, 2, 3, 0, 10]))
  (.cond (.s 36) .skip
  (.exit 2)))
  (.block 3 (.region 0 [⟨0, (some 37), none, .mv (.s 9)⟩, ⟨1, (some 38), none, .bin .add (.s 37) (.k (.c (.int .i64 1)))⟩, ⟨2, (some 9), none, .mv (.s 38)⟩] [] (some [9, 1, 2, 3, 0, 10]))))
def c_slices_partialInsertionSortCmpFunc_Sweep_l2 : CC := (.seq (.seq (.region 0 [⟨0, (some 68), none, .mv (.s 11)⟩, ⟨1, (some 69), none, .bin .geq (.s 68) (.k (.c (.int .i64 1)))⟩] [] (some [69, 11, 10, 9, 0, 3, 2, 1]))
  (.cond (.s 69) .skip
  (.exit 4)))
  (.seq (.block 5 (.seq (.seq (.region 0 [⟨0, (some 72), none, .mv (.s 3)⟩, ⟨1, (some 73), none, .mv (.s 0)⟩, ⟨2, (some 74), none, .mv (.s 11)⟩, ⟨3, (some 75), none, .iaddr 4 (.s 73) (.s 74)⟩, ⟨5, (some 77), none, .mv (.s 0)⟩, ⟨6, (some 78), none, .mv (.s 11)⟩, ⟨7, (some 79), none, .bin .sub (.s 78) (.k (.c (.int .i64 1)))⟩, ⟨8, (some 80), none, .iaddr 4 (.s 77) (.s 79)⟩, ⟨4, (some 76), none, .load true 4 (.s 75)⟩, ⟨9, (some 81), none, .load true 4 (.s 80)⟩, ⟨10, (some 82), none, .call ⟨true⟩ (.s 72) [(.s 76), (.s 81)]⟩, ⟨11, (some 83), none, .bin .lss (.s 82) (.k (.c (.int .i64 0)))⟩, ⟨12, (some 84), none, .un .not (.s 83)⟩] [] (some [84, 11, 10, 9, 0, 3, 2, 1]))
  (.cond (.s 84) (.exit 4)
  .skip))
  (.region 0 [⟨0, (some 85), none, .mv (.s 0)⟩, ⟨1, (some 86), none, .mv (.s 11)⟩, ⟨2, (some 87), none, .mv (.s 0)⟩, ⟨3, (some 88), none, .mv (.s 11)⟩, ⟨4, (some 89), none, .bin .sub (.s 88) (.k (.c (.int .i64 1)))⟩, ⟨5, (some 90), none, .mv (.s 0)⟩, ⟨6, (some 91), none, .mv (.s 11)⟩, ⟨7, (some 92), none, .bin .sub (.s 91) (.k (.c (.int .i64 1)))⟩, ⟨8, (some 93), none, .iaddr 4 (.s 90) (.s 92)⟩, ⟨10, (some 95), none, .mv (.s 0)⟩, ⟨11, (some 96), none, .mv (.s 11)⟩, ⟨12, (some 97), none, .iaddr 4 (.s 95) (.s 96)⟩, ⟨9, (some 94), none, .load true 4 (.s 93)⟩, ⟨13, (some 98), none, .load true 4 (.s 97)⟩, ⟨14, (some 99), none, .iaddr 4 (.s 85) (.s 86)⟩, ⟨15, none, none, .store 4 (.s 99) (.s 94)⟩, ⟨16, (some 100), none, .iaddr 4 (.s 87) (.s 89)⟩, ⟨17, none, none, .store 4 (.s 100) (.s 98)⟩] [] (some [11, 10, 9, 0, 3, 2, 1]))))
  (.region 0 [⟨0, (some 70), none, .mv (.s 11)⟩, ⟨1, (some 71), none, .bin .sub (.s 70) (.k (.c (.int .i64 1)))⟩, ⟨2, (some 11), none, .mv (.s 71)⟩] [] (some [11, 10, 9, 0, 3, 2, 1]))))
def c_slices_partialInsertionSortCmpFunc_Sweep_l3 : CC := (.seq (.seq (.region 0 [⟨0, (some 107), none, .mv (.s 12)⟩, ⟨1, (some 108), none, .mv (.s 2)⟩, ⟨2, (some 109), none, .bin .lss (.s 107) (.s 108)⟩] [] (some [109, 12, 10, 9, 0, 3, 2, 1]))
  (.cond (.s 109) .skip
  (.exit 6)))
  (.seq (.block 7 (.seq (.seq (.region 0 [⟨0, (some 112), none, .mv (.s 3)⟩, ⟨1, (some 113), none, .mv (.s 0)⟩, ⟨2, (some 114), none, .mv (.s 12)⟩, ⟨3, (some 115), none, .iaddr 4 (.s 113) (.s 114)⟩, ⟨5, (some 117), none, .mv (.s 0)⟩, ⟨6, (some 118), none, .mv (.s 12)⟩, ⟨7, (some 119), none, .bin .sub (.s 118) (.k (.c (.int .i64 1)))⟩, ⟨8, (some 120), none, .iaddr 4 (.s 117) (.s 119)⟩, ⟨4, (some 116), none, .load true 4 (.s 115)⟩, ⟨9, (some 121), none, .load true 4 (.s 120)⟩, ⟨10, (some 122), none, .call ⟨true⟩ (.s 112) [(.s 116), (.s 121)]⟩, ⟨11, (some 123), none, .bin .lss (.s 122) (.k (.c (.int .i64 0)))⟩, ⟨12, (some 124), none, .un .not (.s 123)⟩] [] (some [124, 12, 10, 9, 0, 3, 2, 1]))
  (.cond (.s 124) (.exit 6)
  .skip))
  (.region 0 [⟨0, (some 125), none, .mv (.s 0)⟩, ⟨1, (some 126), none, .mv (.s 12)⟩, ⟨2, (some 127), none, .mv (.s 0)⟩, ⟨3, (some 128), none, .mv (.s 12)⟩, ⟨4, (some 129), none, .bin .sub (.s 128) (.k (.c (.int .i64 1)))⟩, ⟨5, (some 130), none, .mv (.s 0)⟩, ⟨6, (some 131), none, .mv (.s 12)⟩, ⟨7, (some 132), none, .bin .sub (.s 131) (.k (.c (.int .i64 1)))⟩, ⟨8, (some 133), none, .iaddr 4 (.s 130) (.s 132)⟩, ⟨10, (some 135), none, .mv (.s 0)⟩, ⟨11, (some 136), none, .mv (.s 12)⟩, ⟨12, (some 137), none, .iaddr 4 (.s 135) (.s 136)⟩, ⟨9, (some 134), none, .load true 4 (.s 133)⟩, ⟨13, (some 138), none, .load true 4 (.s 137)⟩, ⟨14, (some 139), none, .iaddr 4 (.s 125) (.s 126)⟩, ⟨15, none, none, .store 4 (.s 139) (.s 134)⟩, ⟨16, (some 140), none, .iaddr 4 (.s 127) (.s 129)⟩, ⟨17, none, none, .store 4 (.s 140) (.s 138)⟩] [] (some [12, 10, 9, 0, 3, 2, 1]))))
  (.region 0 [⟨0, (some 110), none, .mv (.s 12)⟩, ⟨1, (some 111), none, .bin .add (.s 110) (.k (.c (.int .i64 1)))⟩, ⟨2, (some 12), none, .mv (.s 111)⟩] [] (some [12, 10, 9, 0, 3, 2, 1]))))
def c_slices_partialInsertionSortCmpFunc_Sweep_l4 : CC := (.seq (.seq (.region 0 [⟨0, (some 15), none, .mv (.s 10)⟩, ⟨1, (some 16), none, .bin .lss (.s 15) (.k (.c (.int .i64 5)))⟩] [] (some [16, 9, 1, 2, 3, 0, 10]))
  (.cond (.s 16) .skip
  (.exit 0)))
  (.seq (.block 1 (.seq (.block 2 (.loop (some [9, 1, 2, 3, 0, 10]) c_slices_partialInsertionSortCmpFunc_Sweep_l1))
  (.seq (.seq (.region 0 [⟨0, (some 39), none, .mv (.s 9)⟩, ⟨1, (some 40), none, .mv (.s 2)⟩, ⟨2, (some 41), none, .bin .eql (.s 39) (.s 40)⟩] [] (some [41, 10, 9, 0, 3, 2, 1]))
  (.cond (.s 41) (.seq (.region 0 [⟨0, (some 8), none, .mv (.k (.c (.bool true)))⟩] [] (some [8]))
  .ret)
  .skip))
  (.seq (.seq (.region 0 [⟨0, (some 42), none, .mv (.s 2)⟩, ⟨1, (some 43), none, .mv (.s 1)⟩, ⟨2, (some 44), none, .bin .sub (.s 42) (.s 43)⟩, ⟨3, (some 45), none, .bin .lss (.s 44) (.k (.c (.int .i64 50)))⟩] [] (some [45, 1, 2, 3, 0, 9, 10]))
  (.cond (.s 45) (.seq (.region 0 [⟨0, (some 8), none, .mv (.k (.c (.bool false)))⟩] [] (some [8]))
  .ret)
  .skip))
  (.seq (.region 0 [⟨0, (some 46), none, .mv (.s 0)⟩, ⟨1, (some 47), none, .mv (.s 9)⟩, ⟨2, (some 48), none, .mv (.s 0)⟩, ⟨3, (some 49), none, .mv (.s 9)⟩, ⟨4, (some 50), none, .bin .sub (.s 49) (.k (.c (.int .i64 1)))⟩, ⟨5, (some 51), none, .mv (.s 0)⟩, ⟨6, (some 52), none, .mv (.s 9)⟩, ⟨7, (some 53), none, .bin .sub (.s 52) (.k (.c (.int .i64 1)))⟩, ⟨8, (some 54), none, .iaddr 4 (.s 51) (.s 53)⟩, ⟨10, (some 56), none, .mv (.s 0)⟩, ⟨11, (some 57), none, .mv (.s 9)⟩, ⟨12, (some 58), none, .iaddr 4 (.s 56) (.s 57)⟩, ⟨9, (some 55), none, .load true 4 (.s 54)⟩, ⟨13, (some 59), none, .load true 4 (.s 58)⟩, ⟨14, (some 60), none, .iaddr 4 (.s 46) (.s 47)⟩, ⟨15, none, none, .store 4 (.s 60) (.s 55)⟩, ⟨16, (some 61), none, .iaddr 4 (.s 48) (.s 50)⟩, ⟨17, none, none, .store 4 (.s 61) (.s 59)⟩] [] (some [10, 9, 0, 3, 2, 1]))
  (.seq (.seq (.region 0 [⟨0, (some 62), none, .mv (.s 9)⟩, ⟨1, (some 63), none, .mv (.s 1)⟩, ⟨2, (some 64), none, .bin .sub (.s 62) (.s 63)⟩, ⟨3, (some 65), none, .bin .geq (.s 64) (.k (.c (.int .i64 2)))⟩] [] (some [65, 10, 9, 0, 3, 2, 1]))
  (.cond (.s 65) (.seq (.region 0 [⟨0, (some 66), none, .mv (.s 9)⟩, ⟨1, (some 67), none, .bin .sub (.s 66) (.k (.c (.int .i64 1)))⟩, ⟨2, (some 11), none, .mv (.s 67)⟩] [] (some [11, 10, 9, 0, 3, 2, 1]))
  (.block 4 (.loop (some [11, 10, 9, 0, 3, 2, 1]) c_slices_partialInsertionSortCmpFunc_Sweep_l2)))
  .skip))
  (.seq (.region 0 [⟨0, (some 101), none, .mv (.s 2)⟩, ⟨1, (some 102), none, .mv (.s 9)⟩, ⟨2, (some 103), none, .bin .sub (.s 101) (.s 102)⟩, ⟨3, (some 104), none, .bin .geq (.s 103) (.k (.c (.int .i64 2)))⟩] [] (some [104, 10, 9, 0, 3, 2, 1]))
  (.cond (.s 104) (.seq (.region 0 [⟨0, (some 105), none, .mv (.s 9)⟩, ⟨1, (some 106), none, .bin .add (.s 105) (.k (.c (.int .i64 1)))⟩, ⟨2, (some 12), none, .mv (.s 106)⟩] [] (some [12, 10, 9, 0, 3, 2, 1]))
  (.block 6 (.loop (some [12, 10, 9, 0, 3, 2, 1]) c_slices_partialInsertionSortCmpFunc_Sweep_l3)))
  .skip))))))))
  (.region 0 [⟨0, (some 17), none, .mv (.s 10)⟩, ⟨1, (some 18), none, .bin .add (.s 17) (.k (.c (.int .i64 1)))⟩, ⟨2, (some 10), none, .mv (.s 18)⟩] [] (some [9, 0, 3, 2, 1, 10]))))
abbrev f_slices_partialInsertionSortCmpFunc_Sweep : Nat := 230
def c_slices_partialInsertionSortCmpFunc_Sweep : CFn := { frz := true, rnd := none, nargs := 4, ntmps := 141, res := [(.slot 8)], code :=
  (.seq (.region 0 [⟨0, (some 8), none, .mv (.k (.c (.bool false)))⟩] [] (some [0, 3, 2, 1]))
  (.seq (.region 0 [⟨0, (some 13), none, .mv (.s 1)⟩, ⟨1, (some 14), none, .bin .add (.s 13) (.k (.c (.int .i64 1)))⟩, ⟨2, (some 9), none, .mv (.s 14)⟩] [] (some [9, 0, 3, 2, 1]))
  (.seq (.seq (.region 0 [⟨0, (some 10), none, .mv (.k (.c (.int .i64 0)))⟩] [] (some [9, 0, 3, 2, 1, 10]))
  (.block 0 (.loop (some [9, 0, 3, 2, 1, 10]) c_slices_partialInsertionSortCmpFunc_Sweep_l4)))
  (.seq (.region 0 [⟨0, (some 8), none, .mv (.k (.c (.bool false)))⟩] [] (some [8]))
  .ret)))) }
def c_slices_partitionEqualCmpFunc_Sweep_l1 : CC := (.seq (.seq (.region 0 [⟨0, (some 31), none, .mv (.s 11)⟩, ⟨1, (some 32), none, .mv (.s 12)⟩, ⟨2, (some 33), none, .bin .leq (.s 31) (.s 32)⟩, ⟨3, (some 34), none, .mv (.s 33)⟩, ⟨4, (some 35), (some (34, true)), .mv (.s 4)⟩, ⟨5, (some 36), (some (34, true)), .mv (.s 0)⟩, ⟨6, (some 37), (some (34, true)), .mv (.s 1)⟩, ⟨7, (some 38), (some (34, true)), .iaddr 4 (.s 36) (.s 37)⟩, ⟨9, (some 40), (some (34, true)), .mv (.s 0)⟩, ⟨10, (some 41), (some (34, true)), .mv (.s 11)⟩, ⟨11, (some 42), (some (34, true)), .iaddr 4 (.s 40) (.s 41)⟩, ⟨8, (some 39), (some (34, true)), .load true 4 (.s 38)⟩, ⟨12, (some 43), (some (34, true)), .load true 4 (.s 42)⟩, ⟨13, (some 44), (some (34, true)), .call ⟨true⟩ (.s 35) [(.s 39), (.s 43)]⟩, ⟨14, (some 45), (some (34, true)), .bin .lss (.s 44) (.k (.c (.int .i64 0)))⟩, ⟨15, (some 46), (some (34, true)), .un .not (.s 45)⟩, ⟨16, (some 47), none, .pick (.s 34) (.s 46) (.k (.c (.bool false)))⟩] [] (some [47, 11, 4, 1, 0, 12]))
  (.cond (.s 47) .skip
  (.exit 2)))
  (.block 3 (.region 0 [⟨0, (some 48), none, .mv (.s 11)⟩, ⟨1, (some 49), none, .bin .add (.s 48) (.k (.c (.int .i64 1)))⟩, ⟨2, (some 11), none, .mv (.s 49)⟩] [] (some [11, 4, 1, 0, 12]))))
def c_slices_partitionEqualCmpFunc_Sweep_l2 : CC := (.seq (.seq (.region 0 [⟨0, (some 50), none, .mv (.s 11)⟩, ⟨1, (some 51), none, .mv (.s 12)⟩, ⟨2, (some 52), none, .bin .leq (.s 50) (.s 51)⟩, ⟨3, (some 53), none, .mv (.s 52)⟩, ⟨4, (some 54), (some (53, true)), .mv (.s 4)⟩, ⟨5, (some 55), (some (53, true)), .mv (.s 0)⟩, ⟨6, (some 56), (some (53, true)), .mv (.s 1)⟩, ⟨7, (some 57), (some (53, true)), .iaddr 4 (.s 55) (.s 56)⟩, ⟨9, (some 59), (some (53, true)), .mv (.s 0)⟩, ⟨10, (some 60), (some (53, true)), .mv (.s 12)⟩, ⟨11, (some 61), (some (53, true)), .iaddr 4 (.s 59) (.s 60)⟩, ⟨8, (some 58), (some (53, true)), .load true 4 (.s 57)⟩, ⟨12, (some 62), (some (53, true)), .load true 4 (.s 61)⟩, ⟨13, (some 63), (some (53, true)), .call ⟨true⟩ (.s 54) [(.s 58), (.s 62)]⟩, ⟨14, (some 64), (some (53, true)), .bin .lss (.s 63) (.k (.c (.int .i64 0)))⟩, ⟨15, (some 65), none, .pick (.s 53) (.s 64) (.k (.c (.bool false)))⟩] [] (some [65, 12, 11, 0, 1, 4]))
  (.cond (.s 65) .skip
  (.exit 4)))
  (.block 5 (.region 0 [⟨0, (some 66), none, .mv (.s 12)⟩, ⟨1, (some 67), none, .bin .sub (.s 66) (.k (.c (.int .i64 1)))⟩, ⟨2, (some 12), none, .mv (.s 67)⟩] [] (some [12, 11, 0, 1, 4]))))
def c_slices_partitionEqualCmpFunc_Sweep_l3 : CC := (.block 1 (.seq (.block 2 (.loop (some [11, 4, 1, 0, 12]) c_slices_partitionEqualCmpFunc_Sweep_l1))
  (.seq (.block 4 (.loop (some [12, 11, 0, 1, 4]) c_slices_partitionEqualCmpFunc_Sweep_l2))
  (.seq (.seq (.region 0 [⟨0, (some 68), none, .mv (.s 11)⟩, ⟨1, (some 69), none, .mv (.s 12)⟩, ⟨2, (some 70), none, .bin .gtr (.s 68) (.s 69)⟩] [] (some [70, 4, 1, 0, 12, 11]))
  (.cond (.s 70) (.exit 0)
  .skip))
  (.seq (.region 0 [⟨0, (some 71), none, .mv (.s 0)⟩, ⟨1, (some 72), none, .mv (.s 11)⟩, ⟨2, (some 73), none, .mv (.s 0)⟩, ⟨3, (some 74), none, .mv (.s 12)⟩, ⟨4, (some 75), none, .mv (.s 0)⟩, ⟨5, (some 76), none, .mv (.s 12)⟩, ⟨6, (some 77), none, .iaddr 4 (.s 75) (.s 76)⟩, ⟨8, (some 79), none, .mv (.s 0)⟩, ⟨9, (some 80), none, .mv (.s 11)⟩, ⟨10, (some 81), none, .iaddr 4 (.s 79) (.s 80)⟩, ⟨7, (some 78), none, .load true 4 (.s 77)⟩, ⟨11, (some 82), none, .load true 4 (.s 81)⟩, ⟨12, (some 83), none, .iaddr 4 (.s 71) (.s 72)⟩, ⟨13, none, none, .store 4 (.s 83) (.s 78)⟩, ⟨14, (some 84), none, .iaddr 4 (.s 73) (.s 74)⟩, ⟨15, none, none, .store 4 (.s 84) (.s 82)⟩] [] (some [11, 12, 0, 1, 4]))
  (.seq (.region 0 [⟨0, (some 85), none, .mv (.s 11)⟩, ⟨1, (some 86), none, .bin .add (.s 85) (.k (.c (.int .i64 1)))⟩, ⟨2, (some 11), none, .mv (.s 86)⟩] [] (some [12, 11, 0, 1, 4]))
  (.region 0 [⟨0, (some 87), none, .mv (.s 12)⟩, ⟨1, (some 88), none, .bin .sub (.s 87) (.k (.c (.int .i64 1)))⟩, ⟨2, (some 12), none, .mv (.s 88)⟩] [] (some [11, 0, 1, 4, 12]))))))))
abbrev f_slices_partitionEqualCmpFunc_Sweep : Nat := 231
def c_slices_partitionEqualCmpFunc_Sweep : CFn := { frz := true, rnd := none, nargs := 5, ntmps := 90, res := [(.slot 10)], code :=
  (.seq (.region 0 [⟨0, (some 10), none, .mv (.k (.c (.int .i64 0)))⟩] [] (some [3, 2, 0, 1, 4]))
  (.seq (.region 0 [⟨0, (some 13), none, .mv (.s 0)⟩, ⟨1, (some 14), none, .mv (.s 1)⟩, ⟨2, (some 15), none, .mv (.s 0)⟩, ⟨3, (some 16), none, .mv (.s 3)⟩, ⟨4, (some 17), none, .mv (.s 0)⟩, ⟨5, (some 18), none, .mv (.s 3)⟩, ⟨6, (some 19), none, .iaddr 4 (.s 17) (.s 18)⟩, ⟨8, (some 21), none, .mv (.s 0)⟩, ⟨9, (some 22), none, .mv (.s 1)⟩, ⟨10, (some 23), none, .iaddr 4 (.s 21) (.s 22)⟩, ⟨7, (some 20), none, .load true 4 (.s 19)⟩, ⟨11, (some 24), none, .load true 4 (.s 23)⟩, ⟨12, (some 25), none, .iaddr 4 (.s 13) (.s 14)⟩, ⟨13, none, none, .store 4 (.s 25) (.s 20)⟩, ⟨14, (some 26), none, .iaddr 4 (.s 15) (.s 16)⟩, ⟨15, none, none, .store 4 (.s 26) (.s 24)⟩] [] (some [2, 0, 1, 4]))
  (.seq (.region 0 [⟨0, (some 27), none, .mv (.s 1)⟩, ⟨1, (some 28), none, .bin .add (.s 27) (.k (.c (.int .i64 1)))⟩, ⟨2, (some 29), none, .mv (.s 2)⟩, ⟨3, (some 30), none, .bin .sub (.s 29) (.k (.c (.int .i64 1)))⟩, ⟨4, (some 11), none, .mv (.s 28)⟩, ⟨5, (some 12), none, .mv (.s 30)⟩] [] (some [11, 0, 1, 4, 12]))
  (.seq (.block 0 (.loop (some [11, 0, 1, 4, 12]) c_slices_partitionEqualCmpFunc_Sweep_l3))
  (.seq (.region 0 [⟨0, (some 89), none, .mv (.s 11)⟩, ⟨1, (some 10), none, .mv (.s 89)⟩] [] (some [10]))
  .ret))))) }
def c_slices_partitionCmpFunc_Sweep_l1 : CC := (.seq (.seq (.region 0 [⟨0, (some 32), none, .mv (.s 12)⟩, ⟨1, (some 33), none, .mv (.s 13)⟩, ⟨2, (some 34), none, .bin .leq (.s 32) (.s 33)⟩, ⟨3, (some 35), none, .mv (.s 34)⟩, ⟨4, (some 36), (some (35, true)), .mv (.s 4)⟩, ⟨5, (some 37), (some (35, true)), .mv (.s 0)⟩, ⟨6, (some 38), (some (35, true)), .mv (.s 12)⟩, ⟨7, (some 39), (some (35, true)), .iaddr 4 (.s 37) (.s 38)⟩, ⟨9, (some 41), (some (35, true)), .mv (.s 0)⟩, ⟨10, (some 42), (some (35, true)), .mv (.s 1)⟩, ⟨11, (some 43), (some (35, true)), .iaddr 4 (.s 41) (.s 42)⟩, ⟨8, (some 40), (some (35, true)), .load true 4 (.s 39)⟩, ⟨12, (some 44), (some (35, true)), .load true 4 (.s 43)⟩, ⟨13, (some 45), (some (35, true)), .call ⟨true⟩ (.s 36) [(.s 40), (.s 44)]⟩, ⟨14, (some 46), (some (35, true)), .bin .lss (.s 45) (.k (.c (.int .i64 0)))⟩, ⟨15, (some 47), none, .pick (.s 35) (.s 46) (.k (.c (.bool false)))⟩] [] (some [47, 12, 4, 1, 0, 13]))
  (.cond (.s 47) .skip
  (.exit 0)))
  (.block 1 (.region 0 [⟨0, (some 48), none, .mv (.s 12)⟩, ⟨1, (some 49), none, .bin .add (.s 48) (.k (.c (.int .i64 1)))⟩, ⟨2, (some 12), none, .mv (.s 49)⟩] [] (some [12, 4, 1, 0, 13]))))
def c_slices_partitionCmpFunc_Sweep_l2 : CC := (.seq (.seq (.region 0 [⟨0, (some 50), none, .mv (.s 12)⟩, ⟨1, (some 51), none, .mv (.s 13)⟩, ⟨2, (some 52), none, .bin .leq (.s 50) (.s 51)⟩, ⟨3, (some 53), none, .mv (.s 52)⟩, ⟨4, (some 54), (some (53, true)), .mv (.s 4)⟩, ⟨5, (some 55), (some (53, true)), .mv (.s 0)⟩, ⟨6, (some 56), (some (53, true)), .mv (.s 13)⟩, ⟨7, (some 57), (some (53, true)), .iaddr 4 (.s 55) (.s 56)⟩, ⟨9, (some 59), (some (53, true)), .mv (.s 0)⟩, ⟨10, (some 60), (some (53, true)), .mv (.s 1)⟩, ⟨11, (some 61), (some (53, true)), .iaddr 4 (.s 59) (.s 60)⟩, ⟨8, (some 58), (some (53, true)), .load true 4 (.s 57)⟩, ⟨12, (some 62), (some (53, true)), .load true 4 (.s 61)⟩, ⟨13, (some 63), (some (53, true)), .call ⟨true⟩ (.s 54) [(.s 58), (.s 62)]⟩, ⟨14, (some 64), (some (53, true)), .bin .lss (.s 63) (.k (.c (.int .i64 0)))⟩, ⟨15, (some 65), (some (53, true)), .un .not (.s 64)⟩, ⟨16, (some 66), none, .pick (.s 53) (.s 65) (.k (.c (.bool false)))⟩] [] (some [66, 13, 0, 1, 12, 4]))
  (.cond (.s 66) .skip
  (.exit 2)))
  (.block 3 (.region 0 [⟨0, (some 67), none, .mv (.s 13)⟩, ⟨1, (some 68), none, .bin .sub (.s 67) (.k (.c (.int .i64 1)))⟩, ⟨2, (some 13), none, .mv (.s 68)⟩] [] (some [13, 0, 1, 12, 4]))))
def c_slices_partitionCmpFunc_Sweep_l3 : CC := (.seq (.seq (.region 0 [⟨0, (some 105), none, .mv (.s 12)⟩, ⟨1, (some 106), none, .mv (.s 13)⟩, ⟨2, (some 107), none, .bin .leq (.s 105) (.s 106)⟩, ⟨3, (some 108), none, .mv (.s 107)⟩, ⟨4, (some 109), (some (108, true)), .mv (.s 4)⟩, ⟨5, (some 110), (some (108, true)), .mv (.s 0)⟩, ⟨6, (some 111), (some (108, true)), .mv (.s 12)⟩, ⟨7, (some 112), (some (108, true)), .iaddr 4 (.s 110) (.s 111)⟩, ⟨9, (some 114), (some (108, true)), .mv (.s 0)⟩, ⟨10, (some 115), (some (108, true)), .mv (.s 1)⟩, ⟨11, (some 116), (some (108, true)), .iaddr 4 (.s 114) (.s 115)⟩, ⟨8, (some 113), (some (108, true)), .load true 4 (.s 112)⟩, ⟨12, (some 117), (some (108, true)), .load true 4 (.s 116)⟩, ⟨13, (some 118), (some (108, true)), .call ⟨true⟩ (.s 109) [(.s 113), (.s 117)]⟩, ⟨14, (some 119), (some (108, true)), .bin .lss (.s 118) (.k (.c (.int .i64 0)))⟩, ⟨15, (some 120), none, .pick (.s 108) (.s 119) (.k (.c (.bool false)))⟩] [] (some [120, 12, 4, 1, 0, 13]))
  (.cond (.s 120) .skip
  (.exit 6)))
  (.block 7 (.region 0 [⟨0, (some 121), none, .mv (.s 12)⟩, ⟨1, (some 122), none, .bin .add (.s 121) (.k (.c (.int .i64 1)))⟩, ⟨2, (some 12), none, .mv (.s 122)⟩] [] (some [12, 4, 1, 0, 13]))))
def c_slices_partitionCmpFunc_Sweep_l4 : CC := (.seq (.seq (.region 0 [⟨0, (some 123), none, .mv (.s 12)⟩, ⟨1, (some 124), none, .mv (.s 13)⟩, ⟨2, (some 125), none, .bin .leq (.s 123) (.s 124)⟩, ⟨3, (some 126), none, .mv (.s 125)⟩, ⟨4, (some 127), (some (126, true)), .mv (.s 4)⟩, ⟨5, (some 128), (some (126, true)), .mv (.s 0)⟩, ⟨6, (some 129), (some (126, true)), .mv (.s 13)⟩, ⟨7, (some 130), (some (126, true)), .iaddr 4 (.s 128) (.s 129)⟩, ⟨9, (some 132), (some (126, true)), .mv (.s 0)⟩, ⟨10, (some 133), (some (126, true)), .mv (.s 1)⟩, ⟨11, (some 134), (some (126, true)), .iaddr 4 (.s 132) (.s 133)⟩, ⟨8, (some 131), (some (126, true)), .load true 4 (.s 130)⟩, ⟨12, (some 135), (some (126, true)), .load true 4 (.s 134)⟩, ⟨13, (some 136), (some (126, true)), .call ⟨true⟩ (.s 127) [(.s 131), (.s 135)]⟩, ⟨14, (some 137), (some (126, true)), .bin .lss (.s 136) (.k (.c (.int .i64 0)))⟩, ⟨15, (some 138), (some (126, true)), .un .not (.s 137)⟩, ⟨16, (some 139), none, .pick (.s 126) (.s 138) (.k (.c (.bool false)))⟩] [] (some [139, 13, 0, 1, 12, 4]))
  (.cond (.s 139) .skip
  (.exit 8)))
  (.block 9 (.region 0 [⟨0, (some 140), none, .mv (.s 13)⟩, ⟨1, (some 141), none, .bin .sub (.s 140) (.k (.c (.int .i64 1)))⟩, ⟨2, (some 13), none, .mv (.s 141)⟩] [] (some [13, 0, 1, 12, 4]))))
def c_slices_partitionCmpFunc_Sweep_l5 : CC := (.block 5 (.seq (.block 6 (.loop (some [12, 4, 1, 0, 13]) c_slices_partitionCmpFunc_Sweep_l3))
  (.seq (.block 8 (.loop (some [13, 0, 1, 12, 4]) c_slices_partitionCmpFunc_Sweep_l4))
  (.seq (.seq (.region 0 [⟨0, (some 142), none, .mv (.s 12)⟩, ⟨1, (some 143), none, .mv (.s 13)⟩, ⟨2, (some 144), none, .bin .gtr (.s 142) (.s 143)⟩] [] (some [144, 4, 12, 1, 0, 13]))
  (.cond (.s 144) (.exit 4)
  .skip))
  (.seq (.region 0 [⟨0, (some 145), none, .mv (.s 0)⟩, ⟨1, (some 146), none, .mv (.s 12)⟩, ⟨2, (some 147), none, .mv (.s 0)⟩, ⟨3, (some 148), none, .mv (.s 13)⟩, ⟨4, (some 149), none, .mv (.s 0)⟩, ⟨5, (some 150), none, .mv (.s 13)⟩, ⟨6, (some 151), none, .iaddr 4 (.s 149) (.s 150)⟩, ⟨8, (some 153), none, .mv (.s 0)⟩, ⟨9, (some 154), none, .mv (.s 12)⟩, ⟨10, (some 155), none, .iaddr 4 (.s 153) (.s 154)⟩, ⟨7, (some 152), none, .load true 4 (.s 151)⟩, ⟨11, (some 156), none, .load true 4 (.s 155)⟩, ⟨12, (some 157), none, .iaddr 4 (.s 145) (.s 146)⟩, ⟨13, none, none, .store 4 (.s 157) (.s 152)⟩, ⟨14, (some 158), none, .iaddr 4 (.s 147) (.s 148)⟩, ⟨15, none, none, .store 4 (.s 158) (.s 156)⟩] [] (some [12, 13, 4, 1, 0]))
  (.seq (.region 0 [⟨0, (some 159), none, .mv (.s 12)⟩, ⟨1, (some 160), none, .bin .add (.s 159) (.k (.c (.int .i64 1)))⟩, ⟨2, (some 12), none, .mv (.s 160)⟩] [] (some [13, 12, 4, 1, 0]))
  (.region 0 [⟨0, (some 161), none, .mv (.s 13)⟩, ⟨1, (some 162), none, .bin .sub (.s 161) (.k (.c (.int .i64 1)))⟩, ⟨2, (some 13), none, .mv (.s 162)⟩] [] (some [12, 4, 1, 0, 13]))))))))
abbrev f_slices_partitionCmpFunc_Sweep : Nat := 232
def c_slices_partitionCmpFunc_Sweep : CFn := { frz := true, rnd := none, nargs := 5, ntmps := 178, res := [(.slot 10), (.slot 11)], code :=
  (.seq (.region 0 [⟨0, (some 10), none, .mv (.k (.c (.int .i64 0)))⟩, ⟨1, (some 11), none, .mv (.k (.c (.bool false)))⟩] [] (some [3, 2, 4, 1, 0]))
  (.seq (.region 0 [⟨0, (some 14), none, .mv (.s 0)⟩, ⟨1, (some 15), none, .mv (.s 1)⟩, ⟨2, (some 16), none, .mv (.s 0)⟩, ⟨3, (some 17), none, .mv (.s 3)⟩, ⟨4, (some 18), none, .mv (.s 0)⟩, ⟨5, (some 19), none, .mv (.s 3)⟩, ⟨6, (some 20), none, .iaddr 4 (.s 18) (.s 19)⟩, ⟨8, (some 22), none, .mv (.s 0)⟩, ⟨9, (some 23), none, .mv (.s 1)⟩, ⟨10, (some 24), none, .iaddr 4 (.s 22) (.s 23)⟩, ⟨7, (some 21), none, .load true 4 (.s 20)⟩, ⟨11, (some 25), none, .load true 4 (.s 24)⟩, ⟨12, (some 26), none, .iaddr 4 (.s 14) (.s 15)⟩, ⟨13, none, none, .store 4 (.s 26) (.s 21)⟩, ⟨14, (some 27), none, .iaddr 4 (.s 16) (.s 17)⟩, ⟨15, none, none, .store 4 (.s 27) (.s 25)⟩] [] (some [2, 4, 1, 0]))
  (.seq (.region 0 [⟨0, (some 28), none, .mv (.s 1)⟩, ⟨1, (some 29), none, .bin .add (.s 28) (.k (.c (.int .i64 1)))⟩, ⟨2, (some 30), none, .mv (.s 2)⟩, ⟨3, (some 31), none, .bin .sub (.s 30) (.k (.c (.int .i64 1)))⟩, ⟨4, (some 12), none, .mv (.s 29)⟩, ⟨5, (some 13), none, .mv (.s 31)⟩] [] (some [12, 4, 1, 0, 13]))
  (.seq (.block 0 (.loop (some [12, 4, 1, 0, 13]) c_slices_partitionCmpFunc_Sweep_l1))
  (.seq (.block 2 (.loop (some [13, 0, 1, 12, 4]) c_slices_partitionCmpFunc_Sweep_l2))
  (.seq (.seq (.region 0 [⟨0, (some 69), none, .mv (.s 12)⟩, ⟨1, (some 70), none, .mv (.s 13)⟩, ⟨2, (some 71), none, .bin .gtr (.s 69) (.s 70)⟩] [] (some [71, 4, 12, 1, 0, 13]))
  (.cond (.s 71) (.seq (.region 0 [⟨0, (some 72), none, .mv (.s 0)⟩, ⟨1, (some 73), none, .mv (.s 13)⟩, ⟨2, (some 74), none, .mv (.s 0)⟩, ⟨3, (some 75), none, .mv (.s 1)⟩, ⟨4, (some 76), none, .mv (.s 0)⟩, ⟨5, (some 77), none, .mv (.s 1)⟩, ⟨6, (some 78), none, .iaddr 4 (.s 76) (.s 77)⟩, ⟨8, (some 80), none, .mv (.s 0)⟩, ⟨9, (some 81), none, .mv (.s 13)⟩, ⟨10, (some 82), none, .iaddr 4 (.s 80) (.s 81)⟩, ⟨7, (some 79), none, .load true 4 (.s 78)⟩, ⟨11, (some 83), none, .load true 4 (.s 82)⟩, ⟨12, (some 84), none, .iaddr 4 (.s 72) (.s 73)⟩, ⟨13, none, none, .store 4 (.s 84) (.s 79)⟩, ⟨14, (some 85), none, .iaddr 4 (.s 74) (.s 75)⟩, ⟨15, none, none, .store 4 (.s 85) (.s 83)⟩] [] (some [13]))
  (.seq (.region 0 [⟨0, (some 86), none, .mv (.s 13)⟩, ⟨1, (some 10), none, .mv (.s 86)⟩, ⟨2, (some 11), none, .mv (.k (.c (.bool true)))⟩] [] (some [10, 11]))
  .ret))
  .skip))
  (.seq (.region 0 [⟨0, (some 87), none, .mv (.s 0)⟩, ⟨1, (some 88), none, .mv (.s 12)⟩, ⟨2, (some 89), none, .mv (.s 0)⟩, ⟨3, (some 90), none, .mv (.s 13)⟩, ⟨4, (some 91), none, .mv (.s 0)⟩, ⟨5, (some 92), none, .mv (.s 13)⟩, ⟨6, (some 93), none, .iaddr 4 (.s 91) (.s 92)⟩, ⟨8, (some 95), none, .mv (.s 0)⟩, ⟨9, (some 96), none, .mv (.s 12)⟩, ⟨10, (some 97), none, .iaddr 4 (.s 95) (.s 96)⟩, ⟨7, (some 94), none, .load true 4 (.s 93)⟩, ⟨11, (some 98), none, .load true 4 (.s 97)⟩, ⟨12, (some 99), none, .iaddr 4 (.s 87) (.s 88)⟩, ⟨13, none, none, .store 4 (.s 99) (.s 94)⟩, ⟨14, (some 100), none, .iaddr 4 (.s 89) (.s 90)⟩, ⟨15, none, none, .store 4 (.s 100) (.s 98)⟩] [] (some [12, 13, 4, 1, 0]))
  (.seq (.region 0 [⟨0, (some 101), none, .mv (.s 12)⟩, ⟨1, (some 102), none, .bin .add (.s 101) (.k (.c (.int .i64 1)))⟩, ⟨2, (some 12), none, .mv (.s 102)⟩] [] (some [13, 12, 4, 1, 0]))
  (.seq (.region 0 [⟨0, (some 103), none, .mv (.s 13)⟩, ⟨1, (some 104), none, .bin .sub (.s 103) (.k (.c (.int .i64 1)))⟩, ⟨2, (some 13), none, .mv (.s 104)⟩] [] (some [12, 4, 1, 0, 13]))
  (.seq (.block 4 (.loop (some [12, 4, 1, 0, 13]) c_slices_partitionCmpFunc_Sweep_l5))
  (.seq (.region 0 [⟨0, (some 163), none, .mv (.s 0)⟩, ⟨1, (some 164), none, .mv (.s 13)⟩, ⟨2, (some 165), none, .mv (.s 0)⟩, ⟨3, (some 166), none, .mv (.s 1)⟩, ⟨4, (some 167), none, .mv (.s 0)⟩, ⟨5, (some 168), none, .mv (.s 1)⟩, ⟨6, (some 169), none, .iaddr 4 (.s 167) (.s 168)⟩, ⟨8, (some 171), none, .mv (.s 0)⟩, ⟨9, (some 172), none, .mv (.s 13)⟩, ⟨10, (some 173), none, .iaddr 4 (.s 171) (.s 172)⟩, ⟨7, (some 170), none, .load true 4 (.s 169)⟩, ⟨11, (some 174), none, .load true 4 (.s 173)⟩, ⟨12, (some 175), none, .iaddr 4 (.s 163) (.s 164)⟩, ⟨13, none, none, .store 4 (.s 175) (.s 170)⟩, ⟨14, (some 176), none, .iaddr 4 (.s 165) (.s 166)⟩, ⟨15, none, none, .store 4 (.s 176) (.s 174)⟩] [] (some [13]))
  (.seq (.region 0 [⟨0, (some 177), none, .mv (.s 13)⟩, ⟨1, (some 10), none, .mv (.s 177)⟩, ⟨2, (some 11), none, .mv (.k (.c (.bool false)))⟩] [] (some [10, 11]))
  .ret)))))))))))) }
abbrev f_cmp_isNaN_int : Nat := 233
def c_cmp_isNaN_int : CFn := { frz := true, rnd := none, nargs := 1, ntmps := 6, res := [(.slot 2)], code :=
  (.seq (.region 0 [⟨0, (some 2), none, .mv (.k (.c (.bool false)))⟩] [] (some [0]))
  (.seq (.region 0 [⟨0, (some 3), none, .mv (.s 0)⟩, ⟨1, (some 4), none, .mv (.s 0)⟩, ⟨2, (some 5), none, .bin .neq (.s 3) (.s 4)⟩, ⟨3, (some 2), none, .mv (.s 5)⟩] [] (some [2]))
  .ret)) }
def c_slices_IndexFunc_Blob_l1 : CC := (.seq (.region 0 [⟨0, (some 9), none, .bin .lss (.s 8) (.s 7)⟩] [] (some [9, 0, 1, 7, 8]))
  (.seq (.cond (.s 9) .skip
  (.exit 0))
  (.seq (.block 1 (.seq (.region 0 [⟨0, (some 10), none, .mv (.s 8)⟩, ⟨1, (some 5), none, .mv (.s 10)⟩] [] (some [0, 1, 7, 8, 5]))
  (.seq (.region 0 [⟨0, (some 11), none, .mv (.s 1)⟩, ⟨1, (some 12), none, .mv (.s 0)⟩, ⟨2, (some 13), none, .mv (.s 5)⟩, ⟨3, (some 14), none, .iaddr 6 (.s 12) (.s 13)⟩, ⟨4, (some 15), none, .load true 6 (.s 14)⟩, ⟨5, (some 16), none, .call ⟨true⟩ (.s 11) [(.s 15)]⟩] [] (some [16, 0, 1, 7, 8, 5]))
  (.cond (.s 16) (.seq (.region 0 [⟨0, (some 17), none, .mv (.s 5)⟩, ⟨1, (some 4), none, .mv (.s 17)⟩] [] (some [4]))
  .ret)
  .skip))))
  (.region 0 [⟨0, (some 18), none, .bin .add (.s 8) (.k (.c (.int .i64 1)))⟩, ⟨1, (some 8), none, .mv (.s 18)⟩] [] (some [7, 1, 0, 8])))))
abbrev f_slices_IndexFunc_Blob : Nat := 234
def c_slices_IndexFunc_Blob : CFn := { frz := true, rnd := none, nargs := 2, ntmps := 19, res := [(.slot 4)], code :=
  (.seq (.region 0 [⟨0, (some 4), none, .mv (.k (.c (.int .i64 0)))⟩] [] (some [1, 0]))
  (.seq (.seq (.region 0 [⟨0, (some 6), none, .mv (.s 0)⟩, ⟨1, (some 7), none, .len (.s 6)⟩, ⟨2, (some 8), none, .mv (.k (.c (.int .i64 0)))⟩] [] (some [7, 1, 0, 8]))
  (.block 0 (.loop (some [7, 1, 0, 8]) c_slices_IndexFunc_Blob_l1)))
  (.seq (.region 0 [⟨0, (some 4), none, .mv (.k (.c (.int .i64 (-1))))⟩] [] (some [4]))
  .ret))) }
def c_slices_stableCmpFunc_Blob_l1 : CC := (.seq (.seq (.region 0 [⟨0, (some 11), none, .mv (.s 8)⟩, ⟨1, (some 12), none, .mv (.s 1)⟩, ⟨2, (some 13), none, .bin .leq (.s 11) (.s 12)⟩] [] (some [13, 7, 8, 1, 0, 2, 6]))
  (.cond (.s 13) .skip
  (.exit 0)))
  (.block 1 (.seq (.region 0 [⟨0, (some 14), none, .mv (.s 0)⟩, ⟨1, (some 15), none, .mv (.s 7)⟩, ⟨2, (some 16), none, .mv (.s 8)⟩, ⟨3, (some 17), none, .mv (.s 2)⟩, ⟨4, (some 18), none, .call ⟨false⟩ (.k (.c (.fn 277 [] []))) [(.s 14), (.s 15), (.s 16), (.s 17)]⟩] [] (some [8, 1, 0, 2, 6]))
  (.seq (.region 0 [⟨0, (some 19), none, .mv (.s 8)⟩, ⟨1, (some 7), none, .mv (.s 19)⟩] [] (some [8, 7, 1, 0, 2, 6]))
  (.region 0 [⟨0, (some 20), none, .mv (.s 8)⟩, ⟨1, (some 21), none, .mv (.s 6)⟩, ⟨2, (some 22), none, .bin .add (.s 20) (.s 21)⟩, ⟨3, (some 8), none, .mv (.s 22)⟩] [] (some [7, 8, 1, 0, 2, 6]))))))
def c_slices_stableCmpFunc_Blob_l2 : CC := (.seq (.seq (.region 0 [⟨0, (some 33), none, .mv (.s 8)⟩, ⟨1, (some 34), none, .mv (.s 1)⟩, ⟨2, (some 35), none, .bin .leq (.s 33) (.s 34)⟩] [] (some [35, 7, 8, 1, 0, 2, 6]))
  (.cond (.s 35) .skip
  (.exit 4)))
  (.block 5 (.seq (.region 0 [⟨0, (some 36), none, .mv (.s 0)⟩, ⟨1, (some 37), none, .mv (.s 7)⟩, ⟨2, (some 38), none, .mv (.s 7)⟩, ⟨3, (some 39), none, .mv (.s 6)⟩, ⟨4, (some 40), none, .bin .add (.s 38) (.s 39)⟩, ⟨5, (some 41), none, .mv (.s 8)⟩, ⟨6, (some 42), none, .mv (.s 2)⟩, ⟨7, (some 43), none, .call ⟨false⟩ (.k (.c (.fn 278 [] []))) [(.s 36), (.s 37), (.s 40), (.s 41), (.s 42)]⟩] [] (some [8, 1, 0, 2, 6]))
  (.seq (.region 0 [⟨0, (some 44), none, .mv (.s 8)⟩, ⟨1, (some 7), none, .mv (.s 44)⟩] [] (some [8, 7, 1, 0, 2, 6]))
  (.region 0 [⟨0, (some 45), none, .mv (.s 8)⟩, ⟨1, (some 46), none, .mv (.s 6)⟩, ⟨2, (some 47), none, .bin .mul (.k (.c (.int .i64 2))) (.s 46)⟩, ⟨3, (some 48), none, .bin .add (.s 45) (.s 47)⟩, ⟨4, (some 8), none, .mv (.s 48)⟩] [] (some [7, 8, 1, 0, 2, 6]))))))
def c_slices_stableCmpFunc_Blob_l3 : CC := (.seq (.seq (.region 0 [⟨0, (some 28), none, .mv (.s 6)⟩, ⟨1, (some 29), none, .mv (.s 1)⟩, ⟨2, (some 30), none, .bin .lss (.s 28) (.s 29)⟩] [] (some [30, 1, 0, 2, 6]))
  (.cond (.s 30) .skip
  (.exit 2)))
  (.block 3 (.seq (.region 0 [⟨0, (some 31), none, .mv (.s 6)⟩, ⟨1, (some 32), none, .bin .mul (.k (.c (.int .i64 2))) (.s 31)⟩, ⟨2, (some 7), none, .mv (.k (.c (.int .i64 0)))⟩, ⟨3, (some 8), none, .mv (.s 32)⟩] [] (some [7, 8, 1, 0, 2, 6]))
  (.seq (.block 4 (.loop (some [7, 8, 1, 0, 2, 6]) c_slices_stableCmpFunc_Blob_l2))
  (.seq (.seq (.region 0 [⟨0, (some 49), none, .mv (.s 7)⟩, ⟨1, (some 50), none, .mv (.s 6)⟩, ⟨2, (some 51), none, .bin .add (.s 49) (.s 50)⟩, ⟨3, (some 9), none, .mv (.s 51)⟩] [] (some [7, 9, 6, 1, 0, 2]))
  (.seq (.region 0 [⟨0, (some 52), none, .mv (.s 9)⟩, ⟨1, (some 53), none, .mv (.s 1)⟩, ⟨2, (some 54), none, .bin .lss (.s 52) (.s 53)⟩] [] (some [54, 7, 9, 6, 1, 0, 2]))
  (.cond (.s 54) (.region 0 [⟨0, (some 55), none, .mv (.s 0)⟩, ⟨1, (some 56), none, .mv (.s 7)⟩, ⟨2, (some 57), none, .mv (.s 9)⟩, ⟨3, (some 58), none, .mv (.s 1)⟩, ⟨4, (some 59), none, .mv (.s 2)⟩, ⟨5, (some 60), none, .call ⟨false⟩ (.k (.c (.fn 278 [] []))) [(.s 55), (.s 56), (.s 57), (.s 58), (.s 59)]⟩] [] (some [6, 1, 0, 2]))
  .skip)))
  (.region 0 [⟨0, (some 61), none, .mv (.s 6)⟩, ⟨1, (some 62), none, .bin .mul (.s 61) (.k (.c (.int .i64 2)))⟩, ⟨2, (some 6), none, .mv (.s 62)⟩] [] (some [1, 0, 2, 6])))))))
abbrev f_slices_stableCmpFunc_Blob : Nat := 235
def c_slices_stableCmpFunc_Blob : CFn := { frz := true, rnd := none, nargs := 3, ntmps := 63, res := [], code :=
  (.seq (.region 0 [⟨0, (some 6), none, .mv (.k (.c (.int .i64 20)))⟩] [] (some [1, 0, 2, 6]))
  (.seq (.region 0 [⟨0, (some 10), none, .mv (.s 6)⟩, ⟨1, (some 7), none, .mv (.k (.c (.int .i64 0)))⟩, ⟨2, (some 8), none, .mv (.s 10)⟩] [] (some [7, 8, 1, 0, 2, 6]))
  (.seq (.block 0 (.loop (some [7, 8, 1, 0, 2, 6]) c_slices_stableCmpFunc_Blob_l1))
  (.seq (.region 0 [⟨0, (some 23), none, .mv (.s 0)⟩, ⟨1, (some 24), none, .mv (.s 7)⟩, ⟨2, (some 25), none, .mv (.s 1)⟩, ⟨3, (some 26), none, .mv (.s 2)⟩, ⟨4, (some 27), none, .call ⟨false⟩ (.k (.c (.fn 277 [] []))) [(.s 23), (.s 24), (.s 25), (.s 26)]⟩] [] (some [1, 0, 2, 6]))
  (.block 2 (.loop (some [1, 0, 2, 6]) c_slices_stableCmpFunc_Blob_l3)))))) }
def c_curve_pieces_1_l1 : CC := (.seq (.region 0 [⟨0, (some 13), none, .bin .lss (.s 12) (.s 11)⟩] [] (some [13, 1, 0, 11, 12, 3]))
  (.seq (.cond (.s 13) .skip
  (.exit 0))
  (.seq (.block 1 (.seq (.region 0 [⟨0, (some 14), none, .mv (.s 12)⟩, ⟨1, (some 4), none, .mv (.s 14)⟩] [] (some [4, 1, 0, 11, 12, 3]))
  (.seq (.region 1 [⟨0, (some 15), none, .faddr 0 (.s 1)⟩, ⟨2, (some 17), none, .mv (.s 4)⟩, ⟨5, (some 20), none, .faddr 0 (.s 1)⟩, ⟨7, (some 22), none, .mv (.s 4)⟩, ⟨8, (some 23), none, .bin .add (.s 22) (.k (.c (.int .i64 1)))⟩, ⟨1, (some 16), none, .load false 1 (.s 15)⟩, ⟨3, (some 18), none, .iaddr 2 (.s 16) (.s 17)⟩, ⟨4, (some 19), none, .load true 2 (.s 18)⟩, ⟨6, (some 21), none, .load false 1 (.s 20)⟩, ⟨9, (some 24), none, .iaddr 2 (.s 21) (.s 23)⟩, ⟨10, (some 25), none, .load true 2 (.s 24)⟩, ⟨11, (some 26), none, .call ⟨true⟩ (.k (.c (.fn 169 [] []))) [(.s 19), (.s 25)]⟩, ⟨12, (some 5), none, .box 0 2 (.k (.a [(.int .i64 0), (.int .i64 0)]))⟩, ⟨13, none, none, .store 2 (.s 5) (.s 26)⟩] [(5, 12), (7, 12), (8, 12), (10, 12), (11, 12)] (some [4, 5, 1, 0, 11, 12, 3]))
  (.seq (.region 0 [⟨0, (some 28), none, .load true 2 (.s 5)⟩, ⟨1, (some 29), none, .load true 2 (.s 5)⟩, ⟨2, (some 30), none, .call ⟨true⟩ (.k (.c (.fn 170 [] []))) [(.s 28), (.s 29)]⟩, ⟨3, (some 31), none, .call ⟨true⟩ (.k (.c (.fn 220 [] []))) [(.s 30)]⟩, ⟨4, (some 27), none, .mv (.s 31)⟩, ⟨5, (some 32), none, .extract 27 0⟩, ⟨6, (some 33), none, .extract 27 1⟩, ⟨7, (some 6), none, .mv (.s 32)⟩, ⟨8, (some 7), none, .mv (.s 33)⟩] [] (some [4, 5, 1, 0, 11, 12, 6, 3]))
  (.seq (.seq (.region 0 [⟨0, (some 34), none, .mv (.s 0)⟩, ⟨1, (some 35), none, .mv (.s 4)⟩, ⟨2, (some 36), none, .faddr 0 (.s 1)⟩, ⟨4, (some 38), none, .mv (.s 4)⟩, ⟨8, (some 42), none, .mv (.s 6)⟩, ⟨9, (some 43), none, .mv (.s 3)⟩, ⟨3, (some 37), none, .load false 1 (.s 36)⟩, ⟨5, (some 39), none, .iaddr 2 (.s 37) (.s 38)⟩, ⟨6, (some 40), none, .load true 2 (.s 39)⟩, ⟨7, (some 41), none, .load true 2 (.s 5)⟩, ⟨10, (some 44), none, .build [(.int .i64 0), (.int .i64 0), (.int .i64 0), (.int .i64 0), (.int .i64 0), (.int .i64 0)] [(0, 2, (.s 40)), (2, 2, (.s 41)), (4, 1, (.s 42)), (5, 1, (.s 43))]⟩, ⟨11, (some 45), none, .call ⟨true⟩ (.s 34) [(.s 35), (.s 44)]⟩, ⟨12, (some 46), none, .un .not (.s 45)⟩] [] (some [46, 1, 0, 11, 12, 6, 3]))
  (.cond (.s 46) .ret
  .skip))
  (.region 0 [⟨0, (some 47), none, .mv (.s 3)⟩, ⟨1, (some 48), none, .mv (.s 6)⟩, ⟨2, (some 49), none, .bin .add (.s 47) (.s 48)⟩, ⟨3, (some 3), none, .mv (.s 49)⟩] [] (some [12, 11, 0, 1, 3])))))))
  (.region 0 [⟨0, (some 50), none, .bin .add (.s 12) (.k (.c (.int .i64 1)))⟩, ⟨1, (some 12), none, .mv (.s 50)⟩] [] (some [11, 0, 1, 12, 3])))))
abbrev f_curve_pieces_1 : Nat := 236
def c_curve_pieces_1 : CFn := { frz := true, rnd := none, nargs := 2, ntmps := 51, res := [], code :=
  (.seq (.region 0 [⟨0, (some 3), none, .mv (.k (.c (.int .i64 0)))⟩] [] (some [0, 1, 3]))
  (.seq (.region 0 [⟨0, (some 8), none, .faddr 0 (.s 1)⟩, ⟨1, (some 9), none, .load false 1 (.s 8)⟩, ⟨2, (some 10), none, .len (.s 9)⟩, ⟨3, (some 11), none, .bin .sub (.s 10) (.k (.c (.int .i64 1)))⟩, ⟨4, (some 12), none, .mv (.k (.c (.int .i64 0)))⟩] [] (some [11, 0, 1, 12, 3]))
  (.block 0 (.loop (some [11, 0, 1, 12, 3]) c_curve_pieces_1_l1)))) }
def c_slices_siftDownCmpFunc_Found_l1 : CC := (.block 1 (.seq (.region 0 [⟨0, (some 13), none, .mv (.s 10)⟩, ⟨1, (some 14), none, .bin .mul (.k (.c (.int .i64 2))) (.s 13)⟩, ⟨2, (some 15), none, .bin .add (.s 14) (.k (.c (.int .i64 1)))⟩, ⟨3, (some 11), none, .mv (.s 15)⟩] [] (some [10, 0, 3, 4, 2, 11]))
  (.seq (.seq (.region 0 [⟨0, (some 16), none, .mv (.s 11)⟩, ⟨1, (some 17), none, .mv (.s 2)⟩, ⟨2, (some 18), none, .bin .geq (.s 16) (.s 17)⟩] [] (some [18, 10, 0, 3, 4, 2, 11]))
  (.cond (.s 18) (.exit 0)
  .skip))
  (.seq (.seq (.region 0 [⟨0, (some 19), none, .mv (.s 11)⟩, ⟨1, (some 20), none, .bin .add (.s 19) (.k (.c (.int .i64 1)))⟩, ⟨2, (some 21), none, .mv (.s 2)⟩, ⟨3, (some 22), none, .bin .lss (.s 20) (.s 21)⟩, ⟨4, (some 23), none, .mv (.s 22)⟩, ⟨5, (some 24), (some (23, true)), .mv (.s 4)⟩, ⟨6, (some 25), (some (23, true)), .mv (.s 0)⟩, ⟨7, (some 26), (some (23, true)), .mv (.s 3)⟩, ⟨8, (some 27), (some (23, true)), .mv (.s 11)⟩, ⟨9, (some 28), (some (23, true)), .bin .add (.s 26) (.s 27)⟩, ⟨10, (some 29), (some (23, true)), .iaddr 5 (.s 25) (.s 28)⟩, ⟨12, (some 31), (some (23, true)), .mv (.s 0)⟩, ⟨13, (some 32), (some (23, true)), .mv (.s 3)⟩, ⟨14, (some 33), (some (23, true)), .mv (.s 11)⟩, ⟨15, (some 34), (some (23, true)), .bin .add (.s 32) (.s 33)⟩, ⟨16, (some 35), (some (23, true)), .bin .add (.s 34) (.k (.c (.int .i64 1)))⟩, ⟨17, (some 36), (some (23, true)), .iaddr 5 (.s 31) (.s 35)⟩, ⟨11, (some 30), (some (23, true)), .load true 5 (.s 29)⟩, ⟨18, (some 37), (some (23, true)), .load true 5 (.s 36)⟩, ⟨19, (some 38), (some (23, true)), .call ⟨true⟩ (.s 24) [(.s 30), (.s 37)]⟩, ⟨20, (some 39), (some (23, true)), .bin .lss (.s 38) (.k (.c (.int .i64 0)))⟩, ⟨21, (some 40), none, .pick (.s 23) (.s 39) (.k (.c (.bool false)))⟩] [] (some [40, 11, 2, 4, 3, 0, 10]))
  (.cond (.s 40) (.region 0 [⟨0, (some 41), none, .mv (.s 11)⟩, ⟨1, (some 42), none, .bin .add (.s 41) (.k (.c (.int .i64 1)))⟩, ⟨2, (some 11), none, .mv (.s 42)⟩] [] (some [2, 4, 3, 0, 11, 10]))
  .skip))
  (.seq (.seq (.region 0 [⟨0, (some 43), none, .mv (.s 4)⟩, ⟨1, (some 44), none, .mv (.s 0)⟩, ⟨2, (some 45), none, .mv (.s 3)⟩, ⟨3, (some 46), none, .mv (.s 10)⟩, ⟨4, (some 47), none, .bin .add (.s 45) (.s 46)⟩, ⟨5, (some 48), none, .iaddr 5 (.s 44) (.s 47)⟩, ⟨7, (some 50), none, .mv (.s 0)⟩, ⟨8, (some 51), none, .mv (.s 3)⟩, ⟨9, (some 52), none, .mv (.s 11)⟩, ⟨10, (some 53), none, .bin .add (.s 51) (.s 52)⟩, ⟨11, (some 54), none, .iaddr 5 (.s 50) (.s 53)⟩, ⟨6, (some 49), none, .load true 5 (.s 48)⟩, ⟨12, (some 55), none, .load true 5 (.s 54)⟩, ⟨13, (some 56), none, .call ⟨true⟩ (.s 43) [(.s 49), (.s 55)]⟩, ⟨14, (some 57), none, .bin .lss (.s 56) (.k (.c (.int .i64 0)))⟩, ⟨15, (some 58), none, .un .not (.s 57)⟩] [] (some [58, 2, 4, 3, 0, 11, 10]))
  (.cond (.s 58) .ret
  .skip))
  (.seq (.region 0 [⟨0, (some 59), none, .mv (.s 0)⟩, ⟨1, (some 60), none, .mv (.s 3)⟩, ⟨2, (some 61), none, .mv (.s 10)⟩, ⟨3, (some 62), none, .bin .add (.s 60) (.s 61)⟩, ⟨4, (some 63), none, .mv (.s 0)⟩, ⟨5, (some 64), none, .mv (.s 3)⟩, ⟨6, (some 65), none, .mv (.s 11)⟩, ⟨7, (some 66), none, .bin .add (.s 64) (.s 65)⟩, ⟨8, (some 67), none, .mv (.s 0)⟩, ⟨9, (some 68), none, .mv (.s 3)⟩, ⟨10, (some 69), none, .mv (.s 11)⟩, ⟨11, (some 70), none, .bin .add (.s 68) (.s 69)⟩, ⟨12, (some 71), none, .iaddr 5 (.s 67) (.s 70)⟩, ⟨14, (some 73), none, .mv (.s 0)⟩, ⟨15, (some 74), none, .mv (.s 3)⟩, ⟨16, (some 75), none, .mv (.s 10)⟩, ⟨17, (some 76), none, .bin .add (.s 74) (.s 75)⟩, ⟨18, (some 77), none, .iaddr 5 (.s 73) (.s 76)⟩, ⟨13, (some 72), none, .load true 5 (.s 71)⟩, ⟨19, (some 78), none, .load true 5 (.s 77)⟩, ⟨20, (some 79), none, .iaddr 5 (.s 59) (.s 62)⟩, ⟨21, none, none, .store 5 (.s 79) (.s 72)⟩, ⟨22, (some 80), none, .iaddr 5 (.s 63) (.s 66)⟩, ⟨23, none, none, .store 5 (.s 80) (.s 78)⟩] [] (some [11, 0, 3, 4, 2]))
  (.region 0 [⟨0, (some 81), none, .mv (.s 11)⟩, ⟨1, (some 10), none, .mv (.s 81)⟩] [] (some [10, 0, 3, 4, 2]))))))))
abbrev f_slices_siftDownCmpFunc_Found : Nat := 237
def c_slices_siftDownCmpFunc_Found : CFn := { frz := true, rnd := none, nargs := 5, ntmps := 82, res := [], code :=
  (.seq (.region 0 [⟨0, (some 12), none, .mv (.s 1)⟩, ⟨1, (some 10), none, .mv (.s 12)⟩] [] (some [10, 0, 3, 4, 2]))
  (.block 0 (.loop (some [10, 0, 3, 4, 2]) c_slices_siftDownCmpFunc_Found_l1))) }
abbrev f_slices_nextPowerOfTwo : Nat := 238
def c_slices_nextPowerOfTwo : CFn := { frz := true, rnd := none, nargs := 1, ntmps := 7, res := [(.slot 2)], code :=
  (.seq (.region 0 [⟨0, (some 2), none, .mv (.k (.c (.int .u64 0)))⟩] [] (some [0]))
  (.seq (.region 0 [⟨0, (some 3), none, .mv (.s 0)⟩, ⟨1, (some 4), none, .conv .u64 (.s 3)⟩, ⟨2, (some 5), none, .call ⟨true⟩ (.k (.c (.fn 107 [] []))) [(.s 4)]⟩, ⟨3, (some 6), none, .bin .shl (.k (.c (.int .u64 1))) (.s 5)⟩, ⟨4, (some 2), none, .mv (.s 6)⟩] [] (some [2]))
  .ret)) }
abbrev f_slices_xorshift_Next : Nat := 239
def c_slices_xorshift_Next : CFn := { frz := true, rnd := none, nargs := 1, ntmps := 33, res := [(.slot 2)], code :=
  (.seq (.region 0 [⟨0, (some 2), none, .mv (.k (.c (.int .u64 0)))⟩] [] (some [0]))
  (.seq (.region 0 [⟨0, (some 3), none, .mv (.s 0)⟩, ⟨1, (some 4), none, .nilck (.s 3)⟩, ⟨3, (some 6), none, .mv (.s 0)⟩, ⟨4, (some 7), none, .nilck (.s 6)⟩, ⟨2, (some 5), none, .load false 1 (.s 4)⟩, ⟨5, (some 8), none, .load false 1 (.s 7)⟩, ⟨6, (some 9), none, .bin .shl (.s 8) (.k (.c (.int .u64 13)))⟩, ⟨7, (some 10), none, .bin .xor (.s 5) (.s 9)⟩, ⟨8, (some 11), none, .nilck (.s 3)⟩, ⟨9, none, none, .store 1 (.s 11) (.s 10)⟩] [] (some [0]))
  (.seq (.region 0 [⟨0, (some 12), none, .mv (.s 0)⟩, ⟨1, (some 13), none, .nilck (.s 12)⟩, ⟨3, (some 15), none, .mv (.s 0)⟩, ⟨4, (some 16), none, .nilck (.s 15)⟩, ⟨2, (some 14), none, .load false 1 (.s 13)⟩, ⟨5, (some 17), none, .load false 1 (.s 16)⟩, ⟨6, (some 18), none, .bin .shr (.s 17) (.k (.c (.int .u64 7)))⟩, ⟨7, (some 19), none, .bin .xor (.s 14) (.s 18)⟩, ⟨8, (some 20), none, .nilck (.s 12)⟩, ⟨9, none, none, .store 1 (.s 20) (.s 19)⟩] [] (some [0]))
  (.seq (.region 0 [⟨0, (some 21), none, .mv (.s 0)⟩, ⟨1, (some 22), none, .nilck (.s 21)⟩, ⟨3, (some 24), none, .mv (.s 0)⟩, ⟨4, (some 25), none, .nilck (.s 24)⟩, ⟨2, (some 23), none, .load false 1 (.s 22)⟩, ⟨5, (some 26), none, .load false 1 (.s 25)⟩, ⟨6, (some 27), none, .bin .shl (.s 26) (.k (.c (.int .u64 17)))⟩, ⟨7, (some 28), none, .bin .xor (.s 23) (.s 27)⟩, ⟨8, (some 29), none, .nilck (.s 21)⟩, ⟨9, none, none, .store 1 (.s 29) (.s 28)⟩] [] (some [0]))
  (.seq (.region 0 [⟨0, (some 30), none, .mv (.s 0)⟩, ⟨1, (some 31), none, .nilck (.s 30)⟩, ⟨2, (some 32), none, .load false 1 (.s 31)⟩, ⟨3, (some 2), none, .mv (.s 32)⟩] [] (some [2]))
  .ret))))) }
abbrev f_slices_medianAdjacentCmpFunc_Found : Nat := 240
def c_slices_medianAdjacentCmpFunc_Found : CFn := { frz := true, rnd := none, nargs := 4, ntmps := 18, res := [(.slot 8)], code :=
  (.seq (.region 0 [⟨0, (some 8), none, .mv (.k (.c (.int .i64 0)))⟩] [] (some [0, 1, 2, 3]))
  (.seq (.region 0 [⟨0, (some 9), none, .mv (.s 0)⟩, ⟨1, (some 10), none, .mv (.s 1)⟩, ⟨2, (some 11), none, .bin .sub (.s 10) (.k (.c (.int .i64 1)))⟩, ⟨3, (some 12), none, .mv (.s 1)⟩, ⟨4, (some 13), none, .mv (.s 1)⟩, ⟨5, (some 14), none, .bin .add (.s 13) (.k (.c (.int .i64 1)))⟩, ⟨6, (some 15), none, .mv (.s 2)⟩, ⟨7, (some 16), none, .mv (.s 3)⟩, ⟨8, (some 17), none, .call ⟨false⟩ (.k (.c (.fn 241 [] []))) [(.s 9), (.s 11), (.s 12), (.s 14), (.s 15), (.s 16)]⟩, ⟨9, (some 8), none, .mv (.s 17)⟩] [] (some [8]))
  .ret)) }
abbrev f_slices_medianCmpFunc_Found : Nat := 241
def c_slices_medianCmpFunc_Found : CFn := { frz := true, rnd := none, nargs := 6, ntmps := 41, res := [(.slot 12)], code :=
  (.seq (.region 0 [⟨0, (some 12), none, .mv (.k (.c (.int .i64 0)))⟩] [] (some [1, 2, 3, 0, 4, 5]))
  (.seq (.region 0 [⟨0, (some 14), none, .mv (.s 0)⟩, ⟨1, (some 15), none, .mv (.s 1)⟩, ⟨2, (some 16), none, .mv (.s 2)⟩, ⟨3, (some 17), none, .mv (.s 4)⟩, ⟨4, (some 18), none, .mv (.s 5)⟩, ⟨5, (some 19), none, .call ⟨false⟩ (.k (.c (.fn 279 [] []))) [(.s 14), (.s 15), (.s 16), (.s 17), (.s 18)]⟩, ⟨6, (some 13), none, .mv (.s 19)⟩, ⟨7, (some 20), none, .extract 13 0⟩, ⟨8, (some 21), none, .extract 13 1⟩, ⟨9, (some 1), none, .mv (.s 20)⟩, ⟨10, (some 2), none, .mv (.s 21)⟩] [] (some [2, 3, 0, 1, 4, 5]))
  (.seq (.region 0 [⟨0, (some 23), none, .mv (.s 0)⟩, ⟨1, (some 24), none, .mv (.s 2)⟩, ⟨2, (some 25), none, .mv (.s 3)⟩, ⟨3, (some 26), none, .mv (.s 4)⟩, ⟨4, (some 27), none, .mv (.s 5)⟩, ⟨5, (some 28), none, .call ⟨false⟩ (.k (.c (.fn 279 [] []))) [(.s 23), (.s 24), (.s 25), (.s 26), (.s 27)]⟩, ⟨6, (some 22), none, .mv (.s 28)⟩, ⟨7, (some 29), none, .extract 22 0⟩, ⟨8, (some 30), none, .extract 22 1⟩, ⟨9, (some 2), none, .mv (.s 29)⟩, ⟨10, (some 3), none, .mv (.s 30)⟩] [] (some [0, 1, 2, 4, 5]))
  (.seq (.region 0 [⟨0, (some 32), none, .mv (.s 0)⟩, ⟨1, (some 33), none, .mv (.s 1)⟩, ⟨2, (some 34), none, .mv (.s 2)⟩, ⟨3, (some 35), none, .mv (.s 4)⟩, ⟨4, (some 36), none, .mv (.s 5)⟩, ⟨5, (some 37), none, .call ⟨false⟩ (.k (.c (.fn 279 [] []))) [(.s 32), (.s 33), (.s 34), (.s 35), (.s 36)]⟩, ⟨6, (some 31), none, .mv (.s 37)⟩, ⟨7, (some 38), none, .extract 31 0⟩, ⟨8, (some 39), none, .extract 31 1⟩, ⟨9, (some 1), none, .mv (.s 38)⟩, ⟨10, (some 2), none, .mv (.s 39)⟩] [] (some [2]))
  (.seq (.region 0 [⟨0, (some 40), none, .mv (.s 2)⟩, ⟨1, (some 12), none, .mv (.s 40)⟩] [] (some [12]))
  .ret))))) }
def c_slices_pdqsortOrdered_int64_l1 : CC := (.block 1 (.seq (.region 0 [⟨0, (some 19), none, .mv (.s 2)⟩, ⟨1, (some 20), none, .mv (.s 1)⟩, ⟨2, (some 21), none, .bin .sub (.s 19) (.s 20)⟩, ⟨3, (some 10), none, .mv (.s 21)⟩] [] (some [3, 9, 8, 10, 0, 1, 2]))
  (.seq (.seq (.region 0 [⟨0, (some 22), none, .mv (.s 10)⟩, ⟨1, (some 23), none, .bin .leq (.s 22) (.k (.c (.int .i64 12)))⟩] [] (some [23, 3, 9, 8, 10, 0, 1, 2]))
  (.cond (.s 23) (.seq (.region 0 [⟨0, (some 24), none, .mv (.s 0)⟩, ⟨1, (some 25), none, .mv (.s 1)⟩, ⟨2, (some 26), none, .mv (.s 2)⟩, ⟨3, (some 27), none, .call ⟨false⟩ (.k (.c (.fn 290 [] []))) [(.s 24), (.s 25), (.s 26)]⟩] [] (some []))
  .ret)
  .skip))
  (.seq (.seq (.region 0 [⟨0, (some 28), none, .mv (.s 3)⟩, ⟨1, (some 29), none, .bin .eql (.s 28) (.k (.c (.int .i64 0)))⟩] [] (some [29, 10, 8, 9, 3, 0, 1, 2]))
  (.cond (.s 29) (.seq (.region 0 [⟨0, (some 30), none, .mv (.s 0)⟩, ⟨1, (some 31), none, .mv (.s 1)⟩, ⟨2, (some 32), none, .mv (.s 2)⟩, ⟨3, (some 33), none, .call ⟨false⟩ (.k (.c (.fn 291 [] []))) [(.s 30), (.s 31), (.s 32)]⟩] [] (some []))
  .ret)
  .skip))
  (.seq (.seq (.region 0 [⟨0, (some 34), none, .mv (.s 8)⟩, ⟨1, (some 35), none, .un .not (.s 34)⟩] [] (some [35, 3, 2, 0, 9, 8, 1, 10]))
  (.cond (.s 35) (.seq (.region 0 [⟨0, (some 36), none, .mv (.s 0)⟩, ⟨1, (some 37), none, .mv (.s 1)⟩, ⟨2, (some 38), none, .mv (.s 2)⟩, ⟨3, (some 39), none, .call ⟨false⟩ (.k (.c (.fn 292 [] []))) [(.s 36), (.s 37), (.s 38)]⟩] [] (some [3, 2, 0, 9, 8, 1, 10]))
  (.region 0 [⟨0, (some 40), none, .mv (.s 3)⟩, ⟨1, (some 41), none, .bin .sub (.s 40) (.k (.c (.int .i64 1)))⟩, ⟨2, (some 3), none, .mv (.s 41)⟩] [] (some [2, 0, 9, 8, 3, 1, 10])))
  .skip))
  (.seq (.region 0 [⟨0, (some 43), none, .mv (.s 0)⟩, ⟨1, (some 44), none, .mv (.s 1)⟩, ⟨2, (some 45), none, .mv (.s 2)⟩, ⟨3, (some 46), none, .call ⟨false⟩ (.k (.c (.fn 293 [] []))) [(.s 43), (.s 44), (.s 45)]⟩, ⟨4, (some 42), none, .mv (.s 46)⟩, ⟨5, (some 47), none, .extract 42 0⟩, ⟨6, (some 48), none, .extract 42 1⟩, ⟨7, (some 11), none, .mv (.s 47)⟩, ⟨8, (some 12), none, .mv (.s 48)⟩] [] (some [12, 11, 2, 0, 9, 8, 3, 1, 10]))
  (.seq (.seq (.region 0 [⟨0, (some 49), none, .mv (.s 12)⟩, ⟨1, (some 50), none, .bin .eql (.s 49) (.k (.c (.int .i64 2)))⟩] [] (some [50, 12, 11, 2, 0, 9, 8, 3, 1, 10]))
  (.cond (.s 50) (.seq (.region 0 [⟨0, (some 51), none, .mv (.s 0)⟩, ⟨1, (some 52), none, .mv (.s 1)⟩, ⟨2, (some 53), none, .mv (.s 2)⟩, ⟨3, (some 54), none, .call ⟨false⟩ (.k (.c (.fn 294 [] []))) [(.s 51), (.s 52), (.s 53)]⟩] [] (some [11, 2, 0, 9, 8, 3, 1, 10]))
  (.seq (.region 0 [⟨0, (some 55), none, .mv (.s 2)⟩, ⟨1, (some 56), none, .bin .sub (.s 55) (.k (.c (.int .i64 1)))⟩, ⟨2, (some 57), none, .mv (.s 11)⟩, ⟨3, (some 58), none, .mv (.s 1)⟩, ⟨4, (some 59), none, .bin .sub (.s 57) (.s 58)⟩, ⟨5, (some 60), none, .bin .sub (.s 56) (.s 59)⟩, ⟨6, (some 11), none, .mv (.s 60)⟩] [] (some [2, 0, 9, 8, 3, 11, 1, 10]))
  (.region 0 [⟨0, (some 12), none, .mv (.k (.c (.int .i64 1)))⟩] [] (some [12, 2, 0, 9, 8, 3, 11, 1, 10]))))
  .skip))
  (.seq (.seq (.region 0 [⟨0, (some 61), none, .mv (.s 8)⟩, ⟨1, (some 62), none, .mv (.s 61)⟩, ⟨2, (some 63), (some (62, true)), .mv (.s 9)⟩, ⟨3, (some 64), none, .pick (.s 62) (.s 63) (.k (.c (.bool false)))⟩, ⟨4, (some 65), none, .mv (.s 64)⟩, ⟨5, (some 66), (some (65, true)), .mv (.s 12)⟩, ⟨6, (some 67), (some (65, true)), .bin .eql (.s 66) (.k (.c (.int .i64 1)))⟩, ⟨7, (some 68), none, .pick (.s 65) (.s 67) (.k (.c (.bool false)))⟩] [] (some [68, 2, 0, 9, 8, 3, 11, 1, 10]))
  (.cond (.s 68) (.seq (.region 0 [⟨0, (some 69), none, .mv (.s 0)⟩, ⟨1, (some 70), none, .mv (.s 1)⟩, ⟨2, (some 71), none, .mv (.s 2)⟩, ⟨3, (some 72), none, .call ⟨false⟩ (.k (.c (.fn 295 [] []))) [(.s 69), (.s 70), (.s 71)]⟩] [] (some [72, 2, 0, 9, 8, 3, 11, 1, 10]))
  (.cond (.s 72) .ret
  .skip))
  .skip))
  (.seq (.seq (.region 0 [⟨0, (some 73), none, .mv (.s 1)⟩, ⟨1, (some 74), none, .bin .gtr (.s 73) (.k (.c (.int .i64 0)))⟩, ⟨2, (some 75), none, .mv (.s 74)⟩, ⟨3, (some 76), (some (75, true)), .mv (.s 0)⟩, ⟨4, (some 77), (some (75, true)), .mv (.s 1)⟩, ⟨5, (some 78), (some (75, true)), .bin .sub (.s 77) (.k (.c (.int .i64 1)))⟩, ⟨6, (some 79), (some (75, true)), .iaddr 1 (.s 76) (.s 78)⟩, ⟨8, (some 81), (some (75, true)), .mv (.s 0)⟩, ⟨9, (some 82), (some (75, true)), .mv (.s 11)⟩, ⟨10, (some 83), (some (75, true)), .iaddr 1 (.s 81) (.s 82)⟩, ⟨7, (some 80), (some (75, true)), .load false 1 (.s 79)⟩, ⟨11, (some 84), (some (75, true)), .load false 1 (.s 83)⟩, ⟨12, (some 85), (some (75, true)), .call ⟨true⟩ (.k (.c (.fn 296 [] []))) [(.s 80), (.s 84)]⟩, ⟨13, (some 86), (some (75, true)), .un .not (.s 85)⟩, ⟨14, (some 87), none, .pick (.s 75) (.s 86) (.k (.c (.bool false)))⟩] [] (some [87, 10, 1, 11, 3, 8, 9, 0, 2]))
  (.cond (.s 87) (.seq (.region 0 [⟨0, (some 88), none, .mv (.s 0)⟩, ⟨1, (some 89), none, .mv (.s 1)⟩, ⟨2, (some 90), none, .mv (.s 2)⟩, ⟨3, (some 91), none, .mv (.s 11)⟩, ⟨4, (some 92), none, .call ⟨false⟩ (.k (.c (.fn 297 [] []))) [(.s 88), (.s 89), (.s 90), (.s 91)]⟩, ⟨5, (some 13), none, .mv (.s 92)⟩] [] (some [13, 3, 8, 9, 0, 2]))
  (.seq (.region 0 [⟨0, (some 93), none, .mv (.s 13)⟩, ⟨1, (some 1), none, .mv (.s 93)⟩] [] (some [3, 8, 9, 0, 1, 2]))
  (.exit 1)))
  .skip))
  (.seq (.region 0 [⟨0, (some 95), none, .mv (.s 0)⟩, ⟨1, (some 96), none, .mv (.s 1)⟩, ⟨2, (some 97), none, .mv (.s 2)⟩, ⟨3, (some 98), none, .mv (.s 11)⟩, ⟨4, (some 99), none, .call ⟨false⟩ (.k (.c (.fn 298 [] []))) [(.s 95), (.s 96), (.s 97), (.s 98)]⟩, ⟨5, (some 94), none, .mv (.s 99)⟩, ⟨6, (some 100), none, .extract 94 0⟩, ⟨7, (some 101), none, .extract 94 1⟩, ⟨8, (some 14), none, .mv (.s 100)⟩, ⟨9, (some 15), none, .mv (.s 101)⟩] [] (some [15, 10, 1, 14, 3, 0, 2]))
  (.seq (.region 0 [⟨0, (some 102), none, .mv (.s 15)⟩, ⟨1, (some 9), none, .mv (.s 102)⟩] [] (some [10, 1, 14, 3, 9, 0, 2]))
  (.seq (.region 0 [⟨0, (some 103), none, .mv (.s 14)⟩, ⟨1, (some 104), none, .mv (.s 1)⟩, ⟨2, (some 105), none, .bin .sub (.s 103) (.s 104)⟩, ⟨3, (some 106), none, .mv (.s 2)⟩, ⟨4, (some 107), none, .mv (.s 14)⟩, ⟨5, (some 108), none, .bin .sub (.s 106) (.s 107)⟩, ⟨6, (some 16), none, .mv (.s 105)⟩, ⟨7, (some 17), none, .mv (.s 108)⟩] [] (some [10, 17, 16, 1, 14, 3, 9, 0, 2]))
  (.seq (.region 0 [⟨0, (some 109), none, .mv (.s 10)⟩, ⟨1, (some 110), none, .bin .quo (.s 109) (.k (.c (.int .i64 8)))⟩, ⟨2, (some 18), none, .mv (.s 110)⟩] [] (some [17, 16, 18, 1, 14, 3, 9, 0, 2]))
  (.seq (.region 0 [⟨0, (some 111), none, .mv (.s 16)⟩, ⟨1, (some 112), none, .mv (.s 17)⟩, ⟨2, (some 113), none, .bin .lss (.s 111) (.s 112)⟩] [] (some [113, 17, 16, 18, 1, 14, 3, 9, 0, 2]))
  (.cond (.s 113) (.seq (.region 0 [⟨0, (some 114), none, .mv (.s 16)⟩, ⟨1, (some 115), none, .mv (.s 18)⟩, ⟨2, (some 116), none, .bin .geq (.s 114) (.s 115)⟩, ⟨3, (some 8), none, .mv (.s 116)⟩] [] (some [1, 14, 3, 8, 9, 0, 2]))
  (.seq (.region 0 [⟨0, (some 117), none, .mv (.s 0)⟩, ⟨1, (some 118), none, .mv (.s 1)⟩, ⟨2, (some 119), none, .mv (.s 14)⟩, ⟨3, (some 120), none, .mv (.s 3)⟩, ⟨4, (some 121), none, .call ⟨false⟩ (.k (.c (.fn 268 [] []))) [(.s 117), (.s 118), (.s 119), (.s 120)]⟩] [] (some [14, 3, 8, 9, 0, 2]))
  (.region 0 [⟨0, (some 122), none, .mv (.s 14)⟩, ⟨1, (some 123), none, .bin .add (.s 122) (.k (.c (.int .i64 1)))⟩, ⟨2, (some 1), none, .mv (.s 123)⟩] [] (some [3, 8, 9, 0, 1, 2]))))
  (.seq (.region 0 [⟨0, (some 124), none, .mv (.s 17)⟩, ⟨1, (some 125), none, .mv (.s 18)⟩, ⟨2, (some 126), none, .bin .geq (.s 124) (.s 125)⟩, ⟨3, (some 8), none, .mv (.s 126)⟩] [] (some [2, 14, 3, 8, 9, 0, 1]))
  (.seq (.region 0 [⟨0, (some 127), none, .mv (.s 0)⟩, ⟨1, (some 128), none, .mv (.s 14)⟩, ⟨2, (some 129), none, .bin .add (.s 128) (.k (.c (.int .i64 1)))⟩, ⟨3, (some 130), none, .mv (.s 2)⟩, ⟨4, (some 131), none, .mv (.s 3)⟩, ⟨5, (some 132), none, .call ⟨false⟩ (.k (.c (.fn 268 [] []))) [(.s 127), (.s 129), (.s 130), (.s 131)]⟩] [] (some [14, 3, 8, 9, 0, 1]))
  (.region 0 [⟨0, (some 133), none, .mv (.s 14)⟩, ⟨1, (some 2), none, .mv (.s 133)⟩] [] (some [3, 8, 9, 0, 1, 2])))))))))))))))))))
abbrev f_slices_pdqsortOrdered_int64 : Nat := 268
def c_slices_pdqsortOrdered_int64 : CFn := { frz := true, rnd := none, nargs := 4, ntmps := 134, res := [], code :=
  (.seq (.region 0 [⟨0, (some 8), none, .mv (.k (.c (.bool true)))⟩] [] (some [3, 8, 0, 1, 2]))
  (.seq (.region 0 [⟨0, (some 9), none, .mv (.k (.c (.bool true)))⟩] [] (some [3, 8, 9, 0, 1, 2]))
  (.block 0 (.loop (some [3, 8, 9, 0, 1, 2]) c_slices_pdqsortOrdered_int64_l1)))) }
def c_slices_siftDownCmpFunc_Sweep_l1 : CC := (.block 1 (.seq (.region 0 [⟨0, (some 13), none, .mv (.s 10)⟩, ⟨1, (some 14), none, .bin .mul (.k (.c (.int .i64 2))) (.s 13)⟩, ⟨2, (some 15), none, .bin .add (.s 14) (.k (.c (.int .i64 1)))⟩, ⟨3, (some 11), none, .mv (.s 15)⟩] [] (some [10, 0, 3, 4, 2, 11]))
  (.seq (.seq (.region 0 [⟨0, (some 16), none, .mv (.s 11)⟩, ⟨1, (some 17), none, .mv (.s 2)⟩, ⟨2, (some 18), none, .bin .geq (.s 16) (.s 17)⟩] [] (some [18, 10, 0, 3, 4, 2, 11]))
  (.cond (.s 18) (.exit 0)
  .skip))
  (.seq (.seq (.region 0 [⟨0, (some 19), none, .mv (.s 11)⟩, ⟨1, (some 20), none, .bin .add (.s 19) (.k (.c (.int .i64 1)))⟩, ⟨2, (some 21), none, .mv (.s 2)⟩, ⟨3, (some 22), none, .bin .lss (.s 20) (.s 21)⟩, ⟨4, (some 23), none, .mv (.s 22)⟩, ⟨5, (some 24), (some (23, true)), .mv (.s 4)⟩, ⟨6, (some 25), (some (23, true)), .mv (.s 0)⟩, ⟨7, (some 26), (some (23, true)), .mv (.s 3)⟩, ⟨8, (some 27), (some (23, true)), .mv (.s 11)⟩, ⟨9, (some 28), (some (23, true)), .bin .add (.s 26) (.s 27)⟩, ⟨10, (some 29), (some (23, true)), .iaddr 4 (.s 25) (.s 28)⟩, ⟨12, (some 31), (some (23, true)), .mv (.s 0)⟩, ⟨13, (some 32), (some (23, true)), .mv (.s 3)⟩, ⟨14, (some 33), (some (23, true)), .mv (.s 11)⟩, ⟨15, (some 34), (some (23, true)), .bin .add (.s 32) (.s 33)⟩, ⟨16, (some 35), (some (23, true)), .bin .add (.s 34) (.k (.c (.int .i64 1)))⟩, ⟨17, (some 36), (some (23, true)), .iaddr 4 (.s 31) (.s 35)⟩, ⟨11, (some 30), (some (23, true)), .load true 4 (.s 29)⟩, ⟨18, (some 37), (some (23, true)), .load true 4 (.s 36)⟩, ⟨19, (some 38), (some (23, true)), .call ⟨true⟩ (.s 24) [(.s 30), (.s 37)]⟩, ⟨20, (some 39), (some (23, true)), .bin .lss (.s 38) (.k (.c (.int .i64 0)))⟩, ⟨21, (some 40), none, .pick (.s 23) (.s 39) (.k (.c (.bool false)))⟩] [] (some [40, 11, 2, 4, 3, 0, 10]))
  (.cond (.s 40) (.region 0 [⟨0, (some 41), none, .mv (.s 11)⟩, ⟨1, (some 42), none, .bin .add (.s 41) (.k (.c (.int .i64 1)))⟩, ⟨2, (some 11), none, .mv (.s 42)⟩] [] (some [2, 4, 3, 0, 11, 10]))
  .skip))
  (.seq (.seq (.region 0 [⟨0, (some 43), none, .mv (.s 4)⟩, ⟨1, (some 44), none, .mv (.s 0)⟩, ⟨2, (some 45), none, .mv (.s 3)⟩, ⟨3, (some 46), none, .mv (.s 10)⟩, ⟨4, (some 47), none, .bin .add (.s 45) (.s 46)⟩, ⟨5, (some 48), none, .iaddr 4 (.s 44) (.s 47)⟩, ⟨7, (some 50), none, .mv (.s 0)⟩, ⟨8, (some 51), none, .mv (.s 3)⟩, ⟨9, (some 52), none, .mv (.s 11)⟩, ⟨10, (some 53), none, .bin .add (.s 51) (.s 52)⟩, ⟨11, (some 54), none, .iaddr 4 (.s 50) (.s 53)⟩, ⟨6, (some 49), none, .load true 4 (.s 48)⟩, ⟨12, (some 55), none, .load true 4 (.s 54)⟩, ⟨13, (some 56), none, .call ⟨true⟩ (.s 43) [(.s 49), (.s 55)]⟩, ⟨14, (some 57), none, .bin .lss (.s 56) (.k (.c (.int .i64 0)))⟩, ⟨15, (some 58), none, .un .not (.s 57)⟩] [] (some [58, 2, 4, 3, 0, 11, 10]))
  (.cond (.s 58) .ret
  .skip))
  (.seq (.region 0 [⟨0, (some 59), none, .mv (.s 0)⟩, ⟨1, (some 60), none, .mv (.s 3)⟩, ⟨2, (some 61), none, .mv (.s 10)⟩, ⟨3, (some 62), none, .bin .add (.s 60) (.s 61)⟩, ⟨4, (some 63), none, .mv (.s 0)⟩, ⟨5, (some 64), none, .mv (.s 3)⟩, ⟨6, (some 65), none, .mv (.s 11)⟩, ⟨7, (some 66), none, .bin .add (.s 64) (.s 65)⟩, ⟨8, (some 67), none, .mv (.s 0)⟩, ⟨9, (some 68), none, .mv (.s 3)⟩, ⟨10, (some 69), none, .mv (.s 11)⟩, ⟨11, (some 70), none, .bin .add (.s 68) (.s 69)⟩, ⟨12, (some 71), none, .iaddr 4 (.s 67) (.s 70)⟩, ⟨14, (some 73), none, .mv (.s 0)⟩, ⟨15, (some 74), none, .mv (.s 3)⟩, ⟨16, (some 75), none, .mv (.s 10)⟩, ⟨17, (some 76), none, .bin .add (.s 74) (.s 75)⟩, ⟨18, (some 77), none, .iaddr 4 (.s 73) (.s 76)⟩, ⟨13, (some 72), none, .load true 4 (.s 71)⟩, ⟨19, (some 78), none, .load true 4 (.s 77)⟩, ⟨20, (some 79), none, .iaddr 4 (.s 59) (.s 62)⟩, ⟨21, none, none, .store 4 (.s 79) (.s 72)⟩, ⟨22, (some 80), none, .iaddr 4 (.s 63) (.s 66)⟩, ⟨23, none, none, .store 4 (.s 80) (.s 78)⟩] [] (some [11, 0, 3, 4, 2]))
  (.region 0 [⟨0, (some 81), none, .mv (.s 11)⟩, ⟨1, (some 10), none, .mv (.s 81)⟩] [] (some [10, 0, 3, 4, 2]))))))))
abbrev f_slices_siftDownCmpFunc_Sweep : Nat := 274
def c_slices_siftDownCmpFunc_Sweep : CFn := { frz := true, rnd := none, nargs := 5, ntmps := 82, res := [], code :=
  (.seq (.region 0 [⟨0, (some 12), none, .mv (.s 1)⟩, ⟨1, (some 10), none, .mv (.s 12)⟩] [] (some [10, 0, 3, 4, 2]))
  (.block 0 (.loop (some [10, 0, 3, 4, 2]) c_slices_siftDownCmpFunc_Sweep_l1))) }
abbrev f_slices_medianAdjacentCmpFunc_Sweep : Nat := 275
def c_slices_medianAdjacentCmpFunc_Sweep : CFn := { frz := true, rnd := none, nargs := 4, ntmps := 18, res := [(.slot 8)], code :=
  (.seq (.region 0 [⟨0, (some 8), none, .mv (.k (.c (.int .i64 0)))⟩] [] (some [0, 1, 2, 3]))
  (.seq (.region 0 [⟨0, (some 9), none, .mv (.s 0)⟩, ⟨1, (some 10), none, .mv (.s 1)⟩, ⟨2, (some 11), none, .bin .sub (.s 10) (.k (.c (.int .i64 1)))⟩, ⟨3, (some 12), none, .mv (.s 1)⟩, ⟨4, (some 13), none, .mv (.s 1)⟩, ⟨5, (some 14), none, .bin .add (.s 13) (.k (.c (.int .i64 1)))⟩, ⟨6, (some 15), none, .mv (.s 2)⟩, ⟨7, (some 16), none, .mv (.s 3)⟩, ⟨8, (some 17), none, .call ⟨false⟩ (.k (.c (.fn 276 [] []))) [(.s 9), (.s 11), (.s 12), (.s 14), (.s 15), (.s 16)]⟩, ⟨9, (some 8), none, .mv (.s 17)⟩] [] (some [8]))
  .ret)) }
abbrev f_slices_medianCmpFunc_Sweep : Nat := 276
def c_slices_medianCmpFunc_Sweep : CFn := { frz := true, rnd := none, nargs := 6, ntmps := 41, res := [(.slot 12)], code :=
  (.seq (.region 0 [⟨0, (some 12), none, .mv (.k (.c (.int .i64 0)))⟩] [] (some [1, 2, 3, 0, 4, 5]))
  (.seq (.region 0 [⟨0, (some 14), none, .mv (.s 0)⟩, ⟨1, (some 15), none, .mv (.s 1)⟩, ⟨2, (some 16), none, .mv (.s 2)⟩, ⟨3, (some 17), none, .mv (.s 4)⟩, ⟨4, (some 18), none, .mv (.s 5)⟩, ⟨5, (some 19), none, .call ⟨false⟩ (.k (.c (.fn 300 [] []))) [(.s 14), (.s 15), (.s 16), (.s 17), (.s 18)]⟩, ⟨6, (some 13), none, .mv (.s 19)⟩, ⟨7, (some 20), none, .extract 13 0⟩, ⟨8, (some 21), none, .extract 13 1⟩, ⟨9, (some 1), none, .mv (.s 20)⟩, ⟨10, (some 2), none, .mv (.s 21)⟩] [] (some [2, 3, 0, 1, 4, 5]))
  (.seq (.region 0 [⟨0, (some 23), none, .mv (.s 0)⟩, ⟨1, (some 24), none, .mv (.s 2)⟩, ⟨2, (some 25), none, .mv (.s 3)⟩, ⟨3, (some 26), none, .mv (.s 4)⟩, ⟨4, (some 27), none, .mv (.s 5)⟩, ⟨5, (some 28), none, .call ⟨false⟩ (.k (.c (.fn 300 [] []))) [(.s 23), (.s 24), (.s 25), (.s 26), (.s 27)]⟩, ⟨6, (some 22), none, .mv (.s 28)⟩, ⟨7, (some 29), none, .extract 22 0⟩, ⟨8, (some 30), none, .extract 22 1⟩, ⟨9, (some 2), none, .mv (.s 29)⟩, ⟨10, (some 3), none, .mv (.s 30)⟩] [] (some [0, 1, 2, 4, 5]))
  (.seq (.region 0 [⟨0, (some 32), none, .mv (.s 0)⟩, ⟨1, (some 33), none, .mv (.s 1)⟩, ⟨2, (some 34), none, .mv (.s 2)⟩, ⟨3, (some 35), none, .mv (.s 4)⟩, ⟨4, (some 36), none, .mv (.s 5)⟩, ⟨5, (some 37), none, .call ⟨false⟩ (.k (.c (.fn 300 [] []))) [(.s 32), (.s 33), (.s 34), (.s 35), (.s 36)]⟩, ⟨6, (some 31), none, .mv (.s 37)⟩, ⟨7, (some 38), none, .extract 31 0⟩, ⟨8, (some 39), none, .extract 31 1⟩, ⟨9, (some 1), none, .mv (.s 38)⟩, ⟨10, (some 2), none, .mv (.s 39)⟩] [] (some [2]))
  (.seq (.region 0 [⟨0, (some 40), none, .mv (.s 2)⟩, ⟨1, (some 12), none, .mv (.s 40)⟩] [] (some [12]))
  .ret))))) }
def c_slices_insertionSortCmpFunc_Blob_l1 : CC := (.seq (.seq (.region 0 [⟨0, (some 18), none, .mv (.s 9)⟩, ⟨1, (some 19), none, .mv (.s 1)⟩, ⟨2, (some 20), none, .bin .gtr (.s 18) (.s 19)⟩, ⟨3, (some 21), none, .mv (.s 20)⟩, ⟨4, (some 22), (some (21, true)), .mv (.s 3)⟩, ⟨5, (some 23), (some (21, true)), .mv (.s 0)⟩, ⟨6, (some 24), (some (21, true)), .mv (.s 9)⟩, ⟨7, (some 25), (some (21, true)), .iaddr 6 (.s 23) (.s 24)⟩, ⟨9, (some 27), (some (21, true)), .mv (.s 0)⟩, ⟨10, (some 28), (some (21, true)), .mv (.s 9)⟩, ⟨11, (some 29), (some (21, true)), .bin .sub (.s 28) (.k (.c (.int .i64 1)))⟩, ⟨12, (some 30), (some (21, true)), .iaddr 6 (.s 27) (.s 29)⟩, ⟨8, (some 26), (some (21, true)), .load true 6 (.s 25)⟩, ⟨13, (some 31), (some (21, true)), .load true 6 (.s 30)⟩, ⟨14, (some 32), (some (21, true)), .call ⟨true⟩ (.s 22) [(.s 26), (.s 31)]⟩, ⟨15, (some 33), (some (21, true)), .bin .lss (.s 32) (.k (.c (.int .i64 0)))⟩, ⟨16, (some 34), none, .pick (.s 21) (.s 33) (.k (.c (.bool false)))⟩] [] (some [34, 9, 3, 1, 2, 8, 0]))
  (.cond (.s 34) .skip
  (.exit 2)))
  (.seq (.block 3 (.region 0 [⟨0, (some 37), none, .mv (.s 0)⟩, ⟨1, (some 38), none, .mv (.s 9)⟩, ⟨2, (some 39), none, .mv (.s 0)⟩, ⟨3, (some 40), none, .mv (.s 9)⟩, ⟨4, (some 41), none, .bin .sub (.s 40) (.k (.c (.int .i64 1)))⟩, ⟨5, (some 42), none, .mv (.s 0)⟩, ⟨6, (some 43), none, .mv (.s 9)⟩, ⟨7, (some 44), none, .bin .sub (.s 43) (.k (.c (.int .i64 1)))⟩, ⟨8, (some 45), none, .iaddr 6 (.s 42) (.s 44)⟩, ⟨10, (some 47), none, .mv (.s 0)⟩, ⟨11, (some 48), none, .mv (.s 9)⟩, ⟨12, (some 49), none, .iaddr 6 (.s 47) (.s 48)⟩, ⟨9, (some 46), none, .load true 6 (.s 45)⟩, ⟨13, (some 50), none, .load true 6 (.s 49)⟩, ⟨14, (some 51), none, .iaddr 6 (.s 37) (.s 38)⟩, ⟨15, none, none, .store 6 (.s 51) (.s 46)⟩, ⟨16, (some 52), none, .iaddr 6 (.s 39) (.s 41)⟩, ⟨17, none, none, .store 6 (.s 52) (.s 50)⟩] [] (some [9, 3, 1, 2, 8, 0])))
  (.region 0 [⟨0, (some 35), none, .mv (.s 9)⟩, ⟨1, (some 36), none, .bin .sub (.s 35) (.k (.c (.int .i64 1)))⟩, ⟨2, (some 9), none, .mv (.s 36)⟩] [] (some [9, 3, 1, 2, 8, 0]))))
def c_slices_insertionSortCmpFunc_Blob_l2 : CC := (.seq (.seq (.region 0 [⟨0, (some 12), none, .mv (.s 8)⟩, ⟨1, (some 13), none, .mv (.s 2)⟩, ⟨2, (some 14), none, .bin .lss (.s 12) (.s 13)⟩] [] (some [14, 3, 1, 2, 8, 0]))
  (.cond (.s 14) .skip
  (.exit 0)))
  (.seq (.block 1 (.seq (.region 0 [⟨0, (some 17), none, .mv (.s 8)⟩, ⟨1, (some 9), none, .mv (.s 17)⟩] [] (some [9, 3, 1, 2, 8, 0]))
  (.block 2 (.loop (some [9, 3, 1, 2, 8, 0]) c_slices_insertionSortCmpFunc_Blob_l1))))
  (.region 0 [⟨0, (some 15), none, .mv (.s 8)⟩, ⟨1, (some 16), none, .bin .add (.s 15) (.k (.c (.int .i64 1)))⟩, ⟨2, (some 8), none, .mv (.s 16)⟩] [] (some [2, 1, 3, 8, 0]))))
abbrev f_slices_insertionSortCmpFunc_Blob : Nat := 277
def c_slices_insertionSortCmpFunc_Blob : CFn := { frz := true, rnd := none, nargs := 4, ntmps := 53, res := [], code :=
  (.seq (.region 0 [⟨0, (some 10), none, .mv (.s 1)⟩, ⟨1, (some 11), none, .bin .add (.s 10) (.k (.c (.int .i64 1)))⟩, ⟨2, (some 8), none, .mv (.s 11)⟩] [] (some [2, 1, 3, 8, 0]))
  (.block 0 (.loop (some [2, 1, 3, 8, 0]) c_slices_insertionSortCmpFunc_Blob_l2))) }
def c_slices_symMergeCmpFunc_Blob_l1 : CC := (.seq (.seq (.region 0 [⟨0, (some 31), none, .mv (.s 10)⟩, ⟨1, (some 32), none, .mv (.s 11)⟩, ⟨2, (some 33), none, .bin .lss (.s 31) (.s 32)⟩] [] (some [33, 10, 11, 4, 0, 1]))
  (.cond (.s 33) .skip
  (.exit 0)))
  (.block 1 (.seq (.region 0 [⟨0, (some 34), none, .mv (.s 10)⟩, ⟨1, (some 35), none, .mv (.s 11)⟩, ⟨2, (some 36), none, .bin .add (.s 34) (.s 35)⟩, ⟨3, (some 37), none, .conv .u64 (.s 36)⟩, ⟨4, (some 38), none, .bin .shr (.s 37) (.k (.c (.int .u64 1)))⟩, ⟨5, (some 39), none, .conv .i64 (.s 38)⟩, ⟨6, (some 12), none, .mv (.s 39)⟩] [] (some [10, 12, 11, 4, 0, 1]))
  (.seq (.region 0 [⟨0, (some 40), none, .mv (.s 4)⟩, ⟨1, (some 41), none, .mv (.s 0)⟩, ⟨2, (some 42), none, .mv (.s 12)⟩, ⟨3, (some 43), none, .iaddr 6 (.s 41) (.s 42)⟩, ⟨5, (some 45), none, .mv (.s 0)⟩, ⟨6, (some 46), none, .mv (.s 1)⟩, ⟨7, (some 47), none, .iaddr 6 (.s 45) (.s 46)⟩, ⟨4, (some 44), none, .load true 6 (.s 43)⟩, ⟨8, (some 48), none, .load true 6 (.s 47)⟩, ⟨9, (some 49), none, .call ⟨true⟩ (.s 40) [(.s 44), (.s 48)]⟩, ⟨10, (some 50), none, .bin .lss (.s 49) (.k (.c (.int .i64 0)))⟩] [] (some [50, 10, 12, 11, 4, 0, 1]))
  (.cond (.s 50) (.region 0 [⟨0, (some 51), none, .mv (.s 12)⟩, ⟨1, (some 52), none, .bin .add (.s 51) (.k (.c (.int .i64 1)))⟩, ⟨2, (some 10), none, .mv (.s 52)⟩] [] (some [10, 11, 4, 0, 1]))
  (.region 0 [⟨0, (some 53), none, .mv (.s 12)⟩, ⟨1, (some 11), none, .mv (.s 53)⟩] [] (some [10, 11, 4, 0, 1])))))))
def c_slices_symMergeCmpFunc_Blob_l2 : CC := (.seq (.seq (.region 0 [⟨0, (some 55), none, .mv (.s 13)⟩, ⟨1, (some 56), none, .mv (.s 10)⟩, ⟨2, (some 57), none, .bin .sub (.s 56) (.k (.c (.int .i64 1)))⟩, ⟨3, (some 58), none, .bin .lss (.s 55) (.s 57)⟩] [] (some [58, 13, 10, 0]))
  (.cond (.s 58) .skip
  (.exit 2)))
  (.seq (.block 3 (.region 0 [⟨0, (some 61), none, .mv (.s 0)⟩, ⟨1, (some 62), none, .mv (.s 13)⟩, ⟨2, (some 63), none, .mv (.s 0)⟩, ⟨3, (some 64), none, .mv (.s 13)⟩, ⟨4, (some 65), none, .bin .add (.s 64) (.k (.c (.int .i64 1)))⟩, ⟨5, (some 66), none, .mv (.s 0)⟩, ⟨6, (some 67), none, .mv (.s 13)⟩, ⟨7, (some 68), none, .bin .add (.s 67) (.k (.c (.int .i64 1)))⟩, ⟨8, (some 69), none, .iaddr 6 (.s 66) (.s 68)⟩, ⟨10, (some 71), none, .mv (.s 0)⟩, ⟨11, (some 72), none, .mv (.s 13)⟩, ⟨12, (some 73), none, .iaddr 6 (.s 71) (.s 72)⟩, ⟨9, (some 70), none, .load true 6 (.s 69)⟩, ⟨13, (some 74), none, .load true 6 (.s 73)⟩, ⟨14, (some 75), none, .iaddr 6 (.s 61) (.s 62)⟩, ⟨15, none, none, .store 6 (.s 75) (.s 70)⟩, ⟨16, (some 76), none, .iaddr 6 (.s 63) (.s 65)⟩, ⟨17, none, none, .store 6 (.s 76) (.s 74)⟩] [] (some [13, 10, 0])))
  (.region 0 [⟨0, (some 59), none, .mv (.s 13)⟩, ⟨1, (some 60), none, .bin .add (.s 59) (.k (.c (.int .i64 1)))⟩, ⟨2, (some 13), none, .mv (.s 60)⟩] [] (some [13, 10, 0]))))
def c_slices_symMergeCmpFunc_Blob_l3 : CC := (.seq (.seq (.region 0 [⟨0, (some 83), none, .mv (.s 14)⟩, ⟨1, (some 84), none, .mv (.s 15)⟩, ⟨2, (some 85), none, .bin .lss (.s 83) (.s 84)⟩] [] (some [85, 14, 15, 4, 2, 0]))
  (.cond (.s 85) .skip
  (.exit 4)))
  (.block 5 (.seq (.region 0 [⟨0, (some 86), none, .mv (.s 14)⟩, ⟨1, (some 87), none, .mv (.s 15)⟩, ⟨2, (some 88), none, .bin .add (.s 86) (.s 87)⟩, ⟨3, (some 89), none, .conv .u64 (.s 88)⟩, ⟨4, (some 90), none, .bin .shr (.s 89) (.k (.c (.int .u64 1)))⟩, ⟨5, (some 91), none, .conv .i64 (.s 90)⟩, ⟨6, (some 16), none, .mv (.s 91)⟩] [] (some [14, 16, 15, 4, 2, 0]))
  (.seq (.region 0 [⟨0, (some 92), none, .mv (.s 4)⟩, ⟨1, (some 93), none, .mv (.s 0)⟩, ⟨2, (some 94), none, .mv (.s 2)⟩, ⟨3, (some 95), none, .iaddr 6 (.s 93) (.s 94)⟩, ⟨5, (some 97), none, .mv (.s 0)⟩, ⟨6, (some 98), none, .mv (.s 16)⟩, ⟨7, (some 99), none, .iaddr 6 (.s 97) (.s 98)⟩, ⟨4, (some 96), none, .load true 6 (.s 95)⟩, ⟨8, (some 100), none, .load true 6 (.s 99)⟩, ⟨9, (some 101), none, .call ⟨true⟩ (.s 92) [(.s 96), (.s 100)]⟩, ⟨10, (some 102), none, .bin .lss (.s 101) (.k (.c (.int .i64 0)))⟩, ⟨11, (some 103), none, .un .not (.s 102)⟩] [] (some [103, 14, 16, 15, 4, 2, 0]))
  (.cond (.s 103) (.region 0 [⟨0, (some 104), none, .mv (.s 16)⟩, ⟨1, (some 105), none, .bin .add (.s 104) (.k (.c (.int .i64 1)))⟩, ⟨2, (some 14), none, .mv (.s 105)⟩] [] (some [14, 15, 4, 2, 0]))
  (.region 0 [⟨0, (some 106), none, .mv (.s 16)⟩, ⟨1, (some 15), none, .mv (.s 106)⟩] [] (some [14, 15, 4, 2, 0])))))))
def c_slices_symMergeCmpFunc_Blob_l4 : CC := (.seq (.seq (.region 0 [⟨0, (some 108), none, .mv (.s 17)⟩, ⟨1, (some 109), none, .mv (.s 14)⟩, ⟨2, (some 110), none, .bin .gtr (.s 108) (.s 109)⟩] [] (some [110, 17, 14, 0]))
  (.cond (.s 110) .skip
  (.exit 6)))
  (.seq (.block 7 (.region 0 [⟨0, (some 113), none, .mv (.s 0)⟩, ⟨1, (some 114), none, .mv (.s 17)⟩, ⟨2, (some 115), none, .mv (.s 0)⟩, ⟨3, (some 116), none, .mv (.s 17)⟩, ⟨4, (some 117), none, .bin .sub (.s 116) (.k (.c (.int .i64 1)))⟩, ⟨5, (some 118), none, .mv (.s 0)⟩, ⟨6, (some 119), none, .mv (.s 17)⟩, ⟨7, (some 120), none, .bin .sub (.s 119) (.k (.c (.int .i64 1)))⟩, ⟨8, (some 121), none, .iaddr 6 (.s 118) (.s 120)⟩, ⟨10, (some 123), none, .mv (.s 0)⟩, ⟨11, (some 124), none, .mv (.s 17)⟩, ⟨12, (some 125), none, .iaddr 6 (.s 123) (.s 124)⟩, ⟨9, (some 122), none, .load true 6 (.s 121)⟩, ⟨13, (some 126), none, .load true 6 (.s 125)⟩, ⟨14, (some 127), none, .iaddr 6 (.s 113) (.s 114)⟩, ⟨15, none, none, .store 6 (.s 127) (.s 122)⟩, ⟨16, (some 128), none, .iaddr 6 (.s 115) (.s 117)⟩, ⟨17, none, none, .store 6 (.s 128) (.s 126)⟩] [] (some [17, 14, 0])))
  (.region 0 [⟨0, (some 111), none, .mv (.s 17)⟩, ⟨1, (some 112), none, .bin .sub (.s 111) (.k (.c (.int .i64 1)))⟩, ⟨2, (some 17), none, .mv (.s 112)⟩] [] (some [17, 14, 0]))))
def c_slices_symMergeCmpFunc_Blob_l5 : CC := (.seq (.seq (.region 0 [⟨0, (some 149), none, .mv (.s 20)⟩, ⟨1, (some 150), none, .mv (.s 21)⟩, ⟨2, (some 151), none, .bin .lss (.s 149) (.s 150)⟩] [] (some [151, 20, 3, 18, 1, 2, 19, 21, 4, 22, 0]))
  (.cond (.s 151) .skip
  (.exit 8)))
  (.block 9 (.seq (.region 0 [⟨0, (some 152), none, .mv (.s 20)⟩, ⟨1, (some 153), none, .mv (.s 21)⟩, ⟨2, (some 154), none, .bin .add (.s 152) (.s 153)⟩, ⟨3, (some 155), none, .conv .u64 (.s 154)⟩, ⟨4, (some 156), none, .bin .shr (.s 155) (.k (.c (.int .u64 1)))⟩, ⟨5, (some 157), none, .conv .i64 (.s 156)⟩, ⟨6, (some 23), none, .mv (.s 157)⟩] [] (some [20, 23, 3, 18, 1, 2, 19, 21, 4, 22, 0]))
  (.seq (.region 0 [⟨0, (some 158), none, .mv (.s 4)⟩, ⟨1, (some 159), none, .mv (.s 0)⟩, ⟨2, (some 160), none, .mv (.s 22)⟩, ⟨3, (some 161), none, .mv (.s 23)⟩, ⟨4, (some 162), none, .bin .sub (.s 160) (.s 161)⟩, ⟨5, (some 163), none, .iaddr 6 (.s 159) (.s 162)⟩, ⟨7, (some 165), none, .mv (.s 0)⟩, ⟨8, (some 166), none, .mv (.s 23)⟩, ⟨9, (some 167), none, .iaddr 6 (.s 165) (.s 166)⟩, ⟨6, (some 164), none, .load true 6 (.s 163)⟩, ⟨10, (some 168), none, .load true 6 (.s 167)⟩, ⟨11, (some 169), none, .call ⟨true⟩ (.s 158) [(.s 164), (.s 168)]⟩, ⟨12, (some 170), none, .bin .lss (.s 169) (.k (.c (.int .i64 0)))⟩, ⟨13, (some 171), none, .un .not (.s 170)⟩] [] (some [171, 20, 23, 3, 18, 1, 2, 19, 21, 4, 22, 0]))
  (.cond (.s 171) (.region 0 [⟨0, (some 172), none, .mv (.s 23)⟩, ⟨1, (some 173), none, .bin .add (.s 172) (.k (.c (.int .i64 1)))⟩, ⟨2, (some 20), none, .mv (.s 173)⟩] [] (some [20, 3, 18, 1, 2, 19, 21, 4, 22, 0]))
  (.region 0 [⟨0, (some 174), none, .mv (.s 23)⟩, ⟨1, (some 21), none, .mv (.s 174)⟩] [] (some [20, 3, 18, 1, 2, 19, 21, 4, 22, 0])))))))
abbrev f_slices_symMergeCmpFunc_Blob : Nat := 278
def c_slices_symMergeCmpFunc_Blob : CFn := { frz := true, rnd := none, nargs := 5, ntmps := 220, res := [], code :=
  (.seq (.seq (.region 0 [⟨0, (some 25), none, .mv (.s 2)⟩, ⟨1, (some 26), none, .mv (.s 1)⟩, ⟨2, (some 27), none, .bin .sub (.s 25) (.s 26)⟩, ⟨3, (some 28), none, .bin .eql (.s 27) (.k (.c (.int .i64 1)))⟩] [] (some [28, 2, 3, 4, 0, 1]))
  (.cond (.s 28) (.seq (.region 0 [⟨0, (some 29), none, .mv (.s 2)⟩, ⟨1, (some 10), none, .mv (.s 29)⟩] [] (some [3, 10, 4, 0, 1]))
  (.seq (.region 0 [⟨0, (some 30), none, .mv (.s 3)⟩, ⟨1, (some 11), none, .mv (.s 30)⟩] [] (some [10, 11, 4, 0, 1]))
  (.seq (.block 0 (.loop (some [10, 11, 4, 0, 1]) c_slices_symMergeCmpFunc_Blob_l1))
  (.seq (.seq (.region 0 [⟨0, (some 54), none, .mv (.s 1)⟩, ⟨1, (some 13), none, .mv (.s 54)⟩] [] (some [13, 10, 0]))
  (.block 2 (.loop (some [13, 10, 0]) c_slices_symMergeCmpFunc_Blob_l2)))
  .ret))))
  .skip))
  (.seq (.seq (.region 0 [⟨0, (some 77), none, .mv (.s 3)⟩, ⟨1, (some 78), none, .mv (.s 2)⟩, ⟨2, (some 79), none, .bin .sub (.s 77) (.s 78)⟩, ⟨3, (some 80), none, .bin .eql (.s 79) (.k (.c (.int .i64 1)))⟩] [] (some [80, 3, 1, 4, 2, 0]))
  (.cond (.s 80) (.seq (.region 0 [⟨0, (some 81), none, .mv (.s 1)⟩, ⟨1, (some 14), none, .mv (.s 81)⟩] [] (some [14, 4, 2, 0]))
  (.seq (.region 0 [⟨0, (some 82), none, .mv (.s 2)⟩, ⟨1, (some 15), none, .mv (.s 82)⟩] [] (some [14, 15, 4, 2, 0]))
  (.seq (.block 4 (.loop (some [14, 15, 4, 2, 0]) c_slices_symMergeCmpFunc_Blob_l3))
  (.seq (.seq (.region 0 [⟨0, (some 107), none, .mv (.s 2)⟩, ⟨1, (some 17), none, .mv (.s 107)⟩] [] (some [17, 14, 0]))
  (.block 6 (.loop (some [17, 14, 0]) c_slices_symMergeCmpFunc_Blob_l4)))
  .ret))))
  .skip))
  (.seq (.region 0 [⟨0, (some 129), none, .mv (.s 1)⟩, ⟨1, (some 130), none, .mv (.s 3)⟩, ⟨2, (some 131), none, .bin .add (.s 129) (.s 130)⟩, ⟨3, (some 132), none, .conv .u64 (.s 131)⟩, ⟨4, (some 133), none, .bin .shr (.s 132) (.k (.c (.int .u64 1)))⟩, ⟨5, (some 134), none, .conv .i64 (.s 133)⟩, ⟨6, (some 18), none, .mv (.s 134)⟩] [] (some [3, 18, 1, 2, 4, 0]))
  (.seq (.region 0 [⟨0, (some 135), none, .mv (.s 18)⟩, ⟨1, (some 136), none, .mv (.s 2)⟩, ⟨2, (some 137), none, .bin .add (.s 135) (.s 136)⟩, ⟨3, (some 19), none, .mv (.s 137)⟩] [] (some [3, 18, 1, 2, 19, 4, 0]))
  (.seq (.region 0 [⟨0, (some 20), none, .mv (.k (.c (.int .i64 0)))⟩, ⟨1, (some 21), none, .mv (.k (.c (.int .i64 0)))⟩] [] (some [3, 18, 1, 2, 19, 4, 0]))
  (.seq (.seq (.region 0 [⟨0, (some 138), none, .mv (.s 2)⟩, ⟨1, (some 139), none, .mv (.s 18)⟩, ⟨2, (some 140), none, .bin .gtr (.s 138) (.s 139)⟩] [] (some [140, 3, 18, 1, 2, 19, 4, 0]))
  (.cond (.s 140) (.seq (.region 0 [⟨0, (some 141), none, .mv (.s 19)⟩, ⟨1, (some 142), none, .mv (.s 3)⟩, ⟨2, (some 143), none, .bin .sub (.s 141) (.s 142)⟩, ⟨3, (some 20), none, .mv (.s 143)⟩] [] (some [20, 3, 18, 1, 2, 19, 4, 0]))
  (.region 0 [⟨0, (some 144), none, .mv (.s 18)⟩, ⟨1, (some 21), none, .mv (.s 144)⟩] [] (some [20, 3, 18, 1, 2, 19, 21, 4, 0])))
  (.seq (.region 0 [⟨0, (some 145), none, .mv (.s 1)⟩, ⟨1, (some 20), none, .mv (.s 145)⟩] [] (some [20, 3, 18, 1, 2, 19, 4, 0]))
  (.region 0 [⟨0, (some 146), none, .mv (.s 2)⟩, ⟨1, (some 21), none, .mv (.s 146)⟩] [] (some [20, 3, 18, 1, 2, 19, 21, 4, 0])))))
  (.seq (.region 0 [⟨0, (some 147), none, .mv (.s 19)⟩, ⟨1, (some 148), none, .bin .sub (.s 147) (.k (.c (.int .i64 1)))⟩, ⟨2, (some 22), none, .mv (.s 148)⟩] [] (some [20, 3, 18, 1, 2, 19, 21, 4, 22, 0]))
  (.seq (.block 8 (.loop (some [20, 3, 18, 1, 2, 19, 21, 4, 22, 0]) c_slices_symMergeCmpFunc_Blob_l5))
  (.seq (.region 0 [⟨0, (some 175), none, .mv (.s 19)⟩, ⟨1, (some 176), none, .mv (.s 20)⟩, ⟨2, (some 177), none, .bin .sub (.s 175) (.s 176)⟩, ⟨3, (some 24), none, .mv (.s 177)⟩] [] (some [2, 1, 20, 0, 18, 24, 3, 4]))
  (.seq (.seq (.region 0 [⟨0, (some 178), none, .mv (.s 20)⟩, ⟨1, (some 179), none, .mv (.s 2)⟩, ⟨2, (some 180), none, .bin .lss (.s 178) (.s 179)⟩, ⟨3, (some 181), none, .mv (.s 180)⟩, ⟨4, (some 182), (some (181, true)), .mv (.s 2)⟩, ⟨5, (some 183), (some (181, true)), .mv (.s 24)⟩, ⟨6, (some 184), (some (181, true)), .bin .lss (.s 182) (.s 183)⟩, ⟨7, (some 185), none, .pick (.s 181) (.s 184) (.k (.c (.bool false)))⟩] [] (some [185, 2, 1, 20, 0, 18, 24, 3, 4]))
  (.cond (.s 185) (.region 0 [⟨0, (some 186), none, .mv (.s 0)⟩, ⟨1, (some 187), none, .mv (.s 20)⟩, ⟨2, (some 188), none, .mv (.s 2)⟩, ⟨3, (some 189), none, .mv (.s 24)⟩, ⟨4, (some 190), none, .mv (.s 4)⟩, ⟨5, (some 191), none, .call ⟨false⟩ (.k (.c (.fn 301 [] []))) [(.s 186), (.s 187), (.s 188), (.s 189), (.s 190)]⟩] [] (some [1, 20, 0, 18, 24, 3, 4]))
  .skip))
  (.seq (.seq (.region 0 [⟨0, (some 192), none, .mv (.s 1)⟩, ⟨1, (some 193), none, .mv (.s 20)⟩, ⟨2, (some 194), none, .bin .lss (.s 192) (.s 193)⟩, ⟨3, (some 195), none, .mv (.s 194)⟩, ⟨4, (some 196), (some (195, true)), .mv (.s 20)⟩, ⟨5, (some 197), (some (195, true)), .mv (.s 18)⟩, ⟨6, (some 198), (some (195, true)), .bin .lss (.s 196) (.s 197)⟩, ⟨7, (some 199), none, .pick (.s 195) (.s 198) (.k (.c (.bool false)))⟩] [] (some [199, 1, 20, 0, 18, 24, 3, 4]))
  (.cond (.s 199) (.region 0 [⟨0, (some 200), none, .mv (.s 0)⟩, ⟨1, (some 201), none, .mv (.s 1)⟩, ⟨2, (some 202), none, .mv (.s 20)⟩, ⟨3, (some 203), none, .mv (.s 18)⟩, ⟨4, (some 204), none, .mv (.s 4)⟩, ⟨5, (some 205), none, .call ⟨false⟩ (.k (.c (.fn 278 [] []))) [(.s 200), (.s 201), (.s 202), (.s 203), (.s 204)]⟩] [] (some [0, 18, 24, 3, 4]))
  .skip))
  (.seq (.region 0 [⟨0, (some 206), none, .mv (.s 18)⟩, ⟨1, (some 207), none, .mv (.s 24)⟩, ⟨2, (some 208), none, .bin .lss (.s 206) (.s 207)⟩, ⟨3, (some 209), none, .mv (.s 208)⟩, ⟨4, (some 210), (some (209, true)), .mv (.s 24)⟩, ⟨5, (some 211), (some (209, true)), .mv (.s 3)⟩, ⟨6, (some 212), (some (209, true)), .bin .lss (.s 210) (.s 211)⟩, ⟨7, (some 213), none, .pick (.s 209) (.s 212) (.k (.c (.bool false)))⟩] [] (some [213, 0, 18, 24, 3, 4]))
  (.cond (.s 213) (.region 0 [⟨0, (some 214), none, .mv (.s 0)⟩, ⟨1, (some 215), none, .mv (.s 18)⟩, ⟨2, (some 216), none, .mv (.s 24)⟩, ⟨3, (some 217), none, .mv (.s 3)⟩, ⟨4, (some 218), none, .mv (.s 4)⟩, ⟨5, (some 219), none, .call ⟨false⟩ (.k (.c (.fn 278 [] []))) [(.s 214), (.s 215), (.s 216), (.s 217), (.s 218)]⟩] [] (some []))
  .skip))))))))))))) }
abbrev f_slices_order2CmpFunc_Found : Nat := 279
def c_slices_order2CmpFunc_Found : CFn := { frz := true, rnd := none, nargs := 5, ntmps := 32, res := [(.slot 10), (.slot 11)], code :=
  (.seq (.region 0 [⟨0, (some 10), none, .mv (.k (.c (.int .i64 0)))⟩, ⟨1, (some 11), none, .mv (.k (.c (.int .i64 0)))⟩] [] (some [4, 0, 3, 2, 1]))
  (.seq (.seq (.region 0 [⟨0, (some 12), none, .mv (.s 4)⟩, ⟨1, (some 13), none, .mv (.s 0)⟩, ⟨2, (some 14), none, .mv (.s 2)⟩, ⟨3, (some 15), none, .iaddr 5 (.s 13) (.s 14)⟩, ⟨5, (some 17), none, .mv (.s 0)⟩, ⟨6, (some 18), none, .mv (.s 1)⟩, ⟨7, (some 19), none, .iaddr 5 (.s 17) (.s 18)⟩, ⟨4, (some 16), none, .load true 5 (.s 15)⟩, ⟨8, (some 20), none, .load true 5 (.s 19)⟩, ⟨9, (some 21), none, .call ⟨true⟩ (.s 12) [(.s 16), (.s 20)]⟩, ⟨10, (some 22), none, .bin .lss (.s 21) (.k (.c (.int .i64 0)))⟩] [] (some [22, 3, 2, 1]))
  (.cond (.s 22) (.seq (.region 0 [⟨0, (some 23), none, .mv (.s 3)⟩, ⟨1, (some 24), none, .nilck (.s 23)⟩, ⟨2, (some 25), none, .load false 1 (.s 24)⟩, ⟨3, (some 26), none, .bin .add (.s 25) (.k (.c (.int .i64 1)))⟩, ⟨4, (some 27), none, .nilck (.s 23)⟩, ⟨5, none, none, .store 1 (.s 27) (.s 26)⟩] [] (some [2, 1]))
  (.seq (.region 0 [⟨0, (some 28), none, .mv (.s 2)⟩, ⟨1, (some 29), none, .mv (.s 1)⟩, ⟨2, (some 10), none, .mv (.s 28)⟩, ⟨3, (some 11), none, .mv (.s 29)⟩] [] (some [10, 11]))
  .ret))
  .skip))
  (.seq (.region 0 [⟨0, (some 30), none, .mv (.s 1)⟩, ⟨1, (some 31), none, .mv (.s 2)⟩, ⟨2, (some 10), none, .mv (.s 30)⟩, ⟨3, (some 11), none, .mv (.s 31)⟩] [] (some [10, 11]))
  .ret))) }
def c_slices_insertionSortOrdered_int64_l1 : CC := (.seq (.seq (.region 0 [⟨0, (some 16), none, .mv (.s 7)⟩, ⟨1, (some 17), none, .mv (.s 1)⟩, ⟨2, (some 18), none, .bin .gtr (.s 16) (.s 17)⟩, ⟨3, (some 19), none, .mv (.s 18)⟩, ⟨4, (some 20), (some (19, true)), .mv (.s 0)⟩, ⟨5, (some 21), (some (19, true)), .mv (.s 7)⟩, ⟨6, (some 22), (some (19, true)), .iaddr 1 (.s 20) (.s 21)⟩, ⟨8, (some 24), (some (19, true)), .mv (.s 0)⟩, ⟨9, (some 25), (some (19, true)), .mv (.s 7)⟩, ⟨10, (some 26), (some (19, true)), .bin .sub (.s 25) (.k (.c (.int .i64 1)))⟩, ⟨11, (some 27), (some (19, true)), .iaddr 1 (.s 24) (.s 26)⟩, ⟨7, (some 23), (some (19, true)), .load false 1 (.s 22)⟩, ⟨12, (some 28), (some (19, true)), .load false 1 (.s 27)⟩, ⟨13, (some 29), (some (19, true)), .call ⟨true⟩ (.k (.c (.fn 296 [] []))) [(.s 23), (.s 28)]⟩, ⟨14, (some 30), none, .pick (.s 19) (.s 29) (.k (.c (.bool false)))⟩] [] (some [30, 7, 1, 2, 6, 0]))
  (.cond (.s 30) .skip
  (.exit 2)))
  (.seq (.block 3 (.region 0 [⟨0, (some 33), none, .mv (.s 0)⟩, ⟨1, (some 34), none, .mv (.s 7)⟩, ⟨2, (some 35), none, .mv (.s 0)⟩, ⟨3, (some 36), none, .mv (.s 7)⟩, ⟨4, (some 37), none, .bin .sub (.s 36) (.k (.c (.int .i64 1)))⟩, ⟨5, (some 38), none, .mv (.s 0)⟩, ⟨6, (some 39), none, .mv (.s 7)⟩, ⟨7, (some 40), none, .bin .sub (.s 39) (.k (.c (.int .i64 1)))⟩, ⟨8, (some 41), none, .iaddr 1 (.s 38) (.s 40)⟩, ⟨10, (some 43), none, .mv (.s 0)⟩, ⟨11, (some 44), none, .mv (.s 7)⟩, ⟨12, (some 45), none, .iaddr 1 (.s 43) (.s 44)⟩, ⟨9, (some 42), none, .load false 1 (.s 41)⟩, ⟨13, (some 46), none, .load false 1 (.s 45)⟩, ⟨14, (some 47), none, .iaddr 1 (.s 33) (.s 34)⟩, ⟨15, none, none, .store 1 (.s 47) (.s 42)⟩, ⟨16, (some 48), none, .iaddr 1 (.s 35) (.s 37)⟩, ⟨17, none, none, .store 1 (.s 48) (.s 46)⟩] [] (some [7, 1, 2, 6, 0])))
  (.region 0 [⟨0, (some 31), none, .mv (.s 7)⟩, ⟨1, (some 32), none, .bin .sub (.s 31) (.k (.c (.int .i64 1)))⟩, ⟨2, (some 7), none, .mv (.s 32)⟩] [] (some [7, 1, 2, 6, 0]))))
def c_slices_insertionSortOrdered_int64_l2 : CC := (.seq (.seq (.region 0 [⟨0, (some 10), none, .mv (.s 6)⟩, ⟨1, (some 11), none, .mv (.s 2)⟩, ⟨2, (some 12), none, .bin .lss (.s 10) (.s 11)⟩] [] (some [12, 1, 2, 6, 0]))
  (.cond (.s 12) .skip
  (.exit 0)))
  (.seq (.block 1 (.seq (.region 0 [⟨0, (some 15), none, .mv (.s 6)⟩, ⟨1, (some 7), none, .mv (.s 15)⟩] [] (some [7, 1, 2, 6, 0]))
  (.block 2 (.loop (some [7, 1, 2, 6, 0]) c_slices_insertionSortOrdered_int64_l1))))
  (.region 0 [⟨0, (some 13), none, .mv (.s 6)⟩, ⟨1, (some 14), none, .bin .add (.s 13) (.k (.c (.int .i64 1)))⟩, ⟨2, (some 6), none, .mv (.s 14)⟩] [] (some [2, 1, 6, 0]))))
abbrev f_slices_insertionSortOrdered_int64 : Nat := 290
def c_slices_insertionSortOrdered_int64 : CFn := { frz := true, rnd := none, nargs := 3, ntmps := 49, res := [], code :=
  (.seq (.region 0 [⟨0, (some 8), none, .mv (.s 1)⟩, ⟨1, (some 9), none, .bin .add (.s 8) (.k (.c (.int .i64 1)))⟩, ⟨2, (some 6), none, .mv (.s 9)⟩] [] (some [2, 1, 6, 0]))
  (.block 0 (.loop (some [2, 1, 6, 0]) c_slices_insertionSortOrdered_int64_l2))) }
def c_slices_heapSortOrdered_int64_l1 : CC := (.seq (.seq (.region 0 [⟨0, (some 18), none, .mv (.s 9)⟩, ⟨1, (some 19), none, .bin .geq (.s 18) (.k (.c (.int .i64 0)))⟩] [] (some [19, 9, 7, 0, 8, 6]))
  (.cond (.s 19) .skip
  (.exit 0)))
  (.seq (.block 1 (.region 0 [⟨0, (some 22), none, .mv (.s 0)⟩, ⟨1, (some 23), none, .mv (.s 9)⟩, ⟨2, (some 24), none, .mv (.s 8)⟩, ⟨3, (some 25), none, .mv (.s 6)⟩, ⟨4, (some 26), none, .call ⟨false⟩ (.k (.c (.fn 307 [] []))) [(.s 22), (.s 23), (.s 24), (.s 25)]⟩] [] (some [9, 7, 0, 8, 6])))
  (.region 0 [⟨0, (some 20), none, .mv (.s 9)⟩, ⟨1, (some 21), none, .bin .sub (.s 20) (.k (.c (.int .i64 1)))⟩, ⟨2, (some 9), none, .mv (.s 21)⟩] [] (some [9, 7, 0, 8, 6]))))
def c_slices_heapSortOrdered_int64_l2 : CC := (.seq (.seq (.region 0 [⟨0, (some 29), none, .mv (.s 10)⟩, ⟨1, (some 30), none, .bin .geq (.s 29) (.k (.c (.int .i64 0)))⟩] [] (some [30, 10, 0, 7, 6]))
  (.cond (.s 30) .skip
  (.exit 2)))
  (.seq (.block 3 (.seq (.region 0 [⟨0, (some 33), none, .mv (.s 0)⟩, ⟨1, (some 34), none, .mv (.s 6)⟩, ⟨2, (some 35), none, .mv (.s 0)⟩, ⟨3, (some 36), none, .mv (.s 6)⟩, ⟨4, (some 37), none, .mv (.s 10)⟩, ⟨5, (some 38), none, .bin .add (.s 36) (.s 37)⟩, ⟨6, (some 39), none, .mv (.s 0)⟩, ⟨7, (some 40), none, .mv (.s 6)⟩, ⟨8, (some 41), none, .mv (.s 10)⟩, ⟨9, (some 42), none, .bin .add (.s 40) (.s 41)⟩, ⟨10, (some 43), none, .iaddr 1 (.s 39) (.s 42)⟩, ⟨12, (some 45), none, .mv (.s 0)⟩, ⟨13, (some 46), none, .mv (.s 6)⟩, ⟨14, (some 47), none, .iaddr 1 (.s 45) (.s 46)⟩, ⟨11, (some 44), none, .load false 1 (.s 43)⟩, ⟨15, (some 48), none, .load false 1 (.s 47)⟩, ⟨16, (some 49), none, .iaddr 1 (.s 33) (.s 34)⟩, ⟨17, none, none, .store 1 (.s 49) (.s 44)⟩, ⟨18, (some 50), none, .iaddr 1 (.s 35) (.s 38)⟩, ⟨19, none, none, .store 1 (.s 50) (.s 48)⟩] [] (some [10, 0, 7, 6]))
  (.region 0 [⟨0, (some 51), none, .mv (.s 0)⟩, ⟨1, (some 52), none, .mv (.s 7)⟩, ⟨2, (some 53), none, .mv (.s 10)⟩, ⟨3, (some 54), none, .mv (.s 6)⟩, ⟨4, (some 55), none, .call ⟨false⟩ (.k (.c (.fn 307 [] []))) [(.s 51), (.s 52), (.s 53), (.s 54)]⟩] [] (some [10, 0, 7, 6]))))
  (.region 0 [⟨0, (some 31), none, .mv (.s 10)⟩, ⟨1, (some 32), none, .bin .sub (.s 31) (.k (.c (.int .i64 1)))⟩, ⟨2, (some 10), none, .mv (.s 32)⟩] [] (some [10, 0, 7, 6]))))
abbrev f_slices_heapSortOrdered_int64 : Nat := 291
def c_slices_heapSortOrdered_int64 : CFn := { frz := true, rnd := none, nargs := 3, ntmps := 56, res := [], code :=
  (.seq (.region 0 [⟨0, (some 11), none, .mv (.s 1)⟩, ⟨1, (some 6), none, .mv (.s 11)⟩] [] (some [2, 1, 0, 6]))
  (.seq (.region 0 [⟨0, (some 7), none, .mv (.k (.c (.int .i64 0)))⟩] [] (some [2, 1, 7, 0, 6]))
  (.seq (.region 0 [⟨0, (some 12), none, .mv (.s 2)⟩, ⟨1, (some 13), none, .mv (.s 1)⟩, ⟨2, (some 14), none, .bin .sub (.s 12) (.s 13)⟩, ⟨3, (some 8), none, .mv (.s 14)⟩] [] (some [7, 0, 8, 6]))
  (.seq (.seq (.region 0 [⟨0, (some 15), none, .mv (.s 8)⟩, ⟨1, (some 16), none, .bin .sub (.s 15) (.k (.c (.int .i64 1)))⟩, ⟨2, (some 17), none, .bin .quo (.s 16) (.k (.c (.int .i64 2)))⟩, ⟨3, (some 9), none, .mv (.s 17)⟩] [] (some [9, 7, 0, 8, 6]))
  (.block 0 (.loop (some [9, 7, 0, 8, 6]) c_slices_heapSortOrdered_int64_l1)))
  (.seq (.region 0 [⟨0, (some 27), none, .mv (.s 8)⟩, ⟨1, (some 28), none, .bin .sub (.s 27) (.k (.c (.int .i64 1)))⟩, ⟨2, (some 10), none, .mv (.s 28)⟩] [] (some [10, 0, 7, 6]))
  (.block 2 (.loop (some [10, 0, 7, 6]) c_slices_heapSortOrdered_int64_l2))))))) }
def c_slices_breakPatternsOrdered_int64_l1 : CC := (.seq (.seq (.region 0 [⟨0, (some 26), none, .mv (.s 9)⟩, ⟨1, (some 27), none, .mv (.s 1)⟩, ⟨2, (some 28), none, .mv (.s 6)⟩, ⟨3, (some 29), none, .bin .quo (.s 28) (.k (.c (.int .i64 4)))⟩, ⟨4, (some 30), none, .bin .mul (.s 29) (.k (.c (.int .i64 2)))⟩, ⟨5, (some 31), none, .bin .add (.s 27) (.s 30)⟩, ⟨6, (some 32), none, .bin .add (.s 31) (.k (.c (.int .i64 1)))⟩, ⟨7, (some 33), none, .bin .leq (.s 26) (.s 32)⟩] [] (some [33, 9, 7, 8, 6, 1, 0]))
  (.cond (.s 33) .skip
  (.exit 0)))
  (.seq (.block 1 (.seq (.region 0 [⟨0, (some 36), none, .call ⟨true⟩ (.k (.c (.fn 239 [] []))) [(.s 7)]⟩, ⟨1, (some 37), none, .mv (.s 8)⟩, ⟨2, (some 38), none, .bin .sub (.s 37) (.k (.c (.int .u64 1)))⟩, ⟨3, (some 39), none, .bin .and (.s 36) (.s 38)⟩, ⟨4, (some 40), none, .conv .i64 (.s 39)⟩, ⟨5, (some 10), none, .mv (.s 40)⟩] [] (some [10, 9, 7, 8, 6, 1, 0]))
  (.seq (.seq (.region 0 [⟨0, (some 41), none, .mv (.s 10)⟩, ⟨1, (some 42), none, .mv (.s 6)⟩, ⟨2, (some 43), none, .bin .geq (.s 41) (.s 42)⟩] [] (some [43, 10, 9, 7, 8, 6, 1, 0]))
  (.cond (.s 43) (.region 0 [⟨0, (some 44), none, .mv (.s 10)⟩, ⟨1, (some 45), none, .mv (.s 6)⟩, ⟨2, (some 46), none, .bin .sub (.s 44) (.s 45)⟩, ⟨3, (some 10), none, .mv (.s 46)⟩] [] (some [10, 9, 7, 8, 6, 1, 0]))
  .skip))
  (.region 0 [⟨0, (some 47), none, .mv (.s 0)⟩, ⟨1, (some 48), none, .mv (.s 9)⟩, ⟨2, (some 49), none, .mv (.s 0)⟩, ⟨3, (some 50), none, .mv (.s 1)⟩, ⟨4, (some 51), none, .mv (.s 10)⟩, ⟨5, (some 52), none, .bin .add (.s 50) (.s 51)⟩, ⟨6, (some 53), none, .mv (.s 0)⟩, ⟨7, (some 54), none, .mv (.s 1)⟩, ⟨8, (some 55), none, .mv (.s 10)⟩, ⟨9, (some 56), none, .bin .add (.s 54) (.s 55)⟩, ⟨10, (some 57), none, .iaddr 1 (.s 53) (.s 56)⟩, ⟨12, (some 59), none, .mv (.s 0)⟩, ⟨13, (some 60), none, .mv (.s 9)⟩, ⟨14, (some 61), none, .iaddr 1 (.s 59) (.s 60)⟩, ⟨11, (some 58), none, .load false 1 (.s 57)⟩, ⟨15, (some 62), none, .load false 1 (.s 61)⟩, ⟨16, (some 63), none, .iaddr 1 (.s 47) (.s 48)⟩, ⟨17, none, none, .store 1 (.s 63) (.s 58)⟩, ⟨18, (some 64), none, .iaddr 1 (.s 49) (.s 52)⟩, ⟨19, none, none, .store 1 (.s 64) (.s 62)⟩] [] (some [9, 7, 8, 6, 1, 0])))))
  (.region 0 [⟨0, (some 34), none, .mv (.s 9)⟩, ⟨1, (some 35), none, .bin .add (.s 34) (.k (.c (.int .i64 1)))⟩, ⟨2, (some 9), none, .mv (.s 35)⟩] [] (some [9, 7, 8, 6, 1, 0]))))
abbrev f_slices_breakPatternsOrdered_int64 : Nat := 292
def c_slices_breakPatternsOrdered_int64 : CFn := { frz := true, rnd := none, nargs := 3, ntmps := 65, res := [], code :=
  (.seq (.region 0 [⟨0, (some 11), none, .mv (.s 2)⟩, ⟨1, (some 12), none, .mv (.s 1)⟩, ⟨2, (some 13), none, .bin .sub (.s 11) (.s 12)⟩, ⟨3, (some 6), none, .mv (.s 13)⟩] [] (some [6, 1, 0]))
  (.seq (.region 0 [⟨0, (some 14), none, .mv (.s 6)⟩, ⟨1, (some 15), none, .bin .geq (.s 14) (.k (.c (.int .i64 8)))⟩] [] (some [15, 6, 1, 0]))
  (.cond (.s 15) (.seq (.region 1 [⟨0, (some 16), none, .mv (.s 6)⟩, ⟨1, (some 17), none, .conv .u64 (.s 16)⟩, ⟨2, (some 7), none, .box 0 1 (.k (.a [(.int .u64 0)]))⟩, ⟨3, none, none, .store 1 (.s 7) (.s 17)⟩] [] (some [7, 6, 1, 0]))
  (.seq (.region 0 [⟨0, (some 18), none, .mv (.s 6)⟩, ⟨1, (some 19), none, .call ⟨true⟩ (.k (.c (.fn 238 [] []))) [(.s 18)]⟩, ⟨2, (some 8), none, .mv (.s 19)⟩] [] (some [7, 8, 6, 1, 0]))
  (.seq (.region 0 [⟨0, (some 20), none, .mv (.s 1)⟩, ⟨1, (some 21), none, .mv (.s 6)⟩, ⟨2, (some 22), none, .bin .quo (.s 21) (.k (.c (.int .i64 4)))⟩, ⟨3, (some 23), none, .bin .mul (.s 22) (.k (.c (.int .i64 2)))⟩, ⟨4, (some 24), none, .bin .add (.s 20) (.s 23)⟩, ⟨5, (some 25), none, .bin .sub (.s 24) (.k (.c (.int .i64 1)))⟩, ⟨6, (some 9), none, .mv (.s 25)⟩] [] (some [9, 7, 8, 6, 1, 0]))
  (.block 0 (.loop (some [9, 7, 8, 6, 1, 0]) c_slices_breakPatternsOrdered_int64_l1)))))
  .skip))) }
abbrev f_slices_choosePivotOrdered_int64 : Nat := 293
def c_slices_choosePivotOrdered_int64 : CFn := { frz := true, rnd := none, nargs := 3, ntmps := 57, res := [(.slot 6), (.slot 7)], code :=
  (.seq (.region 0 [⟨0, (some 6), none, .mv (.k (.c (.int .i64 0)))⟩, ⟨1, (some 7), none, .mv (.k (.c (.int .i64 0)))⟩] [] (some [2, 1, 0]))
  (.seq (.region 0 [⟨0, (some 13), none, .mv (.s 2)⟩, ⟨1, (some 14), none, .mv (.s 1)⟩, ⟨2, (some 15), none, .bin .sub (.s 13) (.s 14)⟩, ⟨3, (some 8), none, .mv (.s 15)⟩] [] (some [1, 8, 0]))
  (.seq (.region 1 [⟨0, (some 9), none, .box 0 1 (.k (.a [(.int .i64 0)]))⟩] [] (some [1, 8, 0, 9]))
  (.seq (.region 0 [⟨0, (some 16), none, .mv (.s 1)⟩, ⟨1, (some 17), none, .mv (.s 8)⟩, ⟨2, (some 18), none, .bin .quo (.s 17) (.k (.c (.int .i64 4)))⟩, ⟨3, (some 19), none, .bin .mul (.s 18) (.k (.c (.int .i64 1)))⟩, ⟨4, (some 20), none, .bin .add (.s 16) (.s 19)⟩, ⟨5, (some 10), none, .mv (.s 20)⟩] [] (some [1, 8, 10, 0, 9]))
  (.seq (.region 0 [⟨0, (some 21), none, .mv (.s 1)⟩, ⟨1, (some 22), none, .mv (.s 8)⟩, ⟨2, (some 23), none, .bin .quo (.s 22) (.k (.c (.int .i64 4)))⟩, ⟨3, (some 24), none, .bin .mul (.s 23) (.k (.c (.int .i64 2)))⟩, ⟨4, (some 25), none, .bin .add (.s 21) (.s 24)⟩, ⟨5, (some 11), none, .mv (.s 25)⟩] [] (some [1, 8, 10, 11, 0, 9]))
  (.seq (.region 0 [⟨0, (some 26), none, .mv (.s 1)⟩, ⟨1, (some 27), none, .mv (.s 8)⟩, ⟨2, (some 28), none, .bin .quo (.s 27) (.k (.c (.int .i64 4)))⟩, ⟨3, (some 29), none, .bin .mul (.s 28) (.k (.c (.int .i64 3)))⟩, ⟨4, (some 30), none, .bin .add (.s 26) (.s 29)⟩, ⟨5, (some 12), none, .mv (.s 30)⟩] [] (some [8, 10, 11, 12, 0, 9]))
  (.seq (.seq (.region 0 [⟨0, (some 31), none, .mv (.s 8)⟩, ⟨1, (some 32), none, .bin .geq (.s 31) (.k (.c (.int .i64 8)))⟩] [] (some [32, 8, 10, 11, 12, 0, 9]))
  (.cond (.s 32) (.seq (.seq (.region 0 [⟨0, (some 33), none, .mv (.s 8)⟩, ⟨1, (some 34), none, .bin .geq (.s 33) (.k (.c (.int .i64 50)))⟩] [] (some [34, 10, 11, 12, 0, 9]))
  (.cond (.s 34) (.seq (.region 0 [⟨0, (some 35), none, .mv (.s 0)⟩, ⟨1, (some 36), none, .mv (.s 10)⟩, ⟨2, (some 37), none, .call ⟨false⟩ (.k (.c (.fn 308 [] []))) [(.s 35), (.s 36), (.s 9)]⟩, ⟨3, (some 10), none, .mv (.s 37)⟩] [] (some [11, 12, 0, 10, 9]))
  (.seq (.region 0 [⟨0, (some 38), none, .mv (.s 0)⟩, ⟨1, (some 39), none, .mv (.s 11)⟩, ⟨2, (some 40), none, .call ⟨false⟩ (.k (.c (.fn 308 [] []))) [(.s 38), (.s 39), (.s 9)]⟩, ⟨3, (some 11), none, .mv (.s 40)⟩] [] (some [12, 0, 10, 11, 9]))
  (.region 0 [⟨0, (some 41), none, .mv (.s 0)⟩, ⟨1, (some 42), none, .mv (.s 12)⟩, ⟨2, (some 43), none, .call ⟨false⟩ (.k (.c (.fn 308 [] []))) [(.s 41), (.s 42), (.s 9)]⟩, ⟨3, (some 12), none, .mv (.s 43)⟩] [] (some [0, 10, 11, 12, 9]))))
  .skip))
  (.region 0 [⟨0, (some 44), none, .mv (.s 0)⟩, ⟨1, (some 45), none, .mv (.s 10)⟩, ⟨2, (some 46), none, .mv (.s 11)⟩, ⟨3, (some 47), none, .mv (.s 12)⟩, ⟨4, (some 48), none, .call ⟨false⟩ (.k (.c (.fn 309 [] []))) [(.s 44), (.s 45), (.s 46), (.s 47), (.s 9)]⟩, ⟨5, (some 11), none, .mv (.s 48)⟩] [] (some [9, 11])))
  .skip))
  (.seq (.region 0 [⟨0, (some 49), none, .load false 1 (.s 9)⟩] [] (some [49, 11]))
  (.block 0 (.seq (.region 0 [⟨0, (some 52), none, .bin .eql (.s 49) (.k (.c (.int .i64 0)))⟩, ⟨1, (some 51), none, .mv (.s 52)⟩] [] (some [51, 49, 11]))
  (.cond (.s 51) (.seq (.region 0 [⟨0, (some 53), none, .mv (.s 11)⟩, ⟨1, (some 6), none, .mv (.s 53)⟩, ⟨2, (some 7), none, .mv (.k (.c (.int .i64 1)))⟩] [] (some [6, 7]))
  .ret)
  (.seq (.region 0 [⟨0, (some 55), none, .bin .eql (.s 49) (.k (.c (.int .i64 12)))⟩, ⟨1, (some 54), none, .mv (.s 55)⟩] [] (some [54, 11]))
  (.cond (.s 54) (.seq (.region 0 [⟨0, (some 56), none, .mv (.s 11)⟩, ⟨1, (some 6), none, .mv (.s 56)⟩, ⟨2, (some 7), none, .mv (.k (.c (.int .i64 2)))⟩] [] (some [6, 7]))
  .ret)
  (.seq (.region 0 [⟨0, (some 50), none, .mv (.s 11)⟩, ⟨1, (some 6), none, .mv (.s 50)⟩, ⟨2, (some 7), none, .mv (.k (.c (.int .i64 0)))⟩] [] (some [6, 7]))
  .ret)))))))))))))) }
def c_slices_reverseRangeOrdered_int64_l1 : CC := (.seq (.seq (.region 0 [⟨0, (some 11), none, .mv (.s 6)⟩, ⟨1, (some 12), none, .mv (.s 7)⟩, ⟨2, (some 13), none, .bin .lss (.s 11) (.s 12)⟩] [] (some [13, 6, 7, 0]))
  (.cond (.s 13) .skip
  (.exit 0)))
  (.block 1 (.seq (.region 0 [⟨0, (some 14), none, .mv (.s 0)⟩, ⟨1, (some 15), none, .mv (.s 6)⟩, ⟨2, (some 16), none, .mv (.s 0)⟩, ⟨3, (some 17), none, .mv (.s 7)⟩, ⟨4, (some 18), none, .mv (.s 0)⟩, ⟨5, (some 19), none, .mv (.s 7)⟩, ⟨6, (some 20), none, .iaddr 1 (.s 18) (.s 19)⟩, ⟨8, (some 22), none, .mv (.s 0)⟩, ⟨9, (some 23), none, .mv (.s 6)⟩, ⟨10, (some 24), none, .iaddr 1 (.s 22) (.s 23)⟩, ⟨7, (some 21), none, .load false 1 (.s 20)⟩, ⟨11, (some 25), none, .load false 1 (.s 24)⟩, ⟨12, (some 26), none, .iaddr 1 (.s 14) (.s 15)⟩, ⟨13, none, none, .store 1 (.s 26) (.s 21)⟩, ⟨14, (some 27), none, .iaddr 1 (.s 16) (.s 17)⟩, ⟨15, none, none, .store 1 (.s 27) (.s 25)⟩] [] (some [6, 7, 0]))
  (.seq (.region 0 [⟨0, (some 28), none, .mv (.s 6)⟩, ⟨1, (some 29), none, .bin .add (.s 28) (.k (.c (.int .i64 1)))⟩, ⟨2, (some 6), none, .mv (.s 29)⟩] [] (some [7, 6, 0]))
  (.region 0 [⟨0, (some 30), none, .mv (.s 7)⟩, ⟨1, (some 31), none, .bin .sub (.s 30) (.k (.c (.int .i64 1)))⟩, ⟨2, (some 7), none, .mv (.s 31)⟩] [] (some [6, 7, 0]))))))
abbrev f_slices_reverseRangeOrdered_int64 : Nat := 294
def c_slices_reverseRangeOrdered_int64 : CFn := { frz := true, rnd := none, nargs := 3, ntmps := 32, res := [], code :=
  (.seq (.region 0 [⟨0, (some 8), none, .mv (.s 1)⟩, ⟨1, (some 6), none, .mv (.s 8)⟩] [] (some [2, 6, 0]))
  (.seq (.region 0 [⟨0, (some 9), none, .mv (.s 2)⟩, ⟨1, (some 10), none, .bin .sub (.s 9) (.k (.c (.int .i64 1)))⟩, ⟨2, (some 7), none, .mv (.s 10)⟩] [] (some [6, 7, 0]))
  (.block 0 (.loop (some [6, 7, 0]) c_slices_reverseRangeOrdered_int64_l1)))) }
def c_slices_partialInsertionSortOrdered_int64_l1 : CC := (.seq (.seq (.region 0 [⟨0, (some 17), none, .mv (.s 7)⟩, ⟨1, (some 18), none, .mv (.s 2)⟩, ⟨2, (some 19), none, .bin .lss (.s 17) (.s 18)⟩, ⟨3, (some 20), none, .mv (.s 19)⟩, ⟨4, (some 21), (some (20, true)), .mv (.s 0)⟩, ⟨5, (some 22), (some (20, true)), .mv (.s 7)⟩, ⟨6, (some 23), (some (20, true)), .iaddr 1 (.s 21) (.s 22)⟩, ⟨8, (some 25), (some (20, true)), .mv (.s 0)⟩, ⟨9, (some 26), (some (20, true)), .mv (.s 7)⟩, ⟨10, (some 27), (some (20, true)), .bin .sub (.s 26) (.k (.c (.int .i64 1)))⟩, ⟨11, (some 28), (some (20, true)), .iaddr 1 (.s 25) (.s 27)⟩, ⟨7, (some 24), (some (20, true)), .load false 1 (.s 23)⟩, ⟨12, (some 29), (some (20, true)), .load false 1 (.s 28)⟩, ⟨13, (some 30), (some (20, true)), .call ⟨true⟩ (.k (.c (.fn 296 [] []))) [(.s 24), (.s 29)]⟩, ⟨14, (some 31), (some (20, true)), .un .not (.s 30)⟩, ⟨15, (some 32), none, .pick (.s 20) (.s 31) (.k (.c (.bool false)))⟩] [] (some [32, 7, 1, 2, 0, 8]))
  (.cond (.s 32) .skip
  (.exit 2)))
  (.block 3 (.region 0 [⟨0, (some 33), none, .mv (.s 7)⟩, ⟨1, (some 34), none, .bin .add (.s 33) (.k (.c (.int .i64 1)))⟩, ⟨2, (some 7), none, .mv (.s 34)⟩] [] (some [7, 1, 2, 0, 8]))))
def c_slices_partialInsertionSortOrdered_int64_l2 : CC := (.seq (.seq (.region 0 [⟨0, (some 64), none, .mv (.s 9)⟩, ⟨1, (some 65), none, .bin .geq (.s 64) (.k (.c (.int .i64 1)))⟩] [] (some [65, 9, 8, 7, 0, 2, 1]))
  (.cond (.s 65) .skip
  (.exit 4)))
  (.seq (.block 5 (.seq (.seq (.region 0 [⟨0, (some 68), none, .mv (.s 0)⟩, ⟨1, (some 69), none, .mv (.s 9)⟩, ⟨2, (some 70), none, .iaddr 1 (.s 68) (.s 69)⟩, ⟨4, (some 72), none, .mv (.s 0)⟩, ⟨5, (some 73), none, .mv (.s 9)⟩, ⟨6, (some 74), none, .bin .sub (.s 73) (.k (.c (.int .i64 1)))⟩, ⟨7, (some 75), none, .iaddr 1 (.s 72) (.s 74)⟩, ⟨3, (some 71), none, .load false 1 (.s 70)⟩, ⟨8, (some 76), none, .load false 1 (.s 75)⟩, ⟨9, (some 77), none, .call ⟨true⟩ (.k (.c (.fn 296 [] []))) [(.s 71), (.s 76)]⟩, ⟨10, (some 78), none, .un .not (.s 77)⟩] [] (some [78, 9, 8, 7, 0, 2, 1]))
  (.cond (.s 78) (.exit 4)
  .skip))
  (.region 0 [⟨0, (some 79), none, .mv (.s 0)⟩, ⟨1, (some 80), none, .mv (.s 9)⟩, ⟨2, (some 81), none, .mv (.s 0)⟩, ⟨3, (some 82), none, .mv (.s 9)⟩, ⟨4, (some 83), none, .bin .sub (.s 82) (.k (.c (.int .i64 1)))⟩, ⟨5, (some 84), none, .mv (.s 0)⟩, ⟨6, (some 85), none, .mv (.s 9)⟩, ⟨7, (some 86), none, .bin .sub (.s 85) (.k (.c (.int .i64 1)))⟩, ⟨8, (some 87), none, .iaddr 1 (.s 84) (.s 86)⟩, ⟨10, (some 89), none, .mv (.s 0)⟩, ⟨11, (some 90), none, .mv (.s 9)⟩, ⟨12, (some 91), none, .iaddr 1 (.s 89) (.s 90)⟩, ⟨9, (some 88), none, .load false 1 (.s 87)⟩, ⟨13, (some 92), none, .load false 1 (.s 91)⟩, ⟨14, (some 93), none, .iaddr 1 (.s 79) (.s 80)⟩, ⟨15, none, none, .store 1 (.s 93) (.s 88)⟩, ⟨16, (some 94), none, .iaddr 1 (.s 81) (.s 83)⟩, ⟨17, none, none, .store 1 (.s 94) (.s 92)⟩] [] (some [9, 8, 7, 0, 2, 1]))))
  (.region 0 [⟨0, (some 66), none, .mv (.s 9)⟩, ⟨1, (some 67), none, .bin .sub (.s 66) (.k (.c (.int .i64 1)))⟩, ⟨2, (some 9), none, .mv (.s 67)⟩] [] (some [9, 8, 7, 0, 2, 1]))))
def c_slices_partialInsertionSortOrdered_int64_l3 : CC := (.seq (.seq (.region 0 [⟨0, (some 101), none, .mv (.s 10)⟩, ⟨1, (some 102), none, .mv (.s 2)⟩, ⟨2, (some 103), none, .bin .lss (.s 101) (.s 102)⟩] [] (some [103, 10, 8, 7, 0, 2, 1]))
  (.cond (.s 103) .skip
  (.exit 6)))
  (.seq (.block 7 (.seq (.seq (.region 0 [⟨0, (some 106), none, .mv (.s 0)⟩, ⟨1, (some 107), none, .mv (.s 10)⟩, ⟨2, (some 108), none, .iaddr 1 (.s 106) (.s 107)⟩, ⟨4, (some 110), none, .mv (.s 0)⟩, ⟨5, (some 111), none, .mv (.s 10)⟩, ⟨6, (some 112), none, .bin .sub (.s 111) (.k (.c (.int .i64 1)))⟩, ⟨7, (some 113), none, .iaddr 1 (.s 110) (.s 112)⟩, ⟨3, (some 109), none, .load false 1 (.s 108)⟩, ⟨8, (some 114), none, .load false 1 (.s 113)⟩, ⟨9, (some 115), none, .call ⟨true⟩ (.k (.c (.fn 296 [] []))) [(.s 109), (.s 114)]⟩, ⟨10, (some 116), none, .un .not (.s 115)⟩] [] (some [116, 10, 8, 7, 0, 2, 1]))
  (.cond (.s 116) (.exit 6)
  .skip))
  (.region 0 [⟨0, (some 117), none, .mv (.s 0)⟩, ⟨1, (some 118), none, .mv (.s 10)⟩, ⟨2, (some 119), none, .mv (.s 0)⟩, ⟨3, (some 120), none, .mv (.s 10)⟩, ⟨4, (some 121), none, .bin .sub (.s 120) (.k (.c (.int .i64 1)))⟩, ⟨5, (some 122), none, .mv (.s 0)⟩, ⟨6, (some 123), none, .mv (.s 10)⟩, ⟨7, (some 124), none, .bin .sub (.s 123) (.k (.c (.int .i64 1)))⟩, ⟨8, (some 125), none, .iaddr 1 (.s 122) (.s 124)⟩, ⟨10, (some 127), none, .mv (.s 0)⟩, ⟨11, (some 128), none, .mv (.s 10)⟩, ⟨12, (some 129), none, .iaddr 1 (.s 127) (.s 128)⟩, ⟨9, (some 126), none, .load false 1 (.s 125)⟩, ⟨13, (some 130), none, .load false 1 (.s 129)⟩, ⟨14, (some 131), none, .iaddr 1 (.s 117) (.s 118)⟩, ⟨15, none, none, .store 1 (.s 131) (.s 126)⟩, ⟨16, (some 132), none, .iaddr 1 (.s 119) (.s 121)⟩, ⟨17, none, none, .store 1 (.s 132) (.s 130)⟩] [] (some [10, 8, 7, 0, 2, 1]))))
  (.region 0 [⟨0, (some 104), none, .mv (.s 10)⟩, ⟨1, (some 105), none, .bin .add (.s 104) (.k (.c (.int .i64 1)))⟩, ⟨2, (some 10), none, .mv (.s 105)⟩] [] (some [10, 8, 7, 0, 2, 1]))))
def c_slices_partialInsertionSortOrdered_int64_l4 : CC := (.seq (.seq (.region 0 [⟨0, (some 13), none, .mv (.s 8)⟩, ⟨1, (some 14), none, .bin .lss (.s 13) (.k (.c (.int .i64 5)))⟩] [] (some [14, 7, 1, 2, 0, 8]))
  (.cond (.s 14) .skip
  (.exit 0)))
  (.seq (.block 1 (.seq (.block 2 (.loop (some [7, 1, 2, 0, 8]) c_slices_partialInsertionSortOrdered_int64_l1))
  (.seq (.seq (.region 0 [⟨0, (some 35), none, .mv (.s 7)⟩, ⟨1, (some 36), none, .mv (.s 2)⟩, ⟨2, (some 37), none, .bin .eql (.s 35) (.s 36)⟩] [] (some [37, 8, 7, 0, 2, 1]))
  (.cond (.s 37) (.seq (.region 0 [⟨0, (some 6), none, .mv (.k (.c (.bool true)))⟩] [] (some [6]))
  .ret)
  .skip))
  (.seq (.seq (.region 0 [⟨0, (some 38), none, .mv (.s 2)⟩, ⟨1, (some 39), none, .mv (.s 1)⟩, ⟨2, (some 40), none, .bin .sub (.s 38) (.s 39)⟩, ⟨3, (some 41), none, .bin .lss (.s 40) (.k (.c (.int .i64 50)))⟩] [] (some [41, 1, 2, 0, 7, 8]))
  (.cond (.s 41) (.seq (.region 0 [⟨0, (some 6), none, .mv (.k (.c (.bool false)))⟩] [] (some [6]))
  .ret)
  .skip))
  (.seq (.region 0 [⟨0, (some 42), none, .mv (.s 0)⟩, ⟨1, (some 43), none, .mv (.s 7)⟩, ⟨2, (some 44), none, .mv (.s 0)⟩, ⟨3, (some 45), none, .mv (.s 7)⟩, ⟨4, (some 46), none, .bin .sub (.s 45) (.k (.c (.int .i64 1)))⟩, ⟨5, (some 47), none, .mv (.s 0)⟩, ⟨6, (some 48), none, .mv (.s 7)⟩, ⟨7, (some 49), none, .bin .sub (.s 48) (.k (.c (.int .i64 1)))⟩, ⟨8, (some 50), none, .iaddr 1 (.s 47) (.s 49)⟩, ⟨10, (some 52), none, .mv (.s 0)⟩, ⟨11, (some 53), none, .mv (.s 7)⟩, ⟨12, (some 54), none, .iaddr 1 (.s 52) (.s 53)⟩, ⟨9, (some 51), none, .load false 1 (.s 50)⟩, ⟨13, (some 55), none, .load false 1 (.s 54)⟩, ⟨14, (some 56), none, .iaddr 1 (.s 42) (.s 43)⟩, ⟨15, none, none, .store 1 (.s 56) (.s 51)⟩, ⟨16, (some 57), none, .iaddr 1 (.s 44) (.s 46)⟩, ⟨17, none, none, .store 1 (.s 57) (.s 55)⟩] [] (some [8, 7, 0, 2, 1]))
  (.seq (.seq (.region 0 [⟨0, (some 58), none, .mv (.s 7)⟩, ⟨1, (some 59), none, .mv (.s 1)⟩, ⟨2, (some 60), none, .bin .sub (.s 58) (.s 59)⟩, ⟨3, (some 61), none, .bin .geq (.s 60) (.k (.c (.int .i64 2)))⟩] [] (some [61, 8, 7, 0, 2, 1]))
  (.cond (.s 61) (.seq (.region 0 [⟨0, (some 62), none, .mv (.s 7)⟩, ⟨1, (some 63), none, .bin .sub (.s 62) (.k (.c (.int .i64 1)))⟩, ⟨2, (some 9), none, .mv (.s 63)⟩] [] (some [9, 8, 7, 0, 2, 1]))
  (.block 4 (.loop (some [9, 8, 7, 0, 2, 1]) c_slices_partialInsertionSortOrdered_int64_l2)))
  .skip))
  (.seq (.region 0 [⟨0, (some 95), none, .mv (.s 2)⟩, ⟨1, (some 96), none, .mv (.s 7)⟩, ⟨2, (some 97), none, .bin .sub (.s 95) (.s 96)⟩, ⟨3, (some 98), none, .bin .geq (.s 97) (.k (.c (.int .i64 2)))⟩] [] (some [98, 8, 7, 0, 2, 1]))
  (.cond (.s 98) (.seq (.region 0 [⟨0, (some 99), none, .mv (.s 7)⟩, ⟨1, (some 100), none, .bin .add (.s 99) (.k (.c (.int .i64 1)))⟩, ⟨2, (some 10), none, .mv (.s 100)⟩] [] (some [10, 8, 7, 0, 2, 1]))
  (.block 6 (.loop (some [10, 8, 7, 0, 2, 1]) c_slices_partialInsertionSortOrdered_int64_l3)))
  .skip))))))))
  (.region 0 [⟨0, (some 15), none, .mv (.s 8)⟩, ⟨1, (some 16), none, .bin .add (.s 15) (.k (.c (.int .i64 1)))⟩, ⟨2, (some 8), none, .mv (.s 16)⟩] [] (some [7, 0, 2, 1, 8]))))
abbrev f_slices_partialInsertionSortOrdered_int64 : Nat := 295
def c_slices_partialInsertionSortOrdered_int64 : CFn := { frz := true, rnd := none, nargs := 3, ntmps := 133, res := [(.slot 6)], code :=
  (.seq (.region 0 [⟨0, (some 6), none, .mv (.k (.c (.bool false)))⟩] [] (some [0, 2, 1]))
  (.seq (.region 0 [⟨0, (some 11), none, .mv (.s 1)⟩, ⟨1, (some 12), none, .bin .add (.s 11) (.k (.c (.int .i64 1)))⟩, ⟨2, (some 7), none, .mv (.s 12)⟩] [] (some [7, 0, 2, 1]))
  (.seq (.seq (.region 0 [⟨0, (some 8), none, .mv (.k (.c (.int .i64 0)))⟩] [] (some [7, 0, 2, 1, 8]))
  (.block 0 (.loop (some [7, 0, 2, 1, 8]) c_slices_partialInsertionSortOrdered_int64_l4)))
  (.seq (.region 0 [⟨0, (some 6), none, .mv (.k (.c (.bool false)))⟩] [] (some [6]))
  .ret)))) }
abbrev f_cmp_Less_int64 : Nat := 296
def c_cmp_Less_int64 : CFn := { frz := true, rnd := none, nargs := 2, ntmps := 17, res := [(.slot 4)], code :=
  (.seq (.region 0 [⟨0, (some 4), none, .mv (.k (.c (.bool false)))⟩] [] (some [0, 1]))
  (.seq (.region 0 [⟨0, (some 5), none, .mv (.s 0)⟩, ⟨1, (some 6), none, .call ⟨true⟩ (.k (.c (.fn 108 [] []))) [(.s 5)]⟩, ⟨2, (some 7), none, .mv (.s 6)⟩, ⟨3, (some 8), (some (7, true)), .mv (.s 1)⟩, ⟨4, (some 9), (some (7, true)), .call ⟨true⟩ (.k (.c (.fn 108 [] []))) [(.s 8)]⟩, ⟨5, (some 10), (some (7, true)), .un .not (.s 9)⟩, ⟨6, (some 11), none, .pick (.s 7) (.s 10) (.k (.c (.bool false)))⟩, ⟨7, (some 12), none, .mv (.s 11)⟩, ⟨8, (some 13), (some (12, false)), .mv (.s 0)⟩, ⟨9, (some 14), (some (12, false)), .mv (.s 1)⟩, ⟨10, (some 15), (some (12, false)), .bin .lss (.s 13) (.s 14)⟩, ⟨11, (some 16), none, .pick (.s 12) (.k (.c (.bool true))) (.s 15)⟩, ⟨12, (some 4), none, .mv (.s 16)⟩] [] (some [4]))
  .ret)) }
def c_slices_partitionEqualOrdered_int64_l1 : CC := (.seq (.seq (.region 0 [⟨0, (some 29), none, .mv (.s 9)⟩, ⟨1, (some 30), none, .mv (.s 10)⟩, ⟨2, (some 31), none, .bin .leq (.s 29) (.s 30)⟩, ⟨3, (some 32), none, .mv (.s 31)⟩, ⟨4, (some 33), (some (32, true)), .mv (.s 0)⟩, ⟨5, (some 34), (some (32, true)), .mv (.s 1)⟩, ⟨6, (some 35), (some (32, true)), .iaddr 1 (.s 33) (.s 34)⟩, ⟨8, (some 37), (some (32, true)), .mv (.s 0)⟩, ⟨9, (some 38), (some (32, true)), .mv (.s 9)⟩, ⟨10, (some 39), (some (32, true)), .iaddr 1 (.s 37) (.s 38)⟩, ⟨7, (some 36), (some (32, true)), .load false 1 (.s 35)⟩, ⟨11, (some 40), (some (32, true)), .load false 1 (.s 39)⟩, ⟨12, (some 41), (some (32, true)), .call ⟨true⟩ (.k (.c (.fn 296 [] []))) [(.s 36), (.s 40)]⟩, ⟨13, (some 42), (some (32, true)), .un .not (.s 41)⟩, ⟨14, (some 43), none, .pick (.s 32) (.s 42) (.k (.c (.bool false)))⟩] [] (some [43, 9, 1, 0, 10]))
  (.cond (.s 43) .skip
  (.exit 2)))
  (.block 3 (.region 0 [⟨0, (some 44), none, .mv (.s 9)⟩, ⟨1, (some 45), none, .bin .add (.s 44) (.k (.c (.int .i64 1)))⟩, ⟨2, (some 9), none, .mv (.s 45)⟩] [] (some [9, 1, 0, 10]))))
def c_slices_partitionEqualOrdered_int64_l2 : CC := (.seq (.seq (.region 0 [⟨0, (some 46), none, .mv (.s 9)⟩, ⟨1, (some 47), none, .mv (.s 10)⟩, ⟨2, (some 48), none, .bin .leq (.s 46) (.s 47)⟩, ⟨3, (some 49), none, .mv (.s 48)⟩, ⟨4, (some 50), (some (49, true)), .mv (.s 0)⟩, ⟨5, (some 51), (some (49, true)), .mv (.s 1)⟩, ⟨6, (some 52), (some (49, true)), .iaddr 1 (.s 50) (.s 51)⟩, ⟨8, (some 54), (some (49, true)), .mv (.s 0)⟩, ⟨9, (some 55), (some (49, true)), .mv (.s 10)⟩, ⟨10, (some 56), (some (49, true)), .iaddr 1 (.s 54) (.s 55)⟩, ⟨7, (some 53), (some (49, true)), .load false 1 (.s 52)⟩, ⟨11, (some 57), (some (49, true)), .load false 1 (.s 56)⟩, ⟨12, (some 58), (some (49, true)), .call ⟨true⟩ (.k (.c (.fn 296 [] []))) [(.s 53), (.s 57)]⟩, ⟨13, (some 59), none, .pick (.s 49) (.s 58) (.k (.c (.bool false)))⟩] [] (some [59, 10, 9, 0, 1]))
  (.cond (.s 59) .skip
  (.exit 4)))
  (.block 5 (.region 0 [⟨0, (some 60), none, .mv (.s 10)⟩, ⟨1, (some 61), none, .bin .sub (.s 60) (.k (.c (.int .i64 1)))⟩, ⟨2, (some 10), none, .mv (.s 61)⟩] [] (some [10, 9, 0, 1]))))
def c_slices_partitionEqualOrdered_int64_l3 : CC := (.block 1 (.seq (.block 2 (.loop (some [9, 1, 0, 10]) c_slices_partitionEqualOrdered_int64_l1))
  (.seq (.block 4 (.loop (some [10, 9, 0, 1]) c_slices_partitionEqualOrdered_int64_l2))
  (.seq (.seq (.region 0 [⟨0, (some 62), none, .mv (.s 9)⟩, ⟨1, (some 63), none, .mv (.s 10)⟩, ⟨2, (some 64), none, .bin .gtr (.s 62) (.s 63)⟩] [] (some [64, 1, 0, 10, 9]))
  (.cond (.s 64) (.exit 0)
  .skip))
  (.seq (.region 0 [⟨0, (some 65), none, .mv (.s 0)⟩, ⟨1, (some 66), none, .mv (.s 9)⟩, ⟨2, (some 67), none, .mv (.s 0)⟩, ⟨3, (some 68), none, .mv (.s 10)⟩, ⟨4, (some 69), none, .mv (.s 0)⟩, ⟨5, (some 70), none, .mv (.s 10)⟩, ⟨6, (some 71), none, .iaddr 1 (.s 69) (.s 70)⟩, ⟨8, (some 73), none, .mv (.s 0)⟩, ⟨9, (some 74), none, .mv (.s 9)⟩, ⟨10, (some 75), none, .iaddr 1 (.s 73) (.s 74)⟩, ⟨7, (some 72), none, .load false 1 (.s 71)⟩, ⟨11, (some 76), none, .load false 1 (.s 75)⟩, ⟨12, (some 77), none, .iaddr 1 (.s 65) (.s 66)⟩, ⟨13, none, none, .store 1 (.s 77) (.s 72)⟩, ⟨14, (some 78), none, .iaddr 1 (.s 67) (.s 68)⟩, ⟨15, none, none, .store 1 (.s 78) (.s 76)⟩] [] (some [9, 10, 0, 1]))
  (.seq (.region 0 [⟨0, (some 79), none, .mv (.s 9)⟩, ⟨1, (some 80), none, .bin .add (.s 79) (.k (.c (.int .i64 1)))⟩, ⟨2, (some 9), none, .mv (.s 80)⟩] [] (some [10, 9, 0, 1]))
  (.region 0 [⟨0, (some 81), none, .mv (.s 10)⟩, ⟨1, (some 82), none, .bin .sub (.s 81) (.k (.c (.int .i64 1)))⟩, ⟨2, (some 10), none, .mv (.s 82)⟩] [] (some [9, 0, 1, 10]))))))))
abbrev f_slices_partitionEqualOrdered_int64 : Nat := 297
def c_slices_partitionEqualOrdered_int64 : CFn := { frz := true, rnd := none, nargs := 4, ntmps := 84, res := [(.slot 8)], code :=
  (.seq (.region 0 [⟨0, (some 8), none, .mv (.k (.c (.int .i64 0)))⟩] [] (some [3, 2, 0, 1]))
  (.seq (.region 0 [⟨0, (some 11), none, .mv (.s 0)⟩, ⟨1, (some 12), none, .mv (.s 1)⟩, ⟨2, (some 13), none, .mv (.s 0)⟩, ⟨3, (some 14), none, .mv (.s 3)⟩, ⟨4, (some 15), none, .mv (.s 0)⟩, ⟨5, (some 16), none, .mv (.s 3)⟩, ⟨6, (some 17), none, .iaddr 1 (.s 15) (.s 16)⟩, ⟨8, (some 19), none, .mv (.s 0)⟩, ⟨9, (some 20), none, .mv (.s 1)⟩, ⟨10, (some 21), none, .iaddr 1 (.s 19) (.s 20)⟩, ⟨7, (some 18), none, .load false 1 (.s 17)⟩, ⟨11, (some 22), none, .load false 1 (.s 21)⟩, ⟨12, (some 23), none, .iaddr 1 (.s 11) (.s 12)⟩, ⟨13, none, none, .store 1 (.s 23) (.s 18)⟩, ⟨14, (some 24), none, .iaddr 1 (.s 13) (.s 14)⟩, ⟨15, none, none, .store 1 (.s 24) (.s 22)⟩] [] (some [2, 0, 1]))
  (.seq (.region 0 [⟨0, (some 25), none, .mv (.s 1)⟩, ⟨1, (some 26), none, .bin .add (.s 25) (.k (.c (.int .i64 1)))⟩, ⟨2, (some 27), none, .mv (.s 2)⟩, ⟨3, (some 28), none, .bin .sub (.s 27) (.k (.c (.int .i64 1)))⟩, ⟨4, (some 9), none, .mv (.s 26)⟩, ⟨5, (some 10), none, .mv (.s 28)⟩] [] (some [9, 0, 1, 10]))
  (.seq (.block 0 (.loop (some [9, 0, 1, 10]) c_slices_partitionEqualOrdered_int64_l3))
  (.seq (.region 0 [⟨0, (some 83), none, .mv (.s 9)⟩, ⟨1, (some 8), none, .mv (.s 83)⟩] [] (some [8]))
  .ret))))) }
def c_slices_partitionOrdered_int64_l1 : CC := (.seq (.seq (.region 0 [⟨0, (some 30), none, .mv (.s 10)⟩, ⟨1, (some 31), none, .mv (.s 11)⟩, ⟨2, (some 32), none, .bin .leq (.s 30) (.s 31)⟩, ⟨3, (some 33), none, .mv (.s 32)⟩, ⟨4, (some 34), (some (33, true)), .mv (.s 0)⟩, ⟨5, (some 35), (some (33, true)), .mv (.s 10)⟩, ⟨6, (some 36), (some (33, true)), .iaddr 1 (.s 34) (.s 35)⟩, ⟨8, (some 38), (some (33, true)), .mv (.s 0)⟩, ⟨9, (some 39), (some (33, true)), .mv (.s 1)⟩, ⟨10, (some 40), (some (33, true)), .iaddr 1 (.s 38) (.s 39)⟩, ⟨7, (some 37), (some (33, true)), .load false 1 (.s 36)⟩, ⟨11, (some 41), (some (33, true)), .load false 1 (.s 40)⟩, ⟨12, (some 42), (some (33, true)), .call ⟨true⟩ (.k (.c (.fn 296 [] []))) [(.s 37), (.s 41)]⟩, ⟨13, (some 43), none, .pick (.s 33) (.s 42) (.k (.c (.bool false)))⟩] [] (some [43, 10, 1, 0, 11]))
  (.cond (.s 43) .skip
  (.exit 0)))
  (.block 1 (.region 0 [⟨0, (some 44), none, .mv (.s 10)⟩, ⟨1, (some 45), none, .bin .add (.s 44) (.k (.c (.int .i64 1)))⟩, ⟨2, (some 10), none, .mv (.s 45)⟩] [] (some [10, 1, 0, 11]))))
def c_slices_partitionOrdered_int64_l2 : CC := (.seq (.seq (.region 0 [⟨0, (some 46), none, .mv (.s 10)⟩, ⟨1, (some 47), none, .mv (.s 11)⟩, ⟨2, (some 48), none, .bin .leq (.s 46) (.s 47)⟩, ⟨3, (some 49), none, .mv (.s 48)⟩, ⟨4, (some 50), (some (49, true)), .mv (.s 0)⟩, ⟨5, (some 51), (some (49, true)), .mv (.s 11)⟩, ⟨6, (some 52), (some (49, true)), .iaddr 1 (.s 50) (.s 51)⟩, ⟨8, (some 54), (some (49, true)), .mv (.s 0)⟩, ⟨9, (some 55), (some (49, true)), .mv (.s 1)⟩, ⟨10, (some 56), (some (49, true)), .iaddr 1 (.s 54) (.s 55)⟩, ⟨7, (some 53), (some (49, true)), .load false 1 (.s 52)⟩, ⟨11, (some 57), (some (49, true)), .load false 1 (.s 56)⟩, ⟨12, (some 58), (some (49, true)), .call ⟨true⟩ (.k (.c (.fn 296 [] []))) [(.s 53), (.s 57)]⟩, ⟨13, (some 59), (some (49, true)), .un .not (.s 58)⟩, ⟨14, (some 60), none, .pick (.s 49) (.s 59) (.k (.c (.bool false)))⟩] [] (some [60, 11, 0, 1, 10]))
  (.cond (.s 60) .skip
  (.exit 2)))
  (.block 3 (.region 0 [⟨0, (some 61), none, .mv (.s 11)⟩, ⟨1, (some 62), none, .bin .sub (.s 61) (.k (.c (.int .i64 1)))⟩, ⟨2, (some 11), none, .mv (.s 62)⟩] [] (some [11, 0, 1, 10]))))
def c_slices_partitionOrdered_int64_l3 : CC := (.seq (.seq (.region 0 [⟨0, (some 99), none, .mv (.s 10)⟩, ⟨1, (some 100), none, .mv (.s 11)⟩, ⟨2, (some 101), none, .bin .leq (.s 99) (.s 100)⟩, ⟨3, (some 102), none, .mv (.s 101)⟩, ⟨4, (some 103), (some (102, true)), .mv (.s 0)⟩, ⟨5, (some 104), (some (102, true)), .mv (.s 10)⟩, ⟨6, (some 105), (some (102, true)), .iaddr 1 (.s 103) (.s 104)⟩, ⟨8, (some 107), (some (102, true)), .mv (.s 0)⟩, ⟨9, (some 108), (some (102, true)), .mv (.s 1)⟩, ⟨10, (some 109), (some (102, true)), .iaddr 1 (.s 107) (.s 108)⟩, ⟨7, (some 106), (some (102, true)), .load false 1 (.s 105)⟩, ⟨11, (some 110), (some (102, true)), .load false 1 (.s 109)⟩, ⟨12, (some 111), (some (102, true)), .call ⟨true⟩ (.k (.c (.fn 296 [] []))) [(.s 106), (.s 110)]⟩, ⟨13, (some 112), none, .pick (.s 102) (.s 111) (.k (.c (.bool false)))⟩] [] (some [112, 10, 1, 0, 11]))
  (.cond (.s 112) .skip
  (.exit 6)))
  (.block 7 (.region 0 [⟨0, (some 113), none, .mv (.s 10)⟩, ⟨1, (some 114), none, .bin .add (.s 113) (.k (.c (.int .i64 1)))⟩, ⟨2, (some 10), none, .mv (.s 114)⟩] [] (some [10, 1, 0, 11]))))
def c_slices_partitionOrdered_int64_l4 : CC := (.seq (.seq (.region 0 [⟨0, (some 115), none, .mv (.s 10)⟩, ⟨1, (some 116), none, .mv (.s 11)⟩, ⟨2, (some 117), none, .bin .leq (.s 115) (.s 116)⟩, ⟨3, (some 118), none, .mv (.s 117)⟩, ⟨4, (some 119), (some (118, true)), .mv (.s 0)⟩, ⟨5, (some 120), (some (118, true)), .mv (.s 11)⟩, ⟨6, (some 121), (some (118, true)), .iaddr 1 (.s 119) (.s 120)⟩, ⟨8, (some 123), (some (118, true)), .mv (.s 0)⟩, ⟨9, (some 124), (some (118, true)), .mv (.s 1)⟩, ⟨10, (some 125), (some (118, true)), .iaddr 1 (.s 123) (.s 124)⟩, ⟨7, (some 122), (some (118, true)), .load false 1 (.s 121)⟩, ⟨11, (some 126), (some (118, true)), .load false 1 (.s 125)⟩, ⟨12, (some 127), (some (118, true)), .call ⟨true⟩ (.k (.c (.fn 296 [] []))) [(.s 122), (.s 126)]⟩, ⟨13, (some 128), (some (118, true)), .un .not (.s 127)⟩, ⟨14, (some 129), none, .pick (.s 118) (.s 128) (.k (.c (.bool false)))⟩] [] (some [129, 11, 0, 1, 10]))
  (.cond (.s 129) .skip
  (.exit 8)))
  (.block 9 (.region 0 [⟨0, (some 130), none, .mv (.s 11)⟩, ⟨1, (some 131), none, .bin .sub (.s 130) (.k (.c (.int .i64 1)))⟩, ⟨2, (some 11), none, .mv (.s 131)⟩] [] (some [11, 0, 1, 10]))))
def c_slices_partitionOrdered_int64_l5 : CC := (.block 5 (.seq (.block 6 (.loop (some [10, 1, 0, 11]) c_slices_partitionOrdered_int64_l3))
  (.seq (.block 8 (.loop (some [11, 0, 1, 10]) c_slices_partitionOrdered_int64_l4))
  (.seq (.seq (.region 0 [⟨0, (some 132), none, .mv (.s 10)⟩, ⟨1, (some 133), none, .mv (.s 11)⟩, ⟨2, (some 134), none, .bin .gtr (.s 132) (.s 133)⟩] [] (some [134, 10, 1, 0, 11]))
  (.cond (.s 134) (.exit 4)
  .skip))
  (.seq (.region 0 [⟨0, (some 135), none, .mv (.s 0)⟩, ⟨1, (some 136), none, .mv (.s 10)⟩, ⟨2, (some 137), none, .mv (.s 0)⟩, ⟨3, (some 138), none, .mv (.s 11)⟩, ⟨4, (some 139), none, .mv (.s 0)⟩, ⟨5, (some 140), none, .mv (.s 11)⟩, ⟨6, (some 141), none, .iaddr 1 (.s 139) (.s 140)⟩, ⟨8, (some 143), none, .mv (.s 0)⟩, ⟨9, (some 144), none, .mv (.s 10)⟩, ⟨10, (some 145), none, .iaddr 1 (.s 143) (.s 144)⟩, ⟨7, (some 142), none, .load false 1 (.s 141)⟩, ⟨11, (some 146), none, .load false 1 (.s 145)⟩, ⟨12, (some 147), none, .iaddr 1 (.s 135) (.s 136)⟩, ⟨13, none, none, .store 1 (.s 147) (.s 142)⟩, ⟨14, (some 148), none, .iaddr 1 (.s 137) (.s 138)⟩, ⟨15, none, none, .store 1 (.s 148) (.s 146)⟩] [] (some [10, 11, 1, 0]))
  (.seq (.region 0 [⟨0, (some 149), none, .mv (.s 10)⟩, ⟨1, (some 150), none, .bin .add (.s 149) (.k (.c (.int .i64 1)))⟩, ⟨2, (some 10), none, .mv (.s 150)⟩] [] (some [11, 10, 1, 0]))
  (.region 0 [⟨0, (some 151), none, .mv (.s 11)⟩, ⟨1, (some 152), none, .bin .sub (.s 151) (.k (.c (.int .i64 1)))⟩, ⟨2, (some 11), none, .mv (.s 152)⟩] [] (some [10, 1, 0, 11]))))))))
abbrev f_slices_partitionOrdered_int64 : Nat := 298
def c_slices_partitionOrdered_int64 : CFn := { frz := true, rnd := none, nargs := 4, ntmps := 168, res := [(.slot 8), (.slot 9)], code :=
  (.seq (.region 0 [⟨0, (some 8), none, .mv (.k (.c (.int .i64 0)))⟩, ⟨1, (some 9), none, .mv (.k (.c (.bool false)))⟩] [] (some [3, 2, 1, 0]))
  (.seq (.region 0 [⟨0, (some 12), none, .mv (.s 0)⟩, ⟨1, (some 13), none, .mv (.s 1)⟩, ⟨2, (some 14), none, .mv (.s 0)⟩, ⟨3, (some 15), none, .mv (.s 3)⟩, ⟨4, (some 16), none, .mv (.s 0)⟩, ⟨5, (some 17), none, .mv (.s 3)⟩, ⟨6, (some 18), none, .iaddr 1 (.s 16) (.s 17)⟩, ⟨8, (some 20), none, .mv (.s 0)⟩, ⟨9, (some 21), none, .mv (.s 1)⟩, ⟨10, (some 22), none, .iaddr 1 (.s 20) (.s 21)⟩, ⟨7, (some 19), none, .load false 1 (.s 18)⟩, ⟨11, (some 23), none, .load false 1 (.s 22)⟩, ⟨12, (some 24), none, .iaddr 1 (.s 12) (.s 13)⟩, ⟨13, none, none, .store 1 (.s 24) (.s 19)⟩, ⟨14, (some 25), none, .iaddr 1 (.s 14) (.s 15)⟩, ⟨15, none, none, .store 1 (.s 25) (.s 23)⟩] [] (some [2, 1, 0]))
  (.seq (.region 0 [⟨0, (some 26), none, .mv (.s 1)⟩, ⟨1, (some 27), none, .bin .add (.s 26) (.k (.c (.int .i64 1)))⟩, ⟨2, (some 28), none, .mv (.s 2)⟩, ⟨3, (some 29), none, .bin .sub (.s 28) (.k (.c (.int .i64 1)))⟩, ⟨4, (some 10), none, .mv (.s 27)⟩, ⟨5, (some 11), none, .mv (.s 29)⟩] [] (some [10, 1, 0, 11]))
  (.seq (.block 0 (.loop (some [10, 1, 0, 11]) c_slices_partitionOrdered_int64_l1))
  (.seq (.block 2 (.loop (some [11, 0, 1, 10]) c_slices_partitionOrdered_int64_l2))
  (.seq (.seq (.region 0 [⟨0, (some 63), none, .mv (.s 10)⟩, ⟨1, (some 64), none, .mv (.s 11)⟩, ⟨2, (some 65), none, .bin .gtr (.s 63) (.s 64)⟩] [] (some [65, 10, 1, 0, 11]))
  (.cond (.s 65) (.seq (.region 0 [⟨0, (some 66), none, .mv (.s 0)⟩, ⟨1, (some 67), none, .mv (.s 11)⟩, ⟨2, (some 68), none, .mv (.s 0)⟩, ⟨3, (some 69), none, .mv (.s 1)⟩, ⟨4, (some 70), none, .mv (.s 0)⟩, ⟨5, (some 71), none, .mv (.s 1)⟩, ⟨6, (some 72), none, .iaddr 1 (.s 70) (.s 71)⟩, ⟨8, (some 74), none, .mv (.s 0)⟩, ⟨9, (some 75), none, .mv (.s 11)⟩, ⟨10, (some 76), none, .iaddr 1 (.s 74) (.s 75)⟩, ⟨7, (some 73), none, .load false 1 (.s 72)⟩, ⟨11, (some 77), none, .load false 1 (.s 76)⟩, ⟨12, (some 78), none, .iaddr 1 (.s 66) (.s 67)⟩, ⟨13, none, none, .store 1 (.s 78) (.s 73)⟩, ⟨14, (some 79), none, .iaddr 1 (.s 68) (.s 69)⟩, ⟨15, none, none, .store 1 (.s 79) (.s 77)⟩] [] (some [11]))
  (.seq (.region 0 [⟨0, (some 80), none, .mv (.s 11)⟩, ⟨1, (some 8), none, .mv (.s 80)⟩, ⟨2, (some 9), none, .mv (.k (.c (.bool true)))⟩] [] (some [8, 9]))
  .ret))
  .skip))
  (.seq (.region 0 [⟨0, (some 81), none, .mv (.s 0)⟩, ⟨1, (some 82), none, .mv (.s 10)⟩, ⟨2, (some 83), none, .mv (.s 0)⟩, ⟨3, (some 84), none, .mv (.s 11)⟩, ⟨4, (some 85), none, .mv (.s 0)⟩, ⟨5, (some 86), none, .mv (.s 11)⟩, ⟨6, (some 87), none, .iaddr 1 (.s 85) (.s 86)⟩, ⟨8, (some 89), none, .mv (.s 0)⟩, ⟨9, (some 90), none, .mv (.s 10)⟩, ⟨10, (some 91), none, .iaddr 1 (.s 89) (.s 90)⟩, ⟨7, (some 88), none, .load false 1 (.s 87)⟩, ⟨11, (some 92), none, .load false 1 (.s 91)⟩, ⟨12, (some 93), none, .iaddr 1 (.s 81) (.s 82)⟩, ⟨13, none, none, .store 1 (.s 93) (.s 88)⟩, ⟨14, (some 94), none, .iaddr 1 (.s 83) (.s 84)⟩, ⟨15, none, none, .store 1 (.s 94) (.s 92)⟩] [] (some [10, 11, 1, 0]))
  (.seq (.region 0 [⟨0, (some 95), none, .mv (.s 10)⟩, ⟨1, (some 96), none, .bin .add (.s 95) (.k (.c (.int .i64 1)))⟩, ⟨2, (some 10), none, .mv (.s 96)⟩] [] (some [11, 10, 1, 0]))
  (.seq (.region 0 [⟨0, (some 97), none, .mv (.s 11)⟩, ⟨1, (some 98), none, .bin .sub (.s 97) (.k (.c (.int .i64 1)))⟩, ⟨2, (some 11), none, .mv (.s 98)⟩] [] (some [10, 1, 0, 11]))
  (.seq (.block 4 (.loop (some [10, 1, 0, 11]) c_slices_partitionOrdered_int64_l5))
  (.seq (.region 0 [⟨0, (some 153), none, .mv (.s 0)⟩, ⟨1, (some 154), none, .mv (.s 11)⟩, ⟨2, (some 155), none, .mv (.s 0)⟩, ⟨3, (some 156), none, .mv (.s 1)⟩, ⟨4, (some 157), none, .mv (.s 0)⟩, ⟨5, (some 158), none, .mv (.s 1)⟩, ⟨6, (some 159), none, .iaddr 1 (.s 157) (.s 158)⟩, ⟨8, (some 161), none, .mv (.s 0)⟩, ⟨9, (some 162), none, .mv (.s 11)⟩, ⟨10, (some 163), none, .iaddr 1 (.s 161) (.s 162)⟩, ⟨7, (some 160), none, .load false 1 (.s 159)⟩, ⟨11, (some 164), none, .load false 1 (.s 163)⟩, ⟨12, (some 165), none, .iaddr 1 (.s 153) (.s 154)⟩, ⟨13, none, none, .store 1 (.s 165) (.s 160)⟩, ⟨14, (some 166), none, .iaddr 1 (.s 155) (.s 156)⟩, ⟨15, none, none, .store 1 (.s 166) (.s 164)⟩] [] (some [11]))
  (.seq (.region 0 [⟨0, (some 167), none, .mv (.s 11)⟩, ⟨1, (some 8), none, .mv (.s 167)⟩, ⟨2, (some 9), none, .mv (.k (.c (.bool false)))⟩] [] (some [8, 9]))
  .ret)))))))))))) }
abbrev f_slices_order2CmpFunc_Sweep : Nat := 300
def c_slices_order2CmpFunc_Sweep : CFn := { frz := true, rnd := none, nargs := 5, ntmps := 32, res := [(.slot 10), (.slot 11)], code :=
  (.seq (.region 0 [⟨0, (some 10), none, .mv (.k (.c (.int .i64 0)))⟩, ⟨1, (some 11), none, .mv (.k (.c (.int .i64 0)))⟩] [] (some [4, 0, 3, 2, 1]))
  (.seq (.seq (.region 0 [⟨0, (some 12), none, .mv (.s 4)⟩, ⟨1, (some 13), none, .mv (.s 0)⟩, ⟨2, (some 14), none, .mv (.s 2)⟩, ⟨3, (some 15), none, .iaddr 4 (.s 13) (.s 14)⟩, ⟨5, (some 17), none, .mv (.s 0)⟩, ⟨6, (some 18), none, .mv (.s 1)⟩, ⟨7, (some 19), none, .iaddr 4 (.s 17) (.s 18)⟩, ⟨4, (some 16), none, .load true 4 (.s 15)⟩, ⟨8, (some 20), none, .load true 4 (.s 19)⟩, ⟨9, (some 21), none, .call ⟨true⟩ (.s 12) [(.s 16), (.s 20)]⟩, ⟨10, (some 22), none, .bin .lss (.s 21) (.k (.c (.int .i64 0)))⟩] [] (some [22, 3, 2, 1]))
  (.cond (.s 22) (.seq (.region 0 [⟨0, (some 23), none, .mv (.s 3)⟩, ⟨1, (some 24), none, .nilck (.s 23)⟩, ⟨2, (some 25), none, .load false 1 (.s 24)⟩, ⟨3, (some 26), none, .bin .add (.s 25) (.k (.c (.int .i64 1)))⟩, ⟨4, (some 27), none, .nilck (.s 23)⟩, ⟨5, none, none, .store 1 (.s 27) (.s 26)⟩] [] (some [2, 1]))
  (.seq (.region 0 [⟨0, (some 28), none, .mv (.s 2)⟩, ⟨1, (some 29), none, .mv (.s 1)⟩, ⟨2, (some 10), none, .mv (.s 28)⟩, ⟨3, (some 11), none, .mv (.s 29)⟩] [] (some [10, 11]))
  .ret))
  .skip))
  (.seq (.region 0 [⟨0, (some 30), none, .mv (.s 1)⟩, ⟨1, (some 31), none, .mv (.s 2)⟩, ⟨2, (some 10), none, .mv (.s 30)⟩, ⟨3, (some 11), none, .mv (.s 31)⟩] [] (some [10, 11]))
  .ret))) }
def c_slices_rotateCmpFunc_Blob_l1 : CC := (.seq (.seq (.region 0 [⟨0, (some 18), none, .mv (.s 10)⟩, ⟨1, (some 19), none, .mv (.s 11)⟩, ⟨2, (some 20), none, .bin .neq (.s 18) (.s 19)⟩] [] (some [20, 10, 0, 2, 4, 11]))
  (.cond (.s 20) .skip
  (.exit 0)))
  (.block 1 (.seq (.region 0 [⟨0, (some 21), none, .mv (.s 10)⟩, ⟨1, (some 22), none, .mv (.s 11)⟩, ⟨2, (some 23), none, .bin .gtr (.s 21) (.s 22)⟩] [] (some [23, 10, 0, 2, 4, 11]))
  (.cond (.s 23) (.seq (.region 0 [⟨0, (some 24), none, .mv (.s 0)⟩, ⟨1, (some 25), none, .mv (.s 2)⟩, ⟨2, (some 26), none, .mv (.s 10)⟩, ⟨3, (some 27), none, .bin .sub (.s 25) (.s 26)⟩, ⟨4, (some 28), none, .mv (.s 2)⟩, ⟨5, (some 29), none, .mv (.s 11)⟩, ⟨6, (some 30), none, .mv (.s 4)⟩, ⟨7, (some 31), none, .call ⟨false⟩ (.k (.c (.fn 311 [] []))) [(.s 24), (.s 27), (.s 28), (.s 29), (.s 30)]⟩] [] (some [10, 0, 2, 4, 11]))
  (.region 0 [⟨0, (some 32), none, .mv (.s 10)⟩, ⟨1, (some 33), none, .mv (.s 11)⟩, ⟨2, (some 34), none, .bin .sub (.s 32) (.s 33)⟩, ⟨3, (some 10), none, .mv (.s 34)⟩] [] (some [10, 0, 2, 4, 11])))
  (.seq (.region 0 [⟨0, (some 35), none, .mv (.s 0)⟩, ⟨1, (some 36), none, .mv (.s 2)⟩, ⟨2, (some 37), none, .mv (.s 10)⟩, ⟨3, (some 38), none, .bin .sub (.s 36) (.s 37)⟩, ⟨4, (some 39), none, .mv (.s 2)⟩, ⟨5, (some 40), none, .mv (.s 11)⟩, ⟨6, (some 41), none, .bin .add (.s 39) (.s 40)⟩, ⟨7, (some 42), none, .mv (.s 10)⟩, ⟨8, (some 43), none, .bin .sub (.s 41) (.s 42)⟩, ⟨9, (some 44), none, .mv (.s 10)⟩, ⟨10, (some 45), none, .mv (.s 4)⟩, ⟨11, (some 46), none, .call ⟨false⟩ (.k (.c (.fn 311 [] []))) [(.s 35), (.s 38), (.s 43), (.s 44), (.s 45)]⟩] [] (some [11, 10, 0, 2, 4]))
  (.region 0 [⟨0, (some 47), none, .mv (.s 11)⟩, ⟨1, (some 48), none, .mv (.s 10)⟩, ⟨2, (some 49), none, .bin .sub (.s 47) (.s 48)⟩, ⟨3, (some 11), none, .mv (.s 49)⟩] [] (some [10, 0, 2, 4, 11])))))))
abbrev f_slices_rotateCmpFunc_Blob : Nat := 301
def c_slices_rotateCmpFunc_Blob : CFn := { frz := true, rnd := none, nargs := 5, ntmps := 58, res := [], code :=
  (.seq (.region 0 [⟨0, (some 12), none, .mv (.s 2)⟩, ⟨1, (some 13), none, .mv (.s 1)⟩, ⟨2, (some 14), none, .bin .sub (.s 12) (.s 13)⟩, ⟨3, (some 10), none, .mv (.s 14)⟩] [] (some [3, 10, 0, 2, 4]))
  (.seq (.region 0 [⟨0, (some 15), none, .mv (.s 3)⟩, ⟨1, (some 16), none, .mv (.s 2)⟩, ⟨2, (some 17), none, .bin .sub (.s 15) (.s 16)⟩, ⟨3, (some 11), none, .mv (.s 17)⟩] [] (some [10, 0, 2, 4, 11]))
  (.seq (.block 0 (.loop (some [10, 0, 2, 4, 11]) c_slices_rotateCmpFunc_Blob_l1))
  (.region 0 [⟨0, (some 50), none, .mv (.s 0)⟩, ⟨1, (some 51), none, .mv (.s 2)⟩, ⟨2, (some 52), none, .mv (.s 10)⟩, ⟨3, (some 53), none, .bin .sub (.s 51) (.s 52)⟩, ⟨4, (some 54), none, .mv (.s 2)⟩, ⟨5, (some 55), none, .mv (.s 10)⟩, ⟨6, (some 56), none, .mv (.s 4)⟩, ⟨7, (some 57), none, .call ⟨false⟩ (.k (.c (.fn 311 [] []))) [(.s 50), (.s 53), (.s 54), (.s 55), (.s 56)]⟩] [] (some []))))) }
def c_slices_siftDownOrdered_int64_l1 : CC := (.block 1 (.seq (.region 0 [⟨0, (some 11), none, .mv (.s 8)⟩, ⟨1, (some 12), none, .bin .mul (.k (.c (.int .i64 2))) (.s 11)⟩, ⟨2, (some 13), none, .bin .add (.s 12) (.k (.c (.int .i64 1)))⟩, ⟨3, (some 9), none, .mv (.s 13)⟩] [] (some [8, 0, 3, 2, 9]))
  (.seq (.seq (.region 0 [⟨0, (some 14), none, .mv (.s 9)⟩, ⟨1, (some 15), none, .mv (.s 2)⟩, ⟨2, (some 16), none, .bin .geq (.s 14) (.s 15)⟩] [] (some [16, 8, 0, 3, 2, 9]))
  (.cond (.s 16) (.exit 0)
  .skip))
  (.seq (.seq (.region 0 [⟨0, (some 17), none, .mv (.s 9)⟩, ⟨1, (some 18), none, .bin .add (.s 17) (.k (.c (.int .i64 1)))⟩, ⟨2, (some 19), none, .mv (.s 2)⟩, ⟨3, (some 20), none, .bin .lss (.s 18) (.s 19)⟩, ⟨4, (some 21), none, .mv (.s 20)⟩, ⟨5, (some 22), (some (21, true)), .mv (.s 0)⟩, ⟨6, (some 23), (some (21, true)), .mv (.s 3)⟩, ⟨7, (some 24), (some (21, true)), .mv (.s 9)⟩, ⟨8, (some 25), (some (21, true)), .bin .add (.s 23) (.s 24)⟩, ⟨9, (some 26), (some (21, true)), .iaddr 1 (.s 22) (.s 25)⟩, ⟨11, (some 28), (some (21, true)), .mv (.s 0)⟩, ⟨12, (some 29), (some (21, true)), .mv (.s 3)⟩, ⟨13, (some 30), (some (21, true)), .mv (.s 9)⟩, ⟨14, (some 31), (some (21, true)), .bin .add (.s 29) (.s 30)⟩, ⟨15, (some 32), (some (21, true)), .bin .add (.s 31) (.k (.c (.int .i64 1)))⟩, ⟨16, (some 33), (some (21, true)), .iaddr 1 (.s 28) (.s 32)⟩, ⟨10, (some 27), (some (21, true)), .load false 1 (.s 26)⟩, ⟨17, (some 34), (some (21, true)), .load false 1 (.s 33)⟩, ⟨18, (some 35), (some (21, true)), .call ⟨true⟩ (.k (.c (.fn 296 [] []))) [(.s 27), (.s 34)]⟩, ⟨19, (some 36), none, .pick (.s 21) (.s 35) (.k (.c (.bool false)))⟩] [] (some [36, 9, 2, 3, 0, 8]))
  (.cond (.s 36) (.region 0 [⟨0, (some 37), none, .mv (.s 9)⟩, ⟨1, (some 38), none, .bin .add (.s 37) (.k (.c (.int .i64 1)))⟩, ⟨2, (some 9), none, .mv (.s 38)⟩] [] (some [2, 3, 0, 9, 8]))
  .skip))
  (.seq (.seq (.region 0 [⟨0, (some 39), none, .mv (.s 0)⟩, ⟨1, (some 40), none, .mv (.s 3)⟩, ⟨2, (some 41), none, .mv (.s 8)⟩, ⟨3, (some 42), none, .bin .add (.s 40) (.s 41)⟩, ⟨4, (some 43), none, .iaddr 1 (.s 39) (.s 42)⟩, ⟨6, (some 45), none, .mv (.s 0)⟩, ⟨7, (some 46), none, .mv (.s 3)⟩, ⟨8, (some 47), none, .mv (.s 9)⟩, ⟨9, (some 48), none, .bin .add (.s 46) (.s 47)⟩, ⟨10, (some 49), none, .iaddr 1 (.s 45) (.s 48)⟩, ⟨5, (some 44), none, .load false 1 (.s 43)⟩, ⟨11, (some 50), none, .load false 1 (.s 49)⟩, ⟨12, (some 51), none, .call ⟨true⟩ (.k (.c (.fn 296 [] []))) [(.s 44), (.s 50)]⟩, ⟨13, (some 52), none, .un .not (.s 51)⟩] [] (some [52, 2, 3, 0, 9, 8]))
  (.cond (.s 52) .ret
  .skip))
  (.seq (.region 0 [⟨0, (some 53), none, .mv (.s 0)⟩, ⟨1, (some 54), none, .mv (.s 3)⟩, ⟨2, (some 55), none, .mv (.s 8)⟩, ⟨3, (some 56), none, .bin .add (.s 54) (.s 55)⟩, ⟨4, (some 57), none, .mv (.s 0)⟩, ⟨5, (some 58), none, .mv (.s 3)⟩, ⟨6, (some 59), none, .mv (.s 9)⟩, ⟨7, (some 60), none, .bin .add (.s 58) (.s 59)⟩, ⟨8, (some 61), none, .mv (.s 0)⟩, ⟨9, (some 62), none, .mv (.s 3)⟩, ⟨10, (some 63), none, .mv (.s 9)⟩, ⟨11, (some 64), none, .bin .add (.s 62) (.s 63)⟩, ⟨12, (some 65), none, .iaddr 1 (.s 61) (.s 64)⟩, ⟨14, (some 67), none, .mv (.s 0)⟩, ⟨15, (some 68), none, .mv (.s 3)⟩, ⟨16, (some 69), none, .mv (.s 8)⟩, ⟨17, (some 70), none, .bin .add (.s 68) (.s 69)⟩, ⟨18, (some 71), none, .iaddr 1 (.s 67) (.s 70)⟩, ⟨13, (some 66), none, .load false 1 (.s 65)⟩, ⟨19, (some 72), none, .load false 1 (.s 71)⟩, ⟨20, (some 73), none, .iaddr 1 (.s 53) (.s 56)⟩, ⟨21, none, none, .store 1 (.s 73) (.s 66)⟩, ⟨22, (some 74), none, .iaddr 1 (.s 57) (.s 60)⟩, ⟨23, none, none, .store 1 (.s 74) (.s 72)⟩] [] (some [9, 0, 3, 2]))
  (.region 0 [⟨0, (some 75), none, .mv (.s 9)⟩, ⟨1, (some 8), none, .mv (.s 75)⟩] [] (some [8, 0, 3, 2]))))))))
abbrev f_slices_siftDownOrdered_int64 : Nat := 307
def c_slices_siftDownOrdered_int64 : CFn := { frz := true, rnd := none, nargs := 4, ntmps := 76, res := [], code :=
  (.seq (.region 0 [⟨0, (some 10), none, .mv (.s 1)⟩, ⟨1, (some 8), none, .mv (.s 10)⟩] [] (some [8, 0, 3, 2]))
  (.block 0 (.loop (some [8, 0, 3, 2]) c_slices_siftDownOrdered_int64_l1))) }
abbrev f_slices_medianAdjacentOrdered_int64 : Nat := 308
def c_slices_medianAdjacentOrdered_int64 : CFn := { frz := true, rnd := none, nargs := 3, ntmps := 15, res := [(.slot 6)], code :=
  (.seq (.region 0 [⟨0, (some 6), none, .mv (.k (.c (.int .i64 0)))⟩] [] (some [0, 1, 2]))
  (.seq (.region 0 [⟨0, (some 7), none, .mv (.s 0)⟩, ⟨1, (some 8), none, .mv (.s 1)⟩, ⟨2, (some 9), none, .bin .sub (.s 8) (.k (.c (.int .i64 1)))⟩, ⟨3, (some 10), none, .mv (.s 1)⟩, ⟨4, (some 11), none, .mv (.s 1)⟩, ⟨5, (some 12), none, .bin .add (.s 11) (.k (.c (.int .i64 1)))⟩, ⟨6, (some 13), none, .mv (.s 2)⟩, ⟨7, (some 14), none, .call ⟨false⟩ (.k (.c (.fn 309 [] []))) [(.s 7), (.s 9), (.s 10), (.s 12), (.s 13)]⟩, ⟨8, (some 6), none, .mv (.s 14)⟩] [] (some [6]))
  .ret)) }
abbrev f_slices_medianOrdered_int64 : Nat := 309
def c_slices_medianOrdered_int64 : CFn := { frz := true, rnd := none, nargs := 5, ntmps := 36, res := [(.slot 10)], code :=
  (.seq (.region 0 [⟨0, (some 10), none, .mv (.k (.c (.int .i64 0)))⟩] [] (some [1, 2, 3, 0, 4]))
  (.seq (.region 0 [⟨0, (some 12), none, .mv (.s 0)⟩, ⟨1, (some 13), none, .mv (.s 1)⟩, ⟨2, (some 14), none, .mv (.s 2)⟩, ⟨3, (some 15), none, .mv (.s 4)⟩, ⟨4, (some 16), none, .call ⟨false⟩ (.k (.c (.fn 314 [] []))) [(.s 12), (.s 13), (.s 14), (.s 15)]⟩, ⟨5, (some 11), none, .mv (.s 16)⟩, ⟨6, (some 17), none, .extract 11 0⟩, ⟨7, (some 18), none, .extract 11 1⟩, ⟨8, (some 1), none, .mv (.s 17)⟩, ⟨9, (some 2), none, .mv (.s 18)⟩] [] (some [2, 3, 0, 1, 4]))
  (.seq (.region 0 [⟨0, (some 20), none, .mv (.s 0)⟩, ⟨1, (some 21), none, .mv (.s 2)⟩, ⟨2, (some 22), none, .mv (.s 3)⟩, ⟨3, (some 23), none, .mv (.s 4)⟩, ⟨4, (some 24), none, .call ⟨false⟩ (.k (.c (.fn 314 [] []))) [(.s 20), (.s 21), (.s 22), (.s 23)]⟩, ⟨5, (some 19), none, .mv (.s 24)⟩, ⟨6, (some 25), none, .extract 19 0⟩, ⟨7, (some 26), none, .extract 19 1⟩, ⟨8, (some 2), none, .mv (.s 25)⟩, ⟨9, (some 3), none, .mv (.s 26)⟩] [] (some [0, 1, 2, 4]))
  (.seq (.region 0 [⟨0, (some 28), none, .mv (.s 0)⟩, ⟨1, (some 29), none, .mv (.s 1)⟩, ⟨2, (some 30), none, .mv (.s 2)⟩, ⟨3, (some 31), none, .mv (.s 4)⟩, ⟨4, (some 32), none, .call ⟨false⟩ (.k (.c (.fn 314 [] []))) [(.s 28), (.s 29), (.s 30), (.s 31)]⟩, ⟨5, (some 27), none, .mv (.s 32)⟩, ⟨6, (some 33), none, .extract 27 0⟩, ⟨7, (some 34), none, .extract 27 1⟩, ⟨8, (some 1), none, .mv (.s 33)⟩, ⟨9, (some 2), none, .mv (.s 34)⟩] [] (some [2]))
  (.seq (.region 0 [⟨0, (some 35), none, .mv (.s 2)⟩, ⟨1, (some 10), none, .mv (.s 35)⟩] [] (some [10]))
  .ret))))) }
def c_slices_swapRangeCmpFunc_Blob_l1 : CC := (.seq (.seq (.region 0 [⟨0, (some 11), none, .mv (.s 10)⟩, ⟨1, (some 12), none, .mv (.s 3)⟩, ⟨2, (some 13), none, .bin .lss (.s 11) (.s 12)⟩] [] (some [13, 10, 3, 2, 0, 1]))
  (.cond (.s 13) .skip
  (.exit 0)))
  (.seq (.block 1 (.region 0 [⟨0, (some 16), none, .mv (.s 0)⟩, ⟨1, (some 17), none, .mv (.s 1)⟩, ⟨2, (some 18), none, .mv (.s 10)⟩, ⟨3, (some 19), none, .bin .add (.s 17) (.s 18)⟩, ⟨4, (some 20), none, .mv (.s 0)⟩, ⟨5, (some 21), none, .mv (.s 2)⟩, ⟨6, (some 22), none, .mv (.s 10)⟩, ⟨7, (some 23), none, .bin .add (.s 21) (.s 22)⟩, ⟨8, (some 24), none, .mv (.s 0)⟩, ⟨9, (some 25), none, .mv (.s 2)⟩, ⟨10, (some 26), none, .mv (.s 10)⟩, ⟨11, (some 27), none, .bin .add (.s 25) (.s 26)⟩, ⟨12, (some 28), none, .iaddr 6 (.s 24) (.s 27)⟩, ⟨14, (some 30), none, .mv (.s 0)⟩, ⟨15, (some 31), none, .mv (.s 1)⟩, ⟨16, (some 32), none, .mv (.s 10)⟩, ⟨17, (some 33), none, .bin .add (.s 31) (.s 32)⟩, ⟨18, (some 34), none, .iaddr 6 (.s 30) (.s 33)⟩, ⟨13, (some 29), none, .load true 6 (.s 28)⟩, ⟨19, (some 35), none, .load true 6 (.s 34)⟩, ⟨20, (some 36), none, .iaddr 6 (.s 16) (.s 19)⟩, ⟨21, none, none, .store 6 (.s 36) (.s 29)⟩, ⟨22, (some 37), none, .iaddr 6 (.s 20) (.s 23)⟩, ⟨23, none, none, .store 6 (.s 37) (.s 35)⟩] [] (some [10, 3, 2, 0, 1])))
  (.region 0 [⟨0, (some 14), none, .mv (.s 10)⟩, ⟨1, (some 15), none, .bin .add (.s 14) (.k (.c (.int .i64 1)))⟩, ⟨2, (some 10), none, .mv (.s 15)⟩] [] (some [10, 3, 2, 0, 1]))))
abbrev f_slices_swapRangeCmpFunc_Blob : Nat := 311
def c_slices_swapRangeCmpFunc_Blob : CFn := { frz := true, rnd := none, nargs := 5, ntmps := 38, res := [], code :=
  (.seq (.region 0 [⟨0, (some 10), none, .mv (.k (.c (.int .i64 0)))⟩] [] (some [10, 3, 2, 0, 1]))
  (.block 0 (.loop (some [10, 3, 2, 0, 1]) c_slices_swapRangeCmpFunc_Blob_l1))) }
abbrev f_slices_order2Ordered_int64 : Nat := 314
def c_slices_order2Ordered_int64 : CFn := { frz := true, rnd := none, nargs := 4, ntmps := 28, res := [(.slot 8), (.slot 9)], code :=
  (.seq (.region 0 [⟨0, (some 8), none, .mv (.k (.c (.int .i64 0)))⟩, ⟨1, (some 9), none, .mv (.k (.c (.int .i64 0)))⟩] [] (some [0, 3, 2, 1]))
  (.seq (.seq (.region 0 [⟨0, (some 10), none, .mv (.s 0)⟩, ⟨1, (some 11), none, .mv (.s 2)⟩, ⟨2, (some 12), none, .iaddr 1 (.s 10) (.s 11)⟩, ⟨4, (some 14), none, .mv (.s 0)⟩, ⟨5, (some 15), none, .mv (.s 1)⟩, ⟨6, (some 16), none, .iaddr 1 (.s 14) (.s 15)⟩, ⟨3, (some 13), none, .load false 1 (.s 12)⟩, ⟨7, (some 17), none, .load false 1 (.s 16)⟩, ⟨8, (some 18), none, .call ⟨true⟩ (.k (.c (.fn 296 [] []))) [(.s 13), (.s 17)]⟩] [] (some [18, 3, 2, 1]))
  (.cond (.s 18) (.seq (.region 0 [⟨0, (some 19), none, .mv (.s 3)⟩, ⟨1, (some 20), none, .nilck (.s 19)⟩, ⟨2, (some 21), none, .load false 1 (.s 20)⟩, ⟨3, (some 22), none, .bin .add (.s 21) (.k (.c (.int .i64 1)))⟩, ⟨4, (some 23), none, .nilck (.s 19)⟩, ⟨5, none, none, .store 1 (.s 23) (.s 22)⟩] [] (some [2, 1]))
  (.seq (.region 0 [⟨0, (some 24), none, .mv (.s 2)⟩, ⟨1, (some 25), none, .mv (.s 1)⟩, ⟨2, (some 8), none, .mv (.s 24)⟩, ⟨3, (some 9), none, .mv (.s 25)⟩] [] (some [8, 9]))
  .ret))
  .skip))
  (.seq (.region 0 [⟨0, (some 26), none, .mv (.s 1)⟩, ⟨1, (some 27), none, .mv (.s 2)⟩, ⟨2, (some 8), none, .mv (.s 26)⟩, ⟨3, (some 9), none, .mv (.s 27)⟩] [] (some [8, 9]))
  .ret))) }
def Cs : List (Nat × Nat × Nat × Bool) := [(81, 6, 48, false)]
def L : List (Nat × CFn) := [(3, c_kerbstonelaw05_TrackKnown), (6, c_kerbstonekit_Cross), (7, c_track_Own), (8, c_track_All), (9, c_kerbstonelaw05_start), (10, c_track_Step), (11, c_track_Found), (12, c_track_Free), (13, c_kerbstonekit_SameFound), (14, c_kerbstonekit_SameSpans), (15, c_track_Update), (16, c_track_Speed), (17, c_kerbstonelaw05_awake), (38, c_kerbstonekit_road), (39, c_track_Copy), (40, c_track_Check), (41, c_roads_CheckRoute), (42, c_track_able), (43, c_motion_Along), (44, c_motion_Course_Own), (45, c_roads_Check), (46, c_roads_Bounds), (47, c_roads_Length), (48, c_motion_Course_Drive), (49, c_motion_Course_Step), (50, c_track_counted), (51, c_track_feet), (52, c_slices_SortFunc_Found), (53, c_track_Found_1), (54, c_cmp_Compare_int64), (55, c_track_whole), (56, c_track_on), (57, c_motion_Cut_Span), (58, c_motion_Cut_Blob), (59, c_slices_ContainsFunc_Span), (60, c_track_Update_1), (61, c_track_narrow), (62, c_track_Join), (63, c_kerbstonekit_SameBlobs), (82, c_track_within), (83, c_roads_before), (84, c_slices_Contains_int), (85, c_roads_Starts), (86, c_roads_RouteLength), (87, c_roads_Sources), (88, c_motion_Course_gap), (89, c_roads_check_numbers), (90, c_roads_check_lanes), (91, c_roads_check_joints), (92, c_roads_check_signals), (93, c_roads_check_zones), (94, c_roads_check_works), (95, c_roads_is), (96, c_roads_long), (97, c_motion_Course_Drive_1), (98, c_motion_Course_moved), (99, c_slices_Index_int), (100, c_motion_layer_lay), (101, c_slices_SortFunc_Sweep), (102, c_motion_less), (103, c_motion_Join), (104, c_slices_Compact_Sweep), (105, c_curve_Near), (2015, c_curve_Near_r1), (106, c_slices_pdqsortCmpFunc_Found), (107, c_math_bits_Len), (108, c_cmp_isNaN_int64), (109, c_motion_ends_Span), (110, c_motion_ends_Blob), (111, c_slices_IndexFunc_Span), (112, c_slices_MinFunc_Found), (113, c_track_narrow_1), (114, c_slices_MaxFunc_Found), (115, c_track_narrow_2), (147, c_roads_follow), (148, c_roads_within), (149, c_curve_Check), (150, c_roads_rising), (151, c_slices_ContainsFunc_Phase), (152, c_roads_check_signals_1), (153, c_roads_check_signals_2), (154, c_curve_Length), (155, c_world_Stop), (156, c_signs_Red), (157, c_motion_layer_lay_1), (158, c_slices_pdqsortCmpFunc_Sweep), (159, c_motion_less_1), (160, c_cmp_Or_int), (161, c_cmp_Compare_int), (162, c_slices_DeleteFunc_Blob), (163, c_motion_Join_1), (164, c_slices_SortStableFunc_Blob), (165, c_motion_Join_2), (166, c_motion_hull), (167, c_curve_fair), (168, c_curve_pieces), (169, c_curve_from), (170, c_curve_vector_dot), (171, c_curve_abs), (172, c_curve_vector_cross), (173, c_curve_floor), (174, c_slices_insertionSortCmpFunc_Found), (175, c_slices_heapSortCmpFunc_Found), (176, c_slices_breakPatternsCmpFunc_Found), (177, c_slices_choosePivotCmpFunc_Found), (178, c_slices_reverseRangeCmpFunc_Found), (179, c_slices_partialInsertionSortCmpFunc_Found), (180, c_slices_partitionEqualCmpFunc_Found), (181, c_slices_partitionCmpFunc_Found), (182, c_math_bits_Len32), (183, c_math_bits_Len64), (212, c_slices_Sort_int64), (220, c_curve_root), (221, c_slices_IndexFunc_Phase), (222, c_curve_Pieces), (3887, c_curve_Pieces_r1), (223, c_signs_Green), (224, c_slices_Compact_int64), (225, c_slices_insertionSortCmpFunc_Sweep), (226, c_slices_heapSortCmpFunc_Sweep), (227, c_slices_breakPatternsCmpFunc_Sweep), (228, c_slices_choosePivotCmpFunc_Sweep), (229, c_slices_reverseRangeCmpFunc_Sweep), (230, c_slices_partialInsertionSortCmpFunc_Sweep), (231, c_slices_partitionEqualCmpFunc_Sweep), (232, c_slices_partitionCmpFunc_Sweep), (233, c_cmp_isNaN_int), (234, c_slices_IndexFunc_Blob), (235, c_slices_stableCmpFunc_Blob), (236, c_curve_pieces_1), (237, c_slices_siftDownCmpFunc_Found), (238, c_slices_nextPowerOfTwo), (239, c_slices_xorshift_Next), (240, c_slices_medianAdjacentCmpFunc_Found), (241, c_slices_medianCmpFunc_Found), (268, c_slices_pdqsortOrdered_int64), (274, c_slices_siftDownCmpFunc_Sweep), (275, c_slices_medianAdjacentCmpFunc_Sweep), (276, c_slices_medianCmpFunc_Sweep), (277, c_slices_insertionSortCmpFunc_Blob), (278, c_slices_symMergeCmpFunc_Blob), (279, c_slices_order2CmpFunc_Found), (290, c_slices_insertionSortOrdered_int64), (291, c_slices_heapSortOrdered_int64), (292, c_slices_breakPatternsOrdered_int64), (293, c_slices_choosePivotOrdered_int64), (294, c_slices_reverseRangeOrdered_int64), (295, c_slices_partialInsertionSortOrdered_int64), (296, c_cmp_Less_int64), (297, c_slices_partitionEqualOrdered_int64), (298, c_slices_partitionOrdered_int64), (300, c_slices_order2CmpFunc_Sweep), (301, c_slices_rotateCmpFunc_Blob), (307, c_slices_siftDownOrdered_int64), (308, c_slices_medianAdjacentOrdered_int64), (309, c_slices_medianOrdered_int64), (311, c_slices_swapRangeCmpFunc_Blob), (314, c_slices_order2Ordered_int64)]
end Go.TkRun
