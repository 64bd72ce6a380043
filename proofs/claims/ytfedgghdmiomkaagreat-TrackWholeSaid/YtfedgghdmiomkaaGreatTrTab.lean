/- This text lists functions of this seat's program, compiled for the evaluator; no condition. -/
import Derived.Test.YtfedgghdmiomkaaGreatTrTab1
import Derived.KernelRfl
set_option linter.unusedVariables false
namespace Go.TrRun
open Go Go.Eng
def c_roads_Sources_l1 : CC := (.seq (.region 0 [⟨0, (some 12), none, .bin .lss (.s 11) (.s 10)⟩] [] (some [12, 3, 11, 10, 1]))
  (.seq (.cond (.s 12) .skip
  (.exit 0))
  (.seq (.block 1 (.seq (.region 0 [⟨0, (some 13), none, .mv (.s 11)⟩, ⟨1, (some 4), none, .mv (.s 13)⟩] [] (some [3, 4, 11, 10, 1]))
  (.seq (.region 0 [⟨0, (some 14), none, .load true 5 (.s 1)⟩, ⟨1, (some 15), none, .mv (.s 4)⟩, ⟨2, (some 16), none, .call ⟨true⟩ (.k (.c (.fn 177 [] []))) [(.s 14), (.s 15)]⟩, ⟨3, (some 17), none, .len (.s 16)⟩, ⟨4, (some 18), none, .bin .eql (.s 17) (.k (.c (.int .i64 0)))⟩] [] (some [18, 3, 4, 11, 10, 1]))
  (.cond (.s 18) (.region 1 [⟨0, (some 19), none, .mv (.s 3)⟩, ⟨1, (some 20), none, .mv (.s 4)⟩, ⟨2, (some 21), none, .lit 0 1 [[(.int .i64 0)]] [(0, (.s 20))]⟩, ⟨3, (some 22), none, .append 1 8 (.s 19) (.s 21)⟩, ⟨4, (some 3), none, .mv (.s 22)⟩] [] (some [11, 3, 10, 1]))
  .skip))))
  (.region 0 [⟨0, (some 23), none, .bin .add (.s 11) (.k (.c (.int .i64 1)))⟩, ⟨1, (some 11), none, .mv (.s 23)⟩] [] (some [3, 11, 10, 1])))))
/-- kerbstone/roads.Sources -/
abbrev f_roads_Sources : Nat := 180
def c_roads_Sources : CFn := { frz := true, rnd := none, nargs := 1, ntmps := 25, res := [(.slot 2)], code :=
  (.seq (.region 2 [⟨0, (some 1), none, .box 0 5 (.s 0)⟩, ⟨1, (some 2), none, .newsl 1 1⟩] [] (some [1]))
  (.seq (.seq (.region 0 [⟨0, (some 5), none, .load true 5 (.s 1)⟩, ⟨1, (some 6), none, .call ⟨true⟩ (.k (.c (.fn 54 [] []))) [(.s 5)]⟩, ⟨2, (some 7), none, .bin .neq (.s 6) (.k (.c (.int .i64 0)))⟩] [] (some [7, 1]))
  (.cond (.s 7) (.seq (.region 1 [⟨0, (some 2), none, .newsl 0 1⟩] [] (some [2]))
  .ret)
  .skip))
  (.seq (.region 1 [⟨0, (some 3), none, .newsl 0 1⟩] [] (some [3, 1]))
  (.seq (.seq (.region 0 [⟨0, (some 8), none, .faddr 1 (.s 1)⟩, ⟨1, (some 9), none, .load false 1 (.s 8)⟩, ⟨2, (some 10), none, .len (.s 9)⟩, ⟨3, (some 11), none, .mv (.k (.c (.int .i64 0)))⟩] [] (some [3, 11, 10, 1]))
  (.block 0 (.loop (some [3, 11, 10, 1]) c_roads_Sources_l1)))
  (.seq (.region 0 [⟨0, (some 24), none, .mv (.s 3)⟩, ⟨1, (some 2), none, .mv (.s 24)⟩] [] (some [2]))
  .ret))))) }
/-- (kerbstone/motion.Course).gap -/
abbrev f_motion_Course_gap : Nat := 181
def c_motion_Course_gap : CFn := { frz := true, rnd := none, nargs := 2, ntmps := 13, res := [(.slot 4)], code :=
  (.seq (.region 2 [⟨0, (some 2), none, .box 0 11 (.s 0)⟩, ⟨1, (some 3), none, .box 1 4 (.s 1)⟩, ⟨2, (some 4), none, .mv (.k (.c (.bool false)))⟩] [] (some [2, 3]))
  (.seq (.region 0 [⟨0, (some 5), none, .faddr 1 (.s 3)⟩, ⟨1, (some 6), none, .load false 1 (.s 5)⟩, ⟨2, (some 7), none, .faddr 8 (.s 2)⟩, ⟨3, (some 8), none, .load false 1 (.s 7)⟩, ⟨4, (some 9), none, .bin .sub (.s 6) (.s 8)⟩, ⟨5, (some 10), none, .faddr 0 (.s 3)⟩, ⟨6, (some 11), none, .load false 1 (.s 10)⟩, ⟨7, (some 12), none, .bin .leq (.s 9) (.s 11)⟩, ⟨8, (some 4), none, .mv (.s 12)⟩] [] (some [4]))
  .ret)) }
def c_kerbstoneref03_before_l1 : CC := (.seq (.seq (.region 0 [⟨0, (some 7), none, .mv (.s 6)⟩, ⟨1, (some 8), none, .faddr 1 (.s 2)⟩, ⟨2, (some 9), none, .load false 1 (.s 8)⟩, ⟨3, (some 10), none, .len (.s 9)⟩, ⟨4, (some 11), none, .bin .lss (.s 7) (.s 10)⟩] [] (some [11, 5, 6, 2, 1]))
  (.cond (.s 11) .skip
  (.exit 0)))
  (.seq (.block 1 (.seq (.region 0 [⟨0, (some 14), none, .faddr 1 (.s 2)⟩, ⟨1, (some 15), none, .load false 1 (.s 14)⟩, ⟨2, (some 16), none, .mv (.s 6)⟩, ⟨3, (some 17), none, .iaddr 5 (.s 15) (.s 16)⟩, ⟨4, (some 18), none, .faddr 4 (.s 17)⟩, ⟨5, (some 19), none, .load false 1 (.s 18)⟩, ⟨6, (some 20), none, .mv (.s 1)⟩, ⟨7, (some 21), none, .call ⟨true⟩ (.k (.c (.fn 183 [] []))) [(.s 19), (.s 20)]⟩] [] (some [21, 5, 6, 2, 1]))
  (.cond (.s 21) (.region 1 [⟨0, (some 22), none, .mv (.s 5)⟩, ⟨1, (some 23), none, .mv (.s 6)⟩, ⟨2, (some 24), none, .lit 0 1 [[(.int .i64 0)]] [(0, (.s 23))]⟩, ⟨3, (some 25), none, .append 1 8 (.s 22) (.s 24)⟩, ⟨4, (some 5), none, .mv (.s 25)⟩] [] (some [6, 5, 2, 1]))
  .skip)))
  (.region 0 [⟨0, (some 12), none, .mv (.s 6)⟩, ⟨1, (some 13), none, .bin .add (.s 12) (.k (.c (.int .i64 1)))⟩, ⟨2, (some 6), none, .mv (.s 13)⟩] [] (some [5, 6, 2, 1]))))
/-- kerbstone/kerbstoneref03.before -/
abbrev f_kerbstoneref03_before : Nat := 182
def c_kerbstoneref03_before : CFn := { frz := true, rnd := none, nargs := 2, ntmps := 27, res := [(.slot 4)], code :=
  (.seq (.region 2 [⟨0, (some 2), none, .box 0 5 (.s 0)⟩, ⟨1, (some 4), none, .newsl 1 1⟩] [] (some [2, 1]))
  (.seq (.region 1 [⟨0, (some 5), none, .newsl 0 1⟩] [] (some [5, 2, 1]))
  (.seq (.seq (.region 0 [⟨0, (some 6), none, .mv (.k (.c (.int .i64 0)))⟩] [] (some [5, 6, 2, 1]))
  (.block 0 (.loop (some [5, 6, 2, 1]) c_kerbstoneref03_before_l1)))
  (.seq (.region 0 [⟨0, (some 26), none, .mv (.s 5)⟩, ⟨1, (some 4), none, .mv (.s 26)⟩] [] (some [4]))
  .ret)))) }
def c_kerbstoneref03_has_l1 : CC := (.seq (.seq (.region 0 [⟨0, (some 6), none, .mv (.s 5)⟩, ⟨1, (some 7), none, .mv (.s 0)⟩, ⟨2, (some 8), none, .len (.s 7)⟩, ⟨3, (some 9), none, .bin .lss (.s 6) (.s 8)⟩] [] (some [9, 1, 0, 5]))
  (.cond (.s 9) .skip
  (.exit 0)))
  (.seq (.block 1 (.seq (.region 0 [⟨0, (some 12), none, .mv (.s 0)⟩, ⟨1, (some 13), none, .mv (.s 5)⟩, ⟨2, (some 14), none, .iaddr 1 (.s 12) (.s 13)⟩, ⟨3, (some 15), none, .load false 1 (.s 14)⟩, ⟨4, (some 16), none, .mv (.s 1)⟩, ⟨5, (some 17), none, .bin .eql (.s 15) (.s 16)⟩] [] (some [17, 1, 0, 5]))
  (.cond (.s 17) (.seq (.region 0 [⟨0, (some 4), none, .mv (.k (.c (.bool true)))⟩] [] (some [4]))
  .ret)
  .skip)))
  (.region 0 [⟨0, (some 10), none, .mv (.s 5)⟩, ⟨1, (some 11), none, .bin .add (.s 10) (.k (.c (.int .i64 1)))⟩, ⟨2, (some 5), none, .mv (.s 11)⟩] [] (some [0, 1, 5]))))
/-- kerbstone/kerbstoneref03.has -/
abbrev f_kerbstoneref03_has : Nat := 183
def c_kerbstoneref03_has : CFn := { frz := true, rnd := none, nargs := 2, ntmps := 18, res := [(.slot 4)], code :=
  (.seq (.region 0 [⟨0, (some 4), none, .mv (.k (.c (.bool false)))⟩] [] (some [0, 1]))
  (.seq (.seq (.region 0 [⟨0, (some 5), none, .mv (.k (.c (.int .i64 0)))⟩] [] (some [0, 1, 5]))
  (.block 0 (.loop (some [0, 1, 5]) c_kerbstoneref03_has_l1)))
  (.seq (.region 0 [⟨0, (some 4), none, .mv (.k (.c (.bool false)))⟩] [] (some [4]))
  .ret))) }
/-- kerbstone/roads.within -/
abbrev f_roads_within : Nat := 184
def c_roads_within : CFn := { frz := true, rnd := none, nargs := 3, ntmps := 15, res := [(.slot 6)], code :=
  (.seq (.region 0 [⟨0, (some 6), none, .mv (.k (.c (.bool false)))⟩] [] (some [1, 0, 2]))
  (.seq (.region 0 [⟨0, (some 7), none, .mv (.s 1)⟩, ⟨1, (some 8), none, .mv (.s 0)⟩, ⟨2, (some 9), none, .bin .leq (.s 7) (.s 8)⟩, ⟨3, (some 10), none, .mv (.s 9)⟩, ⟨4, (some 11), (some (10, true)), .mv (.s 0)⟩, ⟨5, (some 12), (some (10, true)), .mv (.s 2)⟩, ⟨6, (some 13), (some (10, true)), .bin .leq (.s 11) (.s 12)⟩, ⟨7, (some 14), none, .pick (.s 10) (.s 13) (.k (.c (.bool false)))⟩, ⟨8, (some 6), none, .mv (.s 14)⟩] [] (some [6]))
  .ret)) }
def c_curve_Check_l1 : CC := (.seq (.region 0 [⟨0, (some 28), none, .bin .lss (.s 27) (.s 26)⟩] [] (some [28, 3, 1, 26, 27]))
  (.seq (.cond (.s 28) .skip
  (.exit 1))
  (.seq (.block 2 (.seq (.region 0 [⟨0, (some 29), none, .mv (.s 27)⟩, ⟨1, (some 4), none, .mv (.s 29)⟩] [] (some [4, 3, 1, 26, 27]))
  (.seq (.region 1 [⟨0, (some 30), none, .faddr 0 (.s 1)⟩, ⟨2, (some 32), none, .mv (.s 4)⟩, ⟨5, (some 35), none, .faddr 0 (.s 1)⟩, ⟨7, (some 37), none, .mv (.s 4)⟩, ⟨8, (some 38), none, .bin .add (.s 37) (.k (.c (.int .i64 1)))⟩, ⟨1, (some 31), none, .load false 1 (.s 30)⟩, ⟨3, (some 33), none, .iaddr 2 (.s 31) (.s 32)⟩, ⟨4, (some 34), none, .load true 2 (.s 33)⟩, ⟨6, (some 36), none, .load false 1 (.s 35)⟩, ⟨9, (some 39), none, .iaddr 2 (.s 36) (.s 38)⟩, ⟨10, (some 40), none, .load true 2 (.s 39)⟩, ⟨11, (some 41), none, .call ⟨true⟩ (.k (.c (.fn 202 [] []))) [(.s 34), (.s 40)]⟩, ⟨12, (some 5), none, .box 0 2 (.k (.a [(.int .i64 0), (.int .i64 0)]))⟩, ⟨13, none, none, .store 2 (.s 5) (.s 41)⟩] [(5, 12), (7, 12), (8, 12), (10, 12), (11, 12)] (some [4, 3, 1, 26, 27, 5]))
  (.seq (.region 0 [⟨0, (some 43), none, .load true 2 (.s 5)⟩, ⟨1, (some 44), none, .load true 2 (.s 5)⟩, ⟨2, (some 45), none, .call ⟨true⟩ (.k (.c (.fn 203 [] []))) [(.s 43), (.s 44)]⟩, ⟨3, (some 46), none, .call ⟨true⟩ (.k (.c (.fn 229 [] []))) [(.s 45)]⟩, ⟨4, (some 42), none, .mv (.s 46)⟩, ⟨5, (some 47), none, .extract 42 0⟩, ⟨6, (some 48), none, .extract 42 1⟩, ⟨7, (some 6), none, .mv (.s 47)⟩, ⟨8, (some 7), none, .mv (.s 48)⟩] [] (some [7, 4, 3, 1, 26, 27, 5, 6]))
  (.seq (.block 3 (.seq (.region 0 [⟨0, (some 50), none, .mv (.s 7)⟩, ⟨1, (some 51), none, .un .not (.s 50)⟩, ⟨2, (some 49), none, .mv (.s 51)⟩] [] (some [49, 4, 3, 1, 26, 27, 5, 6]))
  (.cond (.s 49) (.seq (.region 0 [⟨0, (some 2), none, .mv (.k (.c (.int .i64 3)))⟩] [] (some [2]))
  .ret)
  (.seq (.region 0 [⟨0, (some 53), none, .mv (.s 6)⟩, ⟨1, (some 54), none, .bin .lss (.s 53) (.k (.c (.int .i64 1000)))⟩, ⟨2, (some 55), none, .mv (.s 54)⟩, ⟨3, (some 56), (some (55, false)), .mv (.s 6)⟩, ⟨4, (some 57), (some (55, false)), .bin .gtr (.s 56) (.k (.c (.int .i64 1048576)))⟩, ⟨5, (some 58), none, .pick (.s 55) (.k (.c (.bool true))) (.s 57)⟩, ⟨6, (some 52), none, .mv (.s 58)⟩] [] (some [52, 5, 27, 26, 1, 3, 4]))
  (.cond (.s 52) (.seq (.region 0 [⟨0, (some 2), none, .mv (.k (.c (.int .i64 2)))⟩] [] (some [2]))
  .ret)
  (.seq (.region 0 [⟨0, (some 60), none, .mv (.s 4)⟩, ⟨1, (some 61), none, .bin .gtr (.s 60) (.k (.c (.int .i64 0)))⟩, ⟨2, (some 62), none, .mv (.s 61)⟩, ⟨3, (some 63), (some (62, true)), .load true 2 (.s 3)⟩, ⟨4, (some 64), (some (62, true)), .load true 2 (.s 5)⟩, ⟨5, (some 65), (some (62, true)), .call ⟨true⟩ (.k (.c (.fn 203 [] []))) [(.s 63), (.s 64)]⟩, ⟨6, (some 66), (some (62, true)), .bin .leq (.s 65) (.k (.c (.int .i64 0)))⟩, ⟨7, (some 67), none, .pick (.s 62) (.s 66) (.k (.c (.bool false)))⟩, ⟨8, (some 59), none, .mv (.s 67)⟩] [] (some [59, 3, 1, 26, 27, 5]))
  (.cond (.s 59) (.seq (.region 0 [⟨0, (some 2), none, .mv (.k (.c (.int .i64 12)))⟩] [] (some [2]))
  .ret)
  .skip)))))))
  (.region 0 [⟨0, (some 68), none, .load true 2 (.s 5)⟩, ⟨1, none, none, .store 2 (.s 3) (.s 68)⟩] [] (some [27, 26, 1, 3])))))))
  (.region 0 [⟨0, (some 69), none, .bin .add (.s 27) (.k (.c (.int .i64 1)))⟩, ⟨1, (some 27), none, .mv (.s 69)⟩] [] (some [26, 1, 3, 27])))))
/-- kerbstone/curve.Check -/
abbrev f_curve_Check : Nat := 185
def c_curve_Check : CFn := { frz := true, rnd := none, nargs := 1, ntmps := 70, res := [(.slot 2)], code :=
  (.seq (.region 1 [⟨0, (some 1), none, .box 0 1 (.s 0)⟩, ⟨1, (some 2), none, .mv (.k (.c (.int .i64 0)))⟩] [] (some [1]))
  (.seq (.block 0 (.seq (.region 0 [⟨0, (some 9), none, .faddr 0 (.s 1)⟩, ⟨1, (some 10), none, .load false 1 (.s 9)⟩, ⟨2, (some 11), none, .len (.s 10)⟩, ⟨3, (some 12), none, .bin .lss (.s 11) (.k (.c (.int .i64 2)))⟩, ⟨4, (some 8), none, .mv (.s 12)⟩] [] (some [8, 1]))
  (.cond (.s 8) (.seq (.region 0 [⟨0, (some 2), none, .mv (.k (.c (.int .i64 6)))⟩] [] (some [2]))
  .ret)
  (.seq (.region 0 [⟨0, (some 14), none, .faddr 0 (.s 1)⟩, ⟨1, (some 15), none, .load false 1 (.s 14)⟩, ⟨2, (some 16), none, .len (.s 15)⟩, ⟨3, (some 17), none, .bin .gtr (.s 16) (.k (.c (.int .i64 16)))⟩, ⟨4, (some 13), none, .mv (.s 17)⟩] [] (some [13, 1]))
  (.cond (.s 13) (.seq (.region 0 [⟨0, (some 2), none, .mv (.k (.c (.int .i64 5)))⟩] [] (some [2]))
  .ret)
  (.seq (.region 0 [⟨0, (some 19), none, .faddr 0 (.s 1)⟩, ⟨1, (some 20), none, .load false 1 (.s 19)⟩, ⟨2, (some 21), none, .call ⟨true⟩ (.k (.c (.fn 200 [] []))) [(.s 20)]⟩, ⟨3, (some 22), none, .un .not (.s 21)⟩, ⟨4, (some 18), none, .mv (.s 22)⟩] [] (some [18, 1]))
  (.cond (.s 18) (.seq (.region 0 [⟨0, (some 2), none, .mv (.k (.c (.int .i64 2)))⟩] [] (some [2]))
  .ret)
  .skip)))))))
  (.seq (.region 1 [⟨0, (some 3), none, .box 0 2 (.k (.a [(.int .i64 0), (.int .i64 0)]))⟩] [] (some [1, 3]))
  (.seq (.seq (.region 0 [⟨0, (some 23), none, .faddr 0 (.s 1)⟩, ⟨1, (some 24), none, .load false 1 (.s 23)⟩, ⟨2, (some 25), none, .len (.s 24)⟩, ⟨3, (some 26), none, .bin .sub (.s 25) (.k (.c (.int .i64 1)))⟩, ⟨4, (some 27), none, .mv (.k (.c (.int .i64 0)))⟩] [] (some [26, 1, 3, 27]))
  (.block 1 (.loop (some [26, 1, 3, 27]) c_curve_Check_l1)))
  (.seq (.region 0 [⟨0, (some 2), none, .mv (.k (.c (.int .i64 0)))⟩] [] (some [2]))
  .ret))))) }
def c_roads_rising_l1 : CC := (.seq (.region 0 [⟨0, (some 12), none, .bin .lss (.s 11) (.s 10)⟩] [] (some [12, 1, 2, 9, 10, 11]))
  (.seq (.cond (.s 12) .skip
  (.exit 0))
  (.seq (.block 1 (.seq (.region 0 [⟨0, (some 13), none, .iaddr 1 (.s 9) (.s 11)⟩, ⟨1, (some 14), none, .load false 1 (.s 13)⟩, ⟨2, (some 8), none, .mv (.s 14)⟩] [] (some [1, 2, 9, 10, 11, 8]))
  (.seq (.seq (.region 0 [⟨0, (some 15), none, .mv (.s 8)⟩, ⟨1, (some 16), none, .mv (.s 1)⟩, ⟨2, (some 17), none, .bin .lss (.s 15) (.s 16)⟩, ⟨3, (some 18), none, .mv (.s 17)⟩, ⟨4, (some 19), (some (18, false)), .mv (.s 8)⟩, ⟨5, (some 20), (some (18, false)), .mv (.s 2)⟩, ⟨6, (some 21), (some (18, false)), .bin .geq (.s 19) (.s 20)⟩, ⟨7, (some 22), none, .pick (.s 18) (.k (.c (.bool true))) (.s 21)⟩] [] (some [22, 2, 9, 10, 11, 8]))
  (.cond (.s 22) (.seq (.region 0 [⟨0, (some 6), none, .mv (.k (.c (.bool false)))⟩] [] (some [6]))
  .ret)
  .skip))
  (.region 0 [⟨0, (some 23), none, .mv (.s 8)⟩, ⟨1, (some 24), none, .bin .add (.s 23) (.k (.c (.int .i64 1)))⟩, ⟨2, (some 1), none, .mv (.s 24)⟩] [] (some [11, 1, 10, 9, 2])))))
  (.region 0 [⟨0, (some 25), none, .bin .add (.s 11) (.k (.c (.int .i64 1)))⟩, ⟨1, (some 11), none, .mv (.s 25)⟩] [] (some [1, 10, 9, 2, 11])))))
/-- kerbstone/roads.rising -/
abbrev f_roads_rising : Nat := 186
def c_roads_rising : CFn := { frz := true, rnd := none, nargs := 3, ntmps := 26, res := [(.slot 6)], code :=
  (.seq (.region 0 [⟨0, (some 6), none, .mv (.k (.c (.bool false)))⟩] [] (some [0, 1, 2]))
  (.seq (.seq (.region 0 [⟨0, (some 9), none, .mv (.s 0)⟩, ⟨1, (some 10), none, .len (.s 9)⟩, ⟨2, (some 11), none, .mv (.k (.c (.int .i64 0)))⟩] [] (some [1, 10, 9, 2, 11]))
  (.block 0 (.loop (some [1, 10, 9, 2, 11]) c_roads_rising_l1)))
  (.seq (.region 0 [⟨0, (some 6), none, .mv (.k (.c (.bool true)))⟩] [] (some [6]))
  .ret))) }
/-- slices.ContainsFunc[[]kerbstone/api.Phase,kerbstone/api.Phase] -/
abbrev f_slices_ContainsFunc_Phase : Nat := 187
def c_slices_ContainsFunc_Phase : CFn := { frz := true, rnd := none, nargs := 2, ntmps := 9, res := [(.slot 4)], code :=
  (.seq (.region 0 [⟨0, (some 4), none, .mv (.k (.c (.bool false)))⟩] [] (some [0, 1]))
  (.seq (.region 0 [⟨0, (some 5), none, .mv (.s 0)⟩, ⟨1, (some 6), none, .mv (.s 1)⟩, ⟨2, (some 7), none, .call ⟨true⟩ (.k (.c (.fn 230 [] []))) [(.s 5), (.s 6)]⟩, ⟨3, (some 8), none, .bin .geq (.s 7) (.k (.c (.int .i64 0)))⟩, ⟨4, (some 4), none, .mv (.s 8)⟩] [] (some [4]))
  .ret)) }
/-- (kerbstone/roads.check).signals$1 -/
abbrev f_roads_check_signals_1 : Nat := 188
def c_roads_check_signals_1 : CFn := { frz := true, rnd := none, nargs := 1, ntmps := 7, res := [(.slot 2)], code :=
  (.seq (.region 1 [⟨0, (some 1), none, .box 0 2 (.s 0)⟩, ⟨1, (some 2), none, .mv (.k (.c (.bool false)))⟩] [] (some [1]))
  (.seq (.region 0 [⟨0, (some 3), none, .faddr 0 (.s 1)⟩, ⟨1, (some 4), none, .load false 1 (.s 3)⟩, ⟨2, (some 5), none, .call ⟨true⟩ (.k (.c (.fn 184 [] []))) [(.s 4), (.k (.c (.int .i64 1))), (.k (.c (.int .i64 10000)))]⟩, ⟨3, (some 6), none, .un .not (.s 5)⟩, ⟨4, (some 2), none, .mv (.s 6)⟩] [] (some [2]))
  .ret)) }
/-- (kerbstone/roads.check).signals$2 -/
abbrev f_roads_check_signals_2 : Nat := 189
def c_roads_check_signals_2 : CFn := { frz := true, rnd := none, nargs := 2, ntmps := 12, res := [(.slot 3)], code :=
  (.seq (.region 1 [⟨0, (some 2), none, .box 0 2 (.s 0)⟩, ⟨1, (some 3), none, .mv (.k (.c (.bool false)))⟩] [] (some [2, 1]))
  (.seq (.region 0 [⟨0, (some 4), none, .faddr 1 (.s 2)⟩, ⟨1, (some 5), none, .load false 1 (.s 4)⟩, ⟨2, (some 6), none, .faddr 0 (.s 1)⟩, ⟨3, (some 7), none, .faddr 1 (.s 6)⟩, ⟨4, (some 8), none, .load false 1 (.s 7)⟩, ⟨5, (some 9), none, .len (.s 8)⟩, ⟨6, (some 10), none, .call ⟨true⟩ (.k (.c (.fn 186 [] []))) [(.s 5), (.k (.c (.int .i64 0))), (.s 9)]⟩, ⟨7, (some 11), none, .un .not (.s 10)⟩, ⟨8, (some 3), none, .mv (.s 11)⟩] [] (some [3]))
  .ret)) }
def c_curve_Length_l1 : CC := (.seq (.region 0 [⟨0, (some 10), none, .bin .lss (.s 9) (.s 8)⟩] [] (some [10, 3, 9, 8, 7]))
  (.seq (.cond (.s 10) .skip
  (.exit 0))
  (.seq (.block 1 (.seq (.region 0 [⟨0, (some 11), none, .iaddr 1 (.s 7) (.s 9)⟩, ⟨1, (some 12), none, .load false 1 (.s 11)⟩, ⟨2, (some 5), none, .mv (.s 12)⟩] [] (some [3, 5, 9, 8, 7]))
  (.region 0 [⟨0, (some 13), none, .mv (.s 3)⟩, ⟨1, (some 14), none, .mv (.s 5)⟩, ⟨2, (some 15), none, .bin .add (.s 13) (.s 14)⟩, ⟨3, (some 3), none, .mv (.s 15)⟩] [] (some [9, 3, 8, 7]))))
  (.region 0 [⟨0, (some 16), none, .bin .add (.s 9) (.k (.c (.int .i64 1)))⟩, ⟨1, (some 9), none, .mv (.s 16)⟩] [] (some [3, 9, 8, 7])))))
/-- kerbstone/curve.Length -/
abbrev f_curve_Length : Nat := 190
def c_curve_Length : CFn := { frz := true, rnd := none, nargs := 1, ntmps := 18, res := [(.slot 2)], code :=
  (.seq (.region 1 [⟨0, (some 1), none, .box 0 1 (.s 0)⟩, ⟨1, (some 2), none, .mv (.k (.c (.int .i64 0)))⟩] [] (some [1]))
  (.seq (.region 0 [⟨0, (some 3), none, .mv (.k (.c (.int .i64 0)))⟩] [] (some [1, 3]))
  (.seq (.seq (.region 0 [⟨0, (some 6), none, .load true 1 (.s 1)⟩, ⟨1, (some 7), none, .call ⟨true⟩ (.k (.c (.fn 231 [] []))) [(.s 6)]⟩, ⟨2, (some 8), none, .len (.s 7)⟩, ⟨3, (some 9), none, .mv (.k (.c (.int .i64 0)))⟩] [] (some [3, 9, 8, 7]))
  (.block 0 (.loop (some [3, 9, 8, 7]) c_curve_Length_l1)))
  (.seq (.region 0 [⟨0, (some 17), none, .mv (.s 3)⟩, ⟨1, (some 2), none, .mv (.s 17)⟩] [] (some [2]))
  .ret)))) }
def c_roads_follow_l1 : CC := (.seq (.region 0 [⟨0, (some 19), none, .bin .lss (.s 18) (.s 17)⟩] [] (some [19, 18, 17, 4, 16, 2, 5]))
  (.seq (.cond (.s 19) .skip
  (.exit 0))
  (.seq (.block 1 (.seq (.region 0 [⟨0, (some 20), none, .iaddr 1 (.s 16) (.s 18)⟩, ⟨1, (some 21), none, .load false 1 (.s 20)⟩, ⟨2, (some 7), none, .mv (.s 21)⟩] [] (some [7, 18, 17, 4, 16, 2, 5]))
  (.seq (.region 1 [⟨0, (some 22), none, .faddr 6 (.s 5)⟩, ⟨1, (some 23), none, .load false 1 (.s 22)⟩, ⟨2, (some 24), none, .faddr 7 (.s 5)⟩, ⟨3, (some 25), none, .load false 1 (.s 24)⟩, ⟨4, (some 26), none, .lit 0 1 [[(.int .i64 0)]] [(0, (.s 25))]⟩, ⟨5, (some 27), none, .append 1 8 (.s 23) (.s 26)⟩, ⟨6, (some 28), none, .faddr 6 (.s 5)⟩, ⟨7, none, none, .store 1 (.s 28) (.s 27)⟩] [] (some [7, 18, 17, 4, 16, 2, 5]))
  (.region 0 [⟨0, (some 29), none, .faddr 7 (.s 5)⟩, ⟨3, (some 32), none, .mv (.s 7)⟩, ⟨1, (some 30), none, .load false 1 (.s 29)⟩, ⟨2, (some 31), none, .load true 5 (.s 2)⟩, ⟨4, (some 33), none, .call ⟨true⟩ (.k (.c (.fn 122 [] []))) [(.s 31), (.s 32)]⟩, ⟨5, (some 34), none, .bin .add (.s 30) (.s 33)⟩, ⟨6, (some 35), none, .faddr 7 (.s 5)⟩, ⟨7, none, none, .store 1 (.s 35) (.s 34)⟩] [(2, 4)] (some [18, 17, 4, 16, 2, 5])))))
  (.region 0 [⟨0, (some 36), none, .bin .add (.s 18) (.k (.c (.int .i64 1)))⟩, ⟨1, (some 18), none, .mv (.s 36)⟩] [] (some [18, 17, 4, 16, 2, 5])))))
/-- kerbstone/roads.follow -/
abbrev f_roads_follow : Nat := 197
def c_roads_follow : CFn := { frz := true, rnd := none, nargs := 2, ntmps := 38, res := [(.cell 4 true 8)], code :=
  (.seq (.region 2 [⟨0, (some 2), none, .box 0 5 (.s 0)⟩, ⟨1, (some 4), none, .box 1 8 (.k (.a [(.int .i64 0), .nilslice, .nilslice, .nilslice, .nilslice, .nilslice, .nilslice, (.int .i64 0)]))⟩] [] (some [2, 1, 4]))
  (.seq (.seq (.region 0 [⟨0, (some 8), none, .load true 5 (.s 2)⟩, ⟨1, (some 9), none, .mv (.s 1)⟩, ⟨2, (some 10), none, .call ⟨true⟩ (.k (.c (.fn 107 [] []))) [(.s 8), (.s 9)]⟩, ⟨3, (some 11), none, .bin .neq (.s 10) (.k (.c (.int .i64 0)))⟩] [] (some [11, 2, 1, 4]))
  (.cond (.s 11) (.seq (.region 0 [⟨0, (some 12), none, .build [(.int .i64 0), .nilslice, .nilslice, .nilslice, .nilslice, .nilslice, .nilslice, (.int .i64 0)] []⟩, ⟨1, none, none, .store 8 (.s 4) (.s 12)⟩] [] (some [4]))
  .ret)
  .skip))
  (.seq (.region 1 [⟨0, (some 13), none, .load true 5 (.s 2)⟩, ⟨1, (some 14), none, .mv (.s 1)⟩, ⟨2, (some 15), none, .build [(.int .i64 0), .nilslice, .nilslice, .nilslice, .nilslice, .nilslice, .nilslice, (.int .i64 0)] [(0, 5, (.s 13)), (5, 1, (.s 14))]⟩, ⟨3, (some 5), none, .box 0 8 (.k (.a [(.int .i64 0), .nilslice, .nilslice, .nilslice, .nilslice, .nilslice, .nilslice, (.int .i64 0)]))⟩, ⟨4, none, none, .store 8 (.s 5) (.s 15)⟩] [] (some [1, 4, 2, 5]))
  (.seq (.seq (.region 0 [⟨0, (some 16), none, .mv (.s 1)⟩, ⟨1, (some 17), none, .len (.s 16)⟩, ⟨2, (some 18), none, .mv (.k (.c (.int .i64 0)))⟩] [] (some [18, 17, 4, 16, 2, 5]))
  (.block 0 (.loop (some [18, 17, 4, 16, 2, 5]) c_roads_follow_l1)))
  (.seq (.region 0 [⟨0, (some 37), none, .load true 8 (.s 5)⟩, ⟨1, none, none, .store 8 (.s 4) (.s 37)⟩] [] (some [4]))
  .ret))))) }
def c_curve_fair_l1 : CC := (.seq (.region 0 [⟨0, (some 8), none, .bin .lss (.s 7) (.s 6)⟩] [] (some [8, 5, 6, 7]))
  (.seq (.cond (.s 8) .skip
  (.exit 0))
  (.seq (.block 1 (.seq (.region 1 [⟨0, (some 9), none, .iaddr 2 (.s 5) (.s 7)⟩, ⟨1, (some 10), none, .load true 2 (.s 9)⟩, ⟨2, (some 4), none, .box 0 2 (.k (.a [(.int .i64 0), (.int .i64 0)]))⟩, ⟨3, none, none, .store 2 (.s 4) (.s 10)⟩] [] (some [4, 5, 6, 7]))
  (.seq (.region 0 [⟨0, (some 11), none, .faddr 0 (.s 4)⟩, ⟨1, (some 12), none, .load false 1 (.s 11)⟩, ⟨2, (some 13), none, .faddr 1 (.s 4)⟩, ⟨3, (some 14), none, .load false 1 (.s 13)⟩, ⟨4, (some 15), none, .minmax false [(.s 12), (.s 14)]⟩, ⟨5, (some 16), none, .bin .lss (.s 15) (.k (.c (.int .i64 (-16777216))))⟩, ⟨6, (some 17), none, .mv (.s 16)⟩, ⟨7, (some 18), (some (17, false)), .faddr 0 (.s 4)⟩, ⟨8, (some 19), (some (17, false)), .load false 1 (.s 18)⟩, ⟨9, (some 20), (some (17, false)), .faddr 1 (.s 4)⟩, ⟨10, (some 21), (some (17, false)), .load false 1 (.s 20)⟩, ⟨11, (some 22), (some (17, false)), .minmax true [(.s 19), (.s 21)]⟩, ⟨12, (some 23), (some (17, false)), .bin .gtr (.s 22) (.k (.c (.int .i64 16777216)))⟩, ⟨13, (some 24), none, .pick (.s 17) (.k (.c (.bool true))) (.s 23)⟩] [] (some [24, 5, 6, 7]))
  (.cond (.s 24) (.seq (.region 0 [⟨0, (some 2), none, .mv (.k (.c (.bool false)))⟩] [] (some [2]))
  .ret)
  .skip))))
  (.region 0 [⟨0, (some 25), none, .bin .add (.s 7) (.k (.c (.int .i64 1)))⟩, ⟨1, (some 7), none, .mv (.s 25)⟩] [] (some [6, 5, 7])))))
/-- kerbstone/curve.fair -/
abbrev f_curve_fair : Nat := 200
def c_curve_fair : CFn := { frz := true, rnd := none, nargs := 1, ntmps := 26, res := [(.slot 2)], code :=
  (.seq (.region 0 [⟨0, (some 2), none, .mv (.k (.c (.bool false)))⟩] [] (some [0]))
  (.seq (.seq (.region 0 [⟨0, (some 5), none, .mv (.s 0)⟩, ⟨1, (some 6), none, .len (.s 5)⟩, ⟨2, (some 7), none, .mv (.k (.c (.int .i64 0)))⟩] [] (some [6, 5, 7]))
  (.block 0 (.loop (some [6, 5, 7]) c_curve_fair_l1)))
  (.seq (.region 0 [⟨0, (some 2), none, .mv (.k (.c (.bool true)))⟩] [] (some [2]))
  .ret))) }
/-- kerbstone/curve.pieces -/
abbrev f_curve_pieces : Nat := 201
def c_curve_pieces : CFn := { frz := true, rnd := none, nargs := 1, ntmps := 4, res := [(.slot 2)], code :=
  (.seq (.region 1 [⟨0, (some 1), none, .box 0 1 (.s 0)⟩, ⟨1, (some 2), none, .mv (.k (.c .nilfn))⟩] [] (some [1]))
  (.seq (.region 0 [⟨0, (some 3), none, .mkfn 234 [] [(.s 1)]⟩, ⟨1, (some 2), none, .mv (.s 3)⟩] [] (some [2]))
  .ret)) }
/-- kerbstone/curve.from -/
abbrev f_curve_from : Nat := 202
def c_curve_from : CFn := { frz := true, rnd := none, nargs := 2, ntmps := 16, res := [(.cell 4 true 2)], code :=
  (.seq (.region 3 [⟨0, (some 2), none, .box 0 2 (.s 0)⟩, ⟨1, (some 3), none, .box 1 2 (.s 1)⟩, ⟨2, (some 4), none, .box 2 2 (.k (.a [(.int .i64 0), (.int .i64 0)]))⟩] [] (some [3, 2, 4]))
  (.seq (.region 0 [⟨0, (some 5), none, .faddr 0 (.s 3)⟩, ⟨1, (some 6), none, .load false 1 (.s 5)⟩, ⟨2, (some 7), none, .faddr 0 (.s 2)⟩, ⟨3, (some 8), none, .load false 1 (.s 7)⟩, ⟨4, (some 9), none, .bin .sub (.s 6) (.s 8)⟩, ⟨5, (some 10), none, .faddr 1 (.s 3)⟩, ⟨6, (some 11), none, .load false 1 (.s 10)⟩, ⟨7, (some 12), none, .faddr 1 (.s 2)⟩, ⟨8, (some 13), none, .load false 1 (.s 12)⟩, ⟨9, (some 14), none, .bin .sub (.s 11) (.s 13)⟩, ⟨10, (some 15), none, .build [(.int .i64 0), (.int .i64 0)] [(0, 1, (.s 9)), (1, 1, (.s 14))]⟩, ⟨11, none, none, .store 2 (.s 4) (.s 15)⟩] [] (some [4]))
  .ret)) }
/-- (kerbstone/curve.vector).dot -/
abbrev f_curve_vector_dot : Nat := 203
def c_curve_vector_dot : CFn := { frz := true, rnd := none, nargs := 2, ntmps := 16, res := [(.slot 4)], code :=
  (.seq (.region 2 [⟨0, (some 2), none, .box 0 2 (.s 0)⟩, ⟨1, (some 3), none, .box 1 2 (.s 1)⟩, ⟨2, (some 4), none, .mv (.k (.c (.int .i64 0)))⟩] [] (some [2, 3]))
  (.seq (.region 0 [⟨0, (some 5), none, .faddr 0 (.s 2)⟩, ⟨1, (some 6), none, .load false 1 (.s 5)⟩, ⟨2, (some 7), none, .faddr 0 (.s 3)⟩, ⟨3, (some 8), none, .load false 1 (.s 7)⟩, ⟨4, (some 9), none, .bin .mul (.s 6) (.s 8)⟩, ⟨5, (some 10), none, .faddr 1 (.s 2)⟩, ⟨6, (some 11), none, .load false 1 (.s 10)⟩, ⟨7, (some 12), none, .faddr 1 (.s 3)⟩, ⟨8, (some 13), none, .load false 1 (.s 12)⟩, ⟨9, (some 14), none, .bin .mul (.s 11) (.s 13)⟩, ⟨10, (some 15), none, .bin .add (.s 9) (.s 14)⟩, ⟨11, (some 4), none, .mv (.s 15)⟩] [] (some [4]))
  .ret)) }
def c_kerbstoneref01_Check_l1 : CC := (.seq (.seq (.region 0 [⟨0, (some 15), none, .mv (.s 3)⟩, ⟨1, (some 16), none, .faddr 0 (.s 1)⟩, ⟨2, (some 17), none, .load false 1 (.s 16)⟩, ⟨3, (some 18), none, .len (.s 17)⟩, ⟨4, (some 19), none, .bin .lss (.s 15) (.s 18)⟩] [] (some [19, 1, 3]))
  (.cond (.s 19) .skip
  (.exit 0)))
  (.seq (.block 1 (.seq (.region 0 [⟨0, (some 22), none, .faddr 0 (.s 1)⟩, ⟨1, (some 23), none, .load false 1 (.s 22)⟩, ⟨2, (some 24), none, .mv (.s 3)⟩, ⟨3, (some 25), none, .iaddr 2 (.s 23) (.s 24)⟩, ⟨4, (some 26), none, .load true 2 (.s 25)⟩, ⟨5, (some 27), none, .call ⟨true⟩ (.k (.c (.fn 219 [] []))) [(.s 26)]⟩, ⟨6, (some 28), none, .un .not (.s 27)⟩] [] (some [28, 1, 3]))
  (.cond (.s 28) (.seq (.region 0 [⟨0, (some 2), none, .mv (.k (.c (.int .i64 2)))⟩] [] (some [2]))
  .ret)
  .skip)))
  (.region 0 [⟨0, (some 20), none, .mv (.s 3)⟩, ⟨1, (some 21), none, .bin .add (.s 20) (.k (.c (.int .i64 1)))⟩, ⟨2, (some 3), none, .mv (.s 21)⟩] [] (some [1, 3]))))
def c_kerbstoneref01_Check_l2 : CC := (.seq (.seq (.region 0 [⟨0, (some 29), none, .mv (.s 4)⟩, ⟨1, (some 30), none, .bin .add (.s 29) (.k (.c (.int .i64 1)))⟩, ⟨2, (some 31), none, .faddr 0 (.s 1)⟩, ⟨3, (some 32), none, .load false 1 (.s 31)⟩, ⟨4, (some 33), none, .len (.s 32)⟩, ⟨5, (some 34), none, .bin .lss (.s 30) (.s 33)⟩] [] (some [34, 1, 4]))
  (.cond (.s 34) .skip
  (.exit 2)))
  (.seq (.block 3 (.seq (.region 1 [⟨0, (some 37), none, .faddr 0 (.s 1)⟩, ⟨2, (some 39), none, .mv (.s 4)⟩, ⟨3, (some 40), none, .bin .add (.s 39) (.k (.c (.int .i64 1)))⟩, ⟨6, (some 43), none, .faddr 0 (.s 1)⟩, ⟨8, (some 45), none, .mv (.s 4)⟩, ⟨1, (some 38), none, .load false 1 (.s 37)⟩, ⟨4, (some 41), none, .iaddr 2 (.s 38) (.s 40)⟩, ⟨5, (some 42), none, .load true 2 (.s 41)⟩, ⟨7, (some 44), none, .load false 1 (.s 43)⟩, ⟨9, (some 46), none, .iaddr 2 (.s 44) (.s 45)⟩, ⟨10, (some 47), none, .load true 2 (.s 46)⟩, ⟨11, (some 48), none, .call ⟨true⟩ (.k (.c (.fn 167 [] []))) [(.s 42), (.s 47)]⟩, ⟨12, (some 5), none, .box 0 2 (.k (.a [(.int .i64 0), (.int .i64 0)]))⟩, ⟨13, none, none, .store 2 (.s 5) (.s 48)⟩] [(5, 12), (7, 12), (8, 12), (10, 12), (11, 12)] (some [5, 1, 4]))
  (.seq (.region 0 [⟨0, (some 49), none, .load true 2 (.s 5)⟩, ⟨1, (some 50), none, .load true 2 (.s 5)⟩, ⟨2, (some 51), none, .call ⟨true⟩ (.k (.c (.fn 220 [] []))) [(.s 49), (.s 50)]⟩, ⟨3, (some 52), none, .call ⟨true⟩ (.k (.c (.fn 225 [] []))) [(.s 51)]⟩, ⟨4, (some 6), none, .mv (.s 52)⟩] [] (some [5, 1, 4, 6]))
  (.seq (.seq (.region 0 [⟨0, (some 53), none, .mv (.s 6)⟩, ⟨1, (some 54), none, .mv (.s 6)⟩, ⟨2, (some 55), none, .bin .mul (.s 53) (.s 54)⟩, ⟨3, (some 56), none, .load true 2 (.s 5)⟩, ⟨4, (some 57), none, .load true 2 (.s 5)⟩, ⟨5, (some 58), none, .call ⟨true⟩ (.k (.c (.fn 220 [] []))) [(.s 56), (.s 57)]⟩, ⟨6, (some 59), none, .bin .neq (.s 55) (.s 58)⟩] [] (some [59, 5, 1, 4, 6]))
  (.cond (.s 59) (.seq (.region 0 [⟨0, (some 2), none, .mv (.k (.c (.int .i64 3)))⟩] [] (some [2]))
  .ret)
  .skip))
  (.seq (.seq (.region 0 [⟨0, (some 60), none, .mv (.s 6)⟩, ⟨1, (some 61), none, .bin .lss (.s 60) (.k (.c (.int .i64 1000)))⟩, ⟨2, (some 62), none, .mv (.s 61)⟩, ⟨3, (some 63), (some (62, false)), .mv (.s 6)⟩, ⟨4, (some 64), (some (62, false)), .bin .gtr (.s 63) (.k (.c (.int .i64 1048576)))⟩, ⟨5, (some 65), none, .pick (.s 62) (.k (.c (.bool true))) (.s 64)⟩] [] (some [65, 4, 1, 5]))
  (.cond (.s 65) (.seq (.region 0 [⟨0, (some 2), none, .mv (.k (.c (.int .i64 2)))⟩] [] (some [2]))
  .ret)
  .skip))
  (.seq (.region 0 [⟨0, (some 66), none, .mv (.s 4)⟩, ⟨1, (some 67), none, .bin .gtr (.s 66) (.k (.c (.int .i64 0)))⟩, ⟨2, (some 68), none, .mv (.s 67)⟩, ⟨4, (some 70), (some (68, true)), .faddr 0 (.s 1)⟩, ⟨6, (some 72), (some (68, true)), .mv (.s 4)⟩, ⟨9, (some 75), (some (68, true)), .faddr 0 (.s 1)⟩, ⟨11, (some 77), (some (68, true)), .mv (.s 4)⟩, ⟨12, (some 78), (some (68, true)), .bin .sub (.s 77) (.k (.c (.int .i64 1)))⟩, ⟨3, (some 69), (some (68, true)), .load true 2 (.s 5)⟩, ⟨5, (some 71), (some (68, true)), .load false 1 (.s 70)⟩, ⟨7, (some 73), (some (68, true)), .iaddr 2 (.s 71) (.s 72)⟩, ⟨8, (some 74), (some (68, true)), .load true 2 (.s 73)⟩, ⟨10, (some 76), (some (68, true)), .load false 1 (.s 75)⟩, ⟨13, (some 79), (some (68, true)), .iaddr 2 (.s 76) (.s 78)⟩, ⟨14, (some 80), (some (68, true)), .load true 2 (.s 79)⟩, ⟨15, (some 81), (some (68, true)), .call ⟨true⟩ (.k (.c (.fn 167 [] []))) [(.s 74), (.s 80)]⟩, ⟨16, (some 82), (some (68, true)), .call ⟨true⟩ (.k (.c (.fn 220 [] []))) [(.s 69), (.s 81)]⟩, ⟨17, (some 83), (some (68, true)), .bin .leq (.s 82) (.k (.c (.int .i64 0)))⟩, ⟨18, (some 84), none, .pick (.s 68) (.s 83) (.k (.c (.bool false)))⟩] [(8, 15)] (some [84, 1, 4]))
  (.cond (.s 84) (.seq (.region 0 [⟨0, (some 2), none, .mv (.k (.c (.int .i64 12)))⟩] [] (some [2]))
  .ret)
  .skip)))))))
  (.region 0 [⟨0, (some 35), none, .mv (.s 4)⟩, ⟨1, (some 36), none, .bin .add (.s 35) (.k (.c (.int .i64 1)))⟩, ⟨2, (some 4), none, .mv (.s 36)⟩] [] (some [1, 4]))))
/-- kerbstone/kerbstoneref01.Check -/
abbrev f_kerbstoneref01_Check : Nat := 217
def c_kerbstoneref01_Check : CFn := { frz := true, rnd := none, nargs := 1, ntmps := 85, res := [(.slot 2)], code :=
  (.seq (.region 1 [⟨0, (some 1), none, .box 0 1 (.s 0)⟩, ⟨1, (some 2), none, .mv (.k (.c (.int .i64 0)))⟩] [] (some [1]))
  (.seq (.seq (.region 0 [⟨0, (some 7), none, .faddr 0 (.s 1)⟩, ⟨1, (some 8), none, .load false 1 (.s 7)⟩, ⟨2, (some 9), none, .len (.s 8)⟩, ⟨3, (some 10), none, .bin .lss (.s 9) (.k (.c (.int .i64 2)))⟩] [] (some [10, 1]))
  (.cond (.s 10) (.seq (.region 0 [⟨0, (some 2), none, .mv (.k (.c (.int .i64 6)))⟩] [] (some [2]))
  .ret)
  .skip))
  (.seq (.seq (.region 0 [⟨0, (some 11), none, .faddr 0 (.s 1)⟩, ⟨1, (some 12), none, .load false 1 (.s 11)⟩, ⟨2, (some 13), none, .len (.s 12)⟩, ⟨3, (some 14), none, .bin .gtr (.s 13) (.k (.c (.int .i64 16)))⟩] [] (some [14, 1]))
  (.cond (.s 14) (.seq (.region 0 [⟨0, (some 2), none, .mv (.k (.c (.int .i64 5)))⟩] [] (some [2]))
  .ret)
  .skip))
  (.seq (.seq (.region 0 [⟨0, (some 3), none, .mv (.k (.c (.int .i64 0)))⟩] [] (some [1, 3]))
  (.block 0 (.loop (some [1, 3]) c_kerbstoneref01_Check_l1)))
  (.seq (.seq (.region 0 [⟨0, (some 4), none, .mv (.k (.c (.int .i64 0)))⟩] [] (some [1, 4]))
  (.block 2 (.loop (some [1, 4]) c_kerbstoneref01_Check_l2)))
  (.seq (.region 0 [⟨0, (some 2), none, .mv (.k (.c (.int .i64 0)))⟩] [] (some [2]))
  .ret)))))) }
def c_kerbstoneref03_ordered_l1 : CC := (.seq (.seq (.region 0 [⟨0, (some 8), none, .mv (.s 7)⟩, ⟨1, (some 9), none, .mv (.s 0)⟩, ⟨2, (some 10), none, .len (.s 9)⟩, ⟨3, (some 11), none, .bin .lss (.s 8) (.s 10)⟩] [] (some [11, 0, 2, 1, 7]))
  (.cond (.s 11) .skip
  (.exit 0)))
  (.seq (.block 1 (.seq (.region 0 [⟨0, (some 14), none, .mv (.s 0)⟩, ⟨1, (some 15), none, .mv (.s 7)⟩, ⟨2, (some 16), none, .iaddr 1 (.s 14) (.s 15)⟩, ⟨4, (some 18), none, .mv (.s 1)⟩, ⟨3, (some 17), none, .load false 1 (.s 16)⟩, ⟨5, (some 19), none, .bin .lss (.s 17) (.s 18)⟩, ⟨6, (some 20), none, .mv (.s 19)⟩, ⟨7, (some 21), (some (20, false)), .mv (.s 0)⟩, ⟨8, (some 22), (some (20, false)), .mv (.s 7)⟩, ⟨9, (some 23), (some (20, false)), .iaddr 1 (.s 21) (.s 22)⟩, ⟨11, (some 25), (some (20, false)), .mv (.s 2)⟩, ⟨10, (some 24), (some (20, false)), .load false 1 (.s 23)⟩, ⟨12, (some 26), (some (20, false)), .bin .geq (.s 24) (.s 25)⟩, ⟨13, (some 27), none, .pick (.s 20) (.k (.c (.bool true))) (.s 26)⟩, ⟨14, (some 28), none, .mv (.s 27)⟩, ⟨15, (some 29), (some (28, false)), .mv (.s 7)⟩, ⟨16, (some 30), (some (28, false)), .bin .gtr (.s 29) (.k (.c (.int .i64 0)))⟩, ⟨17, (some 31), (some (28, false)), .mv (.s 30)⟩, ⟨18, (some 32), (some (31, true)), .mv (.s 0)⟩, ⟨19, (some 33), (some (31, true)), .mv (.s 7)⟩, ⟨20, (some 34), (some (31, true)), .iaddr 1 (.s 32) (.s 33)⟩, ⟨22, (some 36), (some (31, true)), .mv (.s 0)⟩, ⟨23, (some 37), (some (31, true)), .mv (.s 7)⟩, ⟨24, (some 38), (some (31, true)), .bin .sub (.s 37) (.k (.c (.int .i64 1)))⟩, ⟨25, (some 39), (some (31, true)), .iaddr 1 (.s 36) (.s 38)⟩, ⟨21, (some 35), (some (31, true)), .load false 1 (.s 34)⟩, ⟨26, (some 40), (some (31, true)), .load false 1 (.s 39)⟩, ⟨27, (some 41), (some (31, true)), .bin .leq (.s 35) (.s 40)⟩, ⟨28, (some 42), (some (28, false)), .pick (.s 31) (.s 41) (.k (.c (.bool false)))⟩, ⟨29, (some 43), none, .pick (.s 28) (.k (.c (.bool true))) (.s 42)⟩] [] (some [43, 0, 2, 1, 7]))
  (.cond (.s 43) (.seq (.region 0 [⟨0, (some 6), none, .mv (.k (.c (.bool false)))⟩] [] (some [6]))
  .ret)
  .skip)))
  (.region 0 [⟨0, (some 12), none, .mv (.s 7)⟩, ⟨1, (some 13), none, .bin .add (.s 12) (.k (.c (.int .i64 1)))⟩, ⟨2, (some 7), none, .mv (.s 13)⟩] [] (some [1, 2, 0, 7]))))
/-- kerbstone/kerbstoneref03.ordered -/
abbrev f_kerbstoneref03_ordered : Nat := 218
def c_kerbstoneref03_ordered : CFn := { frz := true, rnd := none, nargs := 3, ntmps := 44, res := [(.slot 6)], code :=
  (.seq (.region 0 [⟨0, (some 6), none, .mv (.k (.c (.bool false)))⟩] [] (some [1, 2, 0]))
  (.seq (.seq (.region 0 [⟨0, (some 7), none, .mv (.k (.c (.int .i64 0)))⟩] [] (some [1, 2, 0, 7]))
  (.block 0 (.loop (some [1, 2, 0, 7]) c_kerbstoneref03_ordered_l1)))
  (.seq (.region 0 [⟨0, (some 6), none, .mv (.k (.c (.bool true)))⟩] [] (some [6]))
  .ret))) }
/-- kerbstone/kerbstoneref01.Valid -/
abbrev f_kerbstoneref01_Valid : Nat := 219
def c_kerbstoneref01_Valid : CFn := { frz := true, rnd := none, nargs := 1, ntmps := 21, res := [(.slot 2)], code :=
  (.seq (.region 1 [⟨0, (some 1), none, .box 0 2 (.s 0)⟩, ⟨1, (some 2), none, .mv (.k (.c (.bool false)))⟩] [] (some [1]))
  (.seq (.region 0 [⟨0, (some 3), none, .faddr 0 (.s 1)⟩, ⟨1, (some 4), none, .load false 1 (.s 3)⟩, ⟨2, (some 5), none, .bin .geq (.s 4) (.k (.c (.int .i64 (-16777216))))⟩, ⟨3, (some 6), none, .mv (.s 5)⟩, ⟨4, (some 7), (some (6, true)), .faddr 0 (.s 1)⟩, ⟨5, (some 8), (some (6, true)), .load false 1 (.s 7)⟩, ⟨6, (some 9), (some (6, true)), .bin .leq (.s 8) (.k (.c (.int .i64 16777216)))⟩, ⟨7, (some 10), none, .pick (.s 6) (.s 9) (.k (.c (.bool false)))⟩, ⟨8, (some 11), none, .mv (.s 10)⟩, ⟨9, (some 12), (some (11, true)), .faddr 1 (.s 1)⟩, ⟨10, (some 13), (some (11, true)), .load false 1 (.s 12)⟩, ⟨11, (some 14), (some (11, true)), .bin .geq (.s 13) (.k (.c (.int .i64 (-16777216))))⟩, ⟨12, (some 15), none, .pick (.s 11) (.s 14) (.k (.c (.bool false)))⟩, ⟨13, (some 16), none, .mv (.s 15)⟩, ⟨14, (some 17), (some (16, true)), .faddr 1 (.s 1)⟩, ⟨15, (some 18), (some (16, true)), .load false 1 (.s 17)⟩, ⟨16, (some 19), (some (16, true)), .bin .leq (.s 18) (.k (.c (.int .i64 16777216)))⟩, ⟨17, (some 20), none, .pick (.s 16) (.s 19) (.k (.c (.bool false)))⟩, ⟨18, (some 2), none, .mv (.s 20)⟩] [] (some [2]))
  .ret)) }
/-- kerbstone/kerbstoneref01.Dot -/
abbrev f_kerbstoneref01_Dot : Nat := 220
def c_kerbstoneref01_Dot : CFn := { frz := true, rnd := none, nargs := 2, ntmps := 16, res := [(.slot 4)], code :=
  (.seq (.region 2 [⟨0, (some 2), none, .box 0 2 (.s 0)⟩, ⟨1, (some 3), none, .box 1 2 (.s 1)⟩, ⟨2, (some 4), none, .mv (.k (.c (.int .i64 0)))⟩] [] (some [2, 3]))
  (.seq (.region 0 [⟨0, (some 5), none, .faddr 0 (.s 2)⟩, ⟨1, (some 6), none, .load false 1 (.s 5)⟩, ⟨2, (some 7), none, .faddr 0 (.s 3)⟩, ⟨3, (some 8), none, .load false 1 (.s 7)⟩, ⟨4, (some 9), none, .bin .mul (.s 6) (.s 8)⟩, ⟨5, (some 10), none, .faddr 1 (.s 2)⟩, ⟨6, (some 11), none, .load false 1 (.s 10)⟩, ⟨7, (some 12), none, .faddr 1 (.s 3)⟩, ⟨8, (some 13), none, .load false 1 (.s 12)⟩, ⟨9, (some 14), none, .bin .mul (.s 11) (.s 13)⟩, ⟨10, (some 15), none, .bin .add (.s 9) (.s 14)⟩, ⟨11, (some 4), none, .mv (.s 15)⟩] [] (some [4]))
  .ret)) }
def c_kerbstoneref01_root_l1 : CC := (.seq (.seq (.region 0 [⟨0, (some 5), none, .mv (.s 4)⟩, ⟨1, (some 6), none, .bin .gtr (.s 5) (.k (.c (.int .i64 0)))⟩] [] (some [6, 3, 4, 0]))
  (.cond (.s 6) .skip
  (.exit 0)))
  (.seq (.block 1 (.seq (.region 0 [⟨0, (some 9), none, .mv (.s 3)⟩, ⟨1, (some 10), none, .mv (.s 4)⟩, ⟨2, (some 11), none, .bin .add (.s 9) (.s 10)⟩, ⟨3, (some 12), none, .mv (.s 3)⟩, ⟨4, (some 13), none, .mv (.s 4)⟩, ⟨5, (some 14), none, .bin .add (.s 12) (.s 13)⟩, ⟨6, (some 15), none, .bin .mul (.s 11) (.s 14)⟩, ⟨7, (some 16), none, .mv (.s 0)⟩, ⟨8, (some 17), none, .bin .leq (.s 15) (.s 16)⟩] [] (some [17, 3, 4, 0]))
  (.cond (.s 17) (.region 0 [⟨0, (some 18), none, .mv (.s 3)⟩, ⟨1, (some 19), none, .mv (.s 4)⟩, ⟨2, (some 20), none, .bin .add (.s 18) (.s 19)⟩, ⟨3, (some 3), none, .mv (.s 20)⟩] [] (some [4, 3, 0]))
  .skip)))
  (.region 0 [⟨0, (some 7), none, .mv (.s 4)⟩, ⟨1, (some 8), none, .bin .quo (.s 7) (.k (.c (.int .i64 2)))⟩, ⟨2, (some 4), none, .mv (.s 8)⟩] [] (some [3, 4, 0]))))
/-- kerbstone/kerbstoneref01.root -/
abbrev f_kerbstoneref01_root : Nat := 225
def c_kerbstoneref01_root : CFn := { frz := true, rnd := none, nargs := 1, ntmps := 22, res := [(.slot 2)], code :=
  (.seq (.region 0 [⟨0, (some 2), none, .mv (.k (.c (.int .i64 0)))⟩] [] (some [0]))
  (.seq (.region 0 [⟨0, (some 3), none, .mv (.k (.c (.int .i64 0)))⟩] [] (some [3, 0]))
  (.seq (.seq (.region 0 [⟨0, (some 4), none, .mv (.k (.c (.int .i64 67108864)))⟩] [] (some [3, 4, 0]))
  (.block 0 (.loop (some [3, 4, 0]) c_kerbstoneref01_root_l1)))
  (.seq (.region 0 [⟨0, (some 21), none, .mv (.s 3)⟩, ⟨1, (some 2), none, .mv (.s 21)⟩] [] (some [2]))
  .ret)))) }
def c_slices_stableCmpFunc_Blob_l1 : CC := (.seq (.seq (.region 0 [⟨0, (some 11), none, .mv (.s 8)⟩, ⟨1, (some 12), none, .mv (.s 1)⟩, ⟨2, (some 13), none, .bin .leq (.s 11) (.s 12)⟩] [] (some [13, 7, 8, 1, 0, 2, 6]))
  (.cond (.s 13) .skip
  (.exit 0)))
  (.block 1 (.seq (.region 0 [⟨0, (some 14), none, .mv (.s 0)⟩, ⟨1, (some 15), none, .mv (.s 7)⟩, ⟨2, (some 16), none, .mv (.s 8)⟩, ⟨3, (some 17), none, .mv (.s 2)⟩, ⟨4, (some 18), none, .call ⟨false⟩ (.k (.c (.fn 242 [] []))) [(.s 14), (.s 15), (.s 16), (.s 17)]⟩] [] (some [8, 1, 0, 2, 6]))
  (.seq (.region 0 [⟨0, (some 19), none, .mv (.s 8)⟩, ⟨1, (some 7), none, .mv (.s 19)⟩] [] (some [8, 7, 1, 0, 2, 6]))
  (.region 0 [⟨0, (some 20), none, .mv (.s 8)⟩, ⟨1, (some 21), none, .mv (.s 6)⟩, ⟨2, (some 22), none, .bin .add (.s 20) (.s 21)⟩, ⟨3, (some 8), none, .mv (.s 22)⟩] [] (some [7, 8, 1, 0, 2, 6]))))))
def c_slices_stableCmpFunc_Blob_l2 : CC := (.seq (.seq (.region 0 [⟨0, (some 33), none, .mv (.s 8)⟩, ⟨1, (some 34), none, .mv (.s 1)⟩, ⟨2, (some 35), none, .bin .leq (.s 33) (.s 34)⟩] [] (some [35, 7, 8, 1, 0, 2, 6]))
  (.cond (.s 35) .skip
  (.exit 4)))
  (.block 5 (.seq (.region 0 [⟨0, (some 36), none, .mv (.s 0)⟩, ⟨1, (some 37), none, .mv (.s 7)⟩, ⟨2, (some 38), none, .mv (.s 7)⟩, ⟨3, (some 39), none, .mv (.s 6)⟩, ⟨4, (some 40), none, .bin .add (.s 38) (.s 39)⟩, ⟨5, (some 41), none, .mv (.s 8)⟩, ⟨6, (some 42), none, .mv (.s 2)⟩, ⟨7, (some 43), none, .call ⟨false⟩ (.k (.c (.fn 243 [] []))) [(.s 36), (.s 37), (.s 40), (.s 41), (.s 42)]⟩] [] (some [8, 1, 0, 2, 6]))
  (.seq (.region 0 [⟨0, (some 44), none, .mv (.s 8)⟩, ⟨1, (some 7), none, .mv (.s 44)⟩] [] (some [8, 7, 1, 0, 2, 6]))
  (.region 0 [⟨0, (some 45), none, .mv (.s 8)⟩, ⟨1, (some 46), none, .mv (.s 6)⟩, ⟨2, (some 47), none, .bin .mul (.k (.c (.int .i64 2))) (.s 46)⟩, ⟨3, (some 48), none, .bin .add (.s 45) (.s 47)⟩, ⟨4, (some 8), none, .mv (.s 48)⟩] [] (some [7, 8, 1, 0, 2, 6]))))))
def c_slices_stableCmpFunc_Blob_l3 : CC := (.seq (.seq (.region 0 [⟨0, (some 28), none, .mv (.s 6)⟩, ⟨1, (some 29), none, .mv (.s 1)⟩, ⟨2, (some 30), none, .bin .lss (.s 28) (.s 29)⟩] [] (some [30, 1, 0, 2, 6]))
  (.cond (.s 30) .skip
  (.exit 2)))
  (.block 3 (.seq (.region 0 [⟨0, (some 31), none, .mv (.s 6)⟩, ⟨1, (some 32), none, .bin .mul (.k (.c (.int .i64 2))) (.s 31)⟩, ⟨2, (some 7), none, .mv (.k (.c (.int .i64 0)))⟩, ⟨3, (some 8), none, .mv (.s 32)⟩] [] (some [7, 8, 1, 0, 2, 6]))
  (.seq (.block 4 (.loop (some [7, 8, 1, 0, 2, 6]) c_slices_stableCmpFunc_Blob_l2))
  (.seq (.seq (.region 0 [⟨0, (some 49), none, .mv (.s 7)⟩, ⟨1, (some 50), none, .mv (.s 6)⟩, ⟨2, (some 51), none, .bin .add (.s 49) (.s 50)⟩, ⟨3, (some 9), none, .mv (.s 51)⟩] [] (some [7, 9, 6, 1, 0, 2]))
  (.seq (.region 0 [⟨0, (some 52), none, .mv (.s 9)⟩, ⟨1, (some 53), none, .mv (.s 1)⟩, ⟨2, (some 54), none, .bin .lss (.s 52) (.s 53)⟩] [] (some [54, 7, 9, 6, 1, 0, 2]))
  (.cond (.s 54) (.region 0 [⟨0, (some 55), none, .mv (.s 0)⟩, ⟨1, (some 56), none, .mv (.s 7)⟩, ⟨2, (some 57), none, .mv (.s 9)⟩, ⟨3, (some 58), none, .mv (.s 1)⟩, ⟨4, (some 59), none, .mv (.s 2)⟩, ⟨5, (some 60), none, .call ⟨false⟩ (.k (.c (.fn 243 [] []))) [(.s 55), (.s 56), (.s 57), (.s 58), (.s 59)]⟩] [] (some [6, 1, 0, 2]))
  .skip)))
  (.region 0 [⟨0, (some 61), none, .mv (.s 6)⟩, ⟨1, (some 62), none, .bin .mul (.s 61) (.k (.c (.int .i64 2)))⟩, ⟨2, (some 6), none, .mv (.s 62)⟩] [] (some [1, 0, 2, 6])))))))
/-- slices.stableCmpFunc[kerbstone/api.Blob] -/
abbrev f_slices_stableCmpFunc_Blob : Nat := 226
def c_slices_stableCmpFunc_Blob : CFn := { frz := true, rnd := none, nargs := 3, ntmps := 63, res := [], code :=
  (.seq (.region 0 [⟨0, (some 6), none, .mv (.k (.c (.int .i64 20)))⟩] [] (some [1, 0, 2, 6]))
  (.seq (.region 0 [⟨0, (some 10), none, .mv (.s 6)⟩, ⟨1, (some 7), none, .mv (.k (.c (.int .i64 0)))⟩, ⟨2, (some 8), none, .mv (.s 10)⟩] [] (some [7, 8, 1, 0, 2, 6]))
  (.seq (.block 0 (.loop (some [7, 8, 1, 0, 2, 6]) c_slices_stableCmpFunc_Blob_l1))
  (.seq (.region 0 [⟨0, (some 23), none, .mv (.s 0)⟩, ⟨1, (some 24), none, .mv (.s 7)⟩, ⟨2, (some 25), none, .mv (.s 1)⟩, ⟨3, (some 26), none, .mv (.s 2)⟩, ⟨4, (some 27), none, .call ⟨false⟩ (.k (.c (.fn 242 [] []))) [(.s 23), (.s 24), (.s 25), (.s 26)]⟩] [] (some [1, 0, 2, 6]))
  (.block 2 (.loop (some [1, 0, 2, 6]) c_slices_stableCmpFunc_Blob_l3)))))) }
/-- cmp.isNaN[int] -/
abbrev f_cmp_isNaN_int : Nat := 227
def c_cmp_isNaN_int : CFn := { frz := true, rnd := none, nargs := 1, ntmps := 6, res := [(.slot 2)], code :=
  (.seq (.region 0 [⟨0, (some 2), none, .mv (.k (.c (.bool false)))⟩] [] (some [0]))
  (.seq (.region 0 [⟨0, (some 3), none, .mv (.s 0)⟩, ⟨1, (some 4), none, .mv (.s 0)⟩, ⟨2, (some 5), none, .bin .neq (.s 3) (.s 4)⟩, ⟨3, (some 2), none, .mv (.s 5)⟩] [] (some [2]))
  .ret)) }
def c_slices_Index_int_l1 : CC := (.seq (.region 0 [⟨0, (some 9), none, .bin .lss (.s 8) (.s 7)⟩] [] (some [9, 0, 1, 7, 8]))
  (.seq (.cond (.s 9) .skip
  (.exit 0))
  (.seq (.block 1 (.seq (.region 0 [⟨0, (some 10), none, .mv (.s 8)⟩, ⟨1, (some 5), none, .mv (.s 10)⟩] [] (some [0, 1, 7, 8, 5]))
  (.seq (.region 0 [⟨0, (some 11), none, .mv (.s 1)⟩, ⟨1, (some 12), none, .mv (.s 0)⟩, ⟨2, (some 13), none, .mv (.s 5)⟩, ⟨3, (some 14), none, .iaddr 1 (.s 12) (.s 13)⟩, ⟨4, (some 15), none, .load false 1 (.s 14)⟩, ⟨5, (some 16), none, .bin .eql (.s 11) (.s 15)⟩] [] (some [16, 0, 1, 7, 8, 5]))
  (.cond (.s 16) (.seq (.region 0 [⟨0, (some 17), none, .mv (.s 5)⟩, ⟨1, (some 4), none, .mv (.s 17)⟩] [] (some [4]))
  .ret)
  .skip))))
  (.region 0 [⟨0, (some 18), none, .bin .add (.s 8) (.k (.c (.int .i64 1)))⟩, ⟨1, (some 8), none, .mv (.s 18)⟩] [] (some [7, 1, 0, 8])))))
/-- slices.Index[[]int,int] -/
abbrev f_slices_Index_int : Nat := 228
def c_slices_Index_int : CFn := { frz := true, rnd := none, nargs := 2, ntmps := 19, res := [(.slot 4)], code :=
  (.seq (.region 0 [⟨0, (some 4), none, .mv (.k (.c (.int .i64 0)))⟩] [] (some [1, 0]))
  (.seq (.seq (.region 0 [⟨0, (some 6), none, .mv (.s 0)⟩, ⟨1, (some 7), none, .len (.s 6)⟩, ⟨2, (some 8), none, .mv (.k (.c (.int .i64 0)))⟩] [] (some [7, 1, 0, 8]))
  (.block 0 (.loop (some [7, 1, 0, 8]) c_slices_Index_int_l1)))
  (.seq (.region 0 [⟨0, (some 4), none, .mv (.k (.c (.int .i64 (-1))))⟩] [] (some [4]))
  .ret))) }
def c_curve_root_l1 : CC := (.seq (.seq (.region 0 [⟨0, (some 7), none, .mv (.s 4)⟩, ⟨1, (some 8), none, .mv (.s 5)⟩, ⟨2, (some 9), none, .bin .lss (.s 7) (.s 8)⟩] [] (some [9, 4, 5, 0]))
  (.cond (.s 9) .skip
  (.exit 0)))
  (.block 1 (.seq (.region 0 [⟨0, (some 10), none, .mv (.s 4)⟩, ⟨1, (some 11), none, .mv (.s 5)⟩, ⟨2, (some 12), none, .bin .add (.s 10) (.s 11)⟩, ⟨3, (some 13), none, .bin .quo (.s 12) (.k (.c (.int .i64 2)))⟩, ⟨4, (some 6), none, .mv (.s 13)⟩] [] (some [4, 6, 5, 0]))
  (.seq (.region 0 [⟨0, (some 14), none, .mv (.s 6)⟩, ⟨1, (some 15), none, .mv (.s 6)⟩, ⟨2, (some 16), none, .bin .mul (.s 14) (.s 15)⟩, ⟨3, (some 17), none, .mv (.s 0)⟩, ⟨4, (some 18), none, .bin .lss (.s 16) (.s 17)⟩] [] (some [18, 4, 6, 5, 0]))
  (.cond (.s 18) (.region 0 [⟨0, (some 19), none, .mv (.s 6)⟩, ⟨1, (some 20), none, .bin .add (.s 19) (.k (.c (.int .i64 1)))⟩, ⟨2, (some 4), none, .mv (.s 20)⟩] [] (some [4, 5, 0]))
  (.region 0 [⟨0, (some 21), none, .mv (.s 6)⟩, ⟨1, (some 5), none, .mv (.s 21)⟩] [] (some [4, 5, 0])))))))
/-- kerbstone/curve.root -/
abbrev f_curve_root : Nat := 229
def c_curve_root : CFn := { frz := true, rnd := none, nargs := 1, ntmps := 28, res := [(.slot 2), (.slot 3)], code :=
  (.seq (.region 0 [⟨0, (some 2), none, .mv (.k (.c (.int .i64 0)))⟩, ⟨1, (some 3), none, .mv (.k (.c (.bool false)))⟩] [] (some [0]))
  (.seq (.region 0 [⟨0, (some 4), none, .mv (.k (.c (.int .i64 0)))⟩, ⟨1, (some 5), none, .mv (.k (.c (.int .i64 67108864)))⟩] [] (some [4, 5, 0]))
  (.seq (.block 0 (.loop (some [4, 5, 0]) c_curve_root_l1))
  (.seq (.region 0 [⟨0, (some 22), none, .mv (.s 4)⟩, ⟨1, (some 23), none, .mv (.s 4)⟩, ⟨2, (some 24), none, .mv (.s 4)⟩, ⟨3, (some 25), none, .bin .mul (.s 23) (.s 24)⟩, ⟨4, (some 26), none, .mv (.s 0)⟩, ⟨5, (some 27), none, .bin .eql (.s 25) (.s 26)⟩, ⟨6, (some 2), none, .mv (.s 22)⟩, ⟨7, (some 3), none, .mv (.s 27)⟩] [] (some [2, 3]))
  .ret)))) }
def c_slices_IndexFunc_Phase_l1 : CC := (.seq (.region 0 [⟨0, (some 9), none, .bin .lss (.s 8) (.s 7)⟩] [] (some [9, 0, 1, 7, 8]))
  (.seq (.cond (.s 9) .skip
  (.exit 0))
  (.seq (.block 1 (.seq (.region 0 [⟨0, (some 10), none, .mv (.s 8)⟩, ⟨1, (some 5), none, .mv (.s 10)⟩] [] (some [0, 1, 7, 8, 5]))
  (.seq (.region 0 [⟨0, (some 11), none, .mv (.s 1)⟩, ⟨1, (some 12), none, .mv (.s 0)⟩, ⟨2, (some 13), none, .mv (.s 5)⟩, ⟨3, (some 14), none, .iaddr 2 (.s 12) (.s 13)⟩, ⟨4, (some 15), none, .load true 2 (.s 14)⟩, ⟨5, (some 16), none, .call ⟨true⟩ (.s 11) [(.s 15)]⟩] [] (some [16, 0, 1, 7, 8, 5]))
  (.cond (.s 16) (.seq (.region 0 [⟨0, (some 17), none, .mv (.s 5)⟩, ⟨1, (some 4), none, .mv (.s 17)⟩] [] (some [4]))
  .ret)
  .skip))))
  (.region 0 [⟨0, (some 18), none, .bin .add (.s 8) (.k (.c (.int .i64 1)))⟩, ⟨1, (some 8), none, .mv (.s 18)⟩] [] (some [7, 1, 0, 8])))))
/-- slices.IndexFunc[[]kerbstone/api.Phase,kerbstone/api.Phase] -/
abbrev f_slices_IndexFunc_Phase : Nat := 230
def c_slices_IndexFunc_Phase : CFn := { frz := true, rnd := none, nargs := 2, ntmps := 19, res := [(.slot 4)], code :=
  (.seq (.region 0 [⟨0, (some 4), none, .mv (.k (.c (.int .i64 0)))⟩] [] (some [1, 0]))
  (.seq (.seq (.region 0 [⟨0, (some 6), none, .mv (.s 0)⟩, ⟨1, (some 7), none, .len (.s 6)⟩, ⟨2, (some 8), none, .mv (.k (.c (.int .i64 0)))⟩] [] (some [7, 1, 0, 8]))
  (.block 0 (.loop (some [7, 1, 0, 8]) c_slices_IndexFunc_Phase_l1)))
  (.seq (.region 0 [⟨0, (some 4), none, .mv (.k (.c (.int .i64 (-1))))⟩] [] (some [4]))
  .ret))) }
/-- kerbstone/curve.Pieces -/
abbrev f_curve_Pieces : Nat := 231
def c_curve_Pieces : CFn := { frz := true, rnd := none, nargs := 1, ntmps := 19, res := [(.slot 2)], code :=
  (.seq (.region 2 [⟨0, (some 1), none, .box 0 1 (.s 0)⟩, ⟨1, (some 2), none, .newsl 1 1⟩] [] (some [2, 1]))
  (.seq (.seq (.region 0 [⟨0, (some 6), none, .load true 1 (.s 1)⟩, ⟨1, (some 7), none, .call ⟨true⟩ (.k (.c (.fn 185 [] []))) [(.s 6)]⟩, ⟨2, (some 8), none, .bin .neq (.s 7) (.k (.c (.int .i64 0)))⟩] [] (some [8, 2, 1]))
  (.cond (.s 8) (.seq (.region 1 [⟨0, (some 2), none, .newsl 0 1⟩] [] (some [2]))
  .ret)
  .skip))
  (.seq (.region 1 [⟨0, (some 3), none, .box 0 1 (.k (.a [.nilslice]))⟩] [] (some [1, 2, 3]))
  (.seq (.seq (.region 0 [⟨0, (some 9), none, .load true 1 (.s 1)⟩, ⟨1, (some 10), none, .call ⟨true⟩ (.k (.c (.fn 201 [] []))) [(.s 9)]⟩] [] (some [2, 10, 3]))
  (.block 0 (.rng (.s 10) 3961 [3])))
  (.seq (.region 0 [⟨0, (some 18), none, .load false 1 (.s 3)⟩, ⟨1, (some 2), none, .mv (.s 18)⟩] [] (some [2]))
  .ret))))) }
/-- rounds of kerbstone/curve.Pieces -/
abbrev f_curve_Pieces_r1 : Nat := 3961
def c_curve_Pieces_r1 : CFn := { frz := false, rnd := (some ([11, 12], (.region 1 [⟨0, (some 5), none, .box 0 6 (.k (.a [(.int .i64 0), (.int .i64 0), (.int .i64 0), (.int .i64 0), (.int .i64 0), (.int .i64 0)]))⟩, ⟨1, none, none, .store 6 (.s 5) (.s 12)⟩] [] (some [5, 3])))), nargs := 3, ntmps := 19, res := [], code :=
  (.block 1 (.region 1 [⟨0, (some 13), none, .load false 1 (.s 3)⟩, ⟨1, (some 14), none, .faddr 4 (.s 5)⟩, ⟨2, (some 15), none, .load false 1 (.s 14)⟩, ⟨3, (some 16), none, .lit 0 1 [[(.int .i64 0)]] [(0, (.s 15))]⟩, ⟨4, (some 17), none, .append 1 8 (.s 13) (.s 16)⟩, ⟨5, none, none, .store 1 (.s 3) (.s 17)⟩] [] (some []))) }
def c_curve_pieces_1_l1 : CC := (.seq (.region 0 [⟨0, (some 13), none, .bin .lss (.s 12) (.s 11)⟩] [] (some [13, 1, 0, 11, 12, 3]))
  (.seq (.cond (.s 13) .skip
  (.exit 0))
  (.seq (.block 1 (.seq (.region 0 [⟨0, (some 14), none, .mv (.s 12)⟩, ⟨1, (some 4), none, .mv (.s 14)⟩] [] (some [4, 1, 0, 11, 12, 3]))
  (.seq (.region 1 [⟨0, (some 15), none, .faddr 0 (.s 1)⟩, ⟨2, (some 17), none, .mv (.s 4)⟩, ⟨5, (some 20), none, .faddr 0 (.s 1)⟩, ⟨7, (some 22), none, .mv (.s 4)⟩, ⟨8, (some 23), none, .bin .add (.s 22) (.k (.c (.int .i64 1)))⟩, ⟨1, (some 16), none, .load false 1 (.s 15)⟩, ⟨3, (some 18), none, .iaddr 2 (.s 16) (.s 17)⟩, ⟨4, (some 19), none, .load true 2 (.s 18)⟩, ⟨6, (some 21), none, .load false 1 (.s 20)⟩, ⟨9, (some 24), none, .iaddr 2 (.s 21) (.s 23)⟩, ⟨10, (some 25), none, .load true 2 (.s 24)⟩, ⟨11, (some 26), none, .call ⟨true⟩ (.k (.c (.fn 202 [] []))) [(.s 19), (.s 25)]⟩, ⟨12, (some 5), none, .box 0 2 (.k (.a [(.int .i64 0), (.int .i64 0)]))⟩, ⟨13, none, none, .store 2 (.s 5) (.s 26)⟩] [(5, 12), (7, 12), (8, 12), (10, 12), (11, 12)] (some [4, 5, 1, 0, 11, 12, 3]))
  (.seq (.region 0 [⟨0, (some 28), none, .load true 2 (.s 5)⟩, ⟨1, (some 29), none, .load true 2 (.s 5)⟩, ⟨2, (some 30), none, .call ⟨true⟩ (.k (.c (.fn 203 [] []))) [(.s 28), (.s 29)]⟩, ⟨3, (some 31), none, .call ⟨true⟩ (.k (.c (.fn 229 [] []))) [(.s 30)]⟩, ⟨4, (some 27), none, .mv (.s 31)⟩, ⟨5, (some 32), none, .extract 27 0⟩, ⟨6, (some 33), none, .extract 27 1⟩, ⟨7, (some 6), none, .mv (.s 32)⟩, ⟨8, (some 7), none, .mv (.s 33)⟩] [] (some [4, 5, 1, 0, 11, 12, 6, 3]))
  (.seq (.seq (.region 0 [⟨0, (some 34), none, .mv (.s 0)⟩, ⟨1, (some 35), none, .mv (.s 4)⟩, ⟨2, (some 36), none, .faddr 0 (.s 1)⟩, ⟨4, (some 38), none, .mv (.s 4)⟩, ⟨8, (some 42), none, .mv (.s 6)⟩, ⟨9, (some 43), none, .mv (.s 3)⟩, ⟨3, (some 37), none, .load false 1 (.s 36)⟩, ⟨5, (some 39), none, .iaddr 2 (.s 37) (.s 38)⟩, ⟨6, (some 40), none, .load true 2 (.s 39)⟩, ⟨7, (some 41), none, .load true 2 (.s 5)⟩, ⟨10, (some 44), none, .build [(.int .i64 0), (.int .i64 0), (.int .i64 0), (.int .i64 0), (.int .i64 0), (.int .i64 0)] [(0, 2, (.s 40)), (2, 2, (.s 41)), (4, 1, (.s 42)), (5, 1, (.s 43))]⟩, ⟨11, (some 45), none, .call ⟨true⟩ (.s 34) [(.s 35), (.s 44)]⟩, ⟨12, (some 46), none, .un .not (.s 45)⟩] [] (some [46, 1, 0, 11, 12, 6, 3]))
  (.cond (.s 46) .ret
  .skip))
  (.region 0 [⟨0, (some 47), none, .mv (.s 3)⟩, ⟨1, (some 48), none, .mv (.s 6)⟩, ⟨2, (some 49), none, .bin .add (.s 47) (.s 48)⟩, ⟨3, (some 3), none, .mv (.s 49)⟩] [] (some [12, 11, 0, 1, 3])))))))
  (.region 0 [⟨0, (some 50), none, .bin .add (.s 12) (.k (.c (.int .i64 1)))⟩, ⟨1, (some 12), none, .mv (.s 50)⟩] [] (some [11, 0, 1, 12, 3])))))
/-- kerbstone/curve.pieces$1 -/
abbrev f_curve_pieces_1 : Nat := 234
def c_curve_pieces_1 : CFn := { frz := true, rnd := none, nargs := 2, ntmps := 51, res := [], code :=
  (.seq (.region 0 [⟨0, (some 3), none, .mv (.k (.c (.int .i64 0)))⟩] [] (some [0, 1, 3]))
  (.seq (.region 0 [⟨0, (some 8), none, .faddr 0 (.s 1)⟩, ⟨1, (some 9), none, .load false 1 (.s 8)⟩, ⟨2, (some 10), none, .len (.s 9)⟩, ⟨3, (some 11), none, .bin .sub (.s 10) (.k (.c (.int .i64 1)))⟩, ⟨4, (some 12), none, .mv (.k (.c (.int .i64 0)))⟩] [] (some [11, 0, 1, 12, 3]))
  (.block 0 (.loop (some [11, 0, 1, 12, 3]) c_curve_pieces_1_l1)))) }
def c_slices_insertionSortCmpFunc_Blob_l1 : CC := (.seq (.seq (.region 0 [⟨0, (some 18), none, .mv (.s 9)⟩, ⟨1, (some 19), none, .mv (.s 1)⟩, ⟨2, (some 20), none, .bin .gtr (.s 18) (.s 19)⟩, ⟨3, (some 21), none, .mv (.s 20)⟩, ⟨4, (some 22), (some (21, true)), .mv (.s 3)⟩, ⟨5, (some 23), (some (21, true)), .mv (.s 0)⟩, ⟨6, (some 24), (some (21, true)), .mv (.s 9)⟩, ⟨7, (some 25), (some (21, true)), .iaddr 6 (.s 23) (.s 24)⟩, ⟨9, (some 27), (some (21, true)), .mv (.s 0)⟩, ⟨10, (some 28), (some (21, true)), .mv (.s 9)⟩, ⟨11, (some 29), (some (21, true)), .bin .sub (.s 28) (.k (.c (.int .i64 1)))⟩, ⟨12, (some 30), (some (21, true)), .iaddr 6 (.s 27) (.s 29)⟩, ⟨8, (some 26), (some (21, true)), .load true 6 (.s 25)⟩, ⟨13, (some 31), (some (21, true)), .load true 6 (.s 30)⟩, ⟨14, (some 32), (some (21, true)), .call ⟨true⟩ (.s 22) [(.s 26), (.s 31)]⟩, ⟨15, (some 33), (some (21, true)), .bin .lss (.s 32) (.k (.c (.int .i64 0)))⟩, ⟨16, (some 34), none, .pick (.s 21) (.s 33) (.k (.c (.bool false)))⟩] [] (some [34, 9, 3, 1, 2, 8, 0]))
  (.cond (.s 34) .skip
  (.exit 2)))
  (.seq (.block 3 (.region 0 [⟨0, (some 37), none, .mv (.s 0)⟩, ⟨1, (some 38), none, .mv (.s 9)⟩, ⟨2, (some 39), none, .mv (.s 0)⟩, ⟨3, (some 40), none, .mv (.s 9)⟩, ⟨4, (some 41), none, .bin .sub (.s 40) (.k (.c (.int .i64 1)))⟩, ⟨5, (some 42), none, .mv (.s 0)⟩, ⟨6, (some 43), none, .mv (.s 9)⟩, ⟨7, (some 44), none, .bin .sub (.s 43) (.k (.c (.int .i64 1)))⟩, ⟨8, (some 45), none, .iaddr 6 (.s 42) (.s 44)⟩, ⟨10, (some 47), none, .mv (.s 0)⟩, ⟨11, (some 48), none, .mv (.s 9)⟩, ⟨12, (some 49), none, .iaddr 6 (.s 47) (.s 48)⟩, ⟨9, (some 46), none, .load true 6 (.s 45)⟩, ⟨13, (some 50), none, .load true 6 (.s 49)⟩, ⟨14, (some 51), none, .iaddr 6 (.s 37) (.s 38)⟩, ⟨15, none, none, .store 6 (.s 51) (.s 46)⟩, ⟨16, (some 52), none, .iaddr 6 (.s 39) (.s 41)⟩, ⟨17, none, none, .store 6 (.s 52) (.s 50)⟩] [] (some [9, 3, 1, 2, 8, 0])))
  (.region 0 [⟨0, (some 35), none, .mv (.s 9)⟩, ⟨1, (some 36), none, .bin .sub (.s 35) (.k (.c (.int .i64 1)))⟩, ⟨2, (some 9), none, .mv (.s 36)⟩] [] (some [9, 3, 1, 2, 8, 0]))))
def c_slices_insertionSortCmpFunc_Blob_l2 : CC := (.seq (.seq (.region 0 [⟨0, (some 12), none, .mv (.s 8)⟩, ⟨1, (some 13), none, .mv (.s 2)⟩, ⟨2, (some 14), none, .bin .lss (.s 12) (.s 13)⟩] [] (some [14, 3, 1, 2, 8, 0]))
  (.cond (.s 14) .skip
  (.exit 0)))
  (.seq (.block 1 (.seq (.region 0 [⟨0, (some 17), none, .mv (.s 8)⟩, ⟨1, (some 9), none, .mv (.s 17)⟩] [] (some [9, 3, 1, 2, 8, 0]))
  (.block 2 (.loop (some [9, 3, 1, 2, 8, 0]) c_slices_insertionSortCmpFunc_Blob_l1))))
  (.region 0 [⟨0, (some 15), none, .mv (.s 8)⟩, ⟨1, (some 16), none, .bin .add (.s 15) (.k (.c (.int .i64 1)))⟩, ⟨2, (some 8), none, .mv (.s 16)⟩] [] (some [2, 1, 3, 8, 0]))))
/-- slices.insertionSortCmpFunc[kerbstone/api.Blob] -/
abbrev f_slices_insertionSortCmpFunc_Blob : Nat := 242
def c_slices_insertionSortCmpFunc_Blob : CFn := { frz := true, rnd := none, nargs := 4, ntmps := 53, res := [], code :=
  (.seq (.region 0 [⟨0, (some 10), none, .mv (.s 1)⟩, ⟨1, (some 11), none, .bin .add (.s 10) (.k (.c (.int .i64 1)))⟩, ⟨2, (some 8), none, .mv (.s 11)⟩] [] (some [2, 1, 3, 8, 0]))
  (.block 0 (.loop (some [2, 1, 3, 8, 0]) c_slices_insertionSortCmpFunc_Blob_l2))) }
def c_slices_symMergeCmpFunc_Blob_l1 : CC := (.seq (.seq (.region 0 [⟨0, (some 31), none, .mv (.s 10)⟩, ⟨1, (some 32), none, .mv (.s 11)⟩, ⟨2, (some 33), none, .bin .lss (.s 31) (.s 32)⟩] [] (some [33, 10, 11, 4, 0, 1]))
  (.cond (.s 33) .skip
  (.exit 0)))
  (.block 1 (.seq (.region 0 [⟨0, (some 34), none, .mv (.s 10)⟩, ⟨1, (some 35), none, .mv (.s 11)⟩, ⟨2, (some 36), none, .bin .add (.s 34) (.s 35)⟩, ⟨3, (some 37), none, .conv .u64 (.s 36)⟩, ⟨4, (some 38), none, .bin .shr (.s 37) (.k (.c (.int .u64 1)))⟩, ⟨5, (some 39), none, .conv .i64 (.s 38)⟩, ⟨6, (some 12), none, .mv (.s 39)⟩] [] (some [10, 12, 11, 4, 0, 1]))
  (.seq (.region 0 [⟨0, (some 40), none, .mv (.s 4)⟩, ⟨1, (some 41), none, .mv (.s 0)⟩, ⟨2, (some 42), none, .mv (.s 12)⟩, ⟨3, (some 43), none, .iaddr 6 (.s 41) (.s 42)⟩, ⟨5, (some 45), none, .mv (.s 0)⟩, ⟨6, (some 46), none, .mv (.s 1)⟩, ⟨7, (some 47), none, .iaddr 6 (.s 45) (.s 46)⟩, ⟨4, (some 44), none, .load true 6 (.s 43)⟩, ⟨8, (some 48), none, .load true 6 (.s 47)⟩, ⟨9, (some 49), none, .call ⟨true⟩ (.s 40) [(.s 44), (.s 48)]⟩, ⟨10, (some 50), none, .bin .lss (.s 49) (.k (.c (.int .i64 0)))⟩] [] (some [50, 10, 12, 11, 4, 0, 1]))
  (.cond (.s 50) (.region 0 [⟨0, (some 51), none, .mv (.s 12)⟩, ⟨1, (some 52), none, .bin .add (.s 51) (.k (.c (.int .i64 1)))⟩, ⟨2, (some 10), none, .mv (.s 52)⟩] [] (some [10, 11, 4, 0, 1]))
  (.region 0 [⟨0, (some 53), none, .mv (.s 12)⟩, ⟨1, (some 11), none, .mv (.s 53)⟩] [] (some [10, 11, 4, 0, 1])))))))
def c_slices_symMergeCmpFunc_Blob_l2 : CC := (.seq (.seq (.region 0 [⟨0, (some 55), none, .mv (.s 13)⟩, ⟨1, (some 56), none, .mv (.s 10)⟩, ⟨2, (some 57), none, .bin .sub (.s 56) (.k (.c (.int .i64 1)))⟩, ⟨3, (some 58), none, .bin .lss (.s 55) (.s 57)⟩] [] (some [58, 13, 10, 0]))
  (.cond (.s 58) .skip
  (.exit 2)))
  (.seq (.block 3 (.region 0 [⟨0, (some 61), none, .mv (.s 0)⟩, ⟨1, (some 62), none, .mv (.s 13)⟩, ⟨2, (some 63), none, .mv (.s 0)⟩, ⟨3, (some 64), none, .mv (.s 13)⟩, ⟨4, (some 65), none, .bin .add (.s 64) (.k (.c (.int .i64 1)))⟩, ⟨5, (some 66), none, .mv (.s 0)⟩, ⟨6, (some 67), none, .mv (.s 13)⟩, ⟨7, (some 68), none, .bin .add (.s 67) (.k (.c (.int .i64 1)))⟩, ⟨8, (some 69), none, .iaddr 6 (.s 66) (.s 68)⟩, ⟨10, (some 71), none, .mv (.s 0)⟩, ⟨11, (some 72), none, .mv (.s 13)⟩, ⟨12, (some 73), none, .iaddr 6 (.s 71) (.s 72)⟩, ⟨9, (some 70), none, .load true 6 (.s 69)⟩, ⟨13, (some 74), none, .load true 6 (.s 73)⟩, ⟨14, (some 75), none, .iaddr 6 (.s 61) (.s 62)⟩, ⟨15, none, none, .store 6 (.s 75) (.s 70)⟩, ⟨16, (some 76), none, .iaddr 6 (.s 63) (.s 65)⟩, ⟨17, none, none, .store 6 (.s 76) (.s 74)⟩] [] (some [13, 10, 0])))
  (.region 0 [⟨0, (some 59), none, .mv (.s 13)⟩, ⟨1, (some 60), none, .bin .add (.s 59) (.k (.c (.int .i64 1)))⟩, ⟨2, (some 13), none, .mv (.s 60)⟩] [] (some [13, 10, 0]))))
def c_slices_symMergeCmpFunc_Blob_l3 : CC := (.seq (.seq (.region 0 [⟨0, (some 83), none, .mv (.s 14)⟩, ⟨1, (some 84), none, .mv (.s 15)⟩, ⟨2, (some 85), none, .bin .lss (.s 83) (.s 84)⟩] [] (some [85, 14, 15, 4, 2, 0]))
  (.cond (.s 85) .skip
  (.exit 4)))
  (.block 5 (.seq (.region 0 [⟨0, (some 86), none, .mv (.s 14)⟩, ⟨1, (some 87), none, .mv (.s 15)⟩, ⟨2, (some 88), none, .bin .add (.s 86) (.s 87)⟩, ⟨3, (some 89), none, .conv .u64 (.s 88)⟩, ⟨4, (some 90), none, .bin .shr (.s 89) (.k (.c (.int .u64 1)))⟩, ⟨5, (some 91), none, .conv .i64 (.s 90)⟩, ⟨6, (some 16), none, .mv (.s 91)⟩] [] (some [14, 16, 15, 4, 2, 0]))
  (.seq (.region 0 [⟨0, (some 92), none, .mv (.s 4)⟩, ⟨1, (some 93), none, .mv (.s 0)⟩, ⟨2, (some 94), none, .mv (.s 2)⟩, ⟨3, (some 95), none, .iaddr 6 (.s 93) (.s 94)⟩, ⟨5, (some 97), none, .mv (.s 0)⟩, ⟨6, (some 98), none, .mv (.s 16)⟩, ⟨7, (some 99), none, .iaddr 6 (.s 97) (.s 98)⟩, ⟨4, (some 96), none, .load true 6 (.s 95)⟩, ⟨8, (some 100), none, .load true 6 (.s 99)⟩, ⟨9, (some 101), none, .call ⟨true⟩ (.s 92) [(.s 96), (.s 100)]⟩, ⟨10, (some 102), none, .bin .lss (.s 101) (.k (.c (.int .i64 0)))⟩, ⟨11, (some 103), none, .un .not (.s 102)⟩] [] (some [103, 14, 16, 15, 4, 2, 0]))
  (.cond (.s 103) (.region 0 [⟨0, (some 104), none, .mv (.s 16)⟩, ⟨1, (some 105), none, .bin .add (.s 104) (.k (.c (.int .i64 1)))⟩, ⟨2, (some 14), none, .mv (.s 105)⟩] [] (some [14, 15, 4, 2, 0]))
  (.region 0 [⟨0, (some 106), none, .mv (.s 16)⟩, ⟨1, (some 15), none, .mv (.s 106)⟩] [] (some [14, 15, 4, 2, 0])))))))
def c_slices_symMergeCmpFunc_Blob_l4 : CC := (.seq (.seq (.region 0 [⟨0, (some 108), none, .mv (.s 17)⟩, ⟨1, (some 109), none, .mv (.s 14)⟩, ⟨2, (some 110), none, .bin .gtr (.s 108) (.s 109)⟩] [] (some [110, 17, 14, 0]))
  (.cond (.s 110) .skip
  (.exit 6)))
  (.seq (.block 7 (.region 0 [⟨0, (some 113), none, .mv (.s 0)⟩, ⟨1, (some 114), none, .mv (.s 17)⟩, ⟨2, (some 115), none, .mv (.s 0)⟩, ⟨3, (some 116), none, .mv (.s 17)⟩, ⟨4, (some 117), none, .bin .sub (.s 116) (.k (.c (.int .i64 1)))⟩, ⟨5, (some 118), none, .mv (.s 0)⟩, ⟨6, (some 119), none, .mv (.s 17)⟩, ⟨7, (some 120), none, .bin .sub (.s 119) (.k (.c (.int .i64 1)))⟩, ⟨8, (some 121), none, .iaddr 6 (.s 118) (.s 120)⟩, ⟨10, (some 123), none, .mv (.s 0)⟩, ⟨11, (some 124), none, .mv (.s 17)⟩, ⟨12, (some 125), none, .iaddr 6 (.s 123) (.s 124)⟩, ⟨9, (some 122), none, .load true 6 (.s 121)⟩, ⟨13, (some 126), none, .load true 6 (.s 125)⟩, ⟨14, (some 127), none, .iaddr 6 (.s 113) (.s 114)⟩, ⟨15, none, none, .store 6 (.s 127) (.s 122)⟩, ⟨16, (some 128), none, .iaddr 6 (.s 115) (.s 117)⟩, ⟨17, none, none, .store 6 (.s 128) (.s 126)⟩] [] (some [17, 14, 0])))
  (.region 0 [⟨0, (some 111), none, .mv (.s 17)⟩, ⟨1, (some 112), none, .bin .sub (.s 111) (.k (.c (.int .i64 1)))⟩, ⟨2, (some 17), none, .mv (.s 112)⟩] [] (some [17, 14, 0]))))
def c_slices_symMergeCmpFunc_Blob_l5 : CC := (.seq (.seq (.region 0 [⟨0, (some 149), none, .mv (.s 20)⟩, ⟨1, (some 150), none, .mv (.s 21)⟩, ⟨2, (some 151), none, .bin .lss (.s 149) (.s 150)⟩] [] (some [151, 20, 3, 18, 1, 2, 19, 21, 4, 22, 0]))
  (.cond (.s 151) .skip
  (.exit 8)))
  (.block 9 (.seq (.region 0 [⟨0, (some 152), none, .mv (.s 20)⟩, ⟨1, (some 153), none, .mv (.s 21)⟩, ⟨2, (some 154), none, .bin .add (.s 152) (.s 153)⟩, ⟨3, (some 155), none, .conv .u64 (.s 154)⟩, ⟨4, (some 156), none, .bin .shr (.s 155) (.k (.c (.int .u64 1)))⟩, ⟨5, (some 157), none, .conv .i64 (.s 156)⟩, ⟨6, (some 23), none, .mv (.s 157)⟩] [] (some [20, 23, 3, 18, 1, 2, 19, 21, 4, 22, 0]))
  (.seq (.region 0 [⟨0, (some 158), none, .mv (.s 4)⟩, ⟨1, (some 159), none, .mv (.s 0)⟩, ⟨2, (some 160), none, .mv (.s 22)⟩, ⟨3, (some 161), none, .mv (.s 23)⟩, ⟨4, (some 162), none, .bin .sub (.s 160) (.s 161)⟩, ⟨5, (some 163), none, .iaddr 6 (.s 159) (.s 162)⟩, ⟨7, (some 165), none, .mv (.s 0)⟩, ⟨8, (some 166), none, .mv (.s 23)⟩, ⟨9, (some 167), none, .iaddr 6 (.s 165) (.s 166)⟩, ⟨6, (some 164), none, .load true 6 (.s 163)⟩, ⟨10, (some 168), none, .load true 6 (.s 167)⟩, ⟨11, (some 169), none, .call ⟨true⟩ (.s 158) [(.s 164), (.s 168)]⟩, ⟨12, (some 170), none, .bin .lss (.s 169) (.k (.c (.int .i64 0)))⟩, ⟨13, (some 171), none, .un .not (.s 170)⟩] [] (some [171, 20, 23, 3, 18, 1, 2, 19, 21, 4, 22, 0]))
  (.cond (.s 171) (.region 0 [⟨0, (some 172), none, .mv (.s 23)⟩, ⟨1, (some 173), none, .bin .add (.s 172) (.k (.c (.int .i64 1)))⟩, ⟨2, (some 20), none, .mv (.s 173)⟩] [] (some [20, 3, 18, 1, 2, 19, 21, 4, 22, 0]))
  (.region 0 [⟨0, (some 174), none, .mv (.s 23)⟩, ⟨1, (some 21), none, .mv (.s 174)⟩] [] (some [20, 3, 18, 1, 2, 19, 21, 4, 22, 0])))))))
/-- slices.symMergeCmpFunc[kerbstone/api.Blob] -/
abbrev f_slices_symMergeCmpFunc_Blob : Nat := 243
def c_slices_symMergeCmpFunc_Blob : CFn := { frz := true, rnd := none, nargs := 5, ntmps := 220, res := [], code :=
  (.seq (.seq (.region 0 [⟨0, (some 25), none, .mv (.s 2)⟩, ⟨1, (some 26), none, .mv (.s 1)⟩, ⟨2, (some 27), none, .bin .sub (.s 25) (.s 26)⟩, ⟨3, (some 28), none, .bin .eql (.s 27) (.k (.c (.int .i64 1)))⟩] [] (some [28, 2, 3, 4, 0, 1]))
  (.cond (.s 28) (.seq (.region 0 [⟨0, (some 29), none, .mv (.s 2)⟩, ⟨1, (some 10), none, .mv (.s 29)⟩] [] (some [3, 10, 4, 0, 1]))
  (.seq (.region 0 [⟨0, (some 30), none, .mv (.s 3)⟩, ⟨1, (some 11), none, .mv (.s 30)⟩] [] (some [10, 11, 4, 0, 1]))
  (.seq (.block 0 (.loop (some [10, 11, 4, 0, 1]) c_slices_symMergeCmpFunc_Blob_l1))
  (.seq (.seq (.region 0 [⟨0, (some 54), none, .mv (.s 1)⟩, ⟨1, (some 13), none, .mv (.s 54)⟩] [] (some [13, 10, 0]))
  (.block 2 (.loop (some [13, 10, 0]) c_slices_symMergeCmpFunc_Blob_l2)))
  .ret))))
  .skip))
  (.seq (.seq (.region 0 [⟨0, (some 77), none, .mv (.s 3)⟩, ⟨1, (some 78), none, .mv (.s 2)⟩, ⟨2, (some 79), none, .bin .sub (.s 77) (.s 78)⟩, ⟨3, (some 80), none, .bin .eql (.s 79) (.k (.c (.int .i64 1)))⟩] [] (some [80, 3, 1, 4, 2, 0]))
  (.cond (.s 80) (.seq (.region 0 [⟨0, (some 81), none, .mv (.s 1)⟩, ⟨1, (some 14), none, .mv (.s 81)⟩] [] (some [14, 4, 2, 0]))
  (.seq (.region 0 [⟨0, (some 82), none, .mv (.s 2)⟩, ⟨1, (some 15), none, .mv (.s 82)⟩] [] (some [14, 15, 4, 2, 0]))
  (.seq (.block 4 (.loop (some [14, 15, 4, 2, 0]) c_slices_symMergeCmpFunc_Blob_l3))
  (.seq (.seq (.region 0 [⟨0, (some 107), none, .mv (.s 2)⟩, ⟨1, (some 17), none, .mv (.s 107)⟩] [] (some [17, 14, 0]))
  (.block 6 (.loop (some [17, 14, 0]) c_slices_symMergeCmpFunc_Blob_l4)))
  .ret))))
  .skip))
  (.seq (.region 0 [⟨0, (some 129), none, .mv (.s 1)⟩, ⟨1, (some 130), none, .mv (.s 3)⟩, ⟨2, (some 131), none, .bin .add (.s 129) (.s 130)⟩, ⟨3, (some 132), none, .conv .u64 (.s 131)⟩, ⟨4, (some 133), none, .bin .shr (.s 132) (.k (.c (.int .u64 1)))⟩, ⟨5, (some 134), none, .conv .i64 (.s 133)⟩, ⟨6, (some 18), none, .mv (.s 134)⟩] [] (some [3, 18, 1, 2, 4, 0]))
  (.seq (.region 0 [⟨0, (some 135), none, .mv (.s 18)⟩, ⟨1, (some 136), none, .mv (.s 2)⟩, ⟨2, (some 137), none, .bin .add (.s 135) (.s 136)⟩, ⟨3, (some 19), none, .mv (.s 137)⟩] [] (some [3, 18, 1, 2, 19, 4, 0]))
  (.seq (.region 0 [⟨0, (some 20), none, .mv (.k (.c (.int .i64 0)))⟩, ⟨1, (some 21), none, .mv (.k (.c (.int .i64 0)))⟩] [] (some [3, 18, 1, 2, 19, 4, 0]))
  (.seq (.seq (.region 0 [⟨0, (some 138), none, .mv (.s 2)⟩, ⟨1, (some 139), none, .mv (.s 18)⟩, ⟨2, (some 140), none, .bin .gtr (.s 138) (.s 139)⟩] [] (some [140, 3, 18, 1, 2, 19, 4, 0]))
  (.cond (.s 140) (.seq (.region 0 [⟨0, (some 141), none, .mv (.s 19)⟩, ⟨1, (some 142), none, .mv (.s 3)⟩, ⟨2, (some 143), none, .bin .sub (.s 141) (.s 142)⟩, ⟨3, (some 20), none, .mv (.s 143)⟩] [] (some [20, 3, 18, 1, 2, 19, 4, 0]))
  (.region 0 [⟨0, (some 144), none, .mv (.s 18)⟩, ⟨1, (some 21), none, .mv (.s 144)⟩] [] (some [20, 3, 18, 1, 2, 19, 21, 4, 0])))
  (.seq (.region 0 [⟨0, (some 145), none, .mv (.s 1)⟩, ⟨1, (some 20), none, .mv (.s 145)⟩] [] (some [20, 3, 18, 1, 2, 19, 4, 0]))
  (.region 0 [⟨0, (some 146), none, .mv (.s 2)⟩, ⟨1, (some 21), none, .mv (.s 146)⟩] [] (some [20, 3, 18, 1, 2, 19, 21, 4, 0])))))
  (.seq (.region 0 [⟨0, (some 147), none, .mv (.s 19)⟩, ⟨1, (some 148), none, .bin .sub (.s 147) (.k (.c (.int .i64 1)))⟩, ⟨2, (some 22), none, .mv (.s 148)⟩] [] (some [20, 3, 18, 1, 2, 19, 21, 4, 22, 0]))
  (.seq (.block 8 (.loop (some [20, 3, 18, 1, 2, 19, 21, 4, 22, 0]) c_slices_symMergeCmpFunc_Blob_l5))
  (.seq (.region 0 [⟨0, (some 175), none, .mv (.s 19)⟩, ⟨1, (some 176), none, .mv (.s 20)⟩, ⟨2, (some 177), none, .bin .sub (.s 175) (.s 176)⟩, ⟨3, (some 24), none, .mv (.s 177)⟩] [] (some [2, 1, 20, 0, 18, 24, 3, 4]))
  (.seq (.seq (.region 0 [⟨0, (some 178), none, .mv (.s 20)⟩, ⟨1, (some 179), none, .mv (.s 2)⟩, ⟨2, (some 180), none, .bin .lss (.s 178) (.s 179)⟩, ⟨3, (some 181), none, .mv (.s 180)⟩, ⟨4, (some 182), (some (181, true)), .mv (.s 2)⟩, ⟨5, (some 183), (some (181, true)), .mv (.s 24)⟩, ⟨6, (some 184), (some (181, true)), .bin .lss (.s 182) (.s 183)⟩, ⟨7, (some 185), none, .pick (.s 181) (.s 184) (.k (.c (.bool false)))⟩] [] (some [185, 2, 1, 20, 0, 18, 24, 3, 4]))
  (.cond (.s 185) (.region 0 [⟨0, (some 186), none, .mv (.s 0)⟩, ⟨1, (some 187), none, .mv (.s 20)⟩, ⟨2, (some 188), none, .mv (.s 2)⟩, ⟨3, (some 189), none, .mv (.s 24)⟩, ⟨4, (some 190), none, .mv (.s 4)⟩, ⟨5, (some 191), none, .call ⟨false⟩ (.k (.c (.fn 245 [] []))) [(.s 186), (.s 187), (.s 188), (.s 189), (.s 190)]⟩] [] (some [1, 20, 0, 18, 24, 3, 4]))
  .skip))
  (.seq (.seq (.region 0 [⟨0, (some 192), none, .mv (.s 1)⟩, ⟨1, (some 193), none, .mv (.s 20)⟩, ⟨2, (some 194), none, .bin .lss (.s 192) (.s 193)⟩, ⟨3, (some 195), none, .mv (.s 194)⟩, ⟨4, (some 196), (some (195, true)), .mv (.s 20)⟩, ⟨5, (some 197), (some (195, true)), .mv (.s 18)⟩, ⟨6, (some 198), (some (195, true)), .bin .lss (.s 196) (.s 197)⟩, ⟨7, (some 199), none, .pick (.s 195) (.s 198) (.k (.c (.bool false)))⟩] [] (some [199, 1, 20, 0, 18, 24, 3, 4]))
  (.cond (.s 199) (.region 0 [⟨0, (some 200), none, .mv (.s 0)⟩, ⟨1, (some 201), none, .mv (.s 1)⟩, ⟨2, (some 202), none, .mv (.s 20)⟩, ⟨3, (some 203), none, .mv (.s 18)⟩, ⟨4, (some 204), none, .mv (.s 4)⟩, ⟨5, (some 205), none, .call ⟨false⟩ (.k (.c (.fn 243 [] []))) [(.s 200), (.s 201), (.s 202), (.s 203), (.s 204)]⟩] [] (some [0, 18, 24, 3, 4]))
  .skip))
  (.seq (.region 0 [⟨0, (some 206), none, .mv (.s 18)⟩, ⟨1, (some 207), none, .mv (.s 24)⟩, ⟨2, (some 208), none, .bin .lss (.s 206) (.s 207)⟩, ⟨3, (some 209), none, .mv (.s 208)⟩, ⟨4, (some 210), (some (209, true)), .mv (.s 24)⟩, ⟨5, (some 211), (some (209, true)), .mv (.s 3)⟩, ⟨6, (some 212), (some (209, true)), .bin .lss (.s 210) (.s 211)⟩, ⟨7, (some 213), none, .pick (.s 209) (.s 212) (.k (.c (.bool false)))⟩] [] (some [213, 0, 18, 24, 3, 4]))
  (.cond (.s 213) (.region 0 [⟨0, (some 214), none, .mv (.s 0)⟩, ⟨1, (some 215), none, .mv (.s 18)⟩, ⟨2, (some 216), none, .mv (.s 24)⟩, ⟨3, (some 217), none, .mv (.s 3)⟩, ⟨4, (some 218), none, .mv (.s 4)⟩, ⟨5, (some 219), none, .call ⟨false⟩ (.k (.c (.fn 243 [] []))) [(.s 214), (.s 215), (.s 216), (.s 217), (.s 218)]⟩] [] (some []))
  .skip))))))))))))) }
def c_slices_rotateCmpFunc_Blob_l1 : CC := (.seq (.seq (.region 0 [⟨0, (some 18), none, .mv (.s 10)⟩, ⟨1, (some 19), none, .mv (.s 11)⟩, ⟨2, (some 20), none, .bin .neq (.s 18) (.s 19)⟩] [] (some [20, 10, 0, 2, 4, 11]))
  (.cond (.s 20) .skip
  (.exit 0)))
  (.block 1 (.seq (.region 0 [⟨0, (some 21), none, .mv (.s 10)⟩, ⟨1, (some 22), none, .mv (.s 11)⟩, ⟨2, (some 23), none, .bin .gtr (.s 21) (.s 22)⟩] [] (some [23, 10, 0, 2, 4, 11]))
  (.cond (.s 23) (.seq (.region 0 [⟨0, (some 24), none, .mv (.s 0)⟩, ⟨1, (some 25), none, .mv (.s 2)⟩, ⟨2, (some 26), none, .mv (.s 10)⟩, ⟨3, (some 27), none, .bin .sub (.s 25) (.s 26)⟩, ⟨4, (some 28), none, .mv (.s 2)⟩, ⟨5, (some 29), none, .mv (.s 11)⟩, ⟨6, (some 30), none, .mv (.s 4)⟩, ⟨7, (some 31), none, .call ⟨false⟩ (.k (.c (.fn 246 [] []))) [(.s 24), (.s 27), (.s 28), (.s 29), (.s 30)]⟩] [] (some [10, 0, 2, 4, 11]))
  (.region 0 [⟨0, (some 32), none, .mv (.s 10)⟩, ⟨1, (some 33), none, .mv (.s 11)⟩, ⟨2, (some 34), none, .bin .sub (.s 32) (.s 33)⟩, ⟨3, (some 10), none, .mv (.s 34)⟩] [] (some [10, 0, 2, 4, 11])))
  (.seq (.region 0 [⟨0, (some 35), none, .mv (.s 0)⟩, ⟨1, (some 36), none, .mv (.s 2)⟩, ⟨2, (some 37), none, .mv (.s 10)⟩, ⟨3, (some 38), none, .bin .sub (.s 36) (.s 37)⟩, ⟨4, (some 39), none, .mv (.s 2)⟩, ⟨5, (some 40), none, .mv (.s 11)⟩, ⟨6, (some 41), none, .bin .add (.s 39) (.s 40)⟩, ⟨7, (some 42), none, .mv (.s 10)⟩, ⟨8, (some 43), none, .bin .sub (.s 41) (.s 42)⟩, ⟨9, (some 44), none, .mv (.s 10)⟩, ⟨10, (some 45), none, .mv (.s 4)⟩, ⟨11, (some 46), none, .call ⟨false⟩ (.k (.c (.fn 246 [] []))) [(.s 35), (.s 38), (.s 43), (.s 44), (.s 45)]⟩] [] (some [11, 10, 0, 2, 4]))
  (.region 0 [⟨0, (some 47), none, .mv (.s 11)⟩, ⟨1, (some 48), none, .mv (.s 10)⟩, ⟨2, (some 49), none, .bin .sub (.s 47) (.s 48)⟩, ⟨3, (some 11), none, .mv (.s 49)⟩] [] (some [10, 0, 2, 4, 11])))))))
/-- slices.rotateCmpFunc[kerbstone/api.Blob] -/
abbrev f_slices_rotateCmpFunc_Blob : Nat := 245
def c_slices_rotateCmpFunc_Blob : CFn := { frz := true, rnd := none, nargs := 5, ntmps := 58, res := [], code :=
  (.seq (.region 0 [⟨0, (some 12), none, .mv (.s 2)⟩, ⟨1, (some 13), none, .mv (.s 1)⟩, ⟨2, (some 14), none, .bin .sub (.s 12) (.s 13)⟩, ⟨3, (some 10), none, .mv (.s 14)⟩] [] (some [3, 10, 0, 2, 4]))
  (.seq (.region 0 [⟨0, (some 15), none, .mv (.s 3)⟩, ⟨1, (some 16), none, .mv (.s 2)⟩, ⟨2, (some 17), none, .bin .sub (.s 15) (.s 16)⟩, ⟨3, (some 11), none, .mv (.s 17)⟩] [] (some [10, 0, 2, 4, 11]))
  (.seq (.block 0 (.loop (some [10, 0, 2, 4, 11]) c_slices_rotateCmpFunc_Blob_l1))
  (.region 0 [⟨0, (some 50), none, .mv (.s 0)⟩, ⟨1, (some 51), none, .mv (.s 2)⟩, ⟨2, (some 52), none, .mv (.s 10)⟩, ⟨3, (some 53), none, .bin .sub (.s 51) (.s 52)⟩, ⟨4, (some 54), none, .mv (.s 2)⟩, ⟨5, (some 55), none, .mv (.s 10)⟩, ⟨6, (some 56), none, .mv (.s 4)⟩, ⟨7, (some 57), none, .call ⟨false⟩ (.k (.c (.fn 246 [] []))) [(.s 50), (.s 53), (.s 54), (.s 55), (.s 56)]⟩] [] (some []))))) }
def c_slices_swapRangeCmpFunc_Blob_l1 : CC := (.seq (.seq (.region 0 [⟨0, (some 11), none, .mv (.s 10)⟩, ⟨1, (some 12), none, .mv (.s 3)⟩, ⟨2, (some 13), none, .bin .lss (.s 11) (.s 12)⟩] [] (some [13, 10, 3, 2, 0, 1]))
  (.cond (.s 13) .skip
  (.exit 0)))
  (.seq (.block 1 (.region 0 [⟨0, (some 16), none, .mv (.s 0)⟩, ⟨1, (some 17), none, .mv (.s 1)⟩, ⟨2, (some 18), none, .mv (.s 10)⟩, ⟨3, (some 19), none, .bin .add (.s 17) (.s 18)⟩, ⟨4, (some 20), none, .mv (.s 0)⟩, ⟨5, (some 21), none, .mv (.s 2)⟩, ⟨6, (some 22), none, .mv (.s 10)⟩, ⟨7, (some 23), none, .bin .add (.s 21) (.s 22)⟩, ⟨8, (some 24), none, .mv (.s 0)⟩, ⟨9, (some 25), none, .mv (.s 2)⟩, ⟨10, (some 26), none, .mv (.s 10)⟩, ⟨11, (some 27), none, .bin .add (.s 25) (.s 26)⟩, ⟨12, (some 28), none, .iaddr 6 (.s 24) (.s 27)⟩, ⟨14, (some 30), none, .mv (.s 0)⟩, ⟨15, (some 31), none, .mv (.s 1)⟩, ⟨16, (some 32), none, .mv (.s 10)⟩, ⟨17, (some 33), none, .bin .add (.s 31) (.s 32)⟩, ⟨18, (some 34), none, .iaddr 6 (.s 30) (.s 33)⟩, ⟨13, (some 29), none, .load true 6 (.s 28)⟩, ⟨19, (some 35), none, .load true 6 (.s 34)⟩, ⟨20, (some 36), none, .iaddr 6 (.s 16) (.s 19)⟩, ⟨21, none, none, .store 6 (.s 36) (.s 29)⟩, ⟨22, (some 37), none, .iaddr 6 (.s 20) (.s 23)⟩, ⟨23, none, none, .store 6 (.s 37) (.s 35)⟩] [] (some [10, 3, 2, 0, 1])))
  (.region 0 [⟨0, (some 14), none, .mv (.s 10)⟩, ⟨1, (some 15), none, .bin .add (.s 14) (.k (.c (.int .i64 1)))⟩, ⟨2, (some 10), none, .mv (.s 15)⟩] [] (some [10, 3, 2, 0, 1]))))
/-- slices.swapRangeCmpFunc[kerbstone/api.Blob] -/
abbrev f_slices_swapRangeCmpFunc_Blob : Nat := 246
def c_slices_swapRangeCmpFunc_Blob : CFn := { frz := true, rnd := none, nargs := 5, ntmps := 38, res := [], code :=
  (.seq (.region 0 [⟨0, (some 10), none, .mv (.k (.c (.int .i64 0)))⟩] [] (some [10, 3, 2, 0, 1]))
  (.block 0 (.loop (some [10, 3, 2, 0, 1]) c_slices_swapRangeCmpFunc_Blob_l1))) }
def Cs : List (Nat × Nat × Nat × Bool) := [(79, 6, 48, false)]
def L : List (Nat × CFn) := [(3, c_kerbstonelaw05_TrackWhole), (8, c_kerbstonelaw05_awake), (9, c_kerbstonekit_Map), (10, c_kerbstonekit_RoadRoute), (11, c_kerbstonekit_Known), (12, c_kerbstoneref05_Inside), (13, c_track_All), (14, c_kerbstonekit_Blob), (15, c_track_Free), (16, c_kerbstonekit_Mod64), (17, c_kerbstoneref03_Length), (25, c_track_Copy), (42, c_track_Join), (43, c_kerbstonekit_Cross), (44, c_track_Own), (45, c_kerbstonelaw05_start), (46, c_kerbstonekit_SameBlobs), (47, c_kerbstonekit_Mod), (48, c_kerbstonekit_road), (49, c_kerbstonekit_signal), (50, c_kerbstonekit_Route), (51, c_kerbstoneref05_Join), (52, c_kerbstonekit_Place), (53, c_kerbstoneref03_RouteLength), (54, c_roads_Check), (55, c_roads_Bounds), (56, c_roads_Length), (57, c_kerbstoneref03_Bounds), (58, c_track_whole), (59, c_track_on), (60, c_motion_Cut_Span), (61, c_kerbstoneref03_lane), (62, c_kerbstoneref03_length), (66, c_track_Check), (67, c_track_within), (84, c_cmp_Compare_int64), (86, c_kerbstoneref03_Check), (91, c_motion_Cut_Blob), (106, c_motion_Join), (107, c_roads_CheckRoute), (108, c_track_able), (109, c_motion_Along), (110, c_motion_Course_Own), (111, c_kerbstoneref03_Origins), (112, c_kerbstoneref05_less), (113, c_kerbstoneref03_CheckRoute), (114, c_kerbstoneref03_Begins), (115, c_roads_check_numbers), (116, c_roads_check_lanes), (117, c_roads_check_joints), (118, c_roads_check_signals), (119, c_roads_check_zones), (120, c_roads_check_works), (121, c_roads_is), (122, c_roads_long), (123, c_motion_ends_Span), (124, c_kerbstoneref01_Length), (135, c_roads_Starts), (140, c_slices_IndexFunc_Blob), (147, c_cmp_isNaN_int64), (148, c_kerbstoneref03_within), (149, c_kerbstoneref03_checkLane), (150, c_kerbstoneref03_checkNext), (151, c_kerbstoneref03_checkSignal), (152, c_kerbstoneref03_checkZone), (153, c_kerbstoneref03_checkWork), (156, c_motion_ends_Blob), (165, c_kerbstoneref01_Pieces), (167, c_kerbstoneref01_Minus), (170, c_slices_DeleteFunc_Blob), (171, c_motion_Join_1), (172, c_slices_SortStableFunc_Blob), (173, c_motion_Join_2), (174, c_cmp_Or_int), (175, c_cmp_Compare_int), (176, c_motion_hull), (177, c_roads_before), (178, c_slices_Contains_int), (179, c_roads_RouteLength), (180, c_roads_Sources), (181, c_motion_Course_gap), (182, c_kerbstoneref03_before), (183, c_kerbstoneref03_has), (184, c_roads_within), (185, c_curve_Check), (186, c_roads_rising), (187, c_slices_ContainsFunc_Phase), (188, c_roads_check_signals_1), (189, c_roads_check_signals_2), (190, c_curve_Length), (197, c_roads_follow), (200, c_curve_fair), (201, c_curve_pieces), (202, c_curve_from), (203, c_curve_vector_dot), (217, c_kerbstoneref01_Check), (218, c_kerbstoneref03_ordered), (219, c_kerbstoneref01_Valid), (220, c_kerbstoneref01_Dot), (225, c_kerbstoneref01_root), (226, c_slices_stableCmpFunc_Blob), (227, c_cmp_isNaN_int), (228, c_slices_Index_int), (229, c_curve_root), (230, c_slices_IndexFunc_Phase), (231, c_curve_Pieces), (3961, c_curve_Pieces_r1), (234, c_curve_pieces_1), (242, c_slices_insertionSortCmpFunc_Blob), (243, c_slices_symMergeCmpFunc_Blob), (245, c_slices_rotateCmpFunc_Blob), (246, c_slices_swapRangeCmpFunc_Blob)]
theorem F_kerbstonelaw05_TrackWhole : L.lookup 3 = some c_kerbstonelaw05_TrackWhole := by kernel_rfl
theorem F_kerbstonelaw05_awake : L.lookup 8 = some c_kerbstonelaw05_awake := by kernel_rfl
theorem F_kerbstonekit_Map : L.lookup 9 = some c_kerbstonekit_Map := by kernel_rfl
theorem F_kerbstonekit_RoadRoute : L.lookup 10 = some c_kerbstonekit_RoadRoute := by kernel_rfl
theorem F_kerbstonekit_Known : L.lookup 11 = some c_kerbstonekit_Known := by kernel_rfl
theorem F_kerbstoneref05_Inside : L.lookup 12 = some c_kerbstoneref05_Inside := by kernel_rfl
theorem F_track_All : L.lookup 13 = some c_track_All := by kernel_rfl
theorem F_kerbstonekit_Blob : L.lookup 14 = some c_kerbstonekit_Blob := by kernel_rfl
theorem F_track_Free : L.lookup 15 = some c_track_Free := by kernel_rfl
theorem F_kerbstonekit_Mod64 : L.lookup 16 = some c_kerbstonekit_Mod64 := by kernel_rfl
theorem F_kerbstoneref03_Length : L.lookup 17 = some c_kerbstoneref03_Length := by kernel_rfl
theorem F_track_Copy : L.lookup 25 = some c_track_Copy := by kernel_rfl
theorem F_track_Join : L.lookup 42 = some c_track_Join := by kernel_rfl
theorem F_kerbstonekit_Cross : L.lookup 43 = some c_kerbstonekit_Cross := by kernel_rfl
theorem F_track_Own : L.lookup 44 = some c_track_Own := by kernel_rfl
theorem F_kerbstonelaw05_start : L.lookup 45 = some c_kerbstonelaw05_start := by kernel_rfl
theorem F_kerbstonekit_SameBlobs : L.lookup 46 = some c_kerbstonekit_SameBlobs := by kernel_rfl
theorem F_kerbstonekit_Mod : L.lookup 47 = some c_kerbstonekit_Mod := by kernel_rfl
theorem F_kerbstonekit_road : L.lookup 48 = some c_kerbstonekit_road := by kernel_rfl
theorem F_kerbstonekit_signal : L.lookup 49 = some c_kerbstonekit_signal := by kernel_rfl
theorem F_kerbstonekit_Route : L.lookup 50 = some c_kerbstonekit_Route := by kernel_rfl
theorem F_kerbstoneref05_Join : L.lookup 51 = some c_kerbstoneref05_Join := by kernel_rfl
theorem F_kerbstonekit_Place : L.lookup 52 = some c_kerbstonekit_Place := by kernel_rfl
theorem F_kerbstoneref03_RouteLength : L.lookup 53 = some c_kerbstoneref03_RouteLength := by kernel_rfl
theorem F_roads_Check : L.lookup 54 = some c_roads_Check := by kernel_rfl
theorem F_roads_Bounds : L.lookup 55 = some c_roads_Bounds := by kernel_rfl
theorem F_roads_Length : L.lookup 56 = some c_roads_Length := by kernel_rfl
theorem F_kerbstoneref03_Bounds : L.lookup 57 = some c_kerbstoneref03_Bounds := by kernel_rfl
theorem F_track_whole : L.lookup 58 = some c_track_whole := by kernel_rfl
theorem F_track_on : L.lookup 59 = some c_track_on := by kernel_rfl
theorem F_motion_Cut_Span : L.lookup 60 = some c_motion_Cut_Span := by kernel_rfl
theorem F_kerbstoneref03_lane : L.lookup 61 = some c_kerbstoneref03_lane := by kernel_rfl
theorem F_kerbstoneref03_length : L.lookup 62 = some c_kerbstoneref03_length := by kernel_rfl
theorem F_track_Check : L.lookup 66 = some c_track_Check := by kernel_rfl
theorem F_track_within : L.lookup 67 = some c_track_within := by kernel_rfl
theorem F_cmp_Compare_int64 : L.lookup 84 = some c_cmp_Compare_int64 := by kernel_rfl
theorem F_kerbstoneref03_Check : L.lookup 86 = some c_kerbstoneref03_Check := by kernel_rfl
theorem F_motion_Cut_Blob : L.lookup 91 = some c_motion_Cut_Blob := by kernel_rfl
theorem F_motion_Join : L.lookup 106 = some c_motion_Join := by kernel_rfl
theorem F_roads_CheckRoute : L.lookup 107 = some c_roads_CheckRoute := by kernel_rfl
theorem F_track_able : L.lookup 108 = some c_track_able := by kernel_rfl
theorem F_motion_Along : L.lookup 109 = some c_motion_Along := by kernel_rfl
theorem F_motion_Course_Own : L.lookup 110 = some c_motion_Course_Own := by kernel_rfl
theorem F_kerbstoneref03_Origins : L.lookup 111 = some c_kerbstoneref03_Origins := by kernel_rfl
theorem F_kerbstoneref05_less : L.lookup 112 = some c_kerbstoneref05_less := by kernel_rfl
theorem F_kerbstoneref03_CheckRoute : L.lookup 113 = some c_kerbstoneref03_CheckRoute := by kernel_rfl
theorem F_kerbstoneref03_Begins : L.lookup 114 = some c_kerbstoneref03_Begins := by kernel_rfl
theorem F_roads_check_numbers : L.lookup 115 = some c_roads_check_numbers := by kernel_rfl
theorem F_roads_check_lanes : L.lookup 116 = some c_roads_check_lanes := by kernel_rfl
theorem F_roads_check_joints : L.lookup 117 = some c_roads_check_joints := by kernel_rfl
theorem F_roads_check_signals : L.lookup 118 = some c_roads_check_signals := by kernel_rfl
theorem F_roads_check_zones : L.lookup 119 = some c_roads_check_zones := by kernel_rfl
theorem F_roads_check_works : L.lookup 120 = some c_roads_check_works := by kernel_rfl
theorem F_roads_is : L.lookup 121 = some c_roads_is := by kernel_rfl
theorem F_roads_long : L.lookup 122 = some c_roads_long := by kernel_rfl
theorem F_motion_ends_Span : L.lookup 123 = some c_motion_ends_Span := by kernel_rfl
theorem F_kerbstoneref01_Length : L.lookup 124 = some c_kerbstoneref01_Length := by kernel_rfl
theorem F_roads_Starts : L.lookup 135 = some c_roads_Starts := by kernel_rfl
theorem F_slices_IndexFunc_Blob : L.lookup 140 = some c_slices_IndexFunc_Blob := by kernel_rfl
theorem F_cmp_isNaN_int64 : L.lookup 147 = some c_cmp_isNaN_int64 := by kernel_rfl
theorem F_kerbstoneref03_within : L.lookup 148 = some c_kerbstoneref03_within := by kernel_rfl
theorem F_kerbstoneref03_checkLane : L.lookup 149 = some c_kerbstoneref03_checkLane := by kernel_rfl
theorem F_kerbstoneref03_checkNext : L.lookup 150 = some c_kerbstoneref03_checkNext := by kernel_rfl
theorem F_kerbstoneref03_checkSignal : L.lookup 151 = some c_kerbstoneref03_checkSignal := by kernel_rfl
theorem F_kerbstoneref03_checkZone : L.lookup 152 = some c_kerbstoneref03_checkZone := by kernel_rfl
theorem F_kerbstoneref03_checkWork : L.lookup 153 = some c_kerbstoneref03_checkWork := by kernel_rfl
theorem F_motion_ends_Blob : L.lookup 156 = some c_motion_ends_Blob := by kernel_rfl
theorem F_kerbstoneref01_Pieces : L.lookup 165 = some c_kerbstoneref01_Pieces := by kernel_rfl
theorem F_kerbstoneref01_Minus : L.lookup 167 = some c_kerbstoneref01_Minus := by kernel_rfl
theorem F_slices_DeleteFunc_Blob : L.lookup 170 = some c_slices_DeleteFunc_Blob := by kernel_rfl
theorem F_motion_Join_1 : L.lookup 171 = some c_motion_Join_1 := by kernel_rfl
theorem F_slices_SortStableFunc_Blob : L.lookup 172 = some c_slices_SortStableFunc_Blob := by kernel_rfl
theorem F_motion_Join_2 : L.lookup 173 = some c_motion_Join_2 := by kernel_rfl
theorem F_cmp_Or_int : L.lookup 174 = some c_cmp_Or_int := by kernel_rfl
theorem F_cmp_Compare_int : L.lookup 175 = some c_cmp_Compare_int := by kernel_rfl
theorem F_motion_hull : L.lookup 176 = some c_motion_hull := by kernel_rfl
theorem F_roads_before : L.lookup 177 = some c_roads_before := by kernel_rfl
theorem F_slices_Contains_int : L.lookup 178 = some c_slices_Contains_int := by kernel_rfl
theorem F_roads_RouteLength : L.lookup 179 = some c_roads_RouteLength := by kernel_rfl
theorem F_roads_Sources : L.lookup 180 = some c_roads_Sources := by kernel_rfl
theorem F_motion_Course_gap : L.lookup 181 = some c_motion_Course_gap := by kernel_rfl
theorem F_kerbstoneref03_before : L.lookup 182 = some c_kerbstoneref03_before := by kernel_rfl
theorem F_kerbstoneref03_has : L.lookup 183 = some c_kerbstoneref03_has := by kernel_rfl
theorem F_roads_within : L.lookup 184 = some c_roads_within := by kernel_rfl
theorem F_curve_Check : L.lookup 185 = some c_curve_Check := by kernel_rfl
theorem F_roads_rising : L.lookup 186 = some c_roads_rising := by kernel_rfl
theorem F_slices_ContainsFunc_Phase : L.lookup 187 = some c_slices_ContainsFunc_Phase := by kernel_rfl
theorem F_roads_check_signals_1 : L.lookup 188 = some c_roads_check_signals_1 := by kernel_rfl
theorem F_roads_check_signals_2 : L.lookup 189 = some c_roads_check_signals_2 := by kernel_rfl
theorem F_curve_Length : L.lookup 190 = some c_curve_Length := by kernel_rfl
theorem F_roads_follow : L.lookup 197 = some c_roads_follow := by kernel_rfl
theorem F_curve_fair : L.lookup 200 = some c_curve_fair := by kernel_rfl
theorem F_curve_pieces : L.lookup 201 = some c_curve_pieces := by kernel_rfl
theorem F_curve_from : L.lookup 202 = some c_curve_from := by kernel_rfl
theorem F_curve_vector_dot : L.lookup 203 = some c_curve_vector_dot := by kernel_rfl
theorem F_kerbstoneref01_Check : L.lookup 217 = some c_kerbstoneref01_Check := by kernel_rfl
theorem F_kerbstoneref03_ordered : L.lookup 218 = some c_kerbstoneref03_ordered := by kernel_rfl
theorem F_kerbstoneref01_Valid : L.lookup 219 = some c_kerbstoneref01_Valid := by kernel_rfl
theorem F_kerbstoneref01_Dot : L.lookup 220 = some c_kerbstoneref01_Dot := by kernel_rfl
theorem F_kerbstoneref01_root : L.lookup 225 = some c_kerbstoneref01_root := by kernel_rfl
theorem F_slices_stableCmpFunc_Blob : L.lookup 226 = some c_slices_stableCmpFunc_Blob := by kernel_rfl
theorem F_cmp_isNaN_int : L.lookup 227 = some c_cmp_isNaN_int := by kernel_rfl
theorem F_slices_Index_int : L.lookup 228 = some c_slices_Index_int := by kernel_rfl
theorem F_curve_root : L.lookup 229 = some c_curve_root := by kernel_rfl
theorem F_slices_IndexFunc_Phase : L.lookup 230 = some c_slices_IndexFunc_Phase := by kernel_rfl
theorem F_curve_Pieces : L.lookup 231 = some c_curve_Pieces := by kernel_rfl
theorem F_curve_Pieces_r1 : L.lookup 3961 = some c_curve_Pieces_r1 := by kernel_rfl
theorem F_curve_pieces_1 : L.lookup 234 = some c_curve_pieces_1 := by kernel_rfl
theorem F_slices_insertionSortCmpFunc_Blob : L.lookup 242 = some c_slices_insertionSortCmpFunc_Blob := by kernel_rfl
theorem F_slices_symMergeCmpFunc_Blob : L.lookup 243 = some c_slices_symMergeCmpFunc_Blob := by kernel_rfl
theorem F_slices_rotateCmpFunc_Blob : L.lookup 245 = some c_slices_rotateCmpFunc_Blob := by kernel_rfl
theorem F_slices_swapRangeCmpFunc_Blob : L.lookup 246 = some c_slices_swapRangeCmpFunc_Blob := by kernel_rfl

end Go.TrRun
