/- This text lists functions of this seat's program, compiled for the evaluator; no condition. -/
import Derived.Test.YtlcjcbdfabbddaaEvl3
import Derived.KernelRfl
set_option linter.unusedVariables false
namespace Go.PlanRun
open Go Go.Eng
def an : Ann := anOf [] [10, 22, 36]
def c_kerbstonelaw07_PlanValid_l1 : CC := (.seq (.seq (.region 0 [⟨0, (some 31), none, .mv (.s 16)⟩, ⟨1, (some 32), none, .mv (.s 1)⟩, ⟨2, (some 33), none, .len (.s 32)⟩, ⟨3, (some 34), none, .bin .lss (.s 31) (.s 33)⟩] [] (some [34, 15, 14, 16, 2, 5, 4, 3, 1, 13]))
  (.cond (.s 34) .skip
  (.exit 0)))
  (.seq (.block 1 (.seq (.region 0 [⟨1, (some 38), none, .mv (.s 15)⟩, ⟨2, (some 39), none, .mv (.s 1)⟩, ⟨3, (some 40), none, .mv (.s 16)⟩, ⟨4, (some 41), none, .iaddr 1 (.s 39) (.s 40)⟩, ⟨0, (some 37), none, .load true 5 (.s 13)⟩, ⟨5, (some 42), none, .load false 1 (.s 41)⟩, ⟨6, (some 43), none, .call ⟨true⟩ (.k (.c (.fn 9 [] []))) [(.s 37), (.s 38), (.s 42)]⟩, ⟨7, (some 15), none, .mv (.s 43)⟩] [] (some [14, 16, 15, 2, 5, 4, 3, 1, 13]))
  (.region 1 [⟨0, (some 44), none, .mv (.s 14)⟩, ⟨1, (some 45), none, .mv (.s 15)⟩, ⟨2, (some 46), none, .lit 0 1 [[(.int .i64 0)]] [(0, (.s 45))]⟩, ⟨3, (some 47), none, .append 1 8 (.s 44) (.s 46)⟩, ⟨4, (some 14), none, .mv (.s 47)⟩] [] (some [16, 15, 14, 2, 5, 4, 3, 1, 13]))))
  (.region 0 [⟨0, (some 35), none, .mv (.s 16)⟩, ⟨1, (some 36), none, .bin .add (.s 35) (.k (.c (.int .i64 1)))⟩, ⟨2, (some 16), none, .mv (.s 36)⟩] [] (some [15, 14, 16, 2, 5, 4, 3, 1, 13]))))
def c_kerbstonelaw07_PlanValid_l2 : CC := (.seq (.seq (.region 0 [⟨0, (some 65), none, .mv (.s 18)⟩, ⟨1, (some 66), none, .mv (.s 17)⟩, ⟨2, (some 67), none, .len (.s 66)⟩, ⟨3, (some 68), none, .bin .lss (.s 65) (.s 67)⟩] [] (some [68, 18, 14, 13, 2, 17]))
  (.cond (.s 68) .skip
  (.exit 2)))
  (.seq (.block 3 (.seq (.seq (.region 0 [⟨1, (some 72), none, .mv (.s 17)⟩, ⟨2, (some 73), none, .mv (.s 18)⟩, ⟨3, (some 74), none, .iaddr 1 (.s 72) (.s 73)⟩, ⟨0, (some 71), none, .load true 5 (.s 13)⟩, ⟨4, (some 75), none, .load true 1 (.s 74)⟩, ⟨5, (some 76), none, .call ⟨true⟩ (.k (.c (.fn 12 [] []))) [(.s 71), (.s 75)]⟩, ⟨6, (some 77), none, .bin .neq (.s 76) (.k (.c (.int .i64 0)))⟩, ⟨7, (some 78), none, .mv (.s 77)⟩, ⟨8, (some 79), (some (78, false)), .mv (.s 17)⟩, ⟨9, (some 80), (some (78, false)), .mv (.s 18)⟩, ⟨10, (some 81), (some (78, false)), .iaddr 1 (.s 79) (.s 80)⟩, ⟨11, (some 82), (some (78, false)), .faddr 0 (.s 81)⟩, ⟨14, (some 85), (some (78, false)), .mv (.s 14)⟩, ⟨12, (some 83), (some (78, false)), .load false 1 (.s 82)⟩, ⟨13, (some 84), (some (78, false)), .len (.s 83)⟩, ⟨15, (some 86), (some (78, false)), .len (.s 85)⟩, ⟨16, (some 87), (some (78, false)), .bin .lss (.s 84) (.s 86)⟩, ⟨17, (some 88), none, .pick (.s 78) (.k (.c (.bool true))) (.s 87)⟩, ⟨18, (some 89), none, .mv (.s 88)⟩, ⟨19, (some 90), (some (89, false)), .mv (.s 17)⟩, ⟨20, (some 91), (some (89, false)), .mv (.s 18)⟩, ⟨21, (some 92), (some (89, false)), .iaddr 1 (.s 90) (.s 91)⟩, ⟨22, (some 93), (some (89, false)), .faddr 0 (.s 92)⟩, ⟨24, (some 95), (some (89, false)), .mv (.s 14)⟩, ⟨27, (some 98), (some (89, false)), .mv (.s 14)⟩, ⟨23, (some 94), (some (89, false)), .load false 1 (.s 93)⟩, ⟨25, (some 96), (some (89, false)), .len (.s 95)⟩, ⟨26, (some 97), (some (89, false)), .slice 1 (.s 94) none (some (.s 96)) none⟩, ⟨28, (some 99), (some (89, false)), .call ⟨true⟩ (.k (.c (.fn 13 [] []))) [(.s 97), (.s 98)]⟩, ⟨29, (some 100), (some (89, false)), .un .not (.s 99)⟩, ⟨30, (some 101), none, .pick (.s 89) (.k (.c (.bool true))) (.s 100)⟩] [] (some [101, 18, 14, 13, 2, 17]))
  (.cond (.s 101) (.seq (.region 0 [⟨0, (some 12), none, .mv (.k (.c (.bool false)))⟩] [] (some [12]))
  .ret)
  .skip))
  (.seq (.region 0 [⟨0, (some 102), none, .mv (.s 17)⟩, ⟨1, (some 103), none, .mv (.s 18)⟩, ⟨2, (some 104), none, .iaddr 1 (.s 102) (.s 103)⟩, ⟨3, (some 105), none, .faddr 0 (.s 104)⟩, ⟨4, (some 106), none, .load false 1 (.s 105)⟩, ⟨5, (some 107), none, .iaddr 1 (.s 106) (.k (.c (.int .i64 0)))⟩, ⟨6, (some 108), none, .load false 1 (.s 107)⟩, ⟨7, (some 109), none, .mv (.s 2)⟩, ⟨8, (some 110), none, .bin .sub (.s 108) (.s 109)⟩, ⟨9, (some 19), none, .mv (.s 110)⟩] [] (some [19, 17, 2, 13, 14, 18]))
  (.seq (.region 0 [⟨0, (some 111), none, .mv (.s 19)⟩, ⟨1, (some 112), none, .faddr 3 (.s 13)⟩, ⟨2, (some 113), none, .load false 1 (.s 112)⟩, ⟨3, (some 114), none, .bin .gtr (.s 111) (.s 113)⟩, ⟨4, (some 115), none, .mv (.s 114)⟩, ⟨5, (some 116), (some (115, false)), .mv (.s 19)⟩, ⟨6, (some 117), (some (115, false)), .un .neg (.s 116)⟩, ⟨7, (some 118), (some (115, false)), .faddr 3 (.s 13)⟩, ⟨8, (some 119), (some (115, false)), .load false 1 (.s 118)⟩, ⟨9, (some 120), (some (115, false)), .bin .gtr (.s 117) (.s 119)⟩, ⟨10, (some 121), none, .pick (.s 115) (.k (.c (.bool true))) (.s 120)⟩] [] (some [121, 17, 2, 13, 14, 18]))
  (.cond (.s 121) (.seq (.region 0 [⟨0, (some 12), none, .mv (.k (.c (.bool false)))⟩] [] (some [12]))
  .ret)
  .skip)))))
  (.region 0 [⟨0, (some 69), none, .mv (.s 18)⟩, ⟨1, (some 70), none, .bin .add (.s 69) (.k (.c (.int .i64 1)))⟩, ⟨2, (some 18), none, .mv (.s 70)⟩] [] (some [18, 14, 13, 2, 17]))))
/-- kerbstone/kerbstonelaw07.PlanValid -/
abbrev f_kerbstonelaw07_PlanValid : Nat := 3
def c_kerbstonelaw07_PlanValid : CFn := { frz := true, rnd := none, nargs := 6, ntmps := 123, res := [(.slot 12)], code :=
  (.seq (.region 1 [⟨0, (some 6), none, .box 0 4 (.s 0)⟩, ⟨1, (some 12), none, .mv (.k (.c (.bool false)))⟩] [] (some [6, 1, 3, 4, 5, 2]))
  (.seq (.region 1 [⟨0, (some 20), none, .load true 4 (.s 6)⟩, ⟨1, (some 21), none, .call ⟨true⟩ (.k (.c (.fn 7 [] []))) [(.s 20)]⟩, ⟨2, (some 13), none, .box 0 5 (.k (.a [(.int .i64 0), (.int .i64 0), (.int .i64 0), (.int .i64 0), (.int .i64 0)]))⟩, ⟨3, none, none, .store 5 (.s 13) (.s 21)⟩] [] (some [13, 1, 3, 4, 5, 2]))
  (.seq (.seq (.region 0 [⟨0, (some 22), none, .mv (.s 1)⟩, ⟨1, (some 23), none, .len (.s 22)⟩, ⟨2, (some 24), none, .bin .gtr (.s 23) (.k (.c (.int .i64 5)))⟩] [] (some [24, 13, 1, 3, 4, 5, 2]))
  (.cond (.s 24) (.seq (.region 0 [⟨0, (some 25), none, .call ⟨true⟩ (.k (.c (.fn 8 [] []))) []⟩, ⟨1, (some 12), none, .mv (.s 25)⟩] [] (some [12]))
  .ret)
  .skip))
  (.seq (.region 0 [⟨0, (some 26), none, .load true 5 (.s 13)⟩, ⟨1, (some 27), none, .mv (.s 2)⟩, ⟨2, (some 28), none, .mv (.s 2)⟩, ⟨3, (some 29), none, .call ⟨true⟩ (.k (.c (.fn 9 [] []))) [(.s 26), (.s 27), (.s 28)]⟩, ⟨4, (some 2), none, .mv (.s 29)⟩] [] (some [2, 5, 4, 3, 1, 13]))
  (.seq (.region 1 [⟨0, (some 14), none, .newsl 0 1⟩] [] (some [14, 2, 5, 4, 3, 1, 13]))
  (.seq (.region 0 [⟨0, (some 30), none, .mv (.s 2)⟩, ⟨1, (some 15), none, .mv (.s 30)⟩] [] (some [15, 14, 2, 5, 4, 3, 1, 13]))
  (.seq (.seq (.region 0 [⟨0, (some 16), none, .mv (.k (.c (.int .i64 0)))⟩] [] (some [15, 14, 16, 2, 5, 4, 3, 1, 13]))
  (.block 0 (.loop (some [15, 14, 16, 2, 5, 4, 3, 1, 13]) c_kerbstonelaw07_PlanValid_l1)))
  (.seq (.region 1 [⟨1, (some 49), none, .mv (.s 14)⟩, ⟨2, (some 50), none, .mv (.s 2)⟩, ⟨3, (some 51), none, .mv (.s 3)⟩, ⟨6, (some 54), none, .mv (.s 14)⟩, ⟨7, (some 55), none, .mv (.s 2)⟩, ⟨8, (some 56), none, .mv (.s 3)⟩, ⟨9, (some 57), none, .mv (.s 4)⟩, ⟨10, (some 58), none, .mv (.s 5)⟩, ⟨0, (some 48), none, .load true 5 (.s 13)⟩, ⟨5, (some 53), none, .load true 5 (.s 13)⟩, ⟨4, (some 52), none, .call ⟨true⟩ (.k (.c (.fn 10 [] []))) [(.s 48), (.s 49), (.s 50), (.s 51)]⟩, ⟨11, (some 59), none, .call ⟨true⟩ (.k (.c (.fn 11 [] []))) [(.s 53), (.s 54), (.s 55), (.s 56), (.s 57), (.s 58)]⟩, ⟨12, (some 60), none, .lit 0 1 [[.nilslice]] [(0, (.s 59))]⟩, ⟨13, (some 61), none, .append 1 24 (.s 52) (.s 60)⟩, ⟨14, (some 17), none, .mv (.s 61)⟩] [(9, 10)] (some [17, 2, 13, 14]))
  (.seq (.seq (.region 0 [⟨0, (some 62), none, .mv (.s 17)⟩, ⟨1, (some 63), none, .len (.s 62)⟩, ⟨2, (some 64), none, .bin .neq (.s 63) (.k (.c (.int .i64 9)))⟩] [] (some [64, 17, 2, 13, 14]))
  (.cond (.s 64) (.seq (.region 0 [⟨0, (some 12), none, .mv (.k (.c (.bool false)))⟩] [] (some [12]))
  .ret)
  .skip))
  (.seq (.seq (.region 0 [⟨0, (some 18), none, .mv (.k (.c (.int .i64 0)))⟩] [] (some [18, 14, 13, 2, 17]))
  (.block 2 (.loop (some [18, 14, 13, 2, 17]) c_kerbstonelaw07_PlanValid_l2)))
  (.seq (.region 0 [⟨0, (some 122), none, .call ⟨true⟩ (.k (.c (.fn 8 [] []))) []⟩, ⟨1, (some 12), none, .mv (.s 122)⟩] [] (some [12]))
  .ret))))))))))) }
def c_kerbstonelaw07_PlanStops_l1 : CC := (.seq (.seq (.region 0 [⟨0, (some 60), none, .mv (.s 16)⟩, ⟨1, (some 61), none, .mv (.s 12)⟩, ⟨2, (some 62), none, .len (.s 61)⟩, ⟨3, (some 63), none, .bin .lss (.s 60) (.s 62)⟩] [] (some [63, 14, 15, 12, 3, 16]))
  (.cond (.s 63) .skip
  (.exit 0)))
  (.seq (.block 1 (.seq (.region 0 [⟨0, (some 66), none, .mv (.s 14)⟩, ⟨1, (some 67), none, .mv (.s 12)⟩, ⟨2, (some 68), none, .mv (.s 16)⟩, ⟨3, (some 69), none, .iaddr 1 (.s 67) (.s 68)⟩, ⟨4, (some 70), none, .load false 1 (.s 69)⟩, ⟨5, (some 71), none, .bin .add (.s 66) (.s 70)⟩, ⟨6, (some 72), none, .minmax false [(.k (.c (.int .i64 2000))), (.s 71)]⟩, ⟨7, (some 73), none, .minmax true [(.k (.c (.int .i64 0))), (.s 72)]⟩, ⟨8, (some 14), none, .mv (.s 73)⟩] [] (some [15, 12, 3, 14, 16]))
  (.seq (.region 0 [⟨0, (some 74), none, .mv (.s 15)⟩, ⟨1, (some 75), none, .mv (.s 14)⟩, ⟨2, (some 76), none, .bin .add (.s 74) (.s 75)⟩, ⟨3, (some 15), none, .mv (.s 76)⟩] [] (some [12, 3, 15, 14, 16]))
  (.seq (.region 0 [⟨0, (some 77), none, .mv (.s 16)⟩, ⟨1, (some 78), none, .bin .add (.s 77) (.k (.c (.int .i64 1)))⟩, ⟨2, (some 79), none, .mv (.s 12)⟩, ⟨3, (some 80), none, .len (.s 79)⟩, ⟨4, (some 81), none, .bin .lss (.s 78) (.s 80)⟩, ⟨5, (some 82), none, .mv (.s 81)⟩, ⟨6, (some 83), (some (82, true)), .mv (.s 14)⟩, ⟨7, (some 84), (some (82, true)), .bin .eql (.s 83) (.k (.c (.int .i64 0)))⟩, ⟨8, (some 85), none, .pick (.s 82) (.s 84) (.k (.c (.bool false)))⟩, ⟨9, (some 86), none, .mv (.s 85)⟩, ⟨10, (some 87), (some (86, true)), .mv (.s 12)⟩, ⟨11, (some 88), (some (86, true)), .mv (.s 16)⟩, ⟨12, (some 89), (some (86, true)), .iaddr 1 (.s 87) (.s 88)⟩, ⟨13, (some 90), (some (86, true)), .load false 1 (.s 89)⟩, ⟨14, (some 91), (some (86, true)), .bin .leq (.s 90) (.k (.c (.int .i64 0)))⟩, ⟨15, (some 92), none, .pick (.s 86) (.s 91) (.k (.c (.bool false)))⟩] [] (some [92, 12, 3, 15, 14, 16]))
  (.cond (.s 92) (.seq (.region 0 [⟨0, (some 10), none, .mv (.k (.c (.bool false)))⟩] [] (some [10]))
  .ret)
  .skip)))))
  (.region 0 [⟨0, (some 64), none, .mv (.s 16)⟩, ⟨1, (some 65), none, .bin .add (.s 64) (.k (.c (.int .i64 1)))⟩, ⟨2, (some 16), none, .mv (.s 65)⟩] [] (some [14, 15, 3, 12, 16]))))
/-- kerbstone/kerbstonelaw07.PlanStops -/
abbrev f_kerbstonelaw07_PlanStops : Nat := 4
def c_kerbstonelaw07_PlanStops : CFn := { frz := true, rnd := none, nargs := 5, ntmps := 116, res := [(.slot 10)], code :=
  (.seq (.region 1 [⟨0, (some 5), none, .box 0 4 (.s 0)⟩, ⟨1, (some 10), none, .mv (.k (.c (.bool false)))⟩] [] (some [5, 1, 3, 4, 2]))
  (.seq (.region 1 [⟨0, (some 17), none, .load true 4 (.s 5)⟩, ⟨1, (some 18), none, .call ⟨true⟩ (.k (.c (.fn 7 [] []))) [(.s 17)]⟩, ⟨2, (some 11), none, .box 0 5 (.k (.a [(.int .i64 0), (.int .i64 0), (.int .i64 0), (.int .i64 0), (.int .i64 0)]))⟩, ⟨3, none, none, .store 5 (.s 11) (.s 18)⟩] [] (some [1, 3, 4, 2, 11]))
  (.seq (.seq (.region 0 [⟨0, (some 19), none, .mv (.s 1)⟩] [] (some [19, 3, 4, 2, 11]))
  (.cond (.s 19) (.region 0 [⟨0, (some 20), none, .faddr 2 (.s 11)⟩, ⟨1, none, none, .store 1 (.s 20) (.k (.c (.int .i64 20)))⟩, ⟨2, (some 21), none, .faddr 3 (.s 11)⟩, ⟨3, none, none, .store 1 (.s 21) (.k (.c (.int .i64 5)))⟩] [] (some [3, 4, 2, 11]))
  .skip))
  (.seq (.region 0 [⟨0, (some 22), none, .mv (.s 3)⟩, ⟨1, (some 23), none, .call ⟨true⟩ (.k (.c (.fn 14 [] []))) [(.s 22), (.k (.c (.int .i64 2001)))]⟩, ⟨2, (some 24), none, .mv (.s 4)⟩, ⟨3, (some 25), none, .call ⟨true⟩ (.k (.c (.fn 14 [] []))) [(.s 24), (.k (.c (.int .i64 500)))]⟩, ⟨4, (some 3), none, .mv (.s 23)⟩, ⟨5, (some 4), none, .mv (.s 25)⟩] [] (some [2, 4, 11, 3]))
  (.seq (.region 0 [⟨1, (some 27), none, .mv (.s 2)⟩, ⟨2, (some 28), none, .mv (.s 3)⟩, ⟨5, (some 31), none, .mv (.s 2)⟩, ⟨6, (some 32), none, .mv (.s 3)⟩, ⟨7, (some 33), none, .mv (.s 4)⟩, ⟨8, (some 34), none, .bin .add (.s 32) (.s 33)⟩, ⟨0, (some 26), none, .load true 5 (.s 11)⟩, ⟨4, (some 30), none, .load true 5 (.s 11)⟩, ⟨3, (some 29), none, .call ⟨true⟩ (.k (.c (.fn 15 [] []))) [(.s 26), (.s 27), (.s 28)]⟩, ⟨9, (some 35), none, .minmax false [(.k (.c (.int .i64 2000))), (.s 34)]⟩, ⟨10, (some 36), none, .call ⟨true⟩ (.k (.c (.fn 15 [] []))) [(.s 30), (.s 31), (.s 35)]⟩, ⟨11, (some 12), none, .mv (.s 29)⟩, ⟨12, (some 13), none, .mv (.s 36)⟩] [(7, 8)] (some [13, 11, 12, 3]))
  (.seq (.seq (.region 0 [⟨0, (some 37), none, .mv (.s 12)⟩, ⟨1, (some 38), none, .len (.s 37)⟩, ⟨2, (some 39), none, .bin .eql (.s 38) (.k (.c (.int .i64 0)))⟩, ⟨3, (some 40), none, .mv (.s 39)⟩, ⟨4, (some 41), (some (40, false)), .mv (.s 13)⟩, ⟨5, (some 42), (some (40, false)), .len (.s 41)⟩, ⟨6, (some 43), (some (40, false)), .mv (.s 12)⟩, ⟨7, (some 44), (some (40, false)), .len (.s 43)⟩, ⟨8, (some 45), (some (40, false)), .bin .lss (.s 42) (.s 44)⟩, ⟨9, (some 46), none, .pick (.s 40) (.k (.c (.bool true))) (.s 45)⟩, ⟨10, (some 47), none, .mv (.s 46)⟩, ⟨11, (some 48), (some (47, false)), .mv (.s 13)⟩, ⟨12, (some 49), (some (47, false)), .len (.s 48)⟩, ⟨13, (some 50), (some (47, false)), .bin .gtr (.s 49) (.k (.c (.int .i64 150)))⟩, ⟨14, (some 51), none, .pick (.s 47) (.k (.c (.bool true))) (.s 50)⟩, ⟨15, (some 52), none, .mv (.s 51)⟩, ⟨16, (some 53), (some (52, false)), .load true 5 (.s 11)⟩, ⟨17, (some 54), (some (52, false)), .mv (.s 12)⟩, ⟨18, (some 55), (some (52, false)), .build [.nilslice] [(0, 1, (.s 54))]⟩, ⟨19, (some 56), (some (52, false)), .call ⟨true⟩ (.k (.c (.fn 12 [] []))) [(.s 53), (.s 55)]⟩, ⟨20, (some 57), (some (52, false)), .bin .neq (.s 56) (.k (.c (.int .i64 0)))⟩, ⟨21, (some 58), none, .pick (.s 52) (.k (.c (.bool true))) (.s 57)⟩] [] (some [58, 12, 3]))
  (.cond (.s 58) (.seq (.region 0 [⟨0, (some 10), none, .mv (.k (.c (.bool false)))⟩] [] (some [10]))
  .ret)
  .skip))
  (.seq (.region 0 [⟨0, (some 59), none, .mv (.s 3)⟩, ⟨1, (some 14), none, .mv (.s 59)⟩, ⟨2, (some 15), none, .mv (.k (.c (.int .i64 0)))⟩] [] (some [14, 15, 3, 12]))
  (.seq (.seq (.region 0 [⟨0, (some 16), none, .mv (.k (.c (.int .i64 0)))⟩] [] (some [14, 15, 3, 12, 16]))
  (.block 0 (.loop (some [14, 15, 3, 12, 16]) c_kerbstonelaw07_PlanStops_l1)))
  (.seq (.region 0 [⟨0, (some 93), none, .mv (.s 14)⟩, ⟨1, (some 94), none, .bin .eql (.s 93) (.k (.c (.int .i64 0)))⟩, ⟨2, (some 95), none, .mv (.s 94)⟩, ⟨3, (some 96), (some (95, true)), .mv (.s 12)⟩, ⟨4, (some 97), (some (95, true)), .mv (.s 12)⟩, ⟨5, (some 98), (some (95, true)), .len (.s 97)⟩, ⟨6, (some 99), (some (95, true)), .bin .sub (.s 98) (.k (.c (.int .i64 1)))⟩, ⟨7, (some 100), (some (95, true)), .iaddr 1 (.s 96) (.s 99)⟩, ⟨8, (some 101), (some (95, true)), .load false 1 (.s 100)⟩, ⟨9, (some 102), (some (95, true)), .bin .leq (.s 101) (.k (.c (.int .i64 0)))⟩, ⟨10, (some 103), none, .pick (.s 95) (.s 102) (.k (.c (.bool false)))⟩, ⟨11, (some 104), none, .mv (.s 103)⟩, ⟨12, (some 105), (some (104, true)), .mv (.s 3)⟩, ⟨13, (some 106), (some (104, true)), .build [(.int .i64 0), (.int .i64 0), (.int .i64 0), (.int .i64 0)] [(3, 1, (.s 105))]⟩, ⟨14, (some 107), (some (104, true)), .mv (.s 12)⟩, ⟨15, (some 108), (some (104, true)), .build [.nilslice] [(0, 1, (.s 107))]⟩, ⟨16, (some 109), (some (104, true)), .call ⟨true⟩ (.k (.c (.fn 16 [] []))) [(.s 106), (.s 108)]⟩, ⟨17, (some 110), (some (104, true)), .mv (.s 15)⟩, ⟨18, (some 111), (some (104, true)), .bin .eql (.s 109) (.s 110)⟩, ⟨19, (some 112), none, .pick (.s 104) (.s 111) (.k (.c (.bool false)))⟩, ⟨20, (some 113), none, .mv (.s 112)⟩, ⟨21, (some 114), (some (113, true)), .call ⟨true⟩ (.k (.c (.fn 8 [] []))) []⟩, ⟨22, (some 115), none, .pick (.s 113) (.s 114) (.k (.c (.bool false)))⟩, ⟨23, (some 10), none, .mv (.s 115)⟩] [] (some [10]))
  .ret))))))))) }
def c_kerbstonelaw07_PlanChecks_l1 : CC := (.seq (.seq (.region 0 [⟨0, (some 73), none, .mv (.s 11)⟩, ⟨1, (some 74), none, .faddr 0 (.s 10)⟩, ⟨2, (some 75), none, .load false 1 (.s 74)⟩, ⟨3, (some 76), none, .len (.s 75)⟩, ⟨4, (some 77), none, .bin .lss (.s 73) (.s 76)⟩] [] (some [77, 11, 5, 9, 10]))
  (.cond (.s 77) .skip
  (.exit 0)))
  (.seq (.block 1 (.region 0 [⟨0, (some 80), none, .faddr 0 (.s 10)⟩, ⟨1, (some 81), none, .load false 1 (.s 80)⟩, ⟨2, (some 82), none, .mv (.s 11)⟩, ⟨3, (some 83), none, .iaddr 1 (.s 81) (.s 82)⟩, ⟨4, none, none, .store 1 (.s 83) (.k (.c (.int .i64 99)))⟩] [] (some [11, 5, 9, 10])))
  (.region 0 [⟨0, (some 78), none, .mv (.s 11)⟩, ⟨1, (some 79), none, .bin .add (.s 78) (.k (.c (.int .i64 1)))⟩, ⟨2, (some 11), none, .mv (.s 79)⟩] [] (some [11, 5, 9, 10]))))
/-- kerbstone/kerbstonelaw07.PlanChecks -/
abbrev f_kerbstonelaw07_PlanChecks : Nat := 5
def c_kerbstonelaw07_PlanChecks : CFn := { frz := true, rnd := none, nargs := 4, ntmps := 90, res := [(.slot 8)], code :=
  (.seq (.region 3 [⟨0, (some 4), none, .box 0 5 (.s 0)⟩, ⟨1, (some 5), none, .box 1 1 (.s 1)⟩, ⟨2, (some 6), none, .box 2 1 (.s 2)⟩, ⟨3, (some 8), none, .mv (.k (.c (.bool false)))⟩] [] (some [6, 5, 3, 4]))
  (.seq (.seq (.region 0 [⟨0, (some 12), none, .faddr 0 (.s 5)⟩, ⟨1, (some 13), none, .load false 1 (.s 12)⟩, ⟨2, (some 14), none, .len (.s 13)⟩, ⟨3, (some 15), none, .bin .gtr (.s 14) (.k (.c (.int .i64 210)))⟩, ⟨4, (some 16), none, .mv (.s 15)⟩, ⟨5, (some 17), (some (16, false)), .faddr 0 (.s 6)⟩, ⟨6, (some 18), (some (16, false)), .load false 1 (.s 17)⟩, ⟨7, (some 19), (some (16, false)), .len (.s 18)⟩, ⟨8, (some 20), (some (16, false)), .bin .gtr (.s 19) (.k (.c (.int .i64 210)))⟩, ⟨9, (some 21), none, .pick (.s 16) (.k (.c (.bool true))) (.s 20)⟩] [] (some [21, 6, 5, 3, 4]))
  (.cond (.s 21) (.seq (.region 0 [⟨0, (some 22), none, .call ⟨true⟩ (.k (.c (.fn 8 [] []))) []⟩, ⟨1, (some 8), none, .mv (.s 22)⟩] [] (some [8]))
  .ret)
  .skip))
  (.seq (.region 2 [⟨0, (some 23), none, .lit 0 1 [] []⟩, ⟨1, (some 24), none, .faddr 0 (.s 5)⟩, ⟨2, (some 25), none, .load false 1 (.s 24)⟩, ⟨3, (some 26), none, .append 1 8 (.s 23) (.s 25)⟩, ⟨4, (some 27), none, .build [.nilslice] [(0, 1, (.s 26))]⟩, ⟨5, (some 9), none, .box 1 1 (.k (.a [.nilslice]))⟩, ⟨6, none, none, .store 1 (.s 9) (.s 27)⟩] [] (some [4, 3, 5, 9, 6]))
  (.seq (.seq (.region 0 [⟨0, (some 28), none, .load true 5 (.s 4)⟩, ⟨2, (some 30), none, .load true 5 (.s 4)⟩, ⟨1, (some 29), none, .call ⟨true⟩ (.k (.c (.fn 17 [] []))) [(.s 28)]⟩, ⟨3, (some 31), none, .call ⟨true⟩ (.k (.c (.fn 18 [] []))) [(.s 30)]⟩, ⟨4, (some 32), none, .bin .neq (.s 29) (.s 31)⟩, ⟨5, (some 33), none, .mv (.s 32)⟩, ⟨6, (some 34), (some (33, false)), .load true 5 (.s 4)⟩, ⟨7, (some 35), (some (33, false)), .load true 1 (.s 9)⟩, ⟨9, (some 37), (some (33, false)), .load true 5 (.s 4)⟩, ⟨10, (some 38), (some (33, false)), .load true 1 (.s 5)⟩, ⟨8, (some 36), (some (33, false)), .call ⟨true⟩ (.k (.c (.fn 12 [] []))) [(.s 34), (.s 35)]⟩, ⟨11, (some 39), (some (33, false)), .call ⟨true⟩ (.k (.c (.fn 19 [] []))) [(.s 37), (.s 38)]⟩, ⟨12, (some 40), (some (33, false)), .bin .neq (.s 36) (.s 39)⟩, ⟨13, (some 41), none, .pick (.s 33) (.k (.c (.bool true))) (.s 40)⟩, ⟨14, (some 42), none, .mv (.s 41)⟩, ⟨16, (some 44), (some (42, false)), .mv (.s 3)⟩, ⟨19, (some 47), (some (42, false)), .mv (.s 3)⟩, ⟨15, (some 43), (some (42, false)), .load true 1 (.s 9)⟩, ⟨18, (some 46), (some (42, false)), .load true 1 (.s 5)⟩, ⟨17, (some 45), (some (42, false)), .call ⟨true⟩ (.k (.c (.fn 20 [] []))) [(.s 43), (.s 44)]⟩, ⟨20, (some 48), (some (42, false)), .call ⟨true⟩ (.k (.c (.fn 21 [] []))) [(.s 46), (.s 47)]⟩, ⟨21, (some 49), (some (42, false)), .bin .neq (.s 45) (.s 48)⟩, ⟨22, (some 50), none, .pick (.s 42) (.k (.c (.bool true))) (.s 49)⟩] [(1, 2), (8, 10), (9, 10), (18, 19)] (some [50, 5, 9, 6]))
  (.cond (.s 50) (.seq (.region 0 [⟨0, (some 8), none, .mv (.k (.c (.bool false)))⟩] [] (some [8]))
  .ret)
  .skip))
  (.seq (.region 1 [⟨0, (some 51), none, .load true 1 (.s 9)⟩, ⟨1, (some 52), none, .call ⟨true⟩ (.k (.c (.fn 22 [] []))) [(.s 51)]⟩, ⟨2, (some 10), none, .box 0 1 (.k (.a [.nilslice]))⟩, ⟨3, none, none, .store 1 (.s 10) (.s 52)⟩] [] (some [6, 10, 9, 5]))
  (.seq (.seq (.region 0 [⟨0, (some 53), none, .load true 1 (.s 10)⟩, ⟨1, (some 54), none, .load true 1 (.s 5)⟩, ⟨2, (some 55), none, .call ⟨true⟩ (.k (.c (.fn 24 [] []))) [(.s 54)]⟩, ⟨3, (some 56), none, .call ⟨true⟩ (.k (.c (.fn 23 [] []))) [(.s 53), (.s 55)]⟩, ⟨4, (some 57), none, .un .not (.s 56)⟩, ⟨5, (some 58), none, .mv (.s 57)⟩, ⟨6, (some 59), (some (58, false)), .load true 1 (.s 5)⟩, ⟨7, (some 60), (some (58, false)), .load true 1 (.s 6)⟩, ⟨9, (some 62), (some (58, false)), .load true 1 (.s 5)⟩, ⟨10, (some 63), (some (58, false)), .load true 1 (.s 6)⟩, ⟨8, (some 61), (some (58, false)), .call ⟨true⟩ (.k (.c (.fn 25 [] []))) [(.s 59), (.s 60)]⟩, ⟨11, (some 64), (some (58, false)), .call ⟨true⟩ (.k (.c (.fn 23 [] []))) [(.s 62), (.s 63)]⟩, ⟨12, (some 65), (some (58, false)), .eqb true (.s 61) (.s 64)⟩, ⟨13, (some 66), none, .pick (.s 58) (.k (.c (.bool true))) (.s 65)⟩, ⟨14, (some 67), none, .mv (.s 66)⟩, ⟨15, (some 68), (some (67, false)), .load true 1 (.s 5)⟩, ⟨16, (some 69), (some (67, false)), .load true 1 (.s 9)⟩, ⟨17, (some 70), (some (67, false)), .call ⟨true⟩ (.k (.c (.fn 25 [] []))) [(.s 68), (.s 69)]⟩, ⟨18, (some 71), (some (67, false)), .un .not (.s 70)⟩, ⟨19, (some 72), none, .pick (.s 67) (.k (.c (.bool true))) (.s 71)⟩] [(0, 2), (8, 10), (9, 10)] (some [72, 10, 9, 5]))
  (.cond (.s 72) (.seq (.region 0 [⟨0, (some 8), none, .mv (.k (.c (.bool false)))⟩] [] (some [8]))
  .ret)
  .skip))
  (.seq (.seq (.region 0 [⟨0, (some 11), none, .mv (.k (.c (.int .i64 0)))⟩] [] (some [11, 5, 9, 10]))
  (.block 0 (.loop (some [11, 5, 9, 10]) c_kerbstonelaw07_PlanChecks_l1)))
  (.seq (.region 0 [⟨0, (some 84), none, .load true 1 (.s 9)⟩, ⟨1, (some 85), none, .load true 1 (.s 5)⟩, ⟨2, (some 86), none, .call ⟨true⟩ (.k (.c (.fn 23 [] []))) [(.s 84), (.s 85)]⟩, ⟨3, (some 87), none, .mv (.s 86)⟩, ⟨4, (some 88), (some (87, true)), .call ⟨true⟩ (.k (.c (.fn 8 [] []))) []⟩, ⟨5, (some 89), none, .pick (.s 87) (.s 88) (.k (.c (.bool false)))⟩, ⟨6, (some 8), none, .mv (.s 89)⟩] [] (some [8]))
  .ret)))))))) }
/-- kerbstone/kerbstonelaw07.made -/
abbrev f_kerbstonelaw07_made : Nat := 7
def c_kerbstonelaw07_made : CFn := { frz := true, rnd := none, nargs := 1, ntmps := 20, res := [(.cell 2 true 5)], code :=
  (.seq (.region 2 [⟨0, (some 1), none, .box 0 4 (.s 0)⟩, ⟨1, (some 2), none, .box 1 5 (.k (.a [(.int .i64 0), (.int .i64 0), (.int .i64 0), (.int .i64 0), (.int .i64 0)]))⟩] [] (some [1, 2]))
  (.seq (.region 0 [⟨0, (some 3), none, .faddr 0 (.s 1)⟩, ⟨4, (some 7), none, .faddr 1 (.s 1)⟩, ⟨8, (some 11), none, .faddr 2 (.s 1)⟩, ⟨12, (some 15), none, .faddr 3 (.s 1)⟩, ⟨1, (some 4), none, .load false 1 (.s 3)⟩, ⟨5, (some 8), none, .load false 1 (.s 7)⟩, ⟨9, (some 12), none, .load false 1 (.s 11)⟩, ⟨13, (some 16), none, .load false 1 (.s 15)⟩, ⟨2, (some 5), none, .call ⟨true⟩ (.k (.c (.fn 14 [] []))) [(.s 4), (.k (.c (.int .i64 4700)))]⟩, ⟨3, (some 6), none, .bin .add (.k (.c (.int .i64 300))) (.s 5)⟩, ⟨6, (some 9), none, .call ⟨true⟩ (.k (.c (.fn 14 [] []))) [(.s 8), (.k (.c (.int .i64 30)))]⟩, ⟨7, (some 10), none, .bin .add (.k (.c (.int .i64 1))) (.s 9)⟩, ⟨10, (some 13), none, .call ⟨true⟩ (.k (.c (.fn 14 [] []))) [(.s 12), (.k (.c (.int .i64 41)))]⟩, ⟨11, (some 14), none, .bin .add (.k (.c (.int .i64 50))) (.s 13)⟩, ⟨14, (some 17), none, .call ⟨true⟩ (.k (.c (.fn 14 [] []))) [(.s 16), (.k (.c (.int .i64 101)))]⟩, ⟨15, (some 18), none, .bin .add (.k (.c (.int .i64 20))) (.s 17)⟩, ⟨16, (some 19), none, .build [(.int .i64 0), (.int .i64 0), (.int .i64 0), (.int .i64 0), (.int .i64 0)] [(0, 1, (.s 6)), (1, 1, (.s 10)), (2, 1, (.s 14)), (3, 1, (.s 18))]⟩, ⟨17, none, none, .store 5 (.s 2) (.s 19)⟩] [(5, 8), (6, 8), (6, 10), (7, 8), (7, 10), (7, 12)] (some [2]))
  .ret)) }
/-- kerbstone/kerbstonelaw07.awake -/
abbrev f_kerbstonelaw07_awake : Nat := 8
def c_kerbstonelaw07_awake : CFn := { frz := true, rnd := none, nargs := 0, ntmps := 24, res := [(.slot 0)], code :=
  (.seq (.region 0 [⟨0, (some 0), none, .mv (.k (.c (.bool false)))⟩] [] (some []))
  (.seq (.region 3 [⟨0, (some 1), none, .call ⟨true⟩ (.k (.c (.fn 26 [] []))) []⟩, ⟨1, (some 2), none, .call ⟨true⟩ (.k (.c (.fn 17 [] []))) [(.s 1)]⟩, ⟨2, (some 3), none, .bin .eql (.s 2) (.k (.c (.int .i64 0)))⟩, ⟨3, (some 4), none, .mv (.s 3)⟩, ⟨4, (some 5), (some (4, true)), .call ⟨true⟩ (.k (.c (.fn 26 [] []))) []⟩, ⟨5, (some 6), (some (4, true)), .lit 0 1 [[(.int .i64 0)], [(.int .i64 0)]] [(0, (.k (.c (.int .i64 0)))), (1, (.k (.c (.int .i64 (-40)))))]⟩, ⟨6, (some 7), (some (4, true)), .call ⟨true⟩ (.k (.c (.fn 27 [] []))) [(.s 6)]⟩, ⟨7, (some 8), (some (4, true)), .call ⟨true⟩ (.k (.c (.fn 12 [] []))) [(.s 5), (.s 7)]⟩, ⟨8, (some 9), (some (4, true)), .bin .eql (.s 8) (.k (.c (.int .i64 11)))⟩, ⟨9, (some 10), none, .pick (.s 4) (.s 9) (.k (.c (.bool false)))⟩, ⟨10, (some 11), none, .mv (.s 10)⟩, ⟨11, (some 12), (some (11, true)), .call ⟨true⟩ (.k (.c (.fn 26 [] []))) []⟩, ⟨12, (some 13), (some (11, true)), .call ⟨true⟩ (.k (.c (.fn 28 [] []))) [(.s 12), (.k (.c (.int .i64 20))), (.k (.c (.int .i64 (-60))))]⟩, ⟨13, (some 14), (some (11, true)), .bin .eql (.s 13) (.k (.c (.int .i64 (-10))))⟩, ⟨14, (some 15), none, .pick (.s 11) (.s 14) (.k (.c (.bool false)))⟩, ⟨15, (some 16), none, .mv (.s 15)⟩, ⟨16, (some 17), (some (16, true)), .call ⟨true⟩ (.k (.c (.fn 26 [] []))) []⟩, ⟨17, (some 18), (some (16, true)), .lit 1 1 [[(.int .i64 0)]] [(0, (.k (.c (.int .i64 0))))]⟩, ⟨18, (some 19), (some (16, true)), .call ⟨true⟩ (.k (.c (.fn 11 [] []))) [(.s 17), (.s 18), (.k (.c (.int .i64 0))), (.k (.c (.int .i64 0))), (.k (.c (.int .i64 1))), (.k (.c (.int .i64 0)))]⟩, ⟨19, (some 20), (some (16, true)), .lit 2 1 [[(.int .i64 0)], [(.int .i64 0)], [(.int .i64 0)], [(.int .i64 0)]] [(0, (.k (.c (.int .i64 0)))), (1, (.k (.c (.int .i64 20)))), (2, (.k (.c (.int .i64 (-10))))), (3, (.k (.c (.int .i64 (-40)))))]⟩, ⟨20, (some 21), (some (16, true)), .call ⟨true⟩ (.k (.c (.fn 27 [] []))) [(.s 20)]⟩, ⟨21, (some 22), (some (16, true)), .call ⟨true⟩ (.k (.c (.fn 23 [] []))) [(.s 19), (.s 21)]⟩, ⟨22, (some 23), none, .pick (.s 16) (.s 22) (.k (.c (.bool false)))⟩, ⟨23, (some 0), none, .mv (.s 23)⟩] [] (some [0]))
  .ret)) }
/-- kerbstone/kerbstoneref07.Ramp -/
abbrev f_kerbstoneref07_Ramp : Nat := 9
def c_kerbstoneref07_Ramp : CFn := { frz := true, rnd := none, nargs := 3, ntmps := 14, res := [(.slot 6)], code :=
  (.seq (.region 1 [⟨0, (some 3), none, .box 0 5 (.s 0)⟩, ⟨1, (some 6), none, .mv (.k (.c (.int .i64 0)))⟩] [] (some [2, 1, 3]))
  (.seq (.seq (.region 0 [⟨0, (some 7), none, .load true 5 (.s 3)⟩, ⟨1, (some 8), none, .call ⟨true⟩ (.k (.c (.fn 18 [] []))) [(.s 7)]⟩, ⟨2, (some 9), none, .bin .neq (.s 8) (.k (.c (.int .i64 0)))⟩] [] (some [9, 2, 1, 3]))
  (.cond (.s 9) (.seq (.region 0 [⟨0, (some 6), none, .mv (.k (.c (.int .i64 0)))⟩] [] (some [6]))
  .ret)
  .skip))
  (.seq (.region 0 [⟨0, (some 10), none, .load true 5 (.s 3)⟩, ⟨1, (some 11), none, .mv (.s 1)⟩, ⟨2, (some 12), none, .mv (.s 2)⟩, ⟨3, (some 13), none, .call ⟨true⟩ (.k (.c (.fn 29 [] []))) [(.s 10), (.s 11), (.s 12)]⟩, ⟨4, (some 6), none, .mv (.s 13)⟩] [] (some [6]))
  .ret))) }
def c_plan_Candidates_l1 : CC := (.seq (.region 0 [⟨0, (some 27), none, .bin .lss (.s 26) (.k (.c (.int .i64 8)))⟩] [] (some [27, 10, 26, 25, 4, 1, 2, 3]))
  (.seq (.cond (.s 27) .skip
  (.exit 0))
  (.seq (.block 1 (.seq (.region 1 [⟨0, (some 28), none, .aidx true 8 2 (.s 25) (.s 26)⟩, ⟨1, (some 12), none, .box 0 2 (.k (.a [(.int .i64 0), (.int .i64 0)]))⟩, ⟨2, none, none, .store 2 (.s 12) (.s 28)⟩] [] (some [10, 12, 26, 25, 4, 1, 2, 3]))
  (.region 1 [⟨0, (some 29), none, .mv (.s 10)⟩, ⟨1, (some 30), none, .load true 5 (.s 4)⟩, ⟨2, (some 31), none, .mv (.s 1)⟩, ⟨3, (some 32), none, .mv (.s 2)⟩, ⟨4, (some 33), none, .mv (.s 3)⟩, ⟨5, (some 34), none, .aaddr 2 1 (.s 12) (.k (.c (.int .i64 0)))⟩, ⟨6, (some 35), none, .load false 1 (.s 34)⟩, ⟨7, (some 36), none, .aaddr 2 1 (.s 12) (.k (.c (.int .i64 1)))⟩, ⟨8, (some 37), none, .load false 1 (.s 36)⟩, ⟨9, (some 38), none, .call ⟨true⟩ (.k (.c (.fn 30 [] []))) [(.s 30), (.s 31), (.s 32), (.s 33), (.s 35), (.s 37)]⟩, ⟨10, (some 39), none, .lit 0 1 [[.nilslice]] [(0, (.s 38))]⟩, ⟨11, (some 40), none, .append 1 24 (.s 29) (.s 39)⟩, ⟨12, (some 10), none, .mv (.s 40)⟩] [] (some [26, 10, 25, 4, 1, 2, 3]))))
  (.region 0 [⟨0, (some 41), none, .bin .add (.s 26) (.k (.c (.int .i64 1)))⟩, ⟨1, (some 26), none, .mv (.s 41)⟩] [] (some [10, 26, 25, 4, 1, 2, 3])))))
/-- kerbstone/plan.Candidates -/
abbrev f_plan_Candidates : Nat := 10
def c_plan_Candidates : CFn := { frz := false, rnd := none, nargs := 4, ntmps := 43, res := [(.slot 8)], code :=
  (.seq (.region 2 [⟨0, (some 4), none, .box 0 5 (.s 0)⟩, ⟨1, (some 8), none, .newsl 1 1⟩] [] (some [3, 2, 1, 4]))
  (.seq (.seq (.region 0 [⟨0, (some 13), none, .load true 5 (.s 4)⟩, ⟨1, (some 14), none, .call ⟨true⟩ (.k (.c (.fn 17 [] []))) [(.s 13)]⟩, ⟨2, (some 15), none, .bin .neq (.s 14) (.k (.c (.int .i64 0)))⟩] [] (some [15, 3, 2, 1, 4]))
  (.cond (.s 15) (.seq (.region 1 [⟨0, (some 8), none, .newsl 0 1⟩] [] (some [8]))
  .ret)
  .skip))
  (.seq (.region 1 [⟨0, (some 16), none, .build [(.int .i64 0), (.int .i64 0)] [(0, 1, (.k (.c (.int .i64 6)))), (1, 1, (.k (.c (.int .i64 4))))]⟩, ⟨1, (some 17), none, .build [(.int .i64 0), (.int .i64 0)] [(0, 1, (.k (.c (.int .i64 6)))), (1, 1, (.k (.c (.int .i64 0))))]⟩, ⟨2, (some 18), none, .build [(.int .i64 0), (.int .i64 0)] [(0, 1, (.k (.c (.int .i64 3)))), (1, 1, (.k (.c (.int .i64 4))))]⟩, ⟨3, (some 19), none, .build [(.int .i64 0), (.int .i64 0)] [(0, 1, (.k (.c (.int .i64 3)))), (1, 1, (.k (.c (.int .i64 0))))]⟩, ⟨4, (some 20), none, .build [(.int .i64 0), (.int .i64 0)] [(0, 1, (.k (.c (.int .i64 1)))), (1, 1, (.k (.c (.int .i64 4))))]⟩, ⟨5, (some 21), none, .build [(.int .i64 0), (.int .i64 0)] [(0, 1, (.k (.c (.int .i64 1)))), (1, 1, (.k (.c (.int .i64 0))))]⟩, ⟨6, (some 22), none, .build [(.int .i64 0), (.int .i64 0)] [(0, 1, (.k (.c (.int .i64 0)))), (1, 1, (.k (.c (.int .i64 4))))]⟩, ⟨7, (some 23), none, .build [(.int .i64 0), (.int .i64 0)] [(0, 1, (.k (.c (.int .i64 0)))), (1, 1, (.k (.c (.int .i64 0))))]⟩, ⟨8, (some 24), none, .build [(.int .i64 0), (.int .i64 0), (.int .i64 0), (.int .i64 0), (.int .i64 0), (.int .i64 0), (.int .i64 0), (.int .i64 0), (.int .i64 0), (.int .i64 0), (.int .i64 0), (.int .i64 0), (.int .i64 0), (.int .i64 0), (.int .i64 0), (.int .i64 0)] [(0, 2, (.s 16)), (2, 2, (.s 17)), (4, 2, (.s 18)), (6, 2, (.s 19)), (8, 2, (.s 20)), (10, 2, (.s 21)), (12, 2, (.s 22)), (14, 2, (.s 23))]⟩, ⟨9, (some 9), none, .box 0 16 (.k (.a [(.int .i64 0), (.int .i64 0), (.int .i64 0), (.int .i64 0), (.int .i64 0), (.int .i64 0), (.int .i64 0), (.int .i64 0), (.int .i64 0), (.int .i64 0), (.int .i64 0), (.int .i64 0), (.int .i64 0), (.int .i64 0), (.int .i64 0), (.int .i64 0)]))⟩, ⟨10, none, none, .store 16 (.s 9) (.s 24)⟩] [] (some [9, 4, 1, 2, 3]))
  (.seq (.region 1 [⟨0, (some 10), none, .newsl 0 1⟩] [] (some [9, 10, 4, 1, 2, 3]))
  (.seq (.seq (.region 0 [⟨0, (some 25), none, .load true 16 (.s 9)⟩, ⟨1, (some 26), none, .mv (.k (.c (.int .i64 0)))⟩] [] (some [10, 26, 25, 4, 1, 2, 3]))
  (.block 0 (.loop (some [10, 26, 25, 4, 1, 2, 3]) c_plan_Candidates_l1)))
  (.seq (.region 0 [⟨0, (some 42), none, .mv (.s 10)⟩, ⟨1, (some 8), none, .mv (.s 42)⟩] [] (some [8]))
  .ret)))))) }
/-- kerbstone/plan.Profile -/
abbrev f_plan_Profile : Nat := 11
def c_plan_Profile : CFn := { frz := true, rnd := none, nargs := 6, ntmps := 24, res := [(.cell 12 true 1)], code :=
  (.seq (.region 2 [⟨0, (some 6), none, .box 0 5 (.s 0)⟩, ⟨1, (some 12), none, .box 1 1 (.k (.a [.nilslice]))⟩] [] (some [5, 4, 3, 2, 1, 6, 12]))
  (.seq (.seq (.region 0 [⟨0, (some 13), none, .load true 5 (.s 6)⟩, ⟨1, (some 14), none, .call ⟨true⟩ (.k (.c (.fn 17 [] []))) [(.s 13)]⟩, ⟨2, (some 15), none, .bin .neq (.s 14) (.k (.c (.int .i64 0)))⟩] [] (some [15, 5, 4, 3, 2, 1, 6, 12]))
  (.cond (.s 15) (.seq (.region 0 [⟨0, (some 16), none, .build [.nilslice] []⟩, ⟨1, none, none, .store 1 (.s 12) (.s 16)⟩] [] (some [12]))
  .ret)
  .skip))
  (.seq (.region 0 [⟨0, (some 17), none, .load true 5 (.s 6)⟩, ⟨1, (some 18), none, .mv (.s 1)⟩, ⟨2, (some 19), none, .mv (.s 2)⟩, ⟨3, (some 20), none, .mv (.s 3)⟩, ⟨4, (some 21), none, .mv (.s 4)⟩, ⟨5, (some 22), none, .mv (.s 5)⟩, ⟨6, (some 23), none, .call ⟨true⟩ (.k (.c (.fn 30 [] []))) [(.s 17), (.s 18), (.s 19), (.s 20), (.s 21), (.s 22)]⟩, ⟨7, none, none, .store 1 (.s 12) (.s 23)⟩] [] (some [12]))
  .ret))) }
def c_plan_Check_l1 : CC := (.seq (.region 0 [⟨0, (some 46), none, .bin .lss (.s 45) (.s 44)⟩] [] (some [46, 7, 2, 43, 44, 45]))
  (.seq (.cond (.s 46) .skip
  (.exit 1))
  (.seq (.block 2 (.seq (.region 0 [⟨0, (some 47), none, .iaddr 1 (.s 43) (.s 45)⟩, ⟨1, (some 48), none, .load false 1 (.s 47)⟩, ⟨2, (some 9), none, .mv (.s 48)⟩] [] (some [7, 2, 43, 44, 45, 9]))
  (.seq (.seq (.region 0 [⟨0, (some 49), none, .mv (.s 9)⟩, ⟨1, (some 50), none, .mv (.s 7)⟩, ⟨2, (some 51), none, .bin .sub (.s 49) (.s 50)⟩, ⟨3, (some 52), none, .faddr 3 (.s 2)⟩, ⟨4, (some 53), none, .load false 1 (.s 52)⟩, ⟨5, (some 54), none, .un .neg (.s 53)⟩, ⟨6, (some 55), none, .faddr 3 (.s 2)⟩, ⟨7, (some 56), none, .load false 1 (.s 55)⟩, ⟨8, (some 57), none, .call ⟨true⟩ (.k (.c (.fn 33 [] []))) [(.s 51), (.s 54), (.s 56)]⟩, ⟨9, (some 58), none, .un .not (.s 57)⟩] [] (some [58, 2, 43, 44, 45, 9]))
  (.cond (.s 58) (.seq (.region 0 [⟨0, (some 4), none, .mv (.k (.c (.int .i64 11)))⟩] [] (some [4]))
  .ret)
  .skip))
  (.region 0 [⟨0, (some 59), none, .mv (.s 9)⟩, ⟨1, (some 7), none, .mv (.s 59)⟩] [] (some [45, 7, 44, 43, 2])))))
  (.region 0 [⟨0, (some 60), none, .bin .add (.s 45) (.k (.c (.int .i64 1)))⟩, ⟨1, (some 45), none, .mv (.s 60)⟩] [] (some [7, 44, 43, 2, 45])))))
/-- kerbstone/plan.Check -/
abbrev f_plan_Check : Nat := 12
def c_plan_Check : CFn := { frz := true, rnd := none, nargs := 2, ntmps := 61, res := [(.slot 4)], code :=
  (.seq (.region 2 [⟨0, (some 2), none, .box 0 5 (.s 0)⟩, ⟨1, (some 3), none, .box 1 1 (.s 1)⟩, ⟨2, (some 4), none, .mv (.k (.c (.int .i64 0)))⟩] [] (some [3, 2]))
  (.seq (.seq (.region 0 [⟨0, (some 10), none, .load true 5 (.s 2)⟩, ⟨1, (some 11), none, .call ⟨true⟩ (.k (.c (.fn 17 [] []))) [(.s 10)]⟩, ⟨2, (some 5), none, .mv (.s 11)⟩] [] (some [3, 2, 5]))
  (.seq (.region 0 [⟨0, (some 12), none, .mv (.s 5)⟩, ⟨1, (some 13), none, .bin .neq (.s 12) (.k (.c (.int .i64 0)))⟩] [] (some [13, 3, 2, 5]))
  (.cond (.s 13) (.seq (.region 0 [⟨0, (some 14), none, .mv (.s 5)⟩, ⟨1, (some 4), none, .mv (.s 14)⟩] [] (some [4]))
  .ret)
  .skip)))
  (.seq (.seq (.region 0 [⟨0, (some 15), none, .faddr 0 (.s 3)⟩, ⟨1, (some 16), none, .load false 1 (.s 15)⟩, ⟨2, (some 17), none, .len (.s 16)⟩, ⟨3, (some 6), none, .mv (.s 17)⟩] [] (some [6, 2, 3]))
  (.block 0 (.seq (.region 0 [⟨0, (some 19), none, .mv (.s 6)⟩, ⟨1, (some 20), none, .bin .eql (.s 19) (.k (.c (.int .i64 0)))⟩, ⟨2, (some 18), none, .mv (.s 20)⟩] [] (some [18, 6, 2, 3]))
  (.cond (.s 18) (.seq (.region 0 [⟨0, (some 4), none, .mv (.k (.c (.int .i64 6)))⟩] [] (some [4]))
  .ret)
  (.seq (.region 0 [⟨0, (some 22), none, .mv (.s 6)⟩, ⟨1, (some 23), none, .bin .gtr (.s 22) (.k (.c (.int .i64 200)))⟩, ⟨2, (some 21), none, .mv (.s 23)⟩] [] (some [21, 3, 2, 6]))
  (.cond (.s 21) (.seq (.region 0 [⟨0, (some 4), none, .mv (.k (.c (.int .i64 5)))⟩] [] (some [4]))
  .ret)
  (.seq (.region 0 [⟨0, (some 25), none, .faddr 0 (.s 3)⟩, ⟨1, (some 26), none, .load false 1 (.s 25)⟩, ⟨2, (some 27), none, .mv (.s 6)⟩, ⟨3, (some 28), none, .bin .sub (.s 27) (.k (.c (.int .i64 1)))⟩, ⟨4, (some 29), none, .iaddr 1 (.s 26) (.s 28)⟩, ⟨5, (some 30), none, .load false 1 (.s 29)⟩, ⟨6, (some 31), none, .bin .gtr (.s 30) (.k (.c (.int .i64 0)))⟩, ⟨7, (some 32), none, .mv (.s 31)⟩, ⟨8, (some 33), (some (32, false)), .faddr 0 (.s 3)⟩, ⟨9, (some 34), (some (32, false)), .load false 1 (.s 33)⟩, ⟨10, (some 35), (some (32, false)), .mkfn 32 [] [(.s 2)]⟩, ⟨11, (some 36), (some (32, false)), .call ⟨true⟩ (.k (.c (.fn 31 [] []))) [(.s 34), (.s 35)]⟩, ⟨12, (some 37), none, .pick (.s 32) (.k (.c (.bool true))) (.s 36)⟩, ⟨13, (some 24), none, .mv (.s 37)⟩] [] (some [24, 2, 3]))
  (.cond (.s 24) (.seq (.region 0 [⟨0, (some 4), none, .mv (.k (.c (.int .i64 2)))⟩] [] (some [4]))
  .ret)
  .skip))))))))
  (.seq (.region 0 [⟨0, (some 38), none, .faddr 0 (.s 3)⟩, ⟨1, (some 39), none, .load false 1 (.s 38)⟩, ⟨2, (some 40), none, .iaddr 1 (.s 39) (.k (.c (.int .i64 0)))⟩, ⟨3, (some 41), none, .load false 1 (.s 40)⟩, ⟨4, (some 7), none, .mv (.s 41)⟩] [] (some [3, 7, 2]))
  (.seq (.seq (.region 0 [⟨0, (some 42), none, .faddr 0 (.s 3)⟩, ⟨1, (some 43), none, .load false 1 (.s 42)⟩, ⟨2, (some 44), none, .len (.s 43)⟩, ⟨3, (some 45), none, .mv (.k (.c (.int .i64 0)))⟩] [] (some [7, 44, 43, 2, 45]))
  (.block 1 (.loop (some [7, 44, 43, 2, 45]) c_plan_Check_l1)))
  (.seq (.region 0 [⟨0, (some 4), none, .mv (.k (.c (.int .i64 0)))⟩] [] (some [4]))
  .ret)))))) }
def c_kerbstonekit_SameLongs_l1 : CC := (.seq (.seq (.region 0 [⟨0, (some 6), none, .mv (.s 5)⟩, ⟨1, (some 7), none, .mv (.s 0)⟩, ⟨2, (some 8), none, .len (.s 7)⟩, ⟨3, (some 9), none, .bin .lss (.s 6) (.s 8)⟩, ⟨4, (some 10), none, .mv (.s 9)⟩, ⟨5, (some 11), (some (10, true)), .mv (.s 5)⟩, ⟨6, (some 12), (some (10, true)), .mv (.s 1)⟩, ⟨7, (some 13), (some (10, true)), .len (.s 12)⟩, ⟨8, (some 14), (some (10, true)), .bin .lss (.s 11) (.s 13)⟩, ⟨9, (some 15), none, .pick (.s 10) (.s 14) (.k (.c (.bool false)))⟩] [] (some [15, 1, 0, 5]))
  (.cond (.s 15) .skip
  (.exit 0)))
  (.seq (.block 1 (.seq (.region 0 [⟨0, (some 18), none, .mv (.s 0)⟩, ⟨1, (some 19), none, .mv (.s 5)⟩, ⟨2, (some 20), none, .iaddr 1 (.s 18) (.s 19)⟩, ⟨4, (some 22), none, .mv (.s 1)⟩, ⟨5, (some 23), none, .mv (.s 5)⟩, ⟨6, (some 24), none, .iaddr 1 (.s 22) (.s 23)⟩, ⟨3, (some 21), none, .load false 1 (.s 20)⟩, ⟨7, (some 25), none, .load false 1 (.s 24)⟩, ⟨8, (some 26), none, .bin .neq (.s 21) (.s 25)⟩] [] (some [26, 1, 0, 5]))
  (.cond (.s 26) (.seq (.region 0 [⟨0, (some 4), none, .mv (.k (.c (.bool false)))⟩] [] (some [4]))
  .ret)
  .skip)))
  (.region 0 [⟨0, (some 16), none, .mv (.s 5)⟩, ⟨1, (some 17), none, .bin .add (.s 16) (.k (.c (.int .i64 1)))⟩, ⟨2, (some 5), none, .mv (.s 17)⟩] [] (some [0, 1, 5]))))
/-- kerbstone/kerbstonekit.SameLongs -/
abbrev f_kerbstonekit_SameLongs : Nat := 13
def c_kerbstonekit_SameLongs : CFn := { frz := true, rnd := none, nargs := 2, ntmps := 32, res := [(.slot 4)], code :=
  (.seq (.region 0 [⟨0, (some 4), none, .mv (.k (.c (.bool false)))⟩] [] (some [0, 1]))
  (.seq (.seq (.region 0 [⟨0, (some 5), none, .mv (.k (.c (.int .i64 0)))⟩] [] (some [0, 1, 5]))
  (.block 0 (.loop (some [0, 1, 5]) c_kerbstonekit_SameLongs_l1)))
  (.seq (.region 0 [⟨0, (some 27), none, .mv (.s 0)⟩, ⟨1, (some 28), none, .len (.s 27)⟩, ⟨2, (some 29), none, .mv (.s 1)⟩, ⟨3, (some 30), none, .len (.s 29)⟩, ⟨4, (some 31), none, .bin .eql (.s 28) (.s 30)⟩, ⟨5, (some 4), none, .mv (.s 31)⟩] [] (some [4]))
  .ret))) }
/-- kerbstone/kerbstonekit.Mod64 -/
abbrev f_kerbstonekit_Mod64 : Nat := 14
def c_kerbstonekit_Mod64 : CFn := { frz := true, rnd := none, nargs := 2, ntmps := 14, res := [(.slot 4)], code :=
  (.seq (.region 0 [⟨0, (some 4), none, .mv (.k (.c (.int .i64 0)))⟩] [] (some [0, 1]))
  (.seq (.region 0 [⟨0, (some 5), none, .mv (.s 0)⟩, ⟨1, (some 6), none, .mv (.s 1)⟩, ⟨2, (some 7), none, .bin .rem (.s 5) (.s 6)⟩, ⟨3, (some 0), none, .mv (.s 7)⟩] [] (some [0, 1]))
  (.seq (.seq (.region 0 [⟨0, (some 8), none, .mv (.s 0)⟩, ⟨1, (some 9), none, .bin .lss (.s 8) (.k (.c (.int .i64 0)))⟩] [] (some [9, 0, 1]))
  (.cond (.s 9) (.region 0 [⟨0, (some 10), none, .mv (.s 0)⟩, ⟨1, (some 11), none, .mv (.s 1)⟩, ⟨2, (some 12), none, .bin .add (.s 10) (.s 11)⟩, ⟨3, (some 0), none, .mv (.s 12)⟩] [] (some [0]))
  .skip))
  (.seq (.region 0 [⟨0, (some 13), none, .mv (.s 0)⟩, ⟨1, (some 4), none, .mv (.s 13)⟩] [] (some [4]))
  .ret)))) }
/-- kerbstone/plan.Stops -/
abbrev f_plan_Stops : Nat := 15
def c_plan_Stops : CFn := { frz := true, rnd := none, nargs := 3, ntmps := 24, res := [(.slot 6)], code :=
  (.seq (.region 2 [⟨0, (some 3), none, .box 0 5 (.s 0)⟩, ⟨1, (some 6), none, .newsl 1 1⟩] [] (some [2, 1, 3]))
  (.seq (.seq (.region 0 [⟨0, (some 8), none, .load true 5 (.s 3)⟩, ⟨1, (some 9), none, .call ⟨true⟩ (.k (.c (.fn 17 [] []))) [(.s 8)]⟩, ⟨2, (some 10), none, .bin .neq (.s 9) (.k (.c (.int .i64 0)))⟩] [] (some [10, 2, 1, 3]))
  (.cond (.s 10) (.seq (.region 1 [⟨0, (some 6), none, .newsl 0 1⟩] [] (some [6]))
  .ret)
  .skip))
  (.seq (.region 1 [⟨0, (some 11), none, .load true 5 (.s 3)⟩, ⟨1, (some 12), none, .mv (.s 1)⟩, ⟨2, (some 13), none, .mv (.s 2)⟩, ⟨3, (some 14), none, .minmax false [(.s 13), (.k (.c (.int .i64 2000)))]⟩, ⟨4, (some 15), none, .minmax true [(.k (.c (.int .i64 0))), (.s 14)]⟩, ⟨5, (some 16), none, .build [(.int .i64 0), (.int .i64 0), (.int .i64 0), (.int .i64 0), (.int .i64 0), (.int .i64 0), (.int .i64 0), .nilslice] [(0, 5, (.s 11)), (5, 1, (.s 12)), (6, 1, (.s 15))]⟩, ⟨6, (some 17), none, .box 0 8 (.s 16)⟩, ⟨7, (some 7), none, .mv (.s 17)⟩] [] (some [7]))
  (.seq (.region 0 [⟨0, (some 18), none, .mv (.s 7)⟩, ⟨1, (some 19), none, .call ⟨true⟩ (.k (.c (.fn 34 [] []))) [(.s 18)]⟩] [] (some [7]))
  (.seq (.region 0 [⟨0, (some 20), none, .mv (.s 7)⟩, ⟨1, (some 21), none, .nilck (.s 20)⟩, ⟨2, (some 22), none, .faddr 7 (.s 21)⟩, ⟨3, (some 23), none, .load false 1 (.s 22)⟩, ⟨4, (some 6), none, .mv (.s 23)⟩] [] (some [6]))
  .ret))))) }
def c_plan_Way_l1 : CC := (.seq (.region 0 [⟨0, (some 19), none, .bin .lss (.s 18) (.s 17)⟩] [] (some [19, 6, 18, 17, 16, 5]))
  (.seq (.cond (.s 19) .skip
  (.exit 0))
  (.seq (.block 1 (.seq (.region 0 [⟨0, (some 20), none, .iaddr 1 (.s 16) (.s 18)⟩, ⟨1, (some 21), none, .load false 1 (.s 20)⟩, ⟨2, (some 8), none, .mv (.s 21)⟩] [] (some [8, 6, 18, 17, 16, 5]))
  (.seq (.region 0 [⟨0, (some 22), none, .mv (.s 5)⟩, ⟨1, (some 23), none, .mv (.s 8)⟩, ⟨2, (some 24), none, .call ⟨true⟩ (.k (.c (.fn 35 [] []))) [(.s 22), (.s 23)]⟩] [] (some [6, 18, 17, 16, 5]))
  (.region 0 [⟨0, (some 25), none, .mv (.s 6)⟩, ⟨1, (some 26), none, .mv (.s 5)⟩, ⟨2, (some 27), none, .nilck (.s 26)⟩, ⟨3, (some 28), none, .faddr 6 (.s 27)⟩, ⟨4, (some 29), none, .load false 1 (.s 28)⟩, ⟨5, (some 30), none, .bin .add (.s 25) (.s 29)⟩, ⟨6, (some 6), none, .mv (.s 30)⟩] [] (some [18, 6, 17, 16, 5])))))
  (.region 0 [⟨0, (some 31), none, .bin .add (.s 18) (.k (.c (.int .i64 1)))⟩, ⟨1, (some 18), none, .mv (.s 31)⟩] [] (some [6, 18, 17, 16, 5])))))
/-- kerbstone/plan.Way -/
abbrev f_plan_Way : Nat := 16
def c_plan_Way : CFn := { frz := true, rnd := none, nargs := 2, ntmps := 33, res := [(.slot 4)], code :=
  (.seq (.region 2 [⟨0, (some 2), none, .box 0 4 (.s 0)⟩, ⟨1, (some 3), none, .box 1 1 (.s 1)⟩, ⟨2, (some 4), none, .mv (.k (.c (.int .i64 0)))⟩] [] (some [2, 3]))
  (.seq (.region 1 [⟨0, (some 9), none, .faddr 3 (.s 2)⟩, ⟨1, (some 10), none, .load false 1 (.s 9)⟩, ⟨2, (some 11), none, .minmax false [(.s 10), (.k (.c (.int .i64 2000)))]⟩, ⟨3, (some 12), none, .minmax true [(.k (.c (.int .i64 0))), (.s 11)]⟩, ⟨4, (some 13), none, .build [(.int .i64 0), (.int .i64 0), (.int .i64 0), (.int .i64 0), (.int .i64 0), (.int .i64 0), (.int .i64 0), .nilslice] [(6, 1, (.s 12))]⟩, ⟨5, (some 14), none, .box 0 8 (.s 13)⟩, ⟨6, (some 5), none, .mv (.s 14)⟩] [] (some [3, 5]))
  (.seq (.region 0 [⟨0, (some 6), none, .mv (.k (.c (.int .i64 0)))⟩] [] (some [3, 6, 5]))
  (.seq (.seq (.region 0 [⟨0, (some 15), none, .faddr 0 (.s 3)⟩, ⟨1, (some 16), none, .load false 1 (.s 15)⟩, ⟨2, (some 17), none, .len (.s 16)⟩, ⟨3, (some 18), none, .mv (.k (.c (.int .i64 0)))⟩] [] (some [6, 18, 17, 16, 5]))
  (.block 0 (.loop (some [6, 18, 17, 16, 5]) c_plan_Way_l1)))
  (.seq (.region 0 [⟨0, (some 32), none, .mv (.s 6)⟩, ⟨1, (some 4), none, .mv (.s 32)⟩] [] (some [4]))
  .ret))))) }
/-- kerbstone/plan.CheckCar -/
abbrev f_plan_CheckCar : Nat := 17
def c_plan_CheckCar : CFn := { frz := true, rnd := none, nargs := 1, ntmps := 26, res := [(.slot 2)], code :=
  (.seq (.region 1 [⟨0, (some 1), none, .box 0 5 (.s 0)⟩, ⟨1, (some 2), none, .mv (.k (.c (.int .i64 0)))⟩] [] (some [1]))
  (.seq (.seq (.region 0 [⟨0, (some 3), none, .faddr 0 (.s 1)⟩, ⟨1, (some 4), none, .load false 1 (.s 3)⟩, ⟨2, (some 5), none, .call ⟨true⟩ (.k (.c (.fn 33 [] []))) [(.s 4), (.k (.c (.int .i64 300))), (.k (.c (.int .i64 20000)))]⟩, ⟨3, (some 6), none, .mv (.s 5)⟩, ⟨4, (some 7), (some (6, true)), .faddr 1 (.s 1)⟩, ⟨5, (some 8), (some (6, true)), .load false 1 (.s 7)⟩, ⟨6, (some 9), (some (6, true)), .call ⟨true⟩ (.k (.c (.fn 33 [] []))) [(.s 8), (.k (.c (.int .i64 1))), (.k (.c (.int .i64 30)))]⟩, ⟨7, (some 10), none, .pick (.s 6) (.s 9) (.k (.c (.bool false)))⟩, ⟨8, (some 11), none, .mv (.s 10)⟩, ⟨9, (some 12), (some (11, true)), .faddr 2 (.s 1)⟩, ⟨10, (some 13), (some (11, true)), .load false 1 (.s 12)⟩, ⟨11, (some 14), (some (11, true)), .call ⟨true⟩ (.k (.c (.fn 33 [] []))) [(.s 13), (.k (.c (.int .i64 20))), (.k (.c (.int .i64 90)))]⟩, ⟨12, (some 15), none, .pick (.s 11) (.s 14) (.k (.c (.bool false)))⟩, ⟨13, (some 16), none, .mv (.s 15)⟩, ⟨14, (some 17), (some (16, true)), .faddr 3 (.s 1)⟩, ⟨15, (some 18), (some (16, true)), .load false 1 (.s 17)⟩, ⟨16, (some 19), (some (16, true)), .call ⟨true⟩ (.k (.c (.fn 33 [] []))) [(.s 18), (.k (.c (.int .i64 5))), (.k (.c (.int .i64 120)))]⟩, ⟨17, (some 20), none, .pick (.s 16) (.s 19) (.k (.c (.bool false)))⟩, ⟨18, (some 21), none, .mv (.s 20)⟩, ⟨19, (some 22), (some (21, true)), .faddr 4 (.s 1)⟩, ⟨20, (some 23), (some (21, true)), .load false 1 (.s 22)⟩, ⟨21, (some 24), (some (21, true)), .call ⟨true⟩ (.k (.c (.fn 33 [] []))) [(.s 23), (.k (.c (.int .i64 0))), (.k (.c (.int .i64 5)))]⟩, ⟨22, (some 25), none, .pick (.s 21) (.s 24) (.k (.c (.bool false)))⟩] [] (some [25]))
  (.cond (.s 25) (.seq (.region 0 [⟨0, (some 2), none, .mv (.k (.c (.int .i64 0)))⟩] [] (some [2]))
  .ret)
  .skip))
  (.seq (.region 0 [⟨0, (some 2), none, .mv (.k (.c (.int .i64 2)))⟩] [] (some [2]))
  .ret))) }
/-- kerbstone/kerbstoneref07.CheckCar -/
abbrev f_kerbstoneref07_CheckCar : Nat := 18
def c_kerbstoneref07_CheckCar : CFn := { frz := true, rnd := none, nargs := 1, ntmps := 51, res := [(.slot 2)], code :=
  (.seq (.region 1 [⟨0, (some 1), none, .box 0 5 (.s 0)⟩, ⟨1, (some 2), none, .mv (.k (.c (.int .i64 0)))⟩] [] (some [1]))
  (.seq (.seq (.region 0 [⟨0, (some 3), none, .faddr 0 (.s 1)⟩, ⟨1, (some 4), none, .load false 1 (.s 3)⟩, ⟨2, (some 5), none, .bin .lss (.s 4) (.k (.c (.int .i64 300)))⟩, ⟨3, (some 6), none, .mv (.s 5)⟩, ⟨4, (some 7), (some (6, false)), .faddr 0 (.s 1)⟩, ⟨5, (some 8), (some (6, false)), .load false 1 (.s 7)⟩, ⟨6, (some 9), (some (6, false)), .bin .gtr (.s 8) (.k (.c (.int .i64 20000)))⟩, ⟨7, (some 10), none, .pick (.s 6) (.k (.c (.bool true))) (.s 9)⟩, ⟨8, (some 11), none, .mv (.s 10)⟩, ⟨9, (some 12), (some (11, false)), .faddr 1 (.s 1)⟩, ⟨10, (some 13), (some (11, false)), .load false 1 (.s 12)⟩, ⟨11, (some 14), (some (11, false)), .bin .lss (.s 13) (.k (.c (.int .i64 1)))⟩, ⟨12, (some 15), none, .pick (.s 11) (.k (.c (.bool true))) (.s 14)⟩, ⟨13, (some 16), none, .mv (.s 15)⟩, ⟨14, (some 17), (some (16, false)), .faddr 1 (.s 1)⟩, ⟨15, (some 18), (some (16, false)), .load false 1 (.s 17)⟩, ⟨16, (some 19), (some (16, false)), .bin .gtr (.s 18) (.k (.c (.int .i64 30)))⟩, ⟨17, (some 20), none, .pick (.s 16) (.k (.c (.bool true))) (.s 19)⟩, ⟨18, (some 21), none, .mv (.s 20)⟩, ⟨19, (some 22), (some (21, false)), .faddr 2 (.s 1)⟩, ⟨20, (some 23), (some (21, false)), .load false 1 (.s 22)⟩, ⟨21, (some 24), (some (21, false)), .bin .lss (.s 23) (.k (.c (.int .i64 20)))⟩, ⟨22, (some 25), none, .pick (.s 21) (.k (.c (.bool true))) (.s 24)⟩, ⟨23, (some 26), none, .mv (.s 25)⟩, ⟨24, (some 27), (some (26, false)), .faddr 2 (.s 1)⟩, ⟨25, (some 28), (some (26, false)), .load false 1 (.s 27)⟩, ⟨26, (some 29), (some (26, false)), .bin .gtr (.s 28) (.k (.c (.int .i64 90)))⟩, ⟨27, (some 30), none, .pick (.s 26) (.k (.c (.bool true))) (.s 29)⟩, ⟨28, (some 31), none, .mv (.s 30)⟩, ⟨29, (some 32), (some (31, false)), .faddr 3 (.s 1)⟩, ⟨30, (some 33), (some (31, false)), .load false 1 (.s 32)⟩, ⟨31, (some 34), (some (31, false)), .bin .lss (.s 33) (.k (.c (.int .i64 5)))⟩, ⟨32, (some 35), none, .pick (.s 31) (.k (.c (.bool true))) (.s 34)⟩, ⟨33, (some 36), none, .mv (.s 35)⟩, ⟨34, (some 37), (some (36, false)), .faddr 3 (.s 1)⟩, ⟨35, (some 38), (some (36, false)), .load false 1 (.s 37)⟩, ⟨36, (some 39), (some (36, false)), .bin .gtr (.s 38) (.k (.c (.int .i64 120)))⟩, ⟨37, (some 40), none, .pick (.s 36) (.k (.c (.bool true))) (.s 39)⟩, ⟨38, (some 41), none, .mv (.s 40)⟩, ⟨39, (some 42), (some (41, false)), .faddr 4 (.s 1)⟩, ⟨40, (some 43), (some (41, false)), .load false 1 (.s 42)⟩, ⟨41, (some 44), (some (41, false)), .bin .lss (.s 43) (.k (.c (.int .i64 0)))⟩, ⟨42, (some 45), none, .pick (.s 41) (.k (.c (.bool true))) (.s 44)⟩, ⟨43, (some 46), none, .mv (.s 45)⟩, ⟨44, (some 47), (some (46, false)), .faddr 4 (.s 1)⟩, ⟨45, (some 48), (some (46, false)), .load false 1 (.s 47)⟩, ⟨46, (some 49), (some (46, false)), .bin .gtr (.s 48) (.k (.c (.int .i64 5)))⟩, ⟨47, (some 50), none, .pick (.s 46) (.k (.c (.bool true))) (.s 49)⟩] [] (some [50]))
  (.cond (.s 50) (.seq (.region 0 [⟨0, (some 2), none, .mv (.k (.c (.int .i64 2)))⟩] [] (some [2]))
  .ret)
  .skip))
  (.seq (.region 0 [⟨0, (some 2), none, .mv (.k (.c (.int .i64 0)))⟩] [] (some [2]))
  .ret))) }
def c_kerbstoneref07_Check_l1 : CC := (.seq (.seq (.region 0 [⟨0, (some 22), none, .mv (.s 6)⟩, ⟨1, (some 23), none, .faddr 0 (.s 3)⟩, ⟨2, (some 24), none, .load false 1 (.s 23)⟩, ⟨3, (some 25), none, .len (.s 24)⟩, ⟨4, (some 26), none, .bin .lss (.s 22) (.s 25)⟩] [] (some [26, 2, 3, 6]))
  (.cond (.s 26) .skip
  (.exit 0)))
  (.seq (.block 1 (.seq (.region 0 [⟨0, (some 29), none, .faddr 0 (.s 3)⟩, ⟨2, (some 31), none, .mv (.s 6)⟩, ⟨5, (some 34), none, .faddr 2 (.s 2)⟩, ⟨1, (some 30), none, .load false 1 (.s 29)⟩, ⟨3, (some 32), none, .iaddr 1 (.s 30) (.s 31)⟩, ⟨4, (some 33), none, .load false 1 (.s 32)⟩, ⟨6, (some 35), none, .load false 1 (.s 34)⟩, ⟨7, (some 36), none, .un .neg (.s 35)⟩, ⟨8, (some 37), none, .bin .lss (.s 33) (.s 36)⟩, ⟨9, (some 38), none, .mv (.s 37)⟩, ⟨10, (some 39), (some (38, false)), .faddr 0 (.s 3)⟩, ⟨12, (some 41), (some (38, false)), .mv (.s 6)⟩, ⟨15, (some 44), (some (38, false)), .faddr 1 (.s 2)⟩, ⟨11, (some 40), (some (38, false)), .load false 1 (.s 39)⟩, ⟨13, (some 42), (some (38, false)), .iaddr 1 (.s 40) (.s 41)⟩, ⟨14, (some 43), (some (38, false)), .load false 1 (.s 42)⟩, ⟨16, (some 45), (some (38, false)), .load false 1 (.s 44)⟩, ⟨17, (some 46), (some (38, false)), .bin .gtr (.s 43) (.s 45)⟩, ⟨18, (some 47), none, .pick (.s 38) (.k (.c (.bool true))) (.s 46)⟩] [] (some [47, 2, 3, 6]))
  (.cond (.s 47) (.seq (.region 0 [⟨0, (some 4), none, .mv (.k (.c (.int .i64 2)))⟩] [] (some [4]))
  .ret)
  .skip)))
  (.region 0 [⟨0, (some 27), none, .mv (.s 6)⟩, ⟨1, (some 28), none, .bin .add (.s 27) (.k (.c (.int .i64 1)))⟩, ⟨2, (some 6), none, .mv (.s 28)⟩] [] (some [3, 2, 6]))))
def c_kerbstoneref07_Check_l2 : CC := (.seq (.seq (.region 0 [⟨0, (some 57), none, .mv (.s 7)⟩, ⟨1, (some 58), none, .faddr 0 (.s 3)⟩, ⟨2, (some 59), none, .load false 1 (.s 58)⟩, ⟨3, (some 60), none, .len (.s 59)⟩, ⟨4, (some 61), none, .bin .lss (.s 57) (.s 60)⟩] [] (some [61, 2, 3, 7]))
  (.cond (.s 61) .skip
  (.exit 2)))
  (.seq (.block 3 (.seq (.region 0 [⟨0, (some 64), none, .faddr 0 (.s 3)⟩, ⟨2, (some 66), none, .mv (.s 7)⟩, ⟨5, (some 69), none, .faddr 0 (.s 3)⟩, ⟨7, (some 71), none, .mv (.s 7)⟩, ⟨8, (some 72), none, .bin .sub (.s 71) (.k (.c (.int .i64 1)))⟩, ⟨1, (some 65), none, .load false 1 (.s 64)⟩, ⟨3, (some 67), none, .iaddr 1 (.s 65) (.s 66)⟩, ⟨4, (some 68), none, .load false 1 (.s 67)⟩, ⟨6, (some 70), none, .load false 1 (.s 69)⟩, ⟨9, (some 73), none, .iaddr 1 (.s 70) (.s 72)⟩, ⟨10, (some 74), none, .load false 1 (.s 73)⟩, ⟨11, (some 75), none, .bin .sub (.s 68) (.s 74)⟩, ⟨12, (some 8), none, .mv (.s 75)⟩] [] (some [8, 2, 3, 7]))
  (.seq (.region 0 [⟨0, (some 76), none, .mv (.s 8)⟩, ⟨1, (some 77), none, .faddr 3 (.s 2)⟩, ⟨2, (some 78), none, .load false 1 (.s 77)⟩, ⟨3, (some 79), none, .bin .gtr (.s 76) (.s 78)⟩, ⟨4, (some 80), none, .mv (.s 79)⟩, ⟨5, (some 81), (some (80, false)), .mv (.s 8)⟩, ⟨6, (some 82), (some (80, false)), .un .neg (.s 81)⟩, ⟨7, (some 83), (some (80, false)), .faddr 3 (.s 2)⟩, ⟨8, (some 84), (some (80, false)), .load false 1 (.s 83)⟩, ⟨9, (some 85), (some (80, false)), .bin .gtr (.s 82) (.s 84)⟩, ⟨10, (some 86), none, .pick (.s 80) (.k (.c (.bool true))) (.s 85)⟩] [] (some [86, 2, 3, 7]))
  (.cond (.s 86) (.seq (.region 0 [⟨0, (some 4), none, .mv (.k (.c (.int .i64 11)))⟩] [] (some [4]))
  .ret)
  .skip))))
  (.region 0 [⟨0, (some 62), none, .mv (.s 7)⟩, ⟨1, (some 63), none, .bin .add (.s 62) (.k (.c (.int .i64 1)))⟩, ⟨2, (some 7), none, .mv (.s 63)⟩] [] (some [3, 2, 7]))))
/-- kerbstone/kerbstoneref07.Check -/
abbrev f_kerbstoneref07_Check : Nat := 19
def c_kerbstoneref07_Check : CFn := { frz := true, rnd := none, nargs := 2, ntmps := 87, res := [(.slot 4)], code :=
  (.seq (.region 2 [⟨0, (some 2), none, .box 0 5 (.s 0)⟩, ⟨1, (some 3), none, .box 1 1 (.s 1)⟩, ⟨2, (some 4), none, .mv (.k (.c (.int .i64 0)))⟩] [] (some [2, 3]))
  (.seq (.region 0 [⟨0, (some 9), none, .load true 5 (.s 2)⟩, ⟨1, (some 10), none, .call ⟨true⟩ (.k (.c (.fn 18 [] []))) [(.s 9)]⟩, ⟨2, (some 5), none, .mv (.s 10)⟩] [] (some [2, 3, 5]))
  (.seq (.seq (.region 0 [⟨0, (some 11), none, .mv (.s 5)⟩, ⟨1, (some 12), none, .bin .neq (.s 11) (.k (.c (.int .i64 0)))⟩] [] (some [12, 2, 3, 5]))
  (.cond (.s 12) (.seq (.region 0 [⟨0, (some 13), none, .mv (.s 5)⟩, ⟨1, (some 4), none, .mv (.s 13)⟩] [] (some [4]))
  .ret)
  .skip))
  (.seq (.seq (.region 0 [⟨0, (some 14), none, .faddr 0 (.s 3)⟩, ⟨1, (some 15), none, .load false 1 (.s 14)⟩, ⟨2, (some 16), none, .len (.s 15)⟩, ⟨3, (some 17), none, .bin .eql (.s 16) (.k (.c (.int .i64 0)))⟩] [] (some [17, 3, 2]))
  (.cond (.s 17) (.seq (.region 0 [⟨0, (some 4), none, .mv (.k (.c (.int .i64 6)))⟩] [] (some [4]))
  .ret)
  .skip))
  (.seq (.seq (.region 0 [⟨0, (some 18), none, .faddr 0 (.s 3)⟩, ⟨1, (some 19), none, .load false 1 (.s 18)⟩, ⟨2, (some 20), none, .len (.s 19)⟩, ⟨3, (some 21), none, .bin .gtr (.s 20) (.k (.c (.int .i64 200)))⟩] [] (some [21, 2, 3]))
  (.cond (.s 21) (.seq (.region 0 [⟨0, (some 4), none, .mv (.k (.c (.int .i64 5)))⟩] [] (some [4]))
  .ret)
  .skip))
  (.seq (.seq (.region 0 [⟨0, (some 6), none, .mv (.k (.c (.int .i64 0)))⟩] [] (some [3, 2, 6]))
  (.block 0 (.loop (some [3, 2, 6]) c_kerbstoneref07_Check_l1)))
  (.seq (.seq (.region 0 [⟨0, (some 48), none, .faddr 0 (.s 3)⟩, ⟨1, (some 49), none, .load false 1 (.s 48)⟩, ⟨2, (some 50), none, .faddr 0 (.s 3)⟩, ⟨3, (some 51), none, .load false 1 (.s 50)⟩, ⟨4, (some 52), none, .len (.s 51)⟩, ⟨5, (some 53), none, .bin .sub (.s 52) (.k (.c (.int .i64 1)))⟩, ⟨6, (some 54), none, .iaddr 1 (.s 49) (.s 53)⟩, ⟨7, (some 55), none, .load false 1 (.s 54)⟩, ⟨8, (some 56), none, .bin .gtr (.s 55) (.k (.c (.int .i64 0)))⟩] [] (some [56, 2, 3]))
  (.cond (.s 56) (.seq (.region 0 [⟨0, (some 4), none, .mv (.k (.c (.int .i64 2)))⟩] [] (some [4]))
  .ret)
  .skip))
  (.seq (.seq (.region 0 [⟨0, (some 7), none, .mv (.k (.c (.int .i64 1)))⟩] [] (some [3, 2, 7]))
  (.block 2 (.loop (some [3, 2, 7]) c_kerbstoneref07_Check_l2)))
  (.seq (.region 0 [⟨0, (some 4), none, .mv (.k (.c (.int .i64 0)))⟩] [] (some [4]))
  .ret))))))))) }
/-- kerbstone/plan.Act -/
abbrev f_plan_Act : Nat := 20
def c_plan_Act : CFn := { frz := true, rnd := none, nargs := 2, ntmps := 20, res := [(.slot 4)], code :=
  (.seq (.region 1 [⟨0, (some 2), none, .box 0 1 (.s 0)⟩, ⟨1, (some 4), none, .mv (.k (.c (.int .i64 0)))⟩] [] (some [2, 1]))
  (.seq (.seq (.region 0 [⟨0, (some 5), none, .faddr 0 (.s 2)⟩, ⟨1, (some 6), none, .load false 1 (.s 5)⟩, ⟨2, (some 7), none, .len (.s 6)⟩, ⟨3, (some 8), none, .bin .eql (.s 7) (.k (.c (.int .i64 0)))⟩] [] (some [8, 2, 1]))
  (.cond (.s 8) (.seq (.region 0 [⟨0, (some 4), none, .mv (.k (.c (.int .i64 0)))⟩] [] (some [4]))
  .ret)
  .skip))
  (.seq (.region 0 [⟨0, (some 9), none, .faddr 0 (.s 2)⟩, ⟨1, (some 10), none, .load false 1 (.s 9)⟩, ⟨2, (some 11), none, .mv (.s 1)⟩, ⟨3, (some 12), none, .minmax true [(.s 11), (.k (.c (.int .i64 0)))]⟩, ⟨4, (some 13), none, .faddr 0 (.s 2)⟩, ⟨5, (some 14), none, .load false 1 (.s 13)⟩, ⟨6, (some 15), none, .len (.s 14)⟩, ⟨7, (some 16), none, .bin .sub (.s 15) (.k (.c (.int .i64 1)))⟩, ⟨8, (some 17), none, .minmax false [(.s 12), (.s 16)]⟩, ⟨9, (some 18), none, .iaddr 1 (.s 10) (.s 17)⟩, ⟨10, (some 19), none, .load false 1 (.s 18)⟩, ⟨11, (some 4), none, .mv (.s 19)⟩] [] (some [4]))
  .ret))) }
/-- kerbstone/kerbstoneref07.Act -/
abbrev f_kerbstoneref07_Act : Nat := 21
def c_kerbstoneref07_Act : CFn := { frz := true, rnd := none, nargs := 2, ntmps := 20, res := [(.slot 4)], code :=
  (.seq (.region 1 [⟨0, (some 2), none, .box 0 1 (.s 0)⟩, ⟨1, (some 4), none, .mv (.k (.c (.int .i64 0)))⟩] [] (some [2, 1]))
  (.seq (.seq (.region 0 [⟨0, (some 5), none, .faddr 0 (.s 2)⟩, ⟨1, (some 6), none, .load false 1 (.s 5)⟩, ⟨2, (some 7), none, .len (.s 6)⟩, ⟨3, (some 8), none, .bin .eql (.s 7) (.k (.c (.int .i64 0)))⟩] [] (some [8, 2, 1]))
  (.cond (.s 8) (.seq (.region 0 [⟨0, (some 4), none, .mv (.k (.c (.int .i64 0)))⟩] [] (some [4]))
  .ret)
  .skip))
  (.seq (.region 0 [⟨0, (some 9), none, .faddr 0 (.s 2)⟩, ⟨1, (some 10), none, .load false 1 (.s 9)⟩, ⟨2, (some 11), none, .mv (.s 1)⟩, ⟨3, (some 12), none, .faddr 0 (.s 2)⟩, ⟨4, (some 13), none, .load false 1 (.s 12)⟩, ⟨5, (some 14), none, .len (.s 13)⟩, ⟨6, (some 15), none, .bin .sub (.s 14) (.k (.c (.int .i64 1)))⟩, ⟨7, (some 16), none, .minmax false [(.s 11), (.s 15)]⟩, ⟨8, (some 17), none, .minmax true [(.k (.c (.int .i64 0))), (.s 16)]⟩, ⟨9, (some 18), none, .iaddr 1 (.s 10) (.s 17)⟩, ⟨10, (some 19), none, .load false 1 (.s 18)⟩, ⟨11, (some 4), none, .mv (.s 19)⟩] [] (some [4]))
  .ret))) }
/-- kerbstone/plan.Tail -/
abbrev f_plan_Tail : Nat := 22
def c_plan_Tail : CFn := { frz := false, rnd := none, nargs := 1, ntmps := 15, res := [(.cell 2 true 1)], code :=
  (.seq (.region 2 [⟨0, (some 1), none, .box 0 1 (.s 0)⟩, ⟨1, (some 2), none, .box 1 1 (.k (.a [.nilslice]))⟩] [] (some [1, 2]))
  (.seq (.seq (.region 0 [⟨0, (some 3), none, .faddr 0 (.s 1)⟩, ⟨1, (some 4), none, .load false 1 (.s 3)⟩, ⟨2, (some 5), none, .len (.s 4)⟩, ⟨3, (some 6), none, .bin .gtr (.s 5) (.k (.c (.int .i64 1)))⟩] [] (some [6, 1, 2]))
  (.cond (.s 6) (.region 0 [⟨0, (some 7), none, .faddr 0 (.s 1)⟩, ⟨1, (some 8), none, .load false 1 (.s 7)⟩, ⟨2, (some 9), none, .slice 1 (.s 8) (some (.k (.c (.int .i64 1)))) none none⟩, ⟨3, (some 10), none, .faddr 0 (.s 1)⟩, ⟨4, none, none, .store 1 (.s 10) (.s 9)⟩] [] (some [1, 2]))
  .skip))
  (.seq (.region 0 [⟨0, (some 11), none, .faddr 0 (.s 1)⟩, ⟨1, (some 12), none, .load false 1 (.s 11)⟩, ⟨2, (some 13), none, .call ⟨true⟩ (.k (.c (.fn 36 [] []))) [(.s 12)]⟩, ⟨3, (some 14), none, .build [.nilslice] [(0, 1, (.s 13))]⟩, ⟨4, none, none, .store 1 (.s 2) (.s 14)⟩] [] (some [2]))
  .ret))) }
def c_kerbstoneref07_Same_l1 : CC := (.seq (.seq (.region 0 [⟨0, (some 6), none, .mv (.s 5)⟩, ⟨1, (some 7), none, .faddr 0 (.s 2)⟩, ⟨2, (some 8), none, .load false 1 (.s 7)⟩, ⟨3, (some 9), none, .len (.s 8)⟩, ⟨4, (some 10), none, .bin .lss (.s 6) (.s 9)⟩, ⟨5, (some 11), none, .mv (.s 10)⟩, ⟨6, (some 12), (some (11, true)), .mv (.s 5)⟩, ⟨7, (some 13), (some (11, true)), .faddr 0 (.s 3)⟩, ⟨8, (some 14), (some (11, true)), .load false 1 (.s 13)⟩, ⟨9, (some 15), (some (11, true)), .len (.s 14)⟩, ⟨10, (some 16), (some (11, true)), .bin .lss (.s 12) (.s 15)⟩, ⟨11, (some 17), none, .pick (.s 11) (.s 16) (.k (.c (.bool false)))⟩] [] (some [17, 3, 2, 5]))
  (.cond (.s 17) .skip
  (.exit 0)))
  (.seq (.block 1 (.seq (.region 0 [⟨0, (some 20), none, .faddr 0 (.s 2)⟩, ⟨2, (some 22), none, .mv (.s 5)⟩, ⟨5, (some 25), none, .faddr 0 (.s 3)⟩, ⟨7, (some 27), none, .mv (.s 5)⟩, ⟨1, (some 21), none, .load false 1 (.s 20)⟩, ⟨3, (some 23), none, .iaddr 1 (.s 21) (.s 22)⟩, ⟨4, (some 24), none, .load false 1 (.s 23)⟩, ⟨6, (some 26), none, .load false 1 (.s 25)⟩, ⟨8, (some 28), none, .iaddr 1 (.s 26) (.s 27)⟩, ⟨9, (some 29), none, .load false 1 (.s 28)⟩, ⟨10, (some 30), none, .bin .neq (.s 24) (.s 29)⟩] [] (some [30, 3, 2, 5]))
  (.cond (.s 30) (.seq (.region 0 [⟨0, (some 4), none, .mv (.k (.c (.bool false)))⟩] [] (some [4]))
  .ret)
  .skip)))
  (.region 0 [⟨0, (some 18), none, .mv (.s 5)⟩, ⟨1, (some 19), none, .bin .add (.s 18) (.k (.c (.int .i64 1)))⟩, ⟨2, (some 5), none, .mv (.s 19)⟩] [] (some [2, 3, 5]))))
/-- kerbstone/kerbstoneref07.Same -/
abbrev f_kerbstoneref07_Same : Nat := 23
def c_kerbstoneref07_Same : CFn := { frz := true, rnd := none, nargs := 2, ntmps := 38, res := [(.slot 4)], code :=
  (.seq (.region 2 [⟨0, (some 2), none, .box 0 1 (.s 0)⟩, ⟨1, (some 3), none, .box 1 1 (.s 1)⟩, ⟨2, (some 4), none, .mv (.k (.c (.bool false)))⟩] [] (some [2, 3]))
  (.seq (.seq (.region 0 [⟨0, (some 5), none, .mv (.k (.c (.int .i64 0)))⟩] [] (some [2, 3, 5]))
  (.block 0 (.loop (some [2, 3, 5]) c_kerbstoneref07_Same_l1)))
  (.seq (.region 0 [⟨0, (some 31), none, .faddr 0 (.s 2)⟩, ⟨1, (some 32), none, .load false 1 (.s 31)⟩, ⟨2, (some 33), none, .len (.s 32)⟩, ⟨3, (some 34), none, .faddr 0 (.s 3)⟩, ⟨4, (some 35), none, .load false 1 (.s 34)⟩, ⟨5, (some 36), none, .len (.s 35)⟩, ⟨6, (some 37), none, .bin .eql (.s 33) (.s 36)⟩, ⟨7, (some 4), none, .mv (.s 37)⟩] [] (some [4]))
  .ret))) }
/-- kerbstone/kerbstoneref07.Tail -/
abbrev f_kerbstoneref07_Tail : Nat := 24
def c_kerbstoneref07_Tail : CFn := { frz := true, rnd := none, nargs := 1, ntmps := 16, res := [(.cell 2 true 1)], code :=
  (.seq (.region 2 [⟨0, (some 1), none, .box 0 1 (.s 0)⟩, ⟨1, (some 2), none, .box 1 1 (.k (.a [.nilslice]))⟩] [] (some [1, 2]))
  (.seq (.seq (.region 0 [⟨0, (some 3), none, .faddr 0 (.s 1)⟩, ⟨1, (some 4), none, .load false 1 (.s 3)⟩, ⟨2, (some 5), none, .len (.s 4)⟩, ⟨3, (some 6), none, .bin .gtr (.s 5) (.k (.c (.int .i64 1)))⟩] [] (some [6, 1, 2]))
  (.cond (.s 6) (.seq (.region 0 [⟨0, (some 7), none, .faddr 0 (.s 1)⟩, ⟨1, (some 8), none, .load false 1 (.s 7)⟩, ⟨2, (some 9), none, .slice 1 (.s 8) (some (.k (.c (.int .i64 1)))) none none⟩, ⟨3, (some 10), none, .append 1 8 (.k (.c .nilslice)) (.s 9)⟩, ⟨4, (some 11), none, .build [.nilslice] [(0, 1, (.s 10))]⟩, ⟨5, none, none, .store 1 (.s 2) (.s 11)⟩] [] (some [2]))
  .ret)
  .skip))
  (.seq (.region 0 [⟨0, (some 12), none, .faddr 0 (.s 1)⟩, ⟨1, (some 13), none, .load false 1 (.s 12)⟩, ⟨2, (some 14), none, .append 1 8 (.k (.c .nilslice)) (.s 13)⟩, ⟨3, (some 15), none, .build [.nilslice] [(0, 1, (.s 14))]⟩, ⟨4, none, none, .store 1 (.s 2) (.s 15)⟩] [] (some [2]))
  .ret))) }
/-- kerbstone/plan.Same -/
abbrev f_plan_Same : Nat := 25
def c_plan_Same : CFn := { frz := true, rnd := none, nargs := 2, ntmps := 10, res := [(.slot 4)], code :=
  (.seq (.region 2 [⟨0, (some 2), none, .box 0 1 (.s 0)⟩, ⟨1, (some 3), none, .box 1 1 (.s 1)⟩, ⟨2, (some 4), none, .mv (.k (.c (.bool false)))⟩] [] (some [2, 3]))
  (.seq (.region 0 [⟨0, (some 5), none, .faddr 0 (.s 2)⟩, ⟨1, (some 6), none, .load false 1 (.s 5)⟩, ⟨2, (some 7), none, .faddr 0 (.s 3)⟩, ⟨3, (some 8), none, .load false 1 (.s 7)⟩, ⟨4, (some 9), none, .call ⟨true⟩ (.k (.c (.fn 37 [] []))) [(.s 6), (.s 8)]⟩, ⟨5, (some 4), none, .mv (.s 9)⟩] [] (some [4]))
  .ret)) }
/-- kerbstone/kerbstonelaw07.car -/
abbrev f_kerbstonelaw07_car : Nat := 26
def c_kerbstonelaw07_car : CFn := { frz := true, rnd := none, nargs := 0, ntmps := 2, res := [(.cell 0 true 5)], code :=
  (.seq (.region 1 [⟨0, (some 0), none, .box 0 5 (.k (.a [(.int .i64 0), (.int .i64 0), (.int .i64 0), (.int .i64 0), (.int .i64 0)]))⟩] [] (some [0]))
  (.seq (.region 0 [⟨0, (some 1), none, .build [(.int .i64 0), (.int .i64 0), (.int .i64 0), (.int .i64 0), (.int .i64 0)] [(0, 1, (.k (.c (.int .i64 4000)))), (1, 1, (.k (.c (.int .i64 20)))), (2, 1, (.k (.c (.int .i64 60)))), (3, 1, (.k (.c (.int .i64 30)))), (4, 1, (.k (.c (.int .i64 1))))]⟩, ⟨1, none, none, .store 5 (.s 0) (.s 1)⟩] [] (some [0]))
  .ret)) }
/-- kerbstone/kerbstonelaw07.acts -/
abbrev f_kerbstonelaw07_acts : Nat := 27
def c_kerbstonelaw07_acts : CFn := { frz := true, rnd := none, nargs := 1, ntmps := 5, res := [(.cell 2 true 1)], code :=
  (.seq (.region 1 [⟨0, (some 2), none, .box 0 1 (.k (.a [.nilslice]))⟩] [] (some [0, 2]))
  (.seq (.region 0 [⟨0, (some 3), none, .mv (.s 0)⟩, ⟨1, (some 4), none, .build [.nilslice] [(0, 1, (.s 3))]⟩, ⟨2, none, none, .store 1 (.s 2) (.s 4)⟩] [] (some [2]))
  .ret)) }
/-- kerbstone/plan.Ramp -/
abbrev f_plan_Ramp : Nat := 28
def c_plan_Ramp : CFn := { frz := true, rnd := none, nargs := 3, ntmps := 18, res := [(.slot 6)], code :=
  (.seq (.region 1 [⟨0, (some 3), none, .box 0 5 (.s 0)⟩, ⟨1, (some 6), none, .mv (.k (.c (.int .i64 0)))⟩] [] (some [2, 1, 3]))
  (.seq (.seq (.region 0 [⟨0, (some 8), none, .load true 5 (.s 3)⟩, ⟨1, (some 9), none, .call ⟨true⟩ (.k (.c (.fn 17 [] []))) [(.s 8)]⟩, ⟨2, (some 10), none, .bin .neq (.s 9) (.k (.c (.int .i64 0)))⟩] [] (some [10, 2, 1, 3]))
  (.cond (.s 10) (.seq (.region 0 [⟨0, (some 6), none, .mv (.k (.c (.int .i64 0)))⟩] [] (some [6]))
  .ret)
  .skip))
  (.seq (.region 1 [⟨0, (some 11), none, .load true 5 (.s 3)⟩, ⟨1, (some 12), none, .mv (.s 1)⟩, ⟨2, (some 13), none, .build [(.int .i64 0), (.int .i64 0), (.int .i64 0), (.int .i64 0), (.int .i64 0), (.int .i64 0), (.int .i64 0), .nilslice] [(0, 5, (.s 11)), (5, 1, (.s 12))]⟩, ⟨3, (some 14), none, .box 0 8 (.s 13)⟩, ⟨4, (some 7), none, .mv (.s 14)⟩] [] (some [7, 2]))
  (.seq (.region 0 [⟨0, (some 15), none, .mv (.s 7)⟩, ⟨1, (some 16), none, .mv (.s 2)⟩, ⟨2, (some 17), none, .call ⟨true⟩ (.k (.c (.fn 38 [] []))) [(.s 15), (.s 16)]⟩, ⟨3, (some 6), none, .mv (.s 17)⟩] [] (some [6]))
  .ret)))) }
/-- kerbstone/kerbstoneref07.ramp -/
abbrev f_kerbstoneref07_ramp : Nat := 29
def c_kerbstoneref07_ramp : CFn := { frz := true, rnd := none, nargs := 3, ntmps := 34, res := [(.slot 6)], code :=
  (.seq (.region 1 [⟨0, (some 3), none, .box 0 5 (.s 0)⟩, ⟨1, (some 6), none, .mv (.k (.c (.int .i64 0)))⟩] [] (some [1, 2, 3]))
  (.seq (.region 0 [⟨0, (some 7), none, .faddr 2 (.s 3)⟩, ⟨3, (some 10), none, .mv (.s 1)⟩, ⟨4, (some 11), none, .faddr 1 (.s 3)⟩, ⟨8, (some 15), none, .faddr 2 (.s 3)⟩, ⟨11, (some 18), none, .mv (.s 2)⟩, ⟨12, (some 19), none, .faddr 1 (.s 3)⟩, ⟨1, (some 8), none, .load false 1 (.s 7)⟩, ⟨2, (some 9), none, .un .neg (.s 8)⟩, ⟨5, (some 12), none, .load false 1 (.s 11)⟩, ⟨9, (some 16), none, .load false 1 (.s 15)⟩, ⟨10, (some 17), none, .un .neg (.s 16)⟩, ⟨13, (some 20), none, .load false 1 (.s 19)⟩, ⟨6, (some 13), none, .minmax false [(.s 10), (.s 12)]⟩, ⟨7, (some 14), none, .minmax true [(.s 9), (.s 13)]⟩, ⟨16, (some 1), none, .mv (.s 14)⟩, ⟨14, (some 21), none, .minmax false [(.s 18), (.s 20)]⟩, ⟨15, (some 22), none, .minmax true [(.s 17), (.s 21)]⟩, ⟨17, (some 2), none, .mv (.s 22)⟩] [] (some [2, 1, 3]))
  (.seq (.region 0 [⟨0, (some 23), none, .mv (.s 1)⟩, ⟨1, (some 24), none, .faddr 3 (.s 3)⟩, ⟨2, (some 25), none, .load false 1 (.s 24)⟩, ⟨3, (some 26), none, .bin .sub (.s 23) (.s 25)⟩, ⟨4, (some 27), none, .mv (.s 2)⟩, ⟨5, (some 28), none, .mv (.s 1)⟩, ⟨6, (some 29), none, .faddr 3 (.s 3)⟩, ⟨7, (some 30), none, .load false 1 (.s 29)⟩, ⟨8, (some 31), none, .bin .add (.s 28) (.s 30)⟩, ⟨9, (some 32), none, .minmax false [(.s 27), (.s 31)]⟩, ⟨10, (some 33), none, .minmax true [(.s 26), (.s 32)]⟩, ⟨11, (some 6), none, .mv (.s 33)⟩] [] (some [6]))
  .ret))) }
def c_plan_profile_l1 : CC := (.seq (.region 0 [⟨0, (some 30), none, .bin .lss (.s 29) (.s 28)⟩] [] (some [30, 29, 28, 6, 5, 12, 4, 27, 13]))
  (.seq (.cond (.s 30) .skip
  (.exit 0))
  (.seq (.block 1 (.seq (.region 0 [⟨0, (some 31), none, .iaddr 1 (.s 27) (.s 29)⟩, ⟨1, (some 32), none, .load false 1 (.s 31)⟩, ⟨2, (some 15), none, .mv (.s 32)⟩] [] (some [15, 29, 28, 6, 5, 12, 4, 27, 13]))
  (.region 0 [⟨0, (some 33), none, .mv (.s 13)⟩, ⟨1, (some 34), none, .mv (.s 15)⟩, ⟨2, (some 35), none, .call ⟨true⟩ (.k (.c (.fn 35 [] []))) [(.s 33), (.s 34)]⟩] [] (some [29, 28, 6, 5, 12, 4, 27, 13]))))
  (.region 0 [⟨0, (some 36), none, .bin .add (.s 29) (.k (.c (.int .i64 1)))⟩, ⟨1, (some 29), none, .mv (.s 36)⟩] [] (some [29, 28, 6, 5, 12, 4, 27, 13])))))
def c_plan_profile_l2 : CC := (.seq (.region 0 [⟨0, (some 41), none, .bin .lss (.s 40) (.s 39)⟩] [] (some [41, 40, 39, 12, 5, 13, 6]))
  (.seq (.cond (.s 41) .skip
  (.exit 2))
  (.seq (.block 3 (.region 0 [⟨0, (some 42), none, .mv (.s 13)⟩, ⟨1, (some 43), none, .mv (.s 13)⟩, ⟨2, (some 44), none, .faddr 1 (.s 6)⟩, ⟨3, (some 45), none, .load false 1 (.s 44)⟩, ⟨4, (some 46), none, .call ⟨true⟩ (.k (.c (.fn 38 [] []))) [(.s 43), (.s 45)]⟩, ⟨5, (some 47), none, .call ⟨true⟩ (.k (.c (.fn 35 [] []))) [(.s 42), (.s 46)]⟩] [] (some [40, 39, 12, 5, 13, 6])))
  (.region 0 [⟨0, (some 48), none, .bin .add (.s 40) (.k (.c (.int .i64 1)))⟩, ⟨1, (some 40), none, .mv (.s 48)⟩] [] (some [40, 39, 12, 5, 13, 6])))))
def c_plan_profile_l3 : CC := (.seq (.region 0 [⟨0, (some 53), none, .bin .lss (.s 52) (.s 51)⟩] [] (some [53, 52, 51, 12, 13]))
  (.seq (.cond (.s 53) .skip
  (.exit 4))
  (.seq (.block 5 (.region 0 [⟨0, (some 54), none, .mv (.s 13)⟩, ⟨1, (some 55), none, .mv (.s 13)⟩, ⟨2, (some 56), none, .call ⟨true⟩ (.k (.c (.fn 38 [] []))) [(.s 55), (.k (.c (.int .i64 0)))]⟩, ⟨3, (some 57), none, .call ⟨true⟩ (.k (.c (.fn 35 [] []))) [(.s 54), (.s 56)]⟩] [] (some [52, 51, 12, 13])))
  (.region 0 [⟨0, (some 58), none, .bin .add (.s 52) (.k (.c (.int .i64 1)))⟩, ⟨1, (some 52), none, .mv (.s 58)⟩] [] (some [52, 51, 12, 13])))))
/-- kerbstone/plan.profile -/
abbrev f_plan_profile : Nat := 30
def c_plan_profile : CFn := { frz := true, rnd := none, nargs := 6, ntmps := 66, res := [(.cell 12 true 1)], code :=
  (.seq (.region 2 [⟨0, (some 6), none, .box 0 5 (.s 0)⟩, ⟨1, (some 12), none, .box 1 1 (.k (.a [.nilslice]))⟩] [] (some [2, 3, 1, 6, 5, 12, 4]))
  (.seq (.region 1 [⟨0, (some 16), none, .load true 5 (.s 6)⟩, ⟨1, (some 17), none, .mv (.s 2)⟩, ⟨2, (some 18), none, .mv (.s 3)⟩, ⟨3, (some 19), none, .minmax false [(.s 18), (.k (.c (.int .i64 2000)))]⟩, ⟨4, (some 20), none, .minmax true [(.k (.c (.int .i64 0))), (.s 19)]⟩, ⟨5, (some 21), none, .build [(.int .i64 0), (.int .i64 0), (.int .i64 0), (.int .i64 0), (.int .i64 0), (.int .i64 0), (.int .i64 0), .nilslice] [(0, 5, (.s 16)), (5, 1, (.s 17)), (6, 1, (.s 20))]⟩, ⟨6, (some 22), none, .box 0 8 (.s 21)⟩, ⟨7, (some 13), none, .mv (.s 22)⟩] [] (some [1, 6, 5, 12, 4, 13]))
  (.seq (.seq (.region 0 [⟨0, (some 23), none, .mv (.s 1)⟩, ⟨1, (some 24), none, .mv (.s 1)⟩, ⟨2, (some 25), none, .len (.s 24)⟩, ⟨3, (some 26), none, .minmax false [(.s 25), (.k (.c (.int .i64 5)))]⟩, ⟨4, (some 27), none, .slice 1 (.s 23) none (some (.s 26)) none⟩, ⟨5, (some 28), none, .len (.s 27)⟩, ⟨6, (some 29), none, .mv (.k (.c (.int .i64 0)))⟩] [] (some [29, 28, 6, 5, 12, 4, 27, 13]))
  (.block 0 (.loop (some [29, 28, 6, 5, 12, 4, 27, 13]) c_plan_profile_l1)))
  (.seq (.seq (.region 0 [⟨0, (some 37), none, .mv (.s 4)⟩, ⟨1, (some 38), none, .minmax false [(.s 37), (.k (.c (.int .i64 20)))]⟩, ⟨2, (some 39), none, .minmax true [(.k (.c (.int .i64 0))), (.s 38)]⟩, ⟨3, (some 40), none, .mv (.k (.c (.int .i64 0)))⟩] [] (some [40, 39, 12, 5, 13, 6]))
  (.block 2 (.loop (some [40, 39, 12, 5, 13, 6]) c_plan_profile_l2)))
  (.seq (.seq (.region 0 [⟨0, (some 49), none, .mv (.s 5)⟩, ⟨1, (some 50), none, .minmax false [(.s 49), (.k (.c (.int .i64 20)))]⟩, ⟨2, (some 51), none, .minmax true [(.k (.c (.int .i64 0))), (.s 50)]⟩, ⟨3, (some 52), none, .mv (.k (.c (.int .i64 0)))⟩] [] (some [52, 51, 12, 13]))
  (.block 4 (.loop (some [52, 51, 12, 13]) c_plan_profile_l3)))
  (.seq (.region 0 [⟨0, (some 59), none, .mv (.s 13)⟩, ⟨1, (some 60), none, .call ⟨true⟩ (.k (.c (.fn 34 [] []))) [(.s 59)]⟩] [] (some [13, 12]))
  (.seq (.region 0 [⟨0, (some 61), none, .mv (.s 13)⟩, ⟨1, (some 62), none, .nilck (.s 61)⟩, ⟨2, (some 63), none, .faddr 7 (.s 62)⟩, ⟨3, (some 64), none, .load false 1 (.s 63)⟩, ⟨4, (some 65), none, .build [.nilslice] [(0, 1, (.s 64))]⟩, ⟨5, none, none, .store 1 (.s 12) (.s 65)⟩] [] (some [12]))
  .ret))))))) }
/-- slices.ContainsFunc[[]int64,int64] -/
abbrev f_slices_ContainsFunc_int64 : Nat := 31
def c_slices_ContainsFunc_int64 : CFn := { frz := true, rnd := none, nargs := 2, ntmps := 9, res := [(.slot 4)], code :=
  (.seq (.region 0 [⟨0, (some 4), none, .mv (.k (.c (.bool false)))⟩] [] (some [0, 1]))
  (.seq (.region 0 [⟨0, (some 5), none, .mv (.s 0)⟩, ⟨1, (some 6), none, .mv (.s 1)⟩, ⟨2, (some 7), none, .call ⟨true⟩ (.k (.c (.fn 39 [] []))) [(.s 5), (.s 6)]⟩, ⟨3, (some 8), none, .bin .geq (.s 7) (.k (.c (.int .i64 0)))⟩, ⟨4, (some 4), none, .mv (.s 8)⟩] [] (some [4]))
  .ret)) }
/-- kerbstone/plan.Check$1 -/
abbrev f_plan_Check_1 : Nat := 32
def c_plan_Check_1 : CFn := { frz := true, rnd := none, nargs := 2, ntmps := 12, res := [(.slot 3)], code :=
  (.seq (.region 0 [⟨0, (some 3), none, .mv (.k (.c (.bool false)))⟩] [] (some [0, 1]))
  (.seq (.region 0 [⟨0, (some 4), none, .mv (.s 0)⟩, ⟨1, (some 5), none, .faddr 2 (.s 1)⟩, ⟨2, (some 6), none, .load false 1 (.s 5)⟩, ⟨3, (some 7), none, .un .neg (.s 6)⟩, ⟨4, (some 8), none, .faddr 1 (.s 1)⟩, ⟨5, (some 9), none, .load false 1 (.s 8)⟩, ⟨6, (some 10), none, .call ⟨true⟩ (.k (.c (.fn 33 [] []))) [(.s 4), (.s 7), (.s 9)]⟩, ⟨7, (some 11), none, .un .not (.s 10)⟩, ⟨8, (some 3), none, .mv (.s 11)⟩] [] (some [3]))
  .ret)) }
/-- kerbstone/plan.within -/
abbrev f_plan_within : Nat := 33
def c_plan_within : CFn := { frz := true, rnd := none, nargs := 3, ntmps := 15, res := [(.slot 6)], code :=
  (.seq (.region 0 [⟨0, (some 6), none, .mv (.k (.c (.bool false)))⟩] [] (some [1, 0, 2]))
  (.seq (.region 0 [⟨0, (some 7), none, .mv (.s 1)⟩, ⟨1, (some 8), none, .mv (.s 0)⟩, ⟨2, (some 9), none, .bin .leq (.s 7) (.s 8)⟩, ⟨3, (some 10), none, .mv (.s 9)⟩, ⟨4, (some 11), (some (10, true)), .mv (.s 0)⟩, ⟨5, (some 12), (some (10, true)), .mv (.s 2)⟩, ⟨6, (some 13), (some (10, true)), .bin .leq (.s 11) (.s 12)⟩, ⟨7, (some 14), none, .pick (.s 10) (.s 13) (.k (.c (.bool false)))⟩, ⟨8, (some 6), none, .mv (.s 14)⟩] [] (some [6]))
  .ret)) }
def c_plan_driver_stop_l1 : CC := (.seq (.seq (.region 0 [⟨0, (some 3), none, .mv (.s 2)⟩, ⟨1, (some 4), none, .mv (.s 3)⟩, ⟨2, (some 5), (some (4, false)), .mv (.s 0)⟩, ⟨3, (some 6), (some (4, false)), .nilck (.s 5)⟩, ⟨4, (some 7), (some (4, false)), .faddr 6 (.s 6)⟩, ⟨5, (some 8), (some (4, false)), .load false 1 (.s 7)⟩, ⟨6, (some 9), (some (4, false)), .bin .gtr (.s 8) (.k (.c (.int .i64 0)))⟩, ⟨7, (some 10), none, .pick (.s 4) (.k (.c (.bool true))) (.s 9)⟩, ⟨8, (some 11), none, .mv (.s 10)⟩, ⟨9, (some 12), (some (11, false)), .mv (.s 0)⟩, ⟨10, (some 13), (some (11, false)), .nilck (.s 12)⟩, ⟨11, (some 14), (some (11, false)), .faddr 5 (.s 13)⟩, ⟨12, (some 15), (some (11, false)), .load false 1 (.s 14)⟩, ⟨13, (some 16), (some (11, false)), .bin .gtr (.s 15) (.k (.c (.int .i64 0)))⟩, ⟨14, (some 17), none, .pick (.s 11) (.k (.c (.bool true))) (.s 16)⟩] [] (some [17, 0]))
  (.cond (.s 17) .skip
  (.exit 0)))
  (.seq (.block 1 (.region 0 [⟨0, (some 18), none, .mv (.s 0)⟩, ⟨1, (some 19), none, .mv (.s 0)⟩, ⟨2, (some 20), none, .mv (.s 0)⟩, ⟨3, (some 21), none, .nilck (.s 20)⟩, ⟨4, (some 22), none, .faddr 0 (.s 21)⟩, ⟨5, (some 23), none, .faddr 2 (.s 22)⟩, ⟨6, (some 24), none, .load false 1 (.s 23)⟩, ⟨7, (some 25), none, .un .neg (.s 24)⟩, ⟨8, (some 26), none, .call ⟨true⟩ (.k (.c (.fn 38 [] []))) [(.s 19), (.s 25)]⟩, ⟨9, (some 27), none, .call ⟨true⟩ (.k (.c (.fn 35 [] []))) [(.s 18), (.s 26)]⟩] [] (some [0])))
  (.region 0 [⟨0, (some 2), none, .mv (.k (.c (.bool false)))⟩] [] (some [2, 0]))))
/-- (*kerbstone/plan.driver).stop -/
abbrev f_plan_driver_stop : Nat := 34
def c_plan_driver_stop : CFn := { frz := true, rnd := none, nargs := 1, ntmps := 28, res := [], code :=
  (.seq (.region 0 [⟨0, (some 2), none, .mv (.k (.c (.bool true)))⟩] [] (some [2, 0]))
  (.block 0 (.loop (some [2, 0]) c_plan_driver_stop_l1))) }
/-- (*kerbstone/plan.driver).do -/
abbrev f_plan_driver_do : Nat := 35
def c_plan_driver_do : CFn := { frz := true, rnd := none, nargs := 2, ntmps := 31, res := [], code :=
  (.seq (.region 0 [⟨0, (some 4), none, .mv (.s 0)⟩, ⟨1, (some 5), none, .mv (.s 1)⟩, ⟨2, (some 6), none, .nilck (.s 4)⟩, ⟨3, (some 7), none, .faddr 5 (.s 6)⟩, ⟨4, none, none, .store 1 (.s 7) (.s 5)⟩] [] (some [0, 1]))
  (.seq (.region 0 [⟨0, (some 8), none, .mv (.s 0)⟩, ⟨1, (some 9), none, .mv (.s 0)⟩, ⟨2, (some 10), none, .nilck (.s 9)⟩, ⟨3, (some 11), none, .faddr 6 (.s 10)⟩, ⟨4, (some 12), none, .load false 1 (.s 11)⟩, ⟨5, (some 13), none, .mv (.s 1)⟩, ⟨6, (some 14), none, .minmax false [(.s 13), (.k (.c (.int .i64 2000)))]⟩, ⟨7, (some 15), none, .minmax true [(.k (.c (.int .i64 (-2000)))), (.s 14)]⟩, ⟨8, (some 16), none, .bin .add (.s 12) (.s 15)⟩, ⟨9, (some 17), none, .minmax true [(.s 16), (.k (.c (.int .i64 0)))]⟩, ⟨10, (some 18), none, .minmax false [(.s 17), (.k (.c (.int .i64 2000)))]⟩, ⟨11, (some 19), none, .nilck (.s 8)⟩, ⟨12, (some 20), none, .faddr 6 (.s 19)⟩, ⟨13, none, none, .store 1 (.s 20) (.s 18)⟩] [] (some [0, 1]))
  (.region 1 [⟨0, (some 21), none, .mv (.s 0)⟩, ⟨1, (some 22), none, .mv (.s 0)⟩, ⟨2, (some 23), none, .nilck (.s 22)⟩, ⟨3, (some 24), none, .faddr 7 (.s 23)⟩, ⟨4, (some 25), none, .load false 1 (.s 24)⟩, ⟨5, (some 26), none, .mv (.s 1)⟩, ⟨6, (some 27), none, .lit 0 1 [[(.int .i64 0)]] [(0, (.s 26))]⟩, ⟨7, (some 28), none, .append 1 8 (.s 25) (.s 27)⟩, ⟨8, (some 29), none, .nilck (.s 21)⟩, ⟨9, (some 30), none, .faddr 7 (.s 29)⟩, ⟨10, none, none, .store 1 (.s 30) (.s 28)⟩] [] (some [])))) }
/-- slices.Clone[[]int64,int64] -/
abbrev f_slices_Clone_int64 : Nat := 36
def c_slices_Equal_int64_l1 : CC := (.seq (.region 0 [⟨0, (some 14), none, .bin .lss (.s 13) (.s 12)⟩] [] (some [14, 1, 0, 12, 13]))
  (.seq (.cond (.s 14) .skip
  (.exit 0))
  (.seq (.block 1 (.seq (.region 0 [⟨0, (some 15), none, .mv (.s 13)⟩, ⟨1, (some 5), none, .mv (.s 15)⟩] [] (some [5, 1, 0, 12, 13]))
  (.seq (.region 0 [⟨0, (some 16), none, .mv (.s 0)⟩, ⟨1, (some 17), none, .mv (.s 5)⟩, ⟨2, (some 18), none, .iaddr 1 (.s 16) (.s 17)⟩, ⟨4, (some 20), none, .mv (.s 1)⟩, ⟨5, (some 21), none, .mv (.s 5)⟩, ⟨6, (some 22), none, .iaddr 1 (.s 20) (.s 21)⟩, ⟨3, (some 19), none, .load false 1 (.s 18)⟩, ⟨7, (some 23), none, .load false 1 (.s 22)⟩, ⟨8, (some 24), none, .bin .neq (.s 19) (.s 23)⟩] [] (some [24, 1, 0, 12, 13]))
  (.cond (.s 24) (.seq (.region 0 [⟨0, (some 4), none, .mv (.k (.c (.bool false)))⟩] [] (some [4]))
  .ret)
  .skip))))
  (.region 0 [⟨0, (some 25), none, .bin .add (.s 13) (.k (.c (.int .i64 1)))⟩, ⟨1, (some 13), none, .mv (.s 25)⟩] [] (some [12, 0, 1, 13])))))
/-- slices.Equal[[]int64,int64] -/
abbrev f_slices_Equal_int64 : Nat := 37
def c_slices_Equal_int64 : CFn := { frz := true, rnd := none, nargs := 2, ntmps := 26, res := [(.slot 4)], code :=
  (.seq (.region 0 [⟨0, (some 4), none, .mv (.k (.c (.bool false)))⟩] [] (some [1, 0]))
  (.seq (.seq (.region 0 [⟨0, (some 6), none, .mv (.s 0)⟩, ⟨1, (some 7), none, .len (.s 6)⟩, ⟨2, (some 8), none, .mv (.s 1)⟩, ⟨3, (some 9), none, .len (.s 8)⟩, ⟨4, (some 10), none, .bin .neq (.s 7) (.s 9)⟩] [] (some [10, 1, 0]))
  (.cond (.s 10) (.seq (.region 0 [⟨0, (some 4), none, .mv (.k (.c (.bool false)))⟩] [] (some [4]))
  .ret)
  .skip))
  (.seq (.seq (.region 0 [⟨0, (some 11), none, .mv (.s 0)⟩, ⟨1, (some 12), none, .len (.s 11)⟩, ⟨2, (some 13), none, .mv (.k (.c (.int .i64 0)))⟩] [] (some [12, 0, 1, 13]))
  (.block 0 (.loop (some [12, 0, 1, 13]) c_slices_Equal_int64_l1)))
  (.seq (.region 0 [⟨0, (some 4), none, .mv (.k (.c (.bool true)))⟩] [] (some [4]))
  .ret)))) }
/-- (*kerbstone/plan.driver).ramp -/
abbrev f_plan_driver_ramp : Nat := 38
def c_plan_driver_ramp : CFn := { frz := true, rnd := none, nargs := 2, ntmps := 31, res := [(.slot 4)], code :=
  (.seq (.region 0 [⟨0, (some 4), none, .mv (.k (.c (.int .i64 0)))⟩] [] (some [1, 0]))
  (.seq (.region 0 [⟨0, (some 6), none, .mv (.s 0)⟩, ⟨1, (some 7), none, .mv (.s 0)⟩, ⟨2, (some 8), none, .nilck (.s 7)⟩, ⟨3, (some 9), none, .faddr 5 (.s 8)⟩, ⟨4, (some 10), none, .load false 1 (.s 9)⟩, ⟨5, (some 11), none, .call ⟨true⟩ (.k (.c (.fn 40 [] []))) [(.s 6), (.s 10)]⟩, ⟨6, (some 5), none, .mv (.s 11)⟩] [] (some [1, 5, 0]))
  (.seq (.region 0 [⟨0, (some 12), none, .mv (.s 5)⟩, ⟨1, (some 13), none, .mv (.s 0)⟩, ⟨2, (some 14), none, .nilck (.s 13)⟩, ⟨3, (some 15), none, .faddr 0 (.s 14)⟩, ⟨4, (some 16), none, .faddr 3 (.s 15)⟩, ⟨7, (some 19), none, .mv (.s 0)⟩, ⟨8, (some 20), none, .mv (.s 1)⟩, ⟨10, (some 22), none, .mv (.s 5)⟩, ⟨11, (some 23), none, .mv (.s 0)⟩, ⟨12, (some 24), none, .nilck (.s 23)⟩, ⟨13, (some 25), none, .faddr 0 (.s 24)⟩, ⟨14, (some 26), none, .faddr 3 (.s 25)⟩, ⟨5, (some 17), none, .load false 1 (.s 16)⟩, ⟨6, (some 18), none, .bin .sub (.s 12) (.s 17)⟩, ⟨15, (some 27), none, .load false 1 (.s 26)⟩, ⟨16, (some 28), none, .bin .add (.s 22) (.s 27)⟩, ⟨9, (some 21), none, .call ⟨true⟩ (.k (.c (.fn 40 [] []))) [(.s 19), (.s 20)]⟩, ⟨17, (some 29), none, .minmax false [(.s 21), (.s 28)]⟩, ⟨18, (some 30), none, .minmax true [(.s 18), (.s 29)]⟩, ⟨19, (some 4), none, .mv (.s 30)⟩] [(12, 16), (14, 16)] (some [4]))
  .ret))) }
def c_slices_IndexFunc_int64_l1 : CC := (.seq (.region 0 [⟨0, (some 9), none, .bin .lss (.s 8) (.s 7)⟩] [] (some [9, 0, 1, 7, 8]))
  (.seq (.cond (.s 9) .skip
  (.exit 0))
  (.seq (.block 1 (.seq (.region 0 [⟨0, (some 10), none, .mv (.s 8)⟩, ⟨1, (some 5), none, .mv (.s 10)⟩] [] (some [0, 1, 7, 8, 5]))
  (.seq (.region 0 [⟨0, (some 11), none, .mv (.s 1)⟩, ⟨1, (some 12), none, .mv (.s 0)⟩, ⟨2, (some 13), none, .mv (.s 5)⟩, ⟨3, (some 14), none, .iaddr 1 (.s 12) (.s 13)⟩, ⟨4, (some 15), none, .load false 1 (.s 14)⟩, ⟨5, (some 16), none, .call ⟨true⟩ (.s 11) [(.s 15)]⟩] [] (some [16, 0, 1, 7, 8, 5]))
  (.cond (.s 16) (.seq (.region 0 [⟨0, (some 17), none, .mv (.s 5)⟩, ⟨1, (some 4), none, .mv (.s 17)⟩] [] (some [4]))
  .ret)
  .skip))))
  (.region 0 [⟨0, (some 18), none, .bin .add (.s 8) (.k (.c (.int .i64 1)))⟩, ⟨1, (some 8), none, .mv (.s 18)⟩] [] (some [7, 1, 0, 8])))))
/-- slices.IndexFunc[[]int64,int64] -/
abbrev f_slices_IndexFunc_int64 : Nat := 39
def c_slices_IndexFunc_int64 : CFn := { frz := true, rnd := none, nargs := 2, ntmps := 19, res := [(.slot 4)], code :=
  (.seq (.region 0 [⟨0, (some 4), none, .mv (.k (.c (.int .i64 0)))⟩] [] (some [1, 0]))
  (.seq (.seq (.region 0 [⟨0, (some 6), none, .mv (.s 0)⟩, ⟨1, (some 7), none, .len (.s 6)⟩, ⟨2, (some 8), none, .mv (.k (.c (.int .i64 0)))⟩] [] (some [7, 1, 0, 8]))
  (.block 0 (.loop (some [7, 1, 0, 8]) c_slices_IndexFunc_int64_l1)))
  (.seq (.region 0 [⟨0, (some 4), none, .mv (.k (.c (.int .i64 (-1))))⟩] [] (some [4]))
  .ret))) }
/-- (*kerbstone/plan.driver).clip -/
abbrev f_plan_driver_clip : Nat := 40
def c_plan_driver_clip : CFn := { frz := true, rnd := none, nargs := 2, ntmps := 19, res := [(.slot 4)], code :=
  (.seq (.region 0 [⟨0, (some 4), none, .mv (.k (.c (.int .i64 0)))⟩] [] (some [1, 0]))
  (.seq (.region 0 [⟨0, (some 5), none, .mv (.s 0)⟩, ⟨1, (some 6), none, .nilck (.s 5)⟩, ⟨2, (some 7), none, .faddr 0 (.s 6)⟩, ⟨3, (some 8), none, .faddr 2 (.s 7)⟩, ⟨6, (some 11), none, .mv (.s 1)⟩, ⟨7, (some 12), none, .mv (.s 0)⟩, ⟨8, (some 13), none, .nilck (.s 12)⟩, ⟨9, (some 14), none, .faddr 0 (.s 13)⟩, ⟨10, (some 15), none, .faddr 1 (.s 14)⟩, ⟨4, (some 9), none, .load false 1 (.s 8)⟩, ⟨5, (some 10), none, .un .neg (.s 9)⟩, ⟨11, (some 16), none, .load false 1 (.s 15)⟩, ⟨12, (some 17), none, .minmax false [(.s 11), (.s 16)]⟩, ⟨13, (some 18), none, .minmax true [(.s 10), (.s 17)]⟩, ⟨14, (some 4), none, .mv (.s 18)⟩] [] (some [4]))
  .ret)) }
def Cs : List (Nat × Nat × Nat × Bool) := [(36, 1, 8, false)]
def L : List (Nat × CFn) := [(3, c_kerbstonelaw07_PlanValid), (4, c_kerbstonelaw07_PlanStops), (5, c_kerbstonelaw07_PlanChecks), (7, c_kerbstonelaw07_made), (8, c_kerbstonelaw07_awake), (9, c_kerbstoneref07_Ramp), (10, c_plan_Candidates), (11, c_plan_Profile), (12, c_plan_Check), (13, c_kerbstonekit_SameLongs), (14, c_kerbstonekit_Mod64), (15, c_plan_Stops), (16, c_plan_Way), (17, c_plan_CheckCar), (18, c_kerbstoneref07_CheckCar), (19, c_kerbstoneref07_Check), (20, c_plan_Act), (21, c_kerbstoneref07_Act), (22, c_plan_Tail), (23, c_kerbstoneref07_Same), (24, c_kerbstoneref07_Tail), (25, c_plan_Same), (26, c_kerbstonelaw07_car), (27, c_kerbstonelaw07_acts), (28, c_plan_Ramp), (29, c_kerbstoneref07_ramp), (30, c_plan_profile), (31, c_slices_ContainsFunc_int64), (32, c_plan_Check_1), (33, c_plan_within), (34, c_plan_driver_stop), (35, c_plan_driver_do), (37, c_slices_Equal_int64), (38, c_plan_driver_ramp), (39, c_slices_IndexFunc_int64), (40, c_plan_driver_clip)]
theorem F_kerbstonelaw07_PlanValid : L.lookup 3 = some c_kerbstonelaw07_PlanValid := by kernel_rfl
theorem F_kerbstonelaw07_PlanStops : L.lookup 4 = some c_kerbstonelaw07_PlanStops := by kernel_rfl
theorem F_kerbstonelaw07_PlanChecks : L.lookup 5 = some c_kerbstonelaw07_PlanChecks := by kernel_rfl
theorem F_kerbstonelaw07_made : L.lookup 7 = some c_kerbstonelaw07_made := by kernel_rfl
theorem F_kerbstonelaw07_awake : L.lookup 8 = some c_kerbstonelaw07_awake := by kernel_rfl
theorem F_kerbstoneref07_Ramp : L.lookup 9 = some c_kerbstoneref07_Ramp := by kernel_rfl
theorem F_plan_Candidates : L.lookup 10 = some c_plan_Candidates := by kernel_rfl
theorem F_plan_Profile : L.lookup 11 = some c_plan_Profile := by kernel_rfl
theorem F_plan_Check : L.lookup 12 = some c_plan_Check := by kernel_rfl
theorem F_kerbstonekit_SameLongs : L.lookup 13 = some c_kerbstonekit_SameLongs := by kernel_rfl
theorem F_kerbstonekit_Mod64 : L.lookup 14 = some c_kerbstonekit_Mod64 := by kernel_rfl
theorem F_plan_Stops : L.lookup 15 = some c_plan_Stops := by kernel_rfl
theorem F_plan_Way : L.lookup 16 = some c_plan_Way := by kernel_rfl
theorem F_plan_CheckCar : L.lookup 17 = some c_plan_CheckCar := by kernel_rfl
theorem F_kerbstoneref07_CheckCar : L.lookup 18 = some c_kerbstoneref07_CheckCar := by kernel_rfl
theorem F_kerbstoneref07_Check : L.lookup 19 = some c_kerbstoneref07_Check := by kernel_rfl
theorem F_plan_Act : L.lookup 20 = some c_plan_Act := by kernel_rfl
theorem F_kerbstoneref07_Act : L.lookup 21 = some c_kerbstoneref07_Act := by kernel_rfl
theorem F_plan_Tail : L.lookup 22 = some c_plan_Tail := by kernel_rfl
theorem F_kerbstoneref07_Same : L.lookup 23 = some c_kerbstoneref07_Same := by kernel_rfl
theorem F_kerbstoneref07_Tail : L.lookup 24 = some c_kerbstoneref07_Tail := by kernel_rfl
theorem F_plan_Same : L.lookup 25 = some c_plan_Same := by kernel_rfl
theorem F_kerbstonelaw07_car : L.lookup 26 = some c_kerbstonelaw07_car := by kernel_rfl
theorem F_kerbstonelaw07_acts : L.lookup 27 = some c_kerbstonelaw07_acts := by kernel_rfl
theorem F_plan_Ramp : L.lookup 28 = some c_plan_Ramp := by kernel_rfl
theorem F_kerbstoneref07_ramp : L.lookup 29 = some c_kerbstoneref07_ramp := by kernel_rfl
theorem F_plan_profile : L.lookup 30 = some c_plan_profile := by kernel_rfl
theorem F_slices_ContainsFunc_int64 : L.lookup 31 = some c_slices_ContainsFunc_int64 := by kernel_rfl
theorem F_plan_Check_1 : L.lookup 32 = some c_plan_Check_1 := by kernel_rfl
theorem F_plan_within : L.lookup 33 = some c_plan_within := by kernel_rfl
theorem F_plan_driver_stop : L.lookup 34 = some c_plan_driver_stop := by kernel_rfl
theorem F_plan_driver_do : L.lookup 35 = some c_plan_driver_do := by kernel_rfl
theorem F_slices_Equal_int64 : L.lookup 37 = some c_slices_Equal_int64 := by kernel_rfl
theorem F_plan_driver_ramp : L.lookup 38 = some c_plan_driver_ramp := by kernel_rfl
theorem F_slices_IndexFunc_int64 : L.lookup 39 = some c_slices_IndexFunc_int64 := by kernel_rfl
theorem F_plan_driver_clip : L.lookup 40 = some c_plan_driver_clip := by kernel_rfl
end Go.PlanRun
