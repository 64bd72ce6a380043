/- This text lists functions of this seat's program, compiled for the evaluator; no condition. -/
import Derived.Test.YtoeljnnolbplaaaGreatEvl3
import Derived.KernelRfl
set_option linter.unusedVariables false
namespace Go.TrRun
open Go Go.Eng
def an : Ann := anOf [81, 136, 153, 155, 185, 186, 187, 188, 189, 190, 191, 192, 202, 211, 214, 215, 216, 217, 218, 219, 220] [78, 153]
/-- kerbstone/kerbstonelaw05.TrackOwns -/
abbrev f_kerbstonelaw05_TrackOwns : Nat := 3
def c_kerbstonelaw05_TrackOwns : CFn := { frz := true, rnd := none, nargs := 4, ntmps := 44, res := [(.slot 8)], code :=
  (.seq (.region 1 [⟨0, (some 7), none, .box 0 6 (.s 3)⟩, ⟨1, (some 8), none, .mv (.k (.c (.bool false)))⟩] [] (some [7, 2, 1, 0]))
  (.seq (.seq (.region 0 [⟨0, (some 11), none, .faddr 1 (.s 7)⟩, ⟨1, (some 12), none, .load false 1 (.s 11)⟩, ⟨2, (some 13), none, .len (.s 12)⟩, ⟨3, (some 14), none, .bin .gtr (.s 13) (.k (.c (.int .i64 12)))⟩, ⟨4, (some 15), none, .mv (.s 14)⟩, ⟨5, (some 16), (some (15, false)), .mv (.s 1)⟩, ⟨6, (some 17), (some (15, false)), .len (.s 16)⟩, ⟨7, (some 18), (some (15, false)), .bin .gtr (.s 17) (.k (.c (.int .i64 10)))⟩, ⟨8, (some 19), none, .pick (.s 15) (.k (.c (.bool true))) (.s 18)⟩] [] (some [19, 7, 2, 1, 0]))
  (.cond (.s 19) (.seq (.region 0 [⟨0, (some 20), none, .call ⟨true⟩ (.k (.c (.fn 8 [] []))) []⟩, ⟨1, (some 8), none, .mv (.s 20)⟩] [] (some [8]))
  .ret)
  .skip))
  (.seq (.region 1 [⟨0, (some 21), none, .mv (.s 0)⟩, ⟨1, (some 22), none, .call ⟨true⟩ (.k (.c (.fn 9 [] []))) [(.s 21)]⟩, ⟨2, (some 9), none, .box 0 5 (.k (.a [(.int .i64 0), .nilslice, .nilslice, .nilslice, .nilslice]))⟩, ⟨3, none, none, .store 5 (.s 9) (.s 22)⟩] [] (some [1, 2, 9, 7]))
  (.seq (.region 1 [⟨0, (some 23), none, .load true 6 (.s 7)⟩, ⟨1, (some 24), none, .call ⟨true⟩ (.k (.c (.fn 10 [] []))) [(.s 23)]⟩, ⟨2, (some 10), none, .box 0 6 (.k (.a [(.int .i64 0), .nilslice, (.int .i64 0), (.int .i64 0), (.int .i64 0), (.int .i64 0)]))⟩, ⟨3, none, none, .store 6 (.s 10) (.s 24)⟩] [] (some [1, 2, 9, 10, 7]))
  (.seq (.region 0 [⟨1, (some 26), none, .mv (.s 1)⟩, ⟨2, (some 27), none, .mv (.s 2)⟩, ⟨6, (some 31), none, .mv (.s 1)⟩, ⟨7, (some 32), none, .mv (.s 2)⟩, ⟨0, (some 25), none, .load true 5 (.s 9)⟩, ⟨3, (some 28), none, .load true 6 (.s 10)⟩, ⟨5, (some 30), none, .load true 5 (.s 9)⟩, ⟨8, (some 33), none, .load true 6 (.s 7)⟩, ⟨4, (some 29), none, .call ⟨true⟩ (.k (.c (.fn 12 [] []))) [(.s 25), (.s 26), (.s 27), (.s 28)]⟩, ⟨9, (some 34), none, .call ⟨true⟩ (.k (.c (.fn 13 [] []))) [(.s 30), (.s 31), (.s 32), (.s 33)]⟩, ⟨10, (some 35), none, .call ⟨true⟩ (.k (.c (.fn 11 [] []))) [(.s 29), (.s 34)]⟩, ⟨11, (some 36), none, .mv (.s 35)⟩, ⟨12, (some 37), (some (36, true)), .load true 6 (.s 10)⟩, ⟨13, (some 38), (some (36, true)), .load true 6 (.s 7)⟩, ⟨14, (some 39), (some (36, true)), .call ⟨true⟩ (.k (.c (.fn 11 [] []))) [(.s 37), (.s 38)]⟩, ⟨15, (some 40), none, .pick (.s 36) (.s 39) (.k (.c (.bool false)))⟩, ⟨16, (some 41), none, .mv (.s 40)⟩, ⟨17, (some 42), (some (41, true)), .call ⟨true⟩ (.k (.c (.fn 8 [] []))) []⟩, ⟨18, (some 43), none, .pick (.s 41) (.s 42) (.k (.c (.bool false)))⟩, ⟨19, (some 8), none, .mv (.s 43)⟩] [(6, 8), (7, 8)] (some [8]))
  .ret))))) }
/-- kerbstone/kerbstonelaw05.awake -/
abbrev f_kerbstonelaw05_awake : Nat := 8
def c_kerbstonelaw05_awake : CFn := { frz := true, rnd := none, nargs := 0, ntmps := 31, res := [(.slot 0)], code :=
  (.seq (.region 0 [⟨0, (some 0), none, .mv (.k (.c (.bool false)))⟩] [] (some []))
  (.seq (.region 1 [⟨0, (some 4), none, .build [(.int .i64 0), (.int .i64 0), (.int .i64 0), (.int .i64 0), (.int .i64 0), (.int .i64 0)] [(1, 1, (.k (.c (.int .i64 5)))), (2, 1, (.k (.c (.int .i64 9))))]⟩, ⟨1, (some 5), none, .build [(.int .i64 0), (.int .i64 0), (.int .i64 0), (.int .i64 0), (.int .i64 0), (.int .i64 0)] [(2, 1, (.k (.c (.int .i64 4))))]⟩, ⟨2, (some 6), none, .build [(.int .i64 0), (.int .i64 0), (.int .i64 0), (.int .i64 0), (.int .i64 0), (.int .i64 0)] [(1, 1, (.k (.c (.int .i64 11)))), (2, 1, (.k (.c (.int .i64 12))))]⟩, ⟨3, (some 7), none, .build [(.int .i64 0), (.int .i64 0), (.int .i64 0), (.int .i64 0), (.int .i64 0), (.int .i64 0)] [(1, 1, (.k (.c (.int .i64 20)))), (2, 1, (.k (.c (.int .i64 19))))]⟩, ⟨4, (some 8), none, .lit 0 6 [[(.int .i64 0), (.int .i64 0), (.int .i64 0), (.int .i64 0), (.int .i64 0), (.int .i64 0)], [(.int .i64 0), (.int .i64 0), (.int .i64 0), (.int .i64 0), (.int .i64 0), (.int .i64 0)], [(.int .i64 0), (.int .i64 0), (.int .i64 0), (.int .i64 0), (.int .i64 0), (.int .i64 0)], [(.int .i64 0), (.int .i64 0), (.int .i64 0), (.int .i64 0), (.int .i64 0), (.int .i64 0)]] [(0, (.s 4)), (1, (.s 5)), (2, (.s 6)), (3, (.s 7))]⟩, ⟨5, (some 9), none, .call ⟨true⟩ (.k (.c (.fn 36 [] []))) [(.s 8)]⟩, ⟨6, (some 1), none, .mv (.s 9)⟩] [] (some [1]))
  (.seq (.region 1 [⟨0, (some 10), none, .call ⟨true⟩ (.k (.c (.fn 37 [] []))) []⟩, ⟨1, (some 2), none, .box 0 5 (.k (.a [(.int .i64 0), .nilslice, .nilslice, .nilslice, .nilslice]))⟩, ⟨2, none, none, .store 5 (.s 2) (.s 10)⟩] [] (some [2, 1]))
  (.seq (.region 2 [⟨0, (some 11), none, .load true 5 (.s 2)⟩, ⟨2, (some 13), none, .load true 5 (.s 2)⟩, ⟨3, (some 14), none, .call ⟨true⟩ (.k (.c (.fn 38 [] []))) []⟩, ⟨4, (some 15), none, .call ⟨true⟩ (.k (.c (.fn 17 [] []))) [(.s 13), (.k (.c (.int .i64 0))), (.s 14)]⟩, ⟨1, (some 12), none, .lit 0 1 [[(.int .i64 0)]] [(0, (.k (.c (.int .i64 0))))]⟩, ⟨5, (some 16), none, .call ⟨true⟩ (.k (.c (.fn 12 [] []))) [(.s 11), (.s 12), (.k (.c (.int .i64 4000))), (.s 15)]⟩, ⟨6, (some 3), none, .box 1 6 (.k (.a [(.int .i64 0), .nilslice, (.int .i64 0), (.int .i64 0), (.int .i64 0), (.int .i64 0)]))⟩, ⟨7, none, none, .store 6 (.s 3) (.s 16)⟩] [(0, 2), (0, 3), (0, 4), (0, 6), (1, 2), (1, 4), (1, 6), (2, 4), (2, 6), (3, 4), (3, 6), (4, 6), (5, 6)] (some [1, 3]))
  (.seq (.region 2 [⟨0, (some 17), none, .mv (.s 1)⟩, ⟨1, (some 18), none, .build [(.int .i64 0), (.int .i64 0), (.int .i64 0), (.int .i64 0), (.int .i64 0), (.int .i64 0)] [(2, 1, (.k (.c (.int .i64 9))))]⟩, ⟨2, (some 19), none, .build [(.int .i64 0), (.int .i64 0), (.int .i64 0), (.int .i64 0), (.int .i64 0), (.int .i64 0)] [(1, 1, (.k (.c (.int .i64 11)))), (2, 1, (.k (.c (.int .i64 12))))]⟩, ⟨3, (some 20), none, .lit 0 6 [[(.int .i64 0), (.int .i64 0), (.int .i64 0), (.int .i64 0), (.int .i64 0), (.int .i64 0)], [(.int .i64 0), (.int .i64 0), (.int .i64 0), (.int .i64 0), (.int .i64 0), (.int .i64 0)]] [(0, (.s 18)), (1, (.s 19))]⟩, ⟨4, (some 21), none, .call ⟨true⟩ (.k (.c (.fn 39 [] []))) [(.s 17), (.s 20)]⟩, ⟨5, (some 22), none, .mv (.s 21)⟩, ⟨6, (some 23), (some (22, true)), .faddr 1 (.s 3)⟩, ⟨7, (some 24), (some (22, true)), .load false 1 (.s 23)⟩, ⟨8, (some 25), (some (22, true)), .build [(.int .i64 0), (.int .i64 0), (.int .i64 0), (.int .i64 0), (.int .i64 0), (.int .i64 0)] [(2, 1, (.k (.c (.int .i64 6009)))), (4, 1, (.k (.c (.int .i64 2000))))]⟩, ⟨9, (some 26), (some (22, true)), .build [(.int .i64 0), (.int .i64 0), (.int .i64 0), (.int .i64 0), (.int .i64 0), (.int .i64 0)] [(1, 1, (.k (.c (.int .i64 10001)))), (2, 1, (.k (.c (.int .i64 100000)))), (4, 1, (.k (.c (.int .i64 2000))))]⟩, ⟨10, (some 27), (some (22, true)), .build [(.int .i64 0), (.int .i64 0), (.int .i64 0), (.int .i64 0), (.int .i64 0), (.int .i64 0)] [(0, 1, (.k (.c (.int .i64 1)))), (2, 1, (.k (.c (.int .i64 100000)))), (4, 1, (.k (.c (.int .i64 2000))))]⟩, ⟨11, (some 28), (some (22, true)), .lit 1 6 [[(.int .i64 0), (.int .i64 0), (.int .i64 0), (.int .i64 0), (.int .i64 0), (.int .i64 0)], [(.int .i64 0), (.int .i64 0), (.int .i64 0), (.int .i64 0), (.int .i64 0), (.int .i64 0)], [(.int .i64 0), (.int .i64 0), (.int .i64 0), (.int .i64 0), (.int .i64 0), (.int .i64 0)]] [(0, (.s 25)), (1, (.s 26)), (2, (.s 27))]⟩, ⟨12, (some 29), (some (22, true)), .call ⟨true⟩ (.k (.c (.fn 39 [] []))) [(.s 24), (.s 28)]⟩, ⟨13, (some 30), none, .pick (.s 22) (.s 29) (.k (.c (.bool false)))⟩, ⟨14, (some 0), none, .mv (.s 30)⟩] [] (some [0]))
  .ret))))) }
/-- kerbstone/kerbstonekit.Map -/
abbrev f_kerbstonekit_Map : Nat := 9
def c_kerbstonekit_Map : CFn := { frz := true, rnd := none, nargs := 1, ntmps := 179, res := [(.cell 2 true 5)], code :=
  (.seq (.region 1 [⟨0, (some 2), none, .box 0 5 (.k (.a [(.int .i64 0), .nilslice, .nilslice, .nilslice, .nilslice]))⟩] [] (some [0, 2]))
  (.seq (.region 0 [⟨0, (some 5), none, .mv (.s 0)⟩, ⟨1, (some 6), none, .call ⟨true⟩ (.k (.c (.fn 40 [] []))) [(.s 5), (.k (.c (.int .i64 16777216)))]⟩, ⟨2, (some 0), none, .mv (.s 6)⟩] [] (some [0, 2]))
  (.seq (.region 1 [⟨0, (some 7), none, .lit 0 1 [[(.int .i64 0)], [(.int .i64 0)], [(.int .i64 0)], [(.int .i64 0)]] [(0, (.k (.c (.int .i64 1500)))), (1, (.k (.c (.int .i64 600)))), (2, (.k (.c (.int .i64 1000)))), (3, (.k (.c (.int .i64 300))))]⟩, ⟨1, (some 8), none, .mv (.s 0)⟩, ⟨2, (some 9), none, .bin .quo (.s 8) (.k (.c (.int .i64 7)))⟩, ⟨3, (some 10), none, .bin .rem (.s 9) (.k (.c (.int .i64 4)))⟩, ⟨4, (some 11), none, .iaddr 1 (.s 7) (.s 10)⟩, ⟨5, (some 12), none, .load false 1 (.s 11)⟩, ⟨6, (some 3), none, .mv (.s 12)⟩] [] (some [3, 0, 2]))
  (.seq (.region 1 [⟨0, (some 4), none, .box 0 5 (.k (.a [(.int .i64 0), .nilslice, .nilslice, .nilslice, .nilslice]))⟩] [] (some [3, 0, 4, 2]))
  (.seq (.seq (.region 0 [⟨0, (some 13), none, .mv (.s 0)⟩, ⟨1, (some 14), none, .bin .rem (.s 13) (.k (.c (.int .i64 7)))⟩] [] (some [14, 3, 0, 4, 2]))
  (.block 0 (.seq (.region 0 [⟨0, (some 16), none, .bin .eql (.s 14) (.k (.c (.int .i64 0)))⟩, ⟨1, (some 15), none, .mv (.s 16)⟩] [] (some [15, 14, 3, 0, 4, 2]))
  (.cond (.s 15) (.region 2 [⟨0, (some 17), none, .mv (.s 3)⟩, ⟨1, (some 18), none, .lit 0 1 [[(.int .i64 0)], [(.int .i64 0)], [(.int .i64 0)], [(.int .i64 0)]] [(0, (.k (.c (.int .i64 0)))), (1, (.k (.c (.int .i64 0)))), (2, (.k (.c (.int .i64 60000)))), (3, (.k (.c (.int .i64 0))))]⟩, ⟨2, (some 19), none, .call ⟨true⟩ (.k (.c (.fn 41 [] []))) [(.k (.c (.int .i64 1))), (.s 17), (.k (.c .nilslice)), (.s 18)]⟩, ⟨3, (some 20), none, .lit 1 5 [[(.int .i64 0), .nilslice, (.int .i64 0), (.int .i64 0), .nilslice]] [(0, (.s 19))]⟩, ⟨4, (some 21), none, .faddr 1 (.s 4)⟩, ⟨5, none, none, .store 1 (.s 21) (.s 20)⟩] [] (some [0, 4, 2]))
  (.seq (.seq (.region 0 [⟨0, (some 23), none, .bin .eql (.s 14) (.k (.c (.int .i64 1)))⟩, ⟨1, (some 22), none, .mv (.s 23)⟩] [] (some [22, 14, 3, 0, 4, 2]))
  (.cond (.s 22) .skip
  (.region 0 [⟨0, (some 24), none, .bin .eql (.s 14) (.k (.c (.int .i64 2)))⟩, ⟨1, (some 22), none, .mv (.s 24)⟩] [] (some [22, 14, 3, 0, 4, 2]))))
  (.cond (.s 22) (.seq (.region 3 [⟨0, (some 25), none, .mv (.s 3)⟩, ⟨1, (some 26), none, .lit 0 1 [[(.int .i64 0)], [(.int .i64 0)], [(.int .i64 0)], [(.int .i64 0)]] [(0, (.k (.c (.int .i64 0)))), (1, (.k (.c (.int .i64 0)))), (2, (.k (.c (.int .i64 50000)))), (3, (.k (.c (.int .i64 0))))]⟩, ⟨2, (some 27), none, .call ⟨true⟩ (.k (.c (.fn 41 [] []))) [(.k (.c (.int .i64 1))), (.s 25), (.k (.c .nilslice)), (.s 26)]⟩, ⟨3, (some 28), none, .lit 1 1 [[(.int .i64 0)], [(.int .i64 0)], [(.int .i64 0)], [(.int .i64 0)]] [(0, (.k (.c (.int .i64 30000)))), (1, (.k (.c (.int .i64 (-20000))))), (2, (.k (.c (.int .i64 30000)))), (3, (.k (.c (.int .i64 20000))))]⟩, ⟨4, (some 29), none, .call ⟨true⟩ (.k (.c (.fn 41 [] []))) [(.k (.c (.int .i64 1))), (.k (.c (.int .i64 1500))), (.k (.c .nilslice)), (.s 28)]⟩, ⟨5, (some 30), none, .lit 2 5 [[(.int .i64 0), .nilslice, (.int .i64 0), (.int .i64 0), .nilslice], [(.int .i64 0), .nilslice, (.int .i64 0), (.int .i64 0), .nilslice]] [(0, (.s 27)), (1, (.s 29))]⟩, ⟨6, (some 31), none, .faddr 1 (.s 4)⟩, ⟨7, none, none, .store 1 (.s 31) (.s 30)⟩] [] (some [0, 4, 2]))
  (.seq (.region 2 [⟨0, (some 32), none, .mv (.s 0)⟩, ⟨1, (some 33), none, .bin .quo (.s 32) (.k (.c (.int .i64 28)))⟩, ⟨2, (some 34), none, .bin .rem (.s 33) (.k (.c (.int .i64 2)))⟩, ⟨3, (some 35), none, .build [(.int .i64 0), (.int .i64 0), (.int .i64 0), (.int .i64 0)] [(0, 1, (.k (.c (.int .i64 0)))), (1, 1, (.k (.c (.int .i64 28000)))), (2, 1, (.k (.c (.int .i64 32000)))), (3, 1, (.s 34))]⟩, ⟨4, (some 36), none, .mv (.s 0)⟩, ⟨5, (some 37), none, .bin .quo (.s 36) (.k (.c (.int .i64 28)))⟩, ⟨6, (some 38), none, .bin .rem (.s 37) (.k (.c (.int .i64 2)))⟩, ⟨7, (some 39), none, .bin .mul (.k (.c (.int .i64 2))) (.s 38)⟩, ⟨8, (some 40), none, .bin .sub (.k (.c (.int .i64 2))) (.s 39)⟩, ⟨9, (some 41), none, .build [(.int .i64 0), (.int .i64 0), (.int .i64 0), (.int .i64 0)] [(0, 1, (.k (.c (.int .i64 1)))), (1, 1, (.k (.c (.int .i64 18000)))), (2, 1, (.k (.c (.int .i64 22000)))), (3, 1, (.s 40))]⟩, ⟨10, (some 42), none, .lit 0 4 [[(.int .i64 0), (.int .i64 0), (.int .i64 0), (.int .i64 0)], [(.int .i64 0), (.int .i64 0), (.int .i64 0), (.int .i64 0)]] [(0, (.s 35)), (1, (.s 41))]⟩, ⟨11, (some 43), none, .build [.nilslice, (.int .i64 0)] [(0, 1, (.s 42))]⟩, ⟨12, (some 44), none, .lit 1 2 [[.nilslice, (.int .i64 0)]] [(0, (.s 43))]⟩, ⟨13, (some 45), none, .faddr 2 (.s 4)⟩, ⟨14, none, none, .store 1 (.s 45) (.s 44)⟩] [] (some [0, 4, 2]))
  (.seq (.region 0 [⟨0, (some 46), none, .mv (.s 0)⟩, ⟨1, (some 47), none, .bin .rem (.s 46) (.k (.c (.int .i64 7)))⟩, ⟨2, (some 48), none, .bin .eql (.s 47) (.k (.c (.int .i64 2)))⟩] [] (some [48, 0, 4, 2]))
  (.cond (.s 48) (.seq (.region 0 [⟨0, (some 49), none, .faddr 2 (.s 4)⟩, ⟨1, (some 50), none, .load false 1 (.s 49)⟩, ⟨2, (some 51), none, .iaddr 2 (.s 50) (.k (.c (.int .i64 0)))⟩, ⟨3, (some 52), none, .faddr 1 (.s 51)⟩, ⟨4, none, none, .store 1 (.s 52) (.k (.c (.int .i64 1)))⟩] [] (some [0, 4, 2]))
  (.region 1 [⟨0, (some 53), none, .mv (.s 0)⟩, ⟨1, (some 54), none, .bin .quo (.s 53) (.k (.c (.int .i64 28)))⟩, ⟨2, (some 55), none, .bin .rem (.s 54) (.k (.c (.int .i64 31)))⟩, ⟨3, (some 56), none, .call ⟨true⟩ (.k (.c (.fn 42 [] []))) [(.s 55), (.k (.c (.int .i64 0))), (.k (.c (.int .i64 1)))]⟩, ⟨4, (some 57), none, .lit 0 2 [[(.int .i64 0), .nilslice]] [(0, (.s 56))]⟩, ⟨5, (some 58), none, .faddr 3 (.s 4)⟩, ⟨6, none, none, .store 1 (.s 58) (.s 57)⟩] [] (some [0, 4, 2])))
  .skip))))
  (.seq (.region 0 [⟨0, (some 60), none, .bin .eql (.s 14) (.k (.c (.int .i64 3)))⟩, ⟨1, (some 59), none, .mv (.s 60)⟩] [] (some [59, 14, 3, 0, 4, 2]))
  (.cond (.s 59) (.region 5 [⟨0, (some 61), none, .mv (.s 3)⟩, ⟨1, (some 62), none, .lit 0 1 [[(.int .i64 0)], [(.int .i64 0)]] [(0, (.k (.c (.int .i64 1)))), (1, (.k (.c (.int .i64 2))))]⟩, ⟨2, (some 63), none, .lit 1 1 [[(.int .i64 0)], [(.int .i64 0)], [(.int .i64 0)], [(.int .i64 0)]] [(0, (.k (.c (.int .i64 0)))), (1, (.k (.c (.int .i64 0)))), (2, (.k (.c (.int .i64 30000)))), (3, (.k (.c (.int .i64 0))))]⟩, ⟨3, (some 64), none, .call ⟨true⟩ (.k (.c (.fn 41 [] []))) [(.k (.c (.int .i64 1))), (.s 61), (.s 62), (.s 63)]⟩, ⟨4, (some 65), none, .lit 2 1 [[(.int .i64 0)], [(.int .i64 0)], [(.int .i64 0)], [(.int .i64 0)]] [(0, (.k (.c (.int .i64 30000)))), (1, (.k (.c (.int .i64 0)))), (2, (.k (.c (.int .i64 60000)))), (3, (.k (.c (.int .i64 0))))]⟩, ⟨5, (some 66), none, .call ⟨true⟩ (.k (.c (.fn 41 [] []))) [(.k (.c (.int .i64 1))), (.k (.c (.int .i64 1500))), (.k (.c .nilslice)), (.s 65)]⟩, ⟨6, (some 67), none, .lit 3 1 [[(.int .i64 0)], [(.int .i64 0)], [(.int .i64 0)], [(.int .i64 0)]] [(0, (.k (.c (.int .i64 30000)))), (1, (.k (.c (.int .i64 0)))), (2, (.k (.c (.int .i64 54000)))), (3, (.k (.c (.int .i64 10000))))]⟩, ⟨7, (some 68), none, .call ⟨true⟩ (.k (.c (.fn 41 [] []))) [(.k (.c (.int .i64 1))), (.k (.c (.int .i64 800))), (.k (.c .nilslice)), (.s 67)]⟩, ⟨8, (some 69), none, .lit 4 5 [[(.int .i64 0), .nilslice, (.int .i64 0), (.int .i64 0), .nilslice], [(.int .i64 0), .nilslice, (.int .i64 0), (.int .i64 0), .nilslice], [(.int .i64 0), .nilslice, (.int .i64 0), (.int .i64 0), .nilslice]] [(0, (.s 64)), (1, (.s 66)), (2, (.s 68))]⟩, ⟨9, (some 70), none, .faddr 1 (.s 4)⟩, ⟨10, none, none, .store 1 (.s 70) (.s 69)⟩] [] (some [0, 4, 2]))
  (.seq (.region 0 [⟨0, (some 72), none, .bin .eql (.s 14) (.k (.c (.int .i64 4)))⟩, ⟨1, (some 71), none, .mv (.s 72)⟩] [] (some [71, 14, 3, 0, 4, 2]))
  (.cond (.s 71) (.seq (.region 6 [⟨0, (some 73), none, .mv (.s 3)⟩, ⟨1, (some 74), none, .lit 0 1 [[(.int .i64 0)]] [(0, (.k (.c (.int .i64 2))))]⟩, ⟨2, (some 75), none, .lit 1 1 [[(.int .i64 0)], [(.int .i64 0)], [(.int .i64 0)], [(.int .i64 0)]] [(0, (.k (.c (.int .i64 0)))), (1, (.k (.c (.int .i64 0)))), (2, (.k (.c (.int .i64 30000)))), (3, (.k (.c (.int .i64 0))))]⟩, ⟨3, (some 76), none, .call ⟨true⟩ (.k (.c (.fn 41 [] []))) [(.k (.c (.int .i64 1))), (.s 73), (.s 74), (.s 75)]⟩, ⟨4, (some 77), none, .lit 2 1 [[(.int .i64 0)]] [(0, (.k (.c (.int .i64 2))))]⟩, ⟨5, (some 78), none, .lit 3 1 [[(.int .i64 0)], [(.int .i64 0)], [(.int .i64 0)], [(.int .i64 0)]] [(0, (.k (.c (.int .i64 6000)))), (1, (.k (.c (.int .i64 (-10000))))), (2, (.k (.c (.int .i64 30000)))), (3, (.k (.c (.int .i64 0))))]⟩, ⟨6, (some 79), none, .call ⟨true⟩ (.k (.c (.fn 41 [] []))) [(.k (.c (.int .i64 1))), (.k (.c (.int .i64 1500))), (.s 77), (.s 78)]⟩, ⟨7, (some 80), none, .lit 4 1 [[(.int .i64 0)], [(.int .i64 0)], [(.int .i64 0)], [(.int .i64 0)]] [(0, (.k (.c (.int .i64 30000)))), (1, (.k (.c (.int .i64 0)))), (2, (.k (.c (.int .i64 60000)))), (3, (.k (.c (.int .i64 0))))]⟩, ⟨8, (some 81), none, .call ⟨true⟩ (.k (.c (.fn 41 [] []))) [(.k (.c (.int .i64 1))), (.k (.c (.int .i64 1500))), (.k (.c .nilslice)), (.s 80)]⟩, ⟨9, (some 82), none, .lit 5 5 [[(.int .i64 0), .nilslice, (.int .i64 0), (.int .i64 0), .nilslice], [(.int .i64 0), .nilslice, (.int .i64 0), (.int .i64 0), .nilslice], [(.int .i64 0), .nilslice, (.int .i64 0), (.int .i64 0), .nilslice]] [(0, (.s 76)), (1, (.s 79)), (2, (.s 81))]⟩, ⟨10, (some 83), none, .faddr 1 (.s 4)⟩, ⟨11, none, none, .store 1 (.s 83) (.s 82)⟩] [] (some [0, 4, 2]))
  (.region 2 [⟨0, (some 84), none, .build [(.int .i64 0), (.int .i64 0), (.int .i64 0), (.int .i64 0)] [(0, 1, (.k (.c (.int .i64 0)))), (1, 1, (.k (.c (.int .i64 25000)))), (2, 1, (.k (.c (.int .i64 30000)))), (3, 1, (.k (.c (.int .i64 1))))]⟩, ⟨1, (some 85), none, .build [(.int .i64 0), (.int .i64 0), (.int .i64 0), (.int .i64 0)] [(0, 1, (.k (.c (.int .i64 1)))), (1, 1, (.k (.c (.int .i64 20000)))), (2, 1, (.k (.c (.int .i64 26000))))]⟩, ⟨2, (some 86), none, .build [(.int .i64 0), (.int .i64 0), (.int .i64 0), (.int .i64 0)] [(0, 1, (.k (.c (.int .i64 2)))), (2, 1, (.k (.c (.int .i64 5000))))]⟩, ⟨3, (some 87), none, .lit 0 4 [[(.int .i64 0), (.int .i64 0), (.int .i64 0), (.int .i64 0)], [(.int .i64 0), (.int .i64 0), (.int .i64 0), (.int .i64 0)], [(.int .i64 0), (.int .i64 0), (.int .i64 0), (.int .i64 0)]] [(0, (.s 84)), (1, (.s 85)), (2, (.s 86))]⟩, ⟨4, (some 88), none, .build [.nilslice, (.int .i64 0)] [(0, 1, (.s 87))]⟩, ⟨5, (some 89), none, .lit 1 2 [[.nilslice, (.int .i64 0)]] [(0, (.s 88))]⟩, ⟨6, (some 90), none, .faddr 2 (.s 4)⟩, ⟨7, none, none, .store 1 (.s 90) (.s 89)⟩] [] (some [0, 4, 2])))
  (.seq (.region 0 [⟨0, (some 92), none, .bin .eql (.s 14) (.k (.c (.int .i64 5)))⟩, ⟨1, (some 91), none, .mv (.s 92)⟩] [] (some [91, 14, 3, 0, 4, 2]))
  (.cond (.s 91) (.seq (.region 5 [⟨0, (some 93), none, .mv (.s 3)⟩, ⟨1, (some 94), none, .lit 0 1 [[(.int .i64 0)]] [(0, (.k (.c (.int .i64 1))))]⟩, ⟨2, (some 95), none, .lit 1 1 [[(.int .i64 0)], [(.int .i64 0)], [(.int .i64 0)], [(.int .i64 0)]] [(0, (.k (.c (.int .i64 0)))), (1, (.k (.c (.int .i64 0)))), (2, (.k (.c (.int .i64 20000)))), (3, (.k (.c (.int .i64 0))))]⟩, ⟨3, (some 96), none, .call ⟨true⟩ (.k (.c (.fn 41 [] []))) [(.k (.c (.int .i64 1))), (.s 93), (.s 94), (.s 95)]⟩, ⟨4, (some 97), none, .mv (.s 3)⟩, ⟨5, (some 98), none, .lit 2 1 [[(.int .i64 0)], [(.int .i64 0)], [(.int .i64 0)], [(.int .i64 0)]] [(0, (.k (.c (.int .i64 20000)))), (1, (.k (.c (.int .i64 0)))), (2, (.k (.c (.int .i64 50000)))), (3, (.k (.c (.int .i64 0))))]⟩, ⟨6, (some 99), none, .call ⟨true⟩ (.k (.c (.fn 41 [] []))) [(.k (.c (.int .i64 1))), (.s 97), (.k (.c .nilslice)), (.s 98)]⟩, ⟨7, (some 100), none, .lit 3 1 [[(.int .i64 0)], [(.int .i64 0)], [(.int .i64 0)], [(.int .i64 0)]] [(0, (.k (.c (.int .i64 35000)))), (1, (.k (.c (.int .i64 (-8000))))), (2, (.k (.c (.int .i64 35000)))), (3, (.k (.c (.int .i64 8000))))]⟩, ⟨8, (some 101), none, .call ⟨true⟩ (.k (.c (.fn 41 [] []))) [(.k (.c (.int .i64 3))), (.k (.c (.int .i64 200))), (.k (.c .nilslice)), (.s 100)]⟩, ⟨9, (some 102), none, .lit 4 5 [[(.int .i64 0), .nilslice, (.int .i64 0), (.int .i64 0), .nilslice], [(.int .i64 0), .nilslice, (.int .i64 0), (.int .i64 0), .nilslice], [(.int .i64 0), .nilslice, (.int .i64 0), (.int .i64 0), .nilslice]] [(0, (.s 96)), (1, (.s 99)), (2, (.s 101))]⟩, ⟨10, (some 103), none, .faddr 1 (.s 4)⟩, ⟨11, none, none, .store 1 (.s 103) (.s 102)⟩] [] (some [0, 4, 2]))
  (.region 2 [⟨0, (some 104), none, .build [(.int .i64 0), (.int .i64 0), (.int .i64 0), (.int .i64 0)] [(0, 1, (.k (.c (.int .i64 1)))), (1, 1, (.k (.c (.int .i64 14000)))), (2, 1, (.k (.c (.int .i64 16000))))]⟩, ⟨1, (some 105), none, .build [(.int .i64 0), (.int .i64 0), (.int .i64 0), (.int .i64 0)] [(0, 1, (.k (.c (.int .i64 2)))), (1, 1, (.k (.c (.int .i64 6000)))), (2, 1, (.k (.c (.int .i64 10000)))), (3, 1, (.k (.c (.int .i64 3))))]⟩, ⟨2, (some 106), none, .lit 0 4 [[(.int .i64 0), (.int .i64 0), (.int .i64 0), (.int .i64 0)], [(.int .i64 0), (.int .i64 0), (.int .i64 0), (.int .i64 0)]] [(0, (.s 104)), (1, (.s 105))]⟩, ⟨3, (some 107), none, .build [.nilslice, (.int .i64 0)] [(0, 1, (.s 106))]⟩, ⟨4, (some 108), none, .lit 1 2 [[.nilslice, (.int .i64 0)]] [(0, (.s 107))]⟩, ⟨5, (some 109), none, .faddr 2 (.s 4)⟩, ⟨6, none, none, .store 1 (.s 109) (.s 108)⟩] [] (some [0, 4, 2])))
  (.seq (.region 0 [⟨0, (some 111), none, .bin .eql (.s 14) (.k (.c (.int .i64 6)))⟩, ⟨1, (some 110), none, .mv (.s 111)⟩] [] (some [110, 3, 0, 4, 2]))
  (.cond (.s 110) (.seq (.region 6 [⟨0, (some 112), none, .mv (.s 3)⟩, ⟨1, (some 113), none, .lit 0 1 [[(.int .i64 0)], [(.int .i64 0)]] [(0, (.k (.c (.int .i64 1)))), (1, (.k (.c (.int .i64 2))))]⟩, ⟨2, (some 114), none, .lit 1 1 [[(.int .i64 0)], [(.int .i64 0)], [(.int .i64 0)], [(.int .i64 0)]] [(0, (.k (.c (.int .i64 0)))), (1, (.k (.c (.int .i64 0)))), (2, (.k (.c (.int .i64 20000)))), (3, (.k (.c (.int .i64 0))))]⟩, ⟨3, (some 115), none, .call ⟨true⟩ (.k (.c (.fn 41 [] []))) [(.k (.c (.int .i64 1))), (.s 112), (.s 113), (.s 114)]⟩, ⟨4, (some 116), none, .lit 2 1 [[(.int .i64 0)], [(.int .i64 0)], [(.int .i64 0)], [(.int .i64 0)]] [(0, (.k (.c (.int .i64 20000)))), (1, (.k (.c (.int .i64 0)))), (2, (.k (.c (.int .i64 50000)))), (3, (.k (.c (.int .i64 0))))]⟩, ⟨5, (some 117), none, .call ⟨true⟩ (.k (.c (.fn 41 [] []))) [(.k (.c (.int .i64 1))), (.k (.c (.int .i64 1500))), (.k (.c .nilslice)), (.s 116)]⟩, ⟨6, (some 118), none, .lit 3 1 [[(.int .i64 0)], [(.int .i64 0)], [(.int .i64 0)], [(.int .i64 0)]] [(0, (.k (.c (.int .i64 20000)))), (1, (.k (.c (.int .i64 0)))), (2, (.k (.c (.int .i64 44000)))), (3, (.k (.c (.int .i64 10000))))]⟩, ⟨7, (some 119), none, .call ⟨true⟩ (.k (.c (.fn 41 [] []))) [(.k (.c (.int .i64 1))), (.k (.c (.int .i64 1000))), (.k (.c .nilslice)), (.s 118)]⟩, ⟨8, (some 120), none, .lit 4 1 [[(.int .i64 0)], [(.int .i64 0)], [(.int .i64 0)], [(.int .i64 0)]] [(0, (.k (.c (.int .i64 36000)))), (1, (.k (.c (.int .i64 (-12000))))), (2, (.k (.c (.int .i64 36000)))), (3, (.k (.c (.int .i64 18000))))]⟩, ⟨9, (some 121), none, .call ⟨true⟩ (.k (.c (.fn 41 [] []))) [(.k (.c (.int .i64 2))), (.k (.c (.int .i64 700))), (.k (.c .nilslice)), (.s 120)]⟩, ⟨10, (some 122), none, .lit 5 5 [[(.int .i64 0), .nilslice, (.int .i64 0), (.int .i64 0), .nilslice], [(.int .i64 0), .nilslice, (.int .i64 0), (.int .i64 0), .nilslice], [(.int .i64 0), .nilslice, (.int .i64 0), (.int .i64 0), .nilslice], [(.int .i64 0), .nilslice, (.int .i64 0), (.int .i64 0), .nilslice]] [(0, (.s 115)), (1, (.s 117)), (2, (.s 119)), (3, (.s 121))]⟩, ⟨11, (some 123), none, .faddr 1 (.s 4)⟩, ⟨12, none, none, .store 1 (.s 123) (.s 122)⟩] [] (some [0, 4, 2]))
  (.seq (.region 3 [⟨0, (some 124), none, .build [(.int .i64 0), (.int .i64 0), (.int .i64 0), (.int .i64 0)] [(0, 1, (.k (.c (.int .i64 1)))), (1, 1, (.k (.c (.int .i64 14000)))), (2, 1, (.k (.c (.int .i64 18000)))), (3, 1, (.k (.c (.int .i64 1))))]⟩, ⟨1, (some 125), none, .build [(.int .i64 0), (.int .i64 0), (.int .i64 0), (.int .i64 0)] [(0, 1, (.k (.c (.int .i64 3)))), (1, 1, (.k (.c (.int .i64 10000)))), (2, 1, (.k (.c (.int .i64 14000))))]⟩, ⟨2, (some 126), none, .lit 0 4 [[(.int .i64 0), (.int .i64 0), (.int .i64 0), (.int .i64 0)], [(.int .i64 0), (.int .i64 0), (.int .i64 0), (.int .i64 0)]] [(0, (.s 124)), (1, (.s 125))]⟩, ⟨3, (some 127), none, .build [.nilslice, (.int .i64 0)] [(0, 1, (.s 126))]⟩, ⟨4, (some 128), none, .build [(.int .i64 0), (.int .i64 0), (.int .i64 0), (.int .i64 0)] [(0, 1, (.k (.c (.int .i64 2)))), (1, 1, (.k (.c (.int .i64 14000)))), (2, 1, (.k (.c (.int .i64 21000)))), (3, 1, (.k (.c (.int .i64 1))))]⟩, ⟨5, (some 129), none, .build [(.int .i64 0), (.int .i64 0), (.int .i64 0), (.int .i64 0)] [(0, 1, (.k (.c (.int .i64 3)))), (1, 1, (.k (.c (.int .i64 14500)))), (2, 1, (.k (.c (.int .i64 23000))))]⟩, ⟨6, (some 130), none, .lit 1 4 [[(.int .i64 0), (.int .i64 0), (.int .i64 0), (.int .i64 0)], [(.int .i64 0), (.int .i64 0), (.int .i64 0), (.int .i64 0)]] [(0, (.s 128)), (1, (.s 129))]⟩, ⟨7, (some 131), none, .build [.nilslice, (.int .i64 0)] [(0, 1, (.s 130))]⟩, ⟨8, (some 132), none, .lit 2 2 [[.nilslice, (.int .i64 0)], [.nilslice, (.int .i64 0)]] [(0, (.s 127)), (1, (.s 131))]⟩, ⟨9, (some 133), none, .faddr 2 (.s 4)⟩, ⟨10, none, none, .store 1 (.s 133) (.s 132)⟩] [] (some [0, 4, 2]))
  (.seq (.region 0 [⟨0, (some 134), none, .mv (.s 0)⟩, ⟨1, (some 135), none, .bin .quo (.s 134) (.k (.c (.int .i64 28)))⟩, ⟨2, (some 136), none, .bin .rem (.s 135) (.k (.c (.int .i64 2)))⟩, ⟨3, (some 137), none, .bin .eql (.s 136) (.k (.c (.int .i64 1)))⟩] [] (some [137, 0, 4, 2]))
  (.cond (.s 137) (.seq (.region 0 [⟨0, (some 138), none, .faddr 2 (.s 4)⟩, ⟨2, (some 140), none, .faddr 2 (.s 4)⟩, ⟨1, (some 139), none, .load false 1 (.s 138)⟩, ⟨4, (some 142), none, .iaddr 2 (.s 139) (.k (.c (.int .i64 0)))⟩, ⟨5, (some 143), none, .faddr 1 (.s 142)⟩, ⟨3, (some 141), none, .load false 1 (.s 140)⟩, ⟨6, none, none, .store 1 (.s 143) (.k (.c (.int .i64 1)))⟩, ⟨7, (some 144), none, .iaddr 2 (.s 141) (.k (.c (.int .i64 1)))⟩, ⟨8, (some 145), none, .faddr 1 (.s 144)⟩, ⟨9, none, none, .store 1 (.s 145) (.k (.c (.int .i64 2)))⟩] [(5, 6)] (some [0, 4, 2]))
  (.region 1 [⟨0, (some 146), none, .mv (.s 0)⟩, ⟨1, (some 147), none, .bin .quo (.s 146) (.k (.c (.int .i64 56)))⟩, ⟨2, (some 148), none, .bin .rem (.s 147) (.k (.c (.int .i64 31)))⟩, ⟨3, (some 149), none, .call ⟨true⟩ (.k (.c (.fn 42 [] []))) [(.s 148), (.k (.c (.int .i64 1))), (.k (.c (.int .i64 3)))]⟩, ⟨4, (some 150), none, .mv (.s 0)⟩, ⟨5, (some 151), none, .bin .quo (.s 150) (.k (.c (.int .i64 56)))⟩, ⟨6, (some 152), none, .bin .rem (.s 151) (.k (.c (.int .i64 17)))⟩, ⟨7, (some 153), none, .call ⟨true⟩ (.k (.c (.fn 42 [] []))) [(.s 152), (.k (.c (.int .i64 2))), (.k (.c (.int .i64 3)))]⟩, ⟨8, (some 154), none, .lit 0 2 [[(.int .i64 0), .nilslice], [(.int .i64 0), .nilslice]] [(0, (.s 149)), (1, (.s 153))]⟩, ⟨9, (some 155), none, .faddr 3 (.s 4)⟩, ⟨10, none, none, .store 1 (.s 155) (.s 154)⟩] [] (some [0, 4, 2])))
  .skip))))
  .skip))))))))))))))
  (.seq (.region 0 [⟨0, (some 156), none, .mv (.s 0)⟩, ⟨1, (some 157), none, .bin .quo (.s 156) (.k (.c (.int .i64 28)))⟩, ⟨2, (some 158), none, .bin .rem (.s 157) (.k (.c (.int .i64 5)))⟩, ⟨3, (some 159), none, .faddr 0 (.s 4)⟩, ⟨4, none, none, .store 1 (.s 159) (.s 158)⟩] [] (some [0, 4, 2]))
  (.seq (.seq (.region 0 [⟨0, (some 160), none, .mv (.s 0)⟩, ⟨1, (some 161), none, .bin .quo (.s 160) (.k (.c (.int .i64 1736)))⟩, ⟨2, (some 162), none, .bin .rem (.s 161) (.k (.c (.int .i64 3)))⟩, ⟨3, (some 163), none, .bin .eql (.s 162) (.k (.c (.int .i64 1)))⟩] [] (some [163, 0, 4, 2]))
  (.cond (.s 163) (.region 1 [⟨0, (some 164), none, .mv (.s 0)⟩, ⟨1, (some 165), none, .bin .quo (.s 164) (.k (.c (.int .i64 5208)))⟩, ⟨2, (some 166), none, .bin .rem (.s 165) (.k (.c (.int .i64 40)))⟩, ⟨3, (some 167), none, .mv (.s 0)⟩, ⟨4, (some 168), none, .bin .quo (.s 167) (.k (.c (.int .i64 5208)))⟩, ⟨5, (some 169), none, .bin .rem (.s 168) (.k (.c (.int .i64 40)))⟩, ⟨6, (some 170), none, .bin .add (.s 169) (.k (.c (.int .i64 20)))⟩, ⟨7, (some 171), none, .mv (.s 0)⟩, ⟨8, (some 172), none, .bin .quo (.s 171) (.k (.c (.int .i64 208320)))⟩, ⟨9, (some 173), none, .bin .rem (.s 172) (.k (.c (.int .i64 3)))⟩, ⟨10, (some 174), none, .bin .mul (.s 173) (.k (.c (.int .i64 200)))⟩, ⟨11, (some 175), none, .build [(.int .i64 0), (.int .i64 0), (.int .i64 0), (.int .i64 0), (.int .i64 0), (.int .i64 0)] [(0, 1, (.k (.c (.int .i64 0)))), (1, 1, (.k (.c (.int .i64 10000)))), (2, 1, (.k (.c (.int .i64 15000)))), (3, 1, (.s 166)), (4, 1, (.s 170)), (5, 1, (.s 174))]⟩, ⟨12, (some 176), none, .lit 0 6 [[(.int .i64 0), (.int .i64 0), (.int .i64 0), (.int .i64 0), (.int .i64 0), (.int .i64 0)]] [(0, (.s 175))]⟩, ⟨13, (some 177), none, .faddr 4 (.s 4)⟩, ⟨14, none, none, .store 1 (.s 177) (.s 176)⟩] [] (some [4, 2]))
  .skip))
  (.seq (.region 0 [⟨0, (some 178), none, .load true 5 (.s 4)⟩, ⟨1, none, none, .store 5 (.s 2) (.s 178)⟩] [] (some [2]))
  .ret)))))))) }
/-- kerbstone/kerbstoneref05.Copy -/
abbrev f_kerbstoneref05_Copy : Nat := 10
def c_kerbstoneref05_Copy : CFn := { frz := true, rnd := none, nargs := 1, ntmps := 8, res := [(.cell 2 true 6)], code :=
  (.seq (.region 2 [⟨0, (some 1), none, .box 0 6 (.s 0)⟩, ⟨1, (some 2), none, .box 1 6 (.k (.a [(.int .i64 0), .nilslice, (.int .i64 0), (.int .i64 0), (.int .i64 0), (.int .i64 0)]))⟩] [] (some [1, 2]))
  (.seq (.region 0 [⟨0, (some 3), none, .faddr 1 (.s 1)⟩, ⟨1, (some 4), none, .load false 1 (.s 3)⟩, ⟨2, (some 5), none, .append 6 48 (.k (.c .nilslice)) (.s 4)⟩, ⟨3, (some 6), none, .faddr 1 (.s 1)⟩, ⟨4, none, none, .store 1 (.s 6) (.s 5)⟩] [] (some [1, 2]))
  (.seq (.region 0 [⟨0, (some 7), none, .load true 6 (.s 1)⟩, ⟨1, none, none, .store 6 (.s 2) (.s 7)⟩] [] (some [2]))
  .ret))) }
def c_kerbstoneref05_Same_l1 : CC := (.seq (.seq (.region 0 [⟨0, (some 27), none, .mv (.s 5)⟩, ⟨1, (some 28), none, .faddr 1 (.s 2)⟩, ⟨2, (some 29), none, .load false 1 (.s 28)⟩, ⟨3, (some 30), none, .len (.s 29)⟩, ⟨4, (some 31), none, .bin .lss (.s 27) (.s 30)⟩] [] (some [31, 3, 2, 5]))
  (.cond (.s 31) .skip
  (.exit 0)))
  (.seq (.block 1 (.seq (.region 0 [⟨0, (some 34), none, .faddr 1 (.s 2)⟩, ⟨2, (some 36), none, .mv (.s 5)⟩, ⟨5, (some 39), none, .faddr 1 (.s 3)⟩, ⟨7, (some 41), none, .mv (.s 5)⟩, ⟨1, (some 35), none, .load false 1 (.s 34)⟩, ⟨3, (some 37), none, .iaddr 6 (.s 35) (.s 36)⟩, ⟨4, (some 38), none, .load true 6 (.s 37)⟩, ⟨6, (some 40), none, .load false 1 (.s 39)⟩, ⟨8, (some 42), none, .iaddr 6 (.s 40) (.s 41)⟩, ⟨9, (some 43), none, .load true 6 (.s 42)⟩, ⟨10, (some 44), none, .eqa true [false, false, false, false, false, false] (.s 38) (.s 43)⟩] [] (some [44, 3, 2, 5]))
  (.cond (.s 44) (.seq (.region 0 [⟨0, (some 4), none, .mv (.k (.c (.bool false)))⟩] [] (some [4]))
  .ret)
  .skip)))
  (.region 0 [⟨0, (some 32), none, .mv (.s 5)⟩, ⟨1, (some 33), none, .bin .add (.s 32) (.k (.c (.int .i64 1)))⟩, ⟨2, (some 5), none, .mv (.s 33)⟩] [] (some [2, 3, 5]))))
/-- kerbstone/kerbstoneref05.Same -/
abbrev f_kerbstoneref05_Same : Nat := 11
def c_kerbstoneref05_Same : CFn := { frz := true, rnd := none, nargs := 2, ntmps := 45, res := [(.slot 4)], code :=
  (.seq (.region 2 [⟨0, (some 2), none, .box 0 6 (.s 0)⟩, ⟨1, (some 3), none, .box 1 6 (.s 1)⟩, ⟨2, (some 4), none, .mv (.k (.c (.bool false)))⟩] [] (some [3, 2]))
  (.seq (.seq (.region 0 [⟨0, (some 6), none, .faddr 0 (.s 2)⟩, ⟨1, (some 7), none, .load false 1 (.s 6)⟩, ⟨2, (some 8), none, .faddr 0 (.s 3)⟩, ⟨3, (some 9), none, .load false 1 (.s 8)⟩, ⟨4, (some 10), none, .bin .neq (.s 7) (.s 9)⟩, ⟨5, (some 11), none, .mv (.s 10)⟩, ⟨6, (some 12), (some (11, false)), .faddr 2 (.s 2)⟩, ⟨7, (some 13), (some (11, false)), .load true 4 (.s 12)⟩, ⟨8, (some 14), (some (11, false)), .faddr 2 (.s 3)⟩, ⟨9, (some 15), (some (11, false)), .load true 4 (.s 14)⟩, ⟨10, (some 16), (some (11, false)), .eqa true [false, false, false, false] (.s 13) (.s 15)⟩, ⟨11, (some 17), none, .pick (.s 11) (.k (.c (.bool true))) (.s 16)⟩, ⟨12, (some 18), none, .mv (.s 17)⟩, ⟨13, (some 19), (some (18, false)), .faddr 1 (.s 2)⟩, ⟨14, (some 20), (some (18, false)), .load false 1 (.s 19)⟩, ⟨15, (some 21), (some (18, false)), .len (.s 20)⟩, ⟨16, (some 22), (some (18, false)), .faddr 1 (.s 3)⟩, ⟨17, (some 23), (some (18, false)), .load false 1 (.s 22)⟩, ⟨18, (some 24), (some (18, false)), .len (.s 23)⟩, ⟨19, (some 25), (some (18, false)), .bin .neq (.s 21) (.s 24)⟩, ⟨20, (some 26), none, .pick (.s 18) (.k (.c (.bool true))) (.s 25)⟩] [] (some [26, 3, 2]))
  (.cond (.s 26) (.seq (.region 0 [⟨0, (some 4), none, .mv (.k (.c (.bool false)))⟩] [] (some [4]))
  .ret)
  .skip))
  (.seq (.seq (.region 0 [⟨0, (some 5), none, .mv (.k (.c (.int .i64 0)))⟩] [] (some [2, 3, 5]))
  (.block 0 (.loop (some [2, 3, 5]) c_kerbstoneref05_Same_l1)))
  (.seq (.region 0 [⟨0, (some 4), none, .mv (.k (.c (.bool true)))⟩] [] (some [4]))
  .ret)))) }
/-- kerbstone/track.Own -/
abbrev f_track_Own : Nat := 12
def c_track_Own : CFn := { frz := true, rnd := none, nargs := 4, ntmps := 36, res := [(.cell 8 true 6)], code :=
  (.seq (.region 3 [⟨0, (some 4), none, .box 0 5 (.s 0)⟩, ⟨1, (some 7), none, .box 1 6 (.s 3)⟩, ⟨2, (some 8), none, .box 2 6 (.k (.a [(.int .i64 0), .nilslice, (.int .i64 0), (.int .i64 0), (.int .i64 0), (.int .i64 0)]))⟩] [] (some [1, 2, 4, 7, 8]))
  (.seq (.region 0 [⟨0, (some 9), none, .load true 6 (.s 7)⟩, ⟨1, (some 10), none, .call ⟨true⟩ (.k (.c (.fn 27 [] []))) [(.s 9)]⟩, ⟨2, none, none, .store 6 (.s 7) (.s 10)⟩] [] (some [1, 2, 4, 7, 8]))
  (.seq (.seq (.region 0 [⟨0, (some 11), none, .load true 5 (.s 4)⟩, ⟨1, (some 12), none, .load true 6 (.s 7)⟩, ⟨2, (some 13), none, .call ⟨true⟩ (.k (.c (.fn 43 [] []))) [(.s 11), (.s 12)]⟩, ⟨3, (some 14), none, .bin .eql (.s 13) (.k (.c (.int .i64 0)))⟩, ⟨4, (some 15), none, .mv (.s 14)⟩, ⟨5, (some 16), (some (15, true)), .load true 5 (.s 4)⟩, ⟨6, (some 17), (some (15, true)), .mv (.s 1)⟩, ⟨7, (some 18), (some (15, true)), .call ⟨true⟩ (.k (.c (.fn 44 [] []))) [(.s 16), (.s 17)]⟩, ⟨8, (some 19), (some (15, true)), .bin .eql (.s 18) (.k (.c (.int .i64 0)))⟩, ⟨9, (some 20), none, .pick (.s 15) (.s 19) (.k (.c (.bool false)))⟩, ⟨10, (some 21), none, .mv (.s 20)⟩, ⟨11, (some 22), (some (21, true)), .mv (.s 2)⟩, ⟨12, (some 23), (some (21, true)), .call ⟨true⟩ (.k (.c (.fn 45 [] []))) [(.s 22)]⟩, ⟨13, (some 24), none, .pick (.s 21) (.s 23) (.k (.c (.bool false)))⟩] [] (some [24, 1, 2, 4, 7, 8]))
  (.cond (.s 24) (.region 0 [⟨1, (some 26), none, .mv (.s 1)⟩, ⟨2, (some 27), none, .mv (.s 2)⟩, ⟨4, (some 29), none, .faddr 1 (.s 7)⟩, ⟨6, (some 31), none, .faddr 2 (.s 7)⟩, ⟨0, (some 25), none, .load true 5 (.s 4)⟩, ⟨5, (some 30), none, .load false 1 (.s 29)⟩, ⟨7, (some 32), none, .load true 4 (.s 31)⟩, ⟨3, (some 28), none, .call ⟨true⟩ (.k (.c (.fn 46 [] []))) [(.s 25), (.s 26), (.s 27)]⟩, ⟨8, (some 33), none, .call ⟨true⟩ (.k (.c (.fn 47 [] []))) [(.s 28), (.s 30), (.s 32)]⟩, ⟨9, (some 34), none, .faddr 1 (.s 7)⟩, ⟨10, none, none, .store 1 (.s 34) (.s 33)⟩] [(5, 7), (6, 7)] (some [7, 8]))
  .skip))
  (.seq (.region 0 [⟨0, (some 35), none, .load true 6 (.s 7)⟩, ⟨1, none, none, .store 6 (.s 8) (.s 35)⟩] [] (some [8]))
  .ret)))) }
/-- kerbstone/kerbstoneref05.Own -/
abbrev f_kerbstoneref05_Own : Nat := 13
def c_kerbstoneref05_Own : CFn := { frz := true, rnd := none, nargs := 4, ntmps := 39, res := [(.cell 8 true 6)], code :=
  (.seq (.region 3 [⟨0, (some 4), none, .box 0 5 (.s 0)⟩, ⟨1, (some 7), none, .box 1 6 (.s 3)⟩, ⟨2, (some 8), none, .box 2 6 (.k (.a [(.int .i64 0), .nilslice, (.int .i64 0), (.int .i64 0), (.int .i64 0), (.int .i64 0)]))⟩] [] (some [4, 1, 2, 7, 8]))
  (.seq (.region 0 [⟨0, (some 9), none, .load true 6 (.s 7)⟩, ⟨1, (some 10), none, .call ⟨true⟩ (.k (.c (.fn 10 [] []))) [(.s 9)]⟩, ⟨2, none, none, .store 6 (.s 7) (.s 10)⟩] [] (some [4, 1, 2, 7, 8]))
  (.seq (.seq (.region 0 [⟨0, (some 11), none, .load true 5 (.s 4)⟩, ⟨1, (some 12), none, .load true 6 (.s 7)⟩, ⟨2, (some 13), none, .call ⟨true⟩ (.k (.c (.fn 35 [] []))) [(.s 11), (.s 12)]⟩, ⟨3, (some 14), none, .bin .eql (.s 13) (.k (.c (.int .i64 0)))⟩, ⟨4, (some 15), none, .mv (.s 14)⟩, ⟨5, (some 16), (some (15, true)), .load true 5 (.s 4)⟩, ⟨6, (some 17), (some (15, true)), .mv (.s 1)⟩, ⟨7, (some 18), (some (15, true)), .call ⟨true⟩ (.k (.c (.fn 48 [] []))) [(.s 16), (.s 17)]⟩, ⟨8, (some 19), (some (15, true)), .bin .eql (.s 18) (.k (.c (.int .i64 0)))⟩, ⟨9, (some 20), none, .pick (.s 15) (.s 19) (.k (.c (.bool false)))⟩, ⟨10, (some 21), none, .mv (.s 20)⟩, ⟨11, (some 22), (some (21, true)), .mv (.s 2)⟩, ⟨12, (some 23), (some (21, true)), .bin .geq (.s 22) (.k (.c (.int .i64 300)))⟩, ⟨13, (some 24), none, .pick (.s 21) (.s 23) (.k (.c (.bool false)))⟩, ⟨14, (some 25), none, .mv (.s 24)⟩, ⟨15, (some 26), (some (25, true)), .mv (.s 2)⟩, ⟨16, (some 27), (some (25, true)), .bin .leq (.s 26) (.k (.c (.int .i64 20000)))⟩, ⟨17, (some 28), none, .pick (.s 25) (.s 27) (.k (.c (.bool false)))⟩] [] (some [28, 4, 1, 2, 7, 8]))
  (.cond (.s 28) (.region 0 [⟨0, (some 29), none, .load true 5 (.s 4)⟩, ⟨1, (some 30), none, .mv (.s 1)⟩, ⟨2, (some 31), none, .mv (.s 2)⟩, ⟨3, (some 32), none, .faddr 1 (.s 7)⟩, ⟨4, (some 33), none, .load false 1 (.s 32)⟩, ⟨5, (some 34), none, .faddr 2 (.s 7)⟩, ⟨6, (some 35), none, .load true 4 (.s 34)⟩, ⟨7, (some 36), none, .call ⟨true⟩ (.k (.c (.fn 49 [] []))) [(.s 29), (.s 30), (.s 31), (.s 33), (.s 35)]⟩, ⟨8, (some 37), none, .faddr 1 (.s 7)⟩, ⟨9, none, none, .store 1 (.s 37) (.s 36)⟩] [] (some [7, 8]))
  .skip))
  (.seq (.region 0 [⟨0, (some 38), none, .load true 6 (.s 7)⟩, ⟨1, none, none, .store 6 (.s 8) (.s 38)⟩] [] (some [8]))
  .ret)))) }
def c_track_All_l1 : CC := (.seq (.region 0 [⟨0, (some 24), none, .bin .lss (.s 23) (.s 22)⟩] [] (some [24, 23, 22, 6, 21, 3, 7]))
  (.seq (.cond (.s 24) .skip
  (.exit 0))
  (.seq (.block 1 (.seq (.region 1 [⟨0, (some 25), none, .mv (.s 23)⟩, ⟨1, (some 26), none, .iaddr 5 (.s 21) (.s 23)⟩, ⟨2, (some 27), none, .load true 5 (.s 26)⟩, ⟨3, (some 9), none, .box 0 5 (.k (.a [(.int .i64 0), .nilslice, (.int .i64 0), (.int .i64 0), .nilslice]))⟩, ⟨4, (some 8), none, .mv (.s 25)⟩, ⟨5, none, none, .store 5 (.s 9) (.s 27)⟩] [] (some [9, 8, 23, 22, 6, 21, 3, 7]))
  (.seq (.region 0 [⟨0, (some 29), none, .faddr 0 (.s 9)⟩, ⟨1, (some 30), none, .load false 1 (.s 29)⟩, ⟨2, (some 31), none, .call ⟨true⟩ (.k (.c (.fn 55 [] []))) [(.s 30)]⟩, ⟨3, (some 28), none, .mv (.s 31)⟩, ⟨4, (some 32), none, .extract 28 0⟩, ⟨5, (some 33), none, .extract 28 1⟩, ⟨6, (some 34), none, .extract 28 2⟩, ⟨7, (some 10), none, .mv (.s 32)⟩, ⟨8, (some 11), none, .mv (.s 33)⟩, ⟨9, (some 12), none, .mv (.s 34)⟩] [] (some [8, 10, 23, 22, 6, 21, 3, 7]))
  (.region 1 [⟨0, (some 35), none, .faddr 1 (.s 7)⟩, ⟨2, (some 37), none, .mv (.s 8)⟩, ⟨4, (some 39), none, .mv (.s 8)⟩, ⟨6, (some 41), none, .mv (.s 10)⟩, ⟨1, (some 36), none, .load false 1 (.s 35)⟩, ⟨3, (some 38), none, .load true 5 (.s 3)⟩, ⟨5, (some 40), none, .call ⟨true⟩ (.k (.c (.fn 56 [] []))) [(.s 38), (.s 39)]⟩, ⟨7, (some 42), none, .build [(.int .i64 0), (.int .i64 0), (.int .i64 0), (.int .i64 0), (.int .i64 0), (.int .i64 0)] [(0, 1, (.s 37)), (2, 1, (.s 40)), (4, 1, (.s 41))]⟩, ⟨8, (some 43), none, .lit 0 6 [[(.int .i64 0), (.int .i64 0), (.int .i64 0), (.int .i64 0), (.int .i64 0), (.int .i64 0)]] [(0, (.s 42))]⟩, ⟨9, (some 44), none, .append 6 48 (.s 36) (.s 43)⟩, ⟨10, (some 45), none, .faddr 1 (.s 7)⟩, ⟨11, none, none, .store 1 (.s 45) (.s 44)⟩] [(4, 6), (4, 8)] (some [23, 22, 6, 21, 3, 7])))))
  (.region 0 [⟨0, (some 46), none, .bin .add (.s 23) (.k (.c (.int .i64 1)))⟩, ⟨1, (some 23), none, .mv (.s 46)⟩] [] (some [23, 22, 6, 21, 3, 7])))))
/-- kerbstone/track.All -/
abbrev f_track_All : Nat := 17
def c_track_All : CFn := { frz := true, rnd := none, nargs := 3, ntmps := 48, res := [(.cell 6 true 6)], code :=
  (.seq (.region 3 [⟨0, (some 3), none, .box 0 5 (.s 0)⟩, ⟨1, (some 5), none, .box 1 4 (.s 2)⟩, ⟨2, (some 6), none, .box 2 6 (.k (.a [(.int .i64 0), .nilslice, (.int .i64 0), (.int .i64 0), (.int .i64 0), (.int .i64 0)]))⟩] [] (some [1, 5, 3, 6]))
  (.seq (.region 1 [⟨0, (some 13), none, .mv (.s 1)⟩, ⟨1, (some 14), none, .load true 4 (.s 5)⟩, ⟨2, (some 15), none, .build [(.int .i64 0), .nilslice, (.int .i64 0), (.int .i64 0), (.int .i64 0), (.int .i64 0)] [(0, 1, (.s 13)), (2, 4, (.s 14))]⟩, ⟨3, (some 7), none, .box 0 6 (.k (.a [(.int .i64 0), .nilslice, (.int .i64 0), (.int .i64 0), (.int .i64 0), (.int .i64 0)]))⟩, ⟨4, none, none, .store 6 (.s 7) (.s 15)⟩] [] (some [3, 7, 6]))
  (.seq (.seq (.region 0 [⟨0, (some 16), none, .load true 5 (.s 3)⟩, ⟨1, (some 17), none, .call ⟨true⟩ (.k (.c (.fn 54 [] []))) [(.s 16)]⟩, ⟨2, (some 18), none, .bin .neq (.s 17) (.k (.c (.int .i64 0)))⟩] [] (some [18, 3, 7, 6]))
  (.cond (.s 18) (.seq (.region 0 [⟨0, (some 19), none, .load true 6 (.s 7)⟩, ⟨1, none, none, .store 6 (.s 6) (.s 19)⟩] [] (some [6]))
  .ret)
  .skip))
  (.seq (.seq (.region 0 [⟨0, (some 20), none, .faddr 1 (.s 3)⟩, ⟨1, (some 21), none, .load false 1 (.s 20)⟩, ⟨2, (some 22), none, .len (.s 21)⟩, ⟨3, (some 23), none, .mv (.k (.c (.int .i64 0)))⟩] [] (some [23, 22, 6, 21, 3, 7]))
  (.block 0 (.loop (some [23, 22, 6, 21, 3, 7]) c_track_All_l1)))
  (.seq (.region 0 [⟨0, (some 47), none, .load true 6 (.s 7)⟩, ⟨1, none, none, .store 6 (.s 6) (.s 47)⟩] [] (some [6]))
  .ret))))) }
/-- kerbstone/track.Copy -/
abbrev f_track_Copy : Nat := 27
def c_track_Copy : CFn := { frz := true, rnd := none, nargs := 1, ntmps := 8, res := [(.cell 2 true 6)], code :=
  (.seq (.region 2 [⟨0, (some 1), none, .box 0 6 (.s 0)⟩, ⟨1, (some 2), none, .box 1 6 (.k (.a [(.int .i64 0), .nilslice, (.int .i64 0), (.int .i64 0), (.int .i64 0), (.int .i64 0)]))⟩] [] (some [1, 2]))
  (.seq (.region 0 [⟨0, (some 3), none, .faddr 1 (.s 1)⟩, ⟨1, (some 4), none, .load false 1 (.s 3)⟩, ⟨2, (some 5), none, .call ⟨true⟩ (.k (.c (.fn 78 [] []))) [(.s 4)]⟩, ⟨3, (some 6), none, .faddr 1 (.s 1)⟩, ⟨4, none, none, .store 1 (.s 6) (.s 5)⟩] [] (some [1, 2]))
  (.seq (.region 0 [⟨0, (some 7), none, .load true 6 (.s 1)⟩, ⟨1, none, none, .store 6 (.s 2) (.s 7)⟩] [] (some [2]))
  .ret))) }
def c_kerbstoneref05_Check_l1 : CC := (.seq (.seq (.region 0 [⟨0, (some 57), none, .mv (.s 7)⟩, ⟨1, (some 58), none, .faddr 1 (.s 3)⟩, ⟨2, (some 59), none, .load false 1 (.s 58)⟩, ⟨3, (some 60), none, .len (.s 59)⟩, ⟨4, (some 61), none, .bin .lss (.s 57) (.s 60)⟩, ⟨5, (some 62), none, .mv (.s 61)⟩, ⟨6, (some 63), (some (62, true)), .mv (.s 5)⟩, ⟨7, (some 64), (some (62, true)), .bin .eql (.s 63) (.k (.c (.int .i64 0)))⟩, ⟨8, (some 65), none, .pick (.s 62) (.s 64) (.k (.c (.bool false)))⟩] [] (some [65, 5, 7, 2, 3]))
  (.cond (.s 65) .skip
  (.exit 0)))
  (.seq (.block 1 (.region 0 [⟨0, (some 68), none, .load true 5 (.s 2)⟩, ⟨1, (some 69), none, .faddr 1 (.s 3)⟩, ⟨2, (some 70), none, .load false 1 (.s 69)⟩, ⟨3, (some 71), none, .mv (.s 7)⟩, ⟨4, (some 72), none, .call ⟨true⟩ (.k (.c (.fn 94 [] []))) [(.s 68), (.s 70), (.s 71)]⟩, ⟨5, (some 5), none, .mv (.s 72)⟩] [] (some [7, 5, 2, 3])))
  (.region 0 [⟨0, (some 66), none, .mv (.s 7)⟩, ⟨1, (some 67), none, .bin .add (.s 66) (.k (.c (.int .i64 1)))⟩, ⟨2, (some 7), none, .mv (.s 67)⟩] [] (some [5, 7, 2, 3]))))
/-- kerbstone/kerbstoneref05.Check -/
abbrev f_kerbstoneref05_Check : Nat := 35
def c_kerbstoneref05_Check : CFn := { frz := true, rnd := none, nargs := 2, ntmps := 74, res := [(.slot 4)], code :=
  (.seq (.region 2 [⟨0, (some 2), none, .box 0 5 (.s 0)⟩, ⟨1, (some 3), none, .box 1 6 (.s 1)⟩, ⟨2, (some 4), none, .mv (.k (.c (.int .i64 0)))⟩] [] (some [2, 3]))
  (.seq (.region 0 [⟨0, (some 8), none, .load true 5 (.s 2)⟩, ⟨1, (some 9), none, .call ⟨true⟩ (.k (.c (.fn 85 [] []))) [(.s 8)]⟩, ⟨2, (some 5), none, .mv (.s 9)⟩] [] (some [2, 3, 5]))
  (.seq (.seq (.region 0 [⟨0, (some 10), none, .mv (.s 5)⟩, ⟨1, (some 11), none, .bin .neq (.s 10) (.k (.c (.int .i64 0)))⟩] [] (some [11, 2, 3, 5]))
  (.cond (.s 11) (.seq (.region 0 [⟨0, (some 12), none, .mv (.s 5)⟩, ⟨1, (some 4), none, .mv (.s 12)⟩] [] (some [4]))
  .ret)
  .skip))
  (.seq (.region 1 [⟨0, (some 13), none, .faddr 2 (.s 3)⟩, ⟨1, (some 14), none, .load true 4 (.s 13)⟩, ⟨2, (some 6), none, .box 0 4 (.k (.a [(.int .i64 0), (.int .i64 0), (.int .i64 0), (.int .i64 0)]))⟩, ⟨3, none, none, .store 4 (.s 6) (.s 14)⟩] [] (some [6, 3, 2, 5]))
  (.seq (.seq (.region 0 [⟨0, (some 15), none, .faddr 0 (.s 3)⟩, ⟨1, (some 16), none, .load false 1 (.s 15)⟩, ⟨2, (some 17), none, .bin .lss (.s 16) (.k (.c (.int .i64 0)))⟩, ⟨3, (some 18), none, .mv (.s 17)⟩, ⟨4, (some 19), (some (18, false)), .faddr 0 (.s 3)⟩, ⟨5, (some 20), (some (18, false)), .load false 1 (.s 19)⟩, ⟨6, (some 21), (some (18, false)), .bin .gtr (.s 20) (.k (.c (.int .i64 1099511627776)))⟩, ⟨7, (some 22), none, .pick (.s 18) (.k (.c (.bool true))) (.s 21)⟩, ⟨8, (some 23), none, .mv (.s 22)⟩, ⟨9, (some 24), (some (23, false)), .faddr 0 (.s 6)⟩, ⟨10, (some 25), (some (23, false)), .load false 1 (.s 24)⟩, ⟨11, (some 26), (some (23, false)), .bin .lss (.s 25) (.k (.c (.int .i64 0)))⟩, ⟨12, (some 27), none, .pick (.s 23) (.k (.c (.bool true))) (.s 26)⟩, ⟨13, (some 28), none, .mv (.s 27)⟩, ⟨14, (some 29), (some (28, false)), .faddr 0 (.s 6)⟩, ⟨15, (some 30), (some (28, false)), .load false 1 (.s 29)⟩, ⟨16, (some 31), (some (28, false)), .faddr 1 (.s 6)⟩, ⟨17, (some 32), (some (28, false)), .load false 1 (.s 31)⟩, ⟨18, (some 33), (some (28, false)), .bin .gtr (.s 30) (.s 32)⟩, ⟨19, (some 34), none, .pick (.s 28) (.k (.c (.bool true))) (.s 33)⟩, ⟨20, (some 35), none, .mv (.s 34)⟩, ⟨21, (some 36), (some (35, false)), .faddr 1 (.s 6)⟩, ⟨22, (some 37), (some (35, false)), .load false 1 (.s 36)⟩, ⟨23, (some 38), (some (35, false)), .bin .gtr (.s 37) (.k (.c (.int .i64 1099511627776)))⟩, ⟨24, (some 39), none, .pick (.s 35) (.k (.c (.bool true))) (.s 38)⟩, ⟨25, (some 40), none, .mv (.s 39)⟩, ⟨26, (some 41), (some (40, false)), .faddr 2 (.s 6)⟩, ⟨27, (some 42), (some (40, false)), .load false 1 (.s 41)⟩, ⟨28, (some 43), (some (40, false)), .bin .lss (.s 42) (.k (.c (.int .i64 0)))⟩, ⟨29, (some 44), none, .pick (.s 40) (.k (.c (.bool true))) (.s 43)⟩, ⟨30, (some 45), none, .mv (.s 44)⟩, ⟨31, (some 46), (some (45, false)), .faddr 2 (.s 6)⟩, ⟨32, (some 47), (some (45, false)), .load false 1 (.s 46)⟩, ⟨33, (some 48), (some (45, false)), .faddr 3 (.s 6)⟩, ⟨34, (some 49), (some (45, false)), .load false 1 (.s 48)⟩, ⟨35, (some 50), (some (45, false)), .bin .gtr (.s 47) (.s 49)⟩, ⟨36, (some 51), none, .pick (.s 45) (.k (.c (.bool true))) (.s 50)⟩, ⟨37, (some 52), none, .mv (.s 51)⟩, ⟨38, (some 53), (some (52, false)), .faddr 3 (.s 6)⟩, ⟨39, (some 54), (some (52, false)), .load false 1 (.s 53)⟩, ⟨40, (some 55), (some (52, false)), .bin .gtr (.s 54) (.k (.c (.int .i64 2000)))⟩, ⟨41, (some 56), none, .pick (.s 52) (.k (.c (.bool true))) (.s 55)⟩] [] (some [56, 3, 2, 5]))
  (.cond (.s 56) (.seq (.region 0 [⟨0, (some 4), none, .mv (.k (.c (.int .i64 2)))⟩] [] (some [4]))
  .ret)
  .skip))
  (.seq (.seq (.region 0 [⟨0, (some 7), none, .mv (.k (.c (.int .i64 0)))⟩] [] (some [5, 7, 2, 3]))
  (.block 0 (.loop (some [5, 7, 2, 3]) c_kerbstoneref05_Check_l1)))
  (.seq (.region 0 [⟨0, (some 73), none, .mv (.s 5)⟩, ⟨1, (some 4), none, .mv (.s 73)⟩] [] (some [4]))
  .ret))))))) }
/-- kerbstone/track.Join -/
abbrev f_track_Join : Nat := 36
def c_track_Join : CFn := { frz := true, rnd := none, nargs := 1, ntmps := 5, res := [(.slot 2)], code :=
  (.seq (.region 1 [⟨0, (some 2), none, .newsl 0 6⟩] [] (some [0]))
  (.seq (.region 0 [⟨0, (some 3), none, .mv (.s 0)⟩, ⟨1, (some 4), none, .call ⟨true⟩ (.k (.c (.fn 95 [] []))) [(.s 3)]⟩, ⟨2, (some 2), none, .mv (.s 4)⟩] [] (some [2]))
  .ret)) }
/-- kerbstone/kerbstonekit.Cross -/
abbrev f_kerbstonekit_Cross : Nat := 37
def c_kerbstonekit_Cross : CFn := { frz := true, rnd := none, nargs := 0, ntmps := 12, res := [(.cell 0 true 5)], code :=
  (.seq (.region 1 [⟨0, (some 0), none, .box 0 5 (.k (.a [(.int .i64 0), .nilslice, .nilslice, .nilslice, .nilslice]))⟩] [] (some [0]))
  (.seq (.region 5 [⟨0, (some 1), none, .lit 0 1 [[(.int .i64 0)], [(.int .i64 0)], [(.int .i64 0)], [(.int .i64 0)]] [(0, (.k (.c (.int .i64 0)))), (1, (.k (.c (.int .i64 0)))), (2, (.k (.c (.int .i64 100000)))), (3, (.k (.c (.int .i64 0))))]⟩, ⟨1, (some 2), none, .call ⟨true⟩ (.k (.c (.fn 41 [] []))) [(.k (.c (.int .i64 1))), (.k (.c (.int .i64 1500))), (.k (.c .nilslice)), (.s 1)]⟩, ⟨2, (some 3), none, .lit 1 1 [[(.int .i64 0)], [(.int .i64 0)], [(.int .i64 0)], [(.int .i64 0)]] [(0, (.k (.c (.int .i64 50000)))), (1, (.k (.c (.int .i64 (-50000))))), (2, (.k (.c (.int .i64 50000)))), (3, (.k (.c (.int .i64 50000))))]⟩, ⟨3, (some 4), none, .call ⟨true⟩ (.k (.c (.fn 41 [] []))) [(.k (.c (.int .i64 1))), (.k (.c (.int .i64 1500))), (.k (.c .nilslice)), (.s 3)]⟩, ⟨4, (some 5), none, .lit 2 5 [[(.int .i64 0), .nilslice, (.int .i64 0), (.int .i64 0), .nilslice], [(.int .i64 0), .nilslice, (.int .i64 0), (.int .i64 0), .nilslice]] [(0, (.s 2)), (1, (.s 4))]⟩, ⟨5, (some 6), none, .build [(.int .i64 0), (.int .i64 0), (.int .i64 0), (.int .i64 0)] [(0, 1, (.k (.c (.int .i64 0)))), (1, 1, (.k (.c (.int .i64 48000)))), (2, 1, (.k (.c (.int .i64 52000)))), (3, 1, (.k (.c (.int .i64 1))))]⟩, ⟨6, (some 7), none, .build [(.int .i64 0), (.int .i64 0), (.int .i64 0), (.int .i64 0)] [(0, 1, (.k (.c (.int .i64 1)))), (1, 1, (.k (.c (.int .i64 48000)))), (2, 1, (.k (.c (.int .i64 52000))))]⟩, ⟨7, (some 8), none, .lit 3 4 [[(.int .i64 0), (.int .i64 0), (.int .i64 0), (.int .i64 0)], [(.int .i64 0), (.int .i64 0), (.int .i64 0), (.int .i64 0)]] [(0, (.s 6)), (1, (.s 7))]⟩, ⟨8, (some 9), none, .build [.nilslice, (.int .i64 0)] [(0, 1, (.s 8))]⟩, ⟨9, (some 10), none, .lit 4 2 [[.nilslice, (.int .i64 0)]] [(0, (.s 9))]⟩, ⟨10, (some 11), none, .build [(.int .i64 0), .nilslice, .nilslice, .nilslice, .nilslice] [(1, 1, (.s 5)), (2, 1, (.s 10))]⟩, ⟨11, none, none, .store 5 (.s 0) (.s 11)⟩] [] (some [0]))
  .ret)) }
/-- kerbstone/kerbstonelaw05.start -/
abbrev f_kerbstonelaw05_start : Nat := 38
def c_kerbstonelaw05_start : CFn := { frz := true, rnd := none, nargs := 0, ntmps := 2, res := [(.cell 0 true 4)], code :=
  (.seq (.region 1 [⟨0, (some 0), none, .box 0 4 (.k (.a [(.int .i64 0), (.int .i64 0), (.int .i64 0), (.int .i64 0)]))⟩] [] (some [0]))
  (.seq (.region 0 [⟨0, (some 1), none, .build [(.int .i64 0), (.int .i64 0), (.int .i64 0), (.int .i64 0)] [(0, 1, (.k (.c (.int .i64 10000)))), (1, 1, (.k (.c (.int .i64 10010))))]⟩, ⟨1, none, none, .store 4 (.s 0) (.s 1)⟩] [] (some [0]))
  .ret)) }
def c_kerbstonekit_SameBlobs_l1 : CC := (.seq (.seq (.region 0 [⟨0, (some 6), none, .mv (.s 5)⟩, ⟨1, (some 7), none, .mv (.s 0)⟩, ⟨2, (some 8), none, .len (.s 7)⟩, ⟨3, (some 9), none, .bin .lss (.s 6) (.s 8)⟩, ⟨4, (some 10), none, .mv (.s 9)⟩, ⟨5, (some 11), (some (10, true)), .mv (.s 5)⟩, ⟨6, (some 12), (some (10, true)), .mv (.s 1)⟩, ⟨7, (some 13), (some (10, true)), .len (.s 12)⟩, ⟨8, (some 14), (some (10, true)), .bin .lss (.s 11) (.s 13)⟩, ⟨9, (some 15), none, .pick (.s 10) (.s 14) (.k (.c (.bool false)))⟩] [] (some [15, 1, 0, 5]))
  (.cond (.s 15) .skip
  (.exit 0)))
  (.seq (.block 1 (.seq (.region 0 [⟨0, (some 18), none, .mv (.s 0)⟩, ⟨1, (some 19), none, .mv (.s 5)⟩, ⟨2, (some 20), none, .iaddr 6 (.s 18) (.s 19)⟩, ⟨4, (some 22), none, .mv (.s 1)⟩, ⟨5, (some 23), none, .mv (.s 5)⟩, ⟨6, (some 24), none, .iaddr 6 (.s 22) (.s 23)⟩, ⟨3, (some 21), none, .load true 6 (.s 20)⟩, ⟨7, (some 25), none, .load true 6 (.s 24)⟩, ⟨8, (some 26), none, .eqa true [false, false, false, false, false, false] (.s 21) (.s 25)⟩] [] (some [26, 1, 0, 5]))
  (.cond (.s 26) (.seq (.region 0 [⟨0, (some 4), none, .mv (.k (.c (.bool false)))⟩] [] (some [4]))
  .ret)
  .skip)))
  (.region 0 [⟨0, (some 16), none, .mv (.s 5)⟩, ⟨1, (some 17), none, .bin .add (.s 16) (.k (.c (.int .i64 1)))⟩, ⟨2, (some 5), none, .mv (.s 17)⟩] [] (some [0, 1, 5]))))
/-- kerbstone/kerbstonekit.SameBlobs -/
abbrev f_kerbstonekit_SameBlobs : Nat := 39
def c_kerbstonekit_SameBlobs : CFn := { frz := true, rnd := none, nargs := 2, ntmps := 32, res := [(.slot 4)], code :=
  (.seq (.region 0 [⟨0, (some 4), none, .mv (.k (.c (.bool false)))⟩] [] (some [0, 1]))
  (.seq (.seq (.region 0 [⟨0, (some 5), none, .mv (.k (.c (.int .i64 0)))⟩] [] (some [0, 1, 5]))
  (.block 0 (.loop (some [0, 1, 5]) c_kerbstonekit_SameBlobs_l1)))
  (.seq (.region 0 [⟨0, (some 27), none, .mv (.s 0)⟩, ⟨1, (some 28), none, .len (.s 27)⟩, ⟨2, (some 29), none, .mv (.s 1)⟩, ⟨3, (some 30), none, .len (.s 29)⟩, ⟨4, (some 31), none, .bin .eql (.s 28) (.s 30)⟩, ⟨5, (some 4), none, .mv (.s 31)⟩] [] (some [4]))
  .ret))) }
/-- kerbstone/kerbstonekit.Mod -/
abbrev f_kerbstonekit_Mod : Nat := 40
def c_kerbstonekit_Mod : CFn := { frz := true, rnd := none, nargs := 2, ntmps := 14, res := [(.slot 4)], code :=
  (.seq (.region 0 [⟨0, (some 4), none, .mv (.k (.c (.int .i64 0)))⟩] [] (some [0, 1]))
  (.seq (.region 0 [⟨0, (some 5), none, .mv (.s 0)⟩, ⟨1, (some 6), none, .mv (.s 1)⟩, ⟨2, (some 7), none, .bin .rem (.s 5) (.s 6)⟩, ⟨3, (some 0), none, .mv (.s 7)⟩] [] (some [0, 1]))
  (.seq (.seq (.region 0 [⟨0, (some 8), none, .mv (.s 0)⟩, ⟨1, (some 9), none, .bin .lss (.s 8) (.k (.c (.int .i64 0)))⟩] [] (some [9, 0, 1]))
  (.cond (.s 9) (.region 0 [⟨0, (some 10), none, .mv (.s 0)⟩, ⟨1, (some 11), none, .mv (.s 1)⟩, ⟨2, (some 12), none, .bin .add (.s 10) (.s 11)⟩, ⟨3, (some 0), none, .mv (.s 12)⟩] [] (some [0]))
  .skip))
  (.seq (.region 0 [⟨0, (some 13), none, .mv (.s 0)⟩, ⟨1, (some 4), none, .mv (.s 13)⟩] [] (some [4]))
  .ret)))) }
def c_kerbstonekit_road_l1 : CC := (.seq (.seq (.region 0 [⟨0, (some 15), none, .mv (.s 10)⟩, ⟨1, (some 16), none, .bin .add (.s 15) (.k (.c (.int .i64 1)))⟩, ⟨2, (some 17), none, .mv (.s 3)⟩, ⟨3, (some 18), none, .len (.s 17)⟩, ⟨4, (some 19), none, .bin .lss (.s 16) (.s 18)⟩] [] (some [19, 10, 8, 0, 3, 9]))
  (.cond (.s 19) .skip
  (.exit 0)))
  (.seq (.block 1 (.region 1 [⟨0, (some 22), none, .faddr 1 (.s 9)⟩, ⟨1, (some 23), none, .faddr 0 (.s 22)⟩, ⟨3, (some 25), none, .mv (.s 3)⟩, ⟨4, (some 26), none, .mv (.s 10)⟩, ⟨5, (some 27), none, .iaddr 1 (.s 25) (.s 26)⟩, ⟨7, (some 29), none, .mv (.s 3)⟩, ⟨8, (some 30), none, .mv (.s 10)⟩, ⟨9, (some 31), none, .bin .add (.s 30) (.k (.c (.int .i64 1)))⟩, ⟨10, (some 32), none, .iaddr 1 (.s 29) (.s 31)⟩, ⟨2, (some 24), none, .load false 1 (.s 23)⟩, ⟨6, (some 28), none, .load false 1 (.s 27)⟩, ⟨11, (some 33), none, .load false 1 (.s 32)⟩, ⟨12, (some 34), none, .build [(.int .i64 0), (.int .i64 0)] [(0, 1, (.s 28)), (1, 1, (.s 33))]⟩, ⟨13, (some 35), none, .lit 0 2 [[(.int .i64 0), (.int .i64 0)]] [(0, (.s 34))]⟩, ⟨14, (some 36), none, .append 2 16 (.s 24) (.s 35)⟩, ⟨15, (some 37), none, .faddr 1 (.s 9)⟩, ⟨16, (some 38), none, .faddr 0 (.s 37)⟩, ⟨17, none, none, .store 1 (.s 38) (.s 36)⟩] [(9, 13)] (some [10, 8, 0, 3, 9])))
  (.region 0 [⟨0, (some 20), none, .mv (.s 10)⟩, ⟨1, (some 21), none, .bin .add (.s 20) (.k (.c (.int .i64 2)))⟩, ⟨2, (some 10), none, .mv (.s 21)⟩] [] (some [10, 8, 0, 3, 9]))))
/-- kerbstone/kerbstonekit.road -/
abbrev f_kerbstonekit_road : Nat := 41
def c_kerbstonekit_road : CFn := { frz := true, rnd := none, nargs := 4, ntmps := 43, res := [(.cell 8 true 5)], code :=
  (.seq (.region 1 [⟨0, (some 8), none, .box 0 5 (.k (.a [(.int .i64 0), .nilslice, (.int .i64 0), (.int .i64 0), .nilslice]))⟩] [] (some [1, 2, 8, 0, 3]))
  (.seq (.region 1 [⟨0, (some 11), none, .mv (.s 0)⟩, ⟨1, (some 12), none, .mv (.s 1)⟩, ⟨2, (some 13), none, .mv (.s 2)⟩, ⟨3, (some 14), none, .build [(.int .i64 0), .nilslice, (.int .i64 0), (.int .i64 0), .nilslice] [(0, 1, (.s 11)), (2, 1, (.k (.c (.int .i64 1500)))), (3, 1, (.s 12)), (4, 1, (.s 13))]⟩, ⟨4, (some 9), none, .box 0 5 (.k (.a [(.int .i64 0), .nilslice, (.int .i64 0), (.int .i64 0), .nilslice]))⟩, ⟨5, none, none, .store 5 (.s 9) (.s 14)⟩] [] (some [8, 0, 3, 9]))
  (.seq (.seq (.region 0 [⟨0, (some 10), none, .mv (.k (.c (.int .i64 0)))⟩] [] (some [10, 8, 0, 3, 9]))
  (.block 0 (.loop (some [10, 8, 0, 3, 9]) c_kerbstonekit_road_l1)))
  (.seq (.seq (.region 0 [⟨0, (some 39), none, .mv (.s 0)⟩, ⟨1, (some 40), none, .bin .eql (.s 39) (.k (.c (.int .i64 3)))⟩] [] (some [40, 9, 8]))
  (.cond (.s 40) (.region 0 [⟨0, (some 41), none, .faddr 2 (.s 9)⟩, ⟨1, none, none, .store 1 (.s 41) (.k (.c (.int .i64 500)))⟩] [] (some [9, 8]))
  .skip))
  (.seq (.region 0 [⟨0, (some 42), none, .load true 5 (.s 9)⟩, ⟨1, none, none, .store 5 (.s 8) (.s 42)⟩] [] (some [8]))
  .ret))))) }
/-- kerbstone/kerbstonekit.signal -/
abbrev f_kerbstonekit_signal : Nat := 42
def c_kerbstonekit_signal : CFn := { frz := true, rnd := none, nargs := 3, ntmps := 18, res := [(.cell 6 true 2)], code :=
  (.seq (.region 1 [⟨0, (some 6), none, .box 0 2 (.k (.a [(.int .i64 0), .nilslice]))⟩] [] (some [0, 1, 2, 6]))
  (.seq (.region 3 [⟨0, (some 7), none, .mv (.s 0)⟩, ⟨1, (some 8), none, .mv (.s 1)⟩, ⟨2, (some 9), none, .lit 0 1 [[(.int .i64 0)]] [(0, (.s 8))]⟩, ⟨3, (some 10), none, .build [(.int .i64 0), .nilslice] [(0, 1, (.k (.c (.int .i64 12)))), (1, 1, (.s 9))]⟩, ⟨4, (some 11), none, .build [(.int .i64 0), .nilslice] [(0, 1, (.k (.c (.int .i64 5))))]⟩, ⟨5, (some 12), none, .mv (.s 2)⟩, ⟨6, (some 13), none, .lit 1 1 [[(.int .i64 0)]] [(0, (.s 12))]⟩, ⟨7, (some 14), none, .build [(.int .i64 0), .nilslice] [(0, 1, (.k (.c (.int .i64 9)))), (1, 1, (.s 13))]⟩, ⟨8, (some 15), none, .build [(.int .i64 0), .nilslice] [(0, 1, (.k (.c (.int .i64 4))))]⟩, ⟨9, (some 16), none, .lit 2 2 [[(.int .i64 0), .nilslice], [(.int .i64 0), .nilslice], [(.int .i64 0), .nilslice], [(.int .i64 0), .nilslice]] [(0, (.s 10)), (1, (.s 11)), (2, (.s 14)), (3, (.s 15))]⟩, ⟨10, (some 17), none, .build [(.int .i64 0), .nilslice] [(0, 1, (.s 7)), (1, 1, (.s 16))]⟩, ⟨11, none, none, .store 2 (.s 6) (.s 17)⟩] [] (some [6]))
  .ret)) }
def c_track_Check_l1 : CC := (.seq (.region 0 [⟨0, (some 64), none, .bin .lss (.s 63) (.s 62)⟩] [] (some [64, 2, 7, 61, 62, 63]))
  (.seq (.cond (.s 64) .skip
  (.exit 0))
  (.seq (.block 1 (.seq (.region 1 [⟨0, (some 65), none, .iaddr 6 (.s 61) (.s 63)⟩, ⟨1, (some 66), none, .load true 6 (.s 65)⟩, ⟨2, (some 9), none, .box 0 6 (.k (.a [(.int .i64 0), (.int .i64 0), (.int .i64 0), (.int .i64 0), (.int .i64 0), (.int .i64 0)]))⟩, ⟨3, none, none, .store 6 (.s 9) (.s 66)⟩] [] (some [2, 7, 61, 62, 63, 9]))
  (.seq (.seq (.region 0 [⟨0, (some 67), none, .faddr 0 (.s 9)⟩, ⟨1, (some 68), none, .load false 1 (.s 67)⟩, ⟨2, (some 69), none, .bin .lss (.s 68) (.k (.c (.int .i64 0)))⟩, ⟨3, (some 70), none, .mv (.s 69)⟩, ⟨4, (some 71), (some (70, false)), .faddr 0 (.s 9)⟩, ⟨5, (some 72), (some (70, false)), .load false 1 (.s 71)⟩, ⟨6, (some 73), (some (70, false)), .faddr 1 (.s 2)⟩, ⟨7, (some 74), (some (70, false)), .load false 1 (.s 73)⟩, ⟨8, (some 75), (some (70, false)), .len (.s 74)⟩, ⟨9, (some 76), (some (70, false)), .bin .geq (.s 72) (.s 75)⟩, ⟨10, (some 77), none, .pick (.s 70) (.k (.c (.bool true))) (.s 76)⟩] [] (some [77, 2, 7, 61, 62, 63, 9]))
  (.cond (.s 77) (.seq (.region 0 [⟨0, (some 4), none, .mv (.k (.c (.int .i64 7)))⟩] [] (some [4]))
  .ret)
  .skip))
  (.seq (.region 0 [⟨0, (some 78), none, .load true 5 (.s 2)⟩, ⟨1, (some 79), none, .faddr 0 (.s 9)⟩, ⟨2, (some 80), none, .load false 1 (.s 79)⟩, ⟨3, (some 81), none, .call ⟨true⟩ (.k (.c (.fn 56 [] []))) [(.s 78), (.s 80)]⟩, ⟨4, (some 10), none, .mv (.s 81)⟩] [] (some [10, 9, 63, 62, 61, 7, 2]))
  (.seq (.region 0 [⟨0, (some 83), none, .faddr 1 (.s 2)⟩, ⟨1, (some 84), none, .load false 1 (.s 83)⟩, ⟨2, (some 85), none, .faddr 0 (.s 9)⟩, ⟨3, (some 86), none, .load false 1 (.s 85)⟩, ⟨4, (some 87), none, .iaddr 5 (.s 84) (.s 86)⟩, ⟨5, (some 88), none, .faddr 0 (.s 87)⟩, ⟨6, (some 89), none, .load false 1 (.s 88)⟩, ⟨7, (some 90), none, .call ⟨true⟩ (.k (.c (.fn 55 [] []))) [(.s 89)]⟩, ⟨8, (some 82), none, .mv (.s 90)⟩, ⟨9, (some 91), none, .extract 82 0⟩, ⟨10, (some 92), none, .extract 82 1⟩, ⟨11, (some 93), none, .extract 82 2⟩, ⟨12, (some 11), none, .mv (.s 91)⟩, ⟨13, (some 12), none, .mv (.s 92)⟩, ⟨14, (some 13), none, .mv (.s 93)⟩] [] (some [11, 10, 9, 63, 62, 61, 7, 2]))
  (.seq (.seq (.region 0 [⟨0, (some 94), none, .faddr 1 (.s 9)⟩, ⟨1, (some 95), none, .load false 1 (.s 94)⟩, ⟨2, (some 96), none, .bin .lss (.s 95) (.k (.c (.int .i64 0)))⟩, ⟨3, (some 97), none, .mv (.s 96)⟩, ⟨4, (some 98), (some (97, false)), .faddr 1 (.s 9)⟩, ⟨5, (some 99), (some (97, false)), .load false 1 (.s 98)⟩, ⟨6, (some 100), (some (97, false)), .faddr 2 (.s 9)⟩, ⟨7, (some 101), (some (97, false)), .load false 1 (.s 100)⟩, ⟨8, (some 102), (some (97, false)), .bin .gtr (.s 99) (.s 101)⟩, ⟨9, (some 103), none, .pick (.s 97) (.k (.c (.bool true))) (.s 102)⟩, ⟨10, (some 104), none, .mv (.s 103)⟩, ⟨11, (some 105), (some (104, false)), .faddr 2 (.s 9)⟩, ⟨12, (some 106), (some (104, false)), .load false 1 (.s 105)⟩, ⟨13, (some 107), (some (104, false)), .mv (.s 10)⟩, ⟨14, (some 108), (some (104, false)), .bin .gtr (.s 106) (.s 107)⟩, ⟨15, (some 109), none, .pick (.s 104) (.k (.c (.bool true))) (.s 108)⟩, ⟨16, (some 110), none, .mv (.s 109)⟩, ⟨17, (some 111), (some (110, false)), .faddr 3 (.s 9)⟩, ⟨18, (some 112), (some (110, false)), .load false 1 (.s 111)⟩, ⟨19, (some 113), (some (110, false)), .bin .lss (.s 112) (.k (.c (.int .i64 0)))⟩, ⟨20, (some 114), none, .pick (.s 110) (.k (.c (.bool true))) (.s 113)⟩, ⟨21, (some 115), none, .mv (.s 114)⟩, ⟨22, (some 116), (some (115, false)), .faddr 3 (.s 9)⟩, ⟨23, (some 117), (some (115, false)), .load false 1 (.s 116)⟩, ⟨24, (some 118), (some (115, false)), .faddr 4 (.s 9)⟩, ⟨25, (some 119), (some (115, false)), .load false 1 (.s 118)⟩, ⟨26, (some 120), (some (115, false)), .bin .gtr (.s 117) (.s 119)⟩, ⟨27, (some 121), none, .pick (.s 115) (.k (.c (.bool true))) (.s 120)⟩, ⟨28, (some 122), none, .mv (.s 121)⟩, ⟨29, (some 123), (some (122, false)), .faddr 4 (.s 9)⟩, ⟨30, (some 124), (some (122, false)), .load false 1 (.s 123)⟩, ⟨31, (some 125), (some (122, false)), .mv (.s 11)⟩, ⟨32, (some 126), (some (122, false)), .bin .gtr (.s 124) (.s 125)⟩, ⟨33, (some 127), none, .pick (.s 122) (.k (.c (.bool true))) (.s 126)⟩, ⟨34, (some 128), none, .mv (.s 127)⟩, ⟨35, (some 129), (some (128, false)), .faddr 5 (.s 9)⟩, ⟨36, (some 130), (some (128, false)), .load false 1 (.s 129)⟩, ⟨37, (some 131), (some (128, false)), .mv (.s 10)⟩, ⟨38, (some 132), (some (128, false)), .call ⟨true⟩ (.k (.c (.fn 66 [] []))) [(.s 130), (.k (.c (.int .i64 0))), (.s 131)]⟩, ⟨39, (some 133), (some (128, false)), .un .not (.s 132)⟩, ⟨40, (some 134), none, .pick (.s 128) (.k (.c (.bool true))) (.s 133)⟩] [] (some [134, 9, 63, 62, 61, 7, 2]))
  (.cond (.s 134) (.seq (.region 0 [⟨0, (some 4), none, .mv (.k (.c (.int .i64 2)))⟩] [] (some [4]))
  .ret)
  .skip))
  (.seq (.seq (.region 0 [⟨0, (some 135), none, .faddr 0 (.s 9)⟩, ⟨1, (some 136), none, .load false 1 (.s 135)⟩, ⟨2, (some 137), none, .faddr 0 (.s 7)⟩, ⟨3, (some 138), none, .load false 1 (.s 137)⟩, ⟨4, (some 139), none, .bin .lss (.s 136) (.s 138)⟩, ⟨5, (some 140), none, .mv (.s 139)⟩, ⟨6, (some 141), (some (140, false)), .faddr 0 (.s 9)⟩, ⟨7, (some 142), (some (140, false)), .load false 1 (.s 141)⟩, ⟨8, (some 143), (some (140, false)), .faddr 0 (.s 7)⟩, ⟨9, (some 144), (some (140, false)), .load false 1 (.s 143)⟩, ⟨10, (some 145), (some (140, false)), .bin .eql (.s 142) (.s 144)⟩, ⟨11, (some 146), (some (140, false)), .mv (.s 145)⟩, ⟨12, (some 147), (some (146, true)), .faddr 1 (.s 9)⟩, ⟨13, (some 148), (some (146, true)), .load false 1 (.s 147)⟩, ⟨14, (some 149), (some (146, true)), .faddr 2 (.s 7)⟩, ⟨15, (some 150), (some (146, true)), .load false 1 (.s 149)⟩, ⟨16, (some 151), (some (146, true)), .bin .add (.s 150) (.k (.c (.int .i64 1)))⟩, ⟨17, (some 152), (some (146, true)), .bin .leq (.s 148) (.s 151)⟩, ⟨18, (some 153), (some (140, false)), .pick (.s 146) (.s 152) (.k (.c (.bool false)))⟩, ⟨19, (some 154), none, .pick (.s 140) (.k (.c (.bool true))) (.s 153)⟩] [] (some [154, 2, 7, 61, 62, 63, 9]))
  (.cond (.s 154) (.seq (.region 0 [⟨0, (some 4), none, .mv (.k (.c (.int .i64 11)))⟩] [] (some [4]))
  .ret)
  .skip))
  (.region 0 [⟨0, (some 155), none, .load true 6 (.s 9)⟩, ⟨1, none, none, .store 6 (.s 7) (.s 155)⟩] [] (some [63, 62, 61, 7, 2])))))))))
  (.region 0 [⟨0, (some 156), none, .bin .add (.s 63) (.k (.c (.int .i64 1)))⟩, ⟨1, (some 63), none, .mv (.s 156)⟩] [] (some [62, 61, 7, 2, 63])))))
/-- kerbstone/track.Check -/
abbrev f_track_Check : Nat := 43
def c_track_Check : CFn := { frz := true, rnd := none, nargs := 2, ntmps := 157, res := [(.slot 4)], code :=
  (.seq (.region 2 [⟨0, (some 2), none, .box 0 5 (.s 0)⟩, ⟨1, (some 3), none, .box 1 6 (.s 1)⟩, ⟨2, (some 4), none, .mv (.k (.c (.int .i64 0)))⟩] [] (some [3, 2]))
  (.seq (.seq (.region 0 [⟨0, (some 14), none, .load true 5 (.s 2)⟩, ⟨1, (some 15), none, .call ⟨true⟩ (.k (.c (.fn 54 [] []))) [(.s 14)]⟩, ⟨2, (some 5), none, .mv (.s 15)⟩] [] (some [3, 2, 5]))
  (.seq (.region 0 [⟨0, (some 16), none, .mv (.s 5)⟩, ⟨1, (some 17), none, .bin .neq (.s 16) (.k (.c (.int .i64 0)))⟩] [] (some [17, 3, 2, 5]))
  (.cond (.s 17) (.seq (.region 0 [⟨0, (some 18), none, .mv (.s 5)⟩, ⟨1, (some 4), none, .mv (.s 18)⟩] [] (some [4]))
  .ret)
  .skip)))
  (.seq (.region 1 [⟨0, (some 19), none, .faddr 2 (.s 3)⟩, ⟨1, (some 20), none, .load true 4 (.s 19)⟩, ⟨2, (some 6), none, .box 0 4 (.k (.a [(.int .i64 0), (.int .i64 0), (.int .i64 0), (.int .i64 0)]))⟩, ⟨3, none, none, .store 4 (.s 6) (.s 20)⟩] [] (some [6, 2, 3]))
  (.seq (.seq (.region 0 [⟨0, (some 21), none, .faddr 0 (.s 3)⟩, ⟨1, (some 22), none, .load false 1 (.s 21)⟩, ⟨2, (some 23), none, .call ⟨true⟩ (.k (.c (.fn 66 [] []))) [(.s 22), (.k (.c (.int .i64 0))), (.k (.c (.int .i64 1099511627776)))]⟩, ⟨3, (some 24), none, .un .not (.s 23)⟩, ⟨4, (some 25), none, .mv (.s 24)⟩, ⟨5, (some 26), (some (25, false)), .faddr 0 (.s 6)⟩, ⟨6, (some 27), (some (25, false)), .load false 1 (.s 26)⟩, ⟨7, (some 28), (some (25, false)), .bin .lss (.s 27) (.k (.c (.int .i64 0)))⟩, ⟨8, (some 29), none, .pick (.s 25) (.k (.c (.bool true))) (.s 28)⟩, ⟨9, (some 30), none, .mv (.s 29)⟩, ⟨10, (some 31), (some (30, false)), .faddr 0 (.s 6)⟩, ⟨11, (some 32), (some (30, false)), .load false 1 (.s 31)⟩, ⟨12, (some 33), (some (30, false)), .faddr 1 (.s 6)⟩, ⟨13, (some 34), (some (30, false)), .load false 1 (.s 33)⟩, ⟨14, (some 35), (some (30, false)), .bin .gtr (.s 32) (.s 34)⟩, ⟨15, (some 36), none, .pick (.s 30) (.k (.c (.bool true))) (.s 35)⟩, ⟨16, (some 37), none, .mv (.s 36)⟩, ⟨17, (some 38), (some (37, false)), .faddr 1 (.s 6)⟩, ⟨18, (some 39), (some (37, false)), .load false 1 (.s 38)⟩, ⟨19, (some 40), (some (37, false)), .bin .gtr (.s 39) (.k (.c (.int .i64 1099511627776)))⟩, ⟨20, (some 41), none, .pick (.s 37) (.k (.c (.bool true))) (.s 40)⟩, ⟨21, (some 42), none, .mv (.s 41)⟩, ⟨22, (some 43), (some (42, false)), .faddr 2 (.s 6)⟩, ⟨23, (some 44), (some (42, false)), .load false 1 (.s 43)⟩, ⟨24, (some 45), (some (42, false)), .bin .lss (.s 44) (.k (.c (.int .i64 0)))⟩, ⟨25, (some 46), none, .pick (.s 42) (.k (.c (.bool true))) (.s 45)⟩, ⟨26, (some 47), none, .mv (.s 46)⟩, ⟨27, (some 48), (some (47, false)), .faddr 2 (.s 6)⟩, ⟨28, (some 49), (some (47, false)), .load false 1 (.s 48)⟩, ⟨29, (some 50), (some (47, false)), .faddr 3 (.s 6)⟩, ⟨30, (some 51), (some (47, false)), .load false 1 (.s 50)⟩, ⟨31, (some 52), (some (47, false)), .bin .gtr (.s 49) (.s 51)⟩, ⟨32, (some 53), none, .pick (.s 47) (.k (.c (.bool true))) (.s 52)⟩, ⟨33, (some 54), none, .mv (.s 53)⟩, ⟨34, (some 55), (some (54, false)), .faddr 3 (.s 6)⟩, ⟨35, (some 56), (some (54, false)), .load false 1 (.s 55)⟩, ⟨36, (some 57), (some (54, false)), .bin .gtr (.s 56) (.k (.c (.int .i64 2000)))⟩, ⟨37, (some 58), none, .pick (.s 54) (.k (.c (.bool true))) (.s 57)⟩] [] (some [58, 2, 3]))
  (.cond (.s 58) (.seq (.region 0 [⟨0, (some 4), none, .mv (.k (.c (.int .i64 2)))⟩] [] (some [4]))
  .ret)
  .skip))
  (.seq (.region 1 [⟨0, (some 59), none, .build [(.int .i64 0), (.int .i64 0), (.int .i64 0), (.int .i64 0), (.int .i64 0), (.int .i64 0)] [(0, 1, (.k (.c (.int .i64 (-1)))))]⟩, ⟨1, (some 7), none, .box 0 6 (.k (.a [(.int .i64 0), (.int .i64 0), (.int .i64 0), (.int .i64 0), (.int .i64 0), (.int .i64 0)]))⟩, ⟨2, none, none, .store 6 (.s 7) (.s 59)⟩] [] (some [3, 7, 2]))
  (.seq (.seq (.region 0 [⟨0, (some 60), none, .faddr 1 (.s 3)⟩, ⟨1, (some 61), none, .load false 1 (.s 60)⟩, ⟨2, (some 62), none, .len (.s 61)⟩, ⟨3, (some 63), none, .mv (.k (.c (.int .i64 0)))⟩] [] (some [62, 61, 7, 2, 63]))
  (.block 0 (.loop (some [62, 61, 7, 2, 63]) c_track_Check_l1)))
  (.seq (.region 0 [⟨0, (some 4), none, .mv (.k (.c (.int .i64 0)))⟩] [] (some [4]))
  .ret))))))) }
def c_roads_CheckRoute_l1 : CC := (.seq (.region 0 [⟨0, (some 53), none, .bin .lss (.s 52) (.s 51)⟩] [] (some [53, 6, 2, 50, 51, 52]))
  (.seq (.cond (.s 53) .skip
  (.exit 0))
  (.seq (.block 1 (.seq (.region 0 [⟨0, (some 54), none, .iaddr 1 (.s 50) (.s 52)⟩, ⟨1, (some 55), none, .load false 1 (.s 54)⟩, ⟨2, (some 8), none, .mv (.s 55)⟩] [] (some [6, 2, 50, 51, 52, 8]))
  (.seq (.seq (.region 0 [⟨0, (some 56), none, .faddr 1 (.s 2)⟩, ⟨1, (some 57), none, .load false 1 (.s 56)⟩, ⟨2, (some 58), none, .mv (.s 6)⟩, ⟨3, (some 59), none, .iaddr 5 (.s 57) (.s 58)⟩, ⟨4, (some 60), none, .faddr 4 (.s 59)⟩, ⟨5, (some 61), none, .load false 1 (.s 60)⟩, ⟨6, (some 62), none, .mv (.s 8)⟩, ⟨7, (some 63), none, .call ⟨true⟩ (.k (.c (.fn 97 [] []))) [(.s 61), (.s 62)]⟩, ⟨8, (some 64), none, .un .not (.s 63)⟩] [] (some [64, 2, 50, 51, 52, 8]))
  (.cond (.s 64) (.seq (.region 0 [⟨0, (some 4), none, .mv (.k (.c (.int .i64 13)))⟩] [] (some [4]))
  .ret)
  .skip))
  (.region 0 [⟨0, (some 65), none, .mv (.s 8)⟩, ⟨1, (some 6), none, .mv (.s 65)⟩] [] (some [52, 6, 51, 50, 2])))))
  (.region 0 [⟨0, (some 66), none, .bin .add (.s 52) (.k (.c (.int .i64 1)))⟩, ⟨1, (some 52), none, .mv (.s 66)⟩] [] (some [6, 51, 50, 2, 52])))))
/-- kerbstone/roads.CheckRoute -/
abbrev f_roads_CheckRoute : Nat := 44
def c_roads_CheckRoute : CFn := { frz := true, rnd := none, nargs := 2, ntmps := 67, res := [(.slot 4)], code :=
  (.seq (.region 1 [⟨0, (some 2), none, .box 0 5 (.s 0)⟩, ⟨1, (some 4), none, .mv (.k (.c (.int .i64 0)))⟩] [] (some [1, 2]))
  (.seq (.seq (.region 0 [⟨0, (some 9), none, .load true 5 (.s 2)⟩, ⟨1, (some 10), none, .call ⟨true⟩ (.k (.c (.fn 54 [] []))) [(.s 9)]⟩, ⟨2, (some 5), none, .mv (.s 10)⟩] [] (some [1, 2, 5]))
  (.seq (.region 0 [⟨0, (some 11), none, .mv (.s 5)⟩, ⟨1, (some 12), none, .bin .neq (.s 11) (.k (.c (.int .i64 0)))⟩] [] (some [12, 1, 2, 5]))
  (.cond (.s 12) (.seq (.region 0 [⟨0, (some 13), none, .mv (.s 5)⟩, ⟨1, (some 4), none, .mv (.s 13)⟩] [] (some [4]))
  .ret)
  .skip)))
  (.seq (.seq (.region 0 [⟨0, (some 14), none, .mv (.s 1)⟩, ⟨1, (some 15), none, .len (.s 14)⟩, ⟨2, (some 16), none, .bin .eql (.s 15) (.k (.c (.int .i64 0)))⟩, ⟨3, (some 17), none, .mv (.s 16)⟩, ⟨4, (some 18), (some (17, false)), .mv (.s 1)⟩, ⟨5, (some 19), (some (17, false)), .len (.s 18)⟩, ⟨6, (some 20), (some (17, false)), .bin .gtr (.s 19) (.k (.c (.int .i64 8)))⟩, ⟨7, (some 21), none, .pick (.s 17) (.k (.c (.bool true))) (.s 20)⟩, ⟨8, (some 22), none, .mv (.s 21)⟩, ⟨9, (some 23), (some (22, false)), .mv (.s 1)⟩, ⟨10, (some 24), (some (22, false)), .iaddr 1 (.s 23) (.k (.c (.int .i64 0)))⟩, ⟨11, (some 25), (some (22, false)), .load false 1 (.s 24)⟩, ⟨12, (some 26), (some (22, false)), .bin .lss (.s 25) (.k (.c (.int .i64 0)))⟩, ⟨13, (some 27), none, .pick (.s 22) (.k (.c (.bool true))) (.s 26)⟩, ⟨14, (some 28), none, .mv (.s 27)⟩, ⟨15, (some 29), (some (28, false)), .mv (.s 1)⟩, ⟨16, (some 30), (some (28, false)), .iaddr 1 (.s 29) (.k (.c (.int .i64 0)))⟩, ⟨18, (some 32), (some (28, false)), .faddr 1 (.s 2)⟩, ⟨17, (some 31), (some (28, false)), .load false 1 (.s 30)⟩, ⟨19, (some 33), (some (28, false)), .load false 1 (.s 32)⟩, ⟨20, (some 34), (some (28, false)), .len (.s 33)⟩, ⟨21, (some 35), (some (28, false)), .bin .geq (.s 31) (.s 34)⟩, ⟨22, (some 36), none, .pick (.s 28) (.k (.c (.bool true))) (.s 35)⟩, ⟨23, (some 37), none, .mv (.s 36)⟩, ⟨25, (some 39), (some (37, false)), .mv (.s 1)⟩, ⟨26, (some 40), (some (37, false)), .iaddr 1 (.s 39) (.k (.c (.int .i64 0)))⟩, ⟨24, (some 38), (some (37, false)), .load true 5 (.s 2)⟩, ⟨27, (some 41), (some (37, false)), .load false 1 (.s 40)⟩, ⟨28, (some 42), (some (37, false)), .call ⟨true⟩ (.k (.c (.fn 96 [] []))) [(.s 38), (.s 41)]⟩, ⟨29, (some 43), (some (37, false)), .len (.s 42)⟩, ⟨30, (some 44), (some (37, false)), .bin .gtr (.s 43) (.k (.c (.int .i64 0)))⟩, ⟨31, (some 45), none, .pick (.s 37) (.k (.c (.bool true))) (.s 44)⟩] [] (some [45, 2, 1]))
  (.cond (.s 45) (.seq (.region 0 [⟨0, (some 4), none, .mv (.k (.c (.int .i64 13)))⟩] [] (some [4]))
  .ret)
  .skip))
  (.seq (.region 0 [⟨0, (some 46), none, .mv (.s 1)⟩, ⟨1, (some 47), none, .iaddr 1 (.s 46) (.k (.c (.int .i64 0)))⟩, ⟨2, (some 48), none, .load false 1 (.s 47)⟩, ⟨3, (some 6), none, .mv (.s 48)⟩] [] (some [1, 6, 2]))
  (.seq (.seq (.region 0 [⟨0, (some 49), none, .mv (.s 1)⟩, ⟨1, (some 50), none, .slice 1 (.s 49) (some (.k (.c (.int .i64 1)))) none none⟩, ⟨2, (some 51), none, .len (.s 50)⟩, ⟨3, (some 52), none, .mv (.k (.c (.int .i64 0)))⟩] [] (some [6, 51, 50, 2, 52]))
  (.block 0 (.loop (some [6, 51, 50, 2, 52]) c_roads_CheckRoute_l1)))
  (.seq (.region 0 [⟨0, (some 4), none, .mv (.k (.c (.int .i64 0)))⟩] [] (some [4]))
  .ret)))))) }
/-- kerbstone/track.able -/
abbrev f_track_able : Nat := 45
def c_track_able : CFn := { frz := true, rnd := none, nargs := 1, ntmps := 5, res := [(.slot 2)], code :=
  (.seq (.region 0 [⟨0, (some 2), none, .mv (.k (.c (.bool false)))⟩] [] (some [0]))
  (.seq (.region 0 [⟨0, (some 3), none, .mv (.s 0)⟩, ⟨1, (some 4), none, .call ⟨true⟩ (.k (.c (.fn 66 [] []))) [(.s 3), (.k (.c (.int .i64 300))), (.k (.c (.int .i64 20000)))]⟩, ⟨2, (some 2), none, .mv (.s 4)⟩] [] (some [2]))
  .ret)) }
def c_motion_Along_l1 : CC := (.seq (.region 0 [⟨0, (some 29), none, .bin .lss (.s 28) (.s 27)⟩] [] (some [29, 28, 27, 6, 3, 7]))
  (.seq (.cond (.s 29) .skip
  (.exit 0))
  (.seq (.block 1 (.seq (.region 0 [⟨0, (some 30), none, .mv (.s 28)⟩, ⟨1, (some 8), none, .mv (.s 30)⟩] [] (some [8, 28, 27, 6, 3, 7]))
  (.region 1 [⟨0, (some 31), none, .faddr 9 (.s 7)⟩, ⟨3, (some 34), none, .mv (.s 8)⟩, ⟨1, (some 32), none, .load false 1 (.s 31)⟩, ⟨2, (some 33), none, .load true 5 (.s 3)⟩, ⟨4, (some 35), none, .call ⟨true⟩ (.k (.c (.fn 56 [] []))) [(.s 33), (.s 34)]⟩, ⟨5, (some 36), none, .lit 0 1 [[(.int .i64 0)]] [(0, (.s 35))]⟩, ⟨6, (some 37), none, .append 1 8 (.s 32) (.s 36)⟩, ⟨7, (some 38), none, .faddr 9 (.s 7)⟩, ⟨8, none, none, .store 1 (.s 38) (.s 37)⟩] [(2, 4), (2, 5)] (some [28, 27, 6, 3, 7]))))
  (.region 0 [⟨0, (some 39), none, .bin .add (.s 28) (.k (.c (.int .i64 1)))⟩, ⟨1, (some 28), none, .mv (.s 39)⟩] [] (some [28, 27, 6, 3, 7])))))
def c_motion_Along_l2 : CC := (.seq (.region 0 [⟨0, (some 44), none, .bin .lss (.s 43) (.s 42)⟩] [] (some [44, 43, 42, 6, 41, 7]))
  (.seq (.cond (.s 44) .skip
  (.exit 2))
  (.seq (.block 3 (.seq (.region 0 [⟨0, (some 45), none, .iaddr 1 (.s 41) (.s 43)⟩, ⟨1, (some 46), none, .load false 1 (.s 45)⟩, ⟨2, (some 10), none, .mv (.s 46)⟩] [] (some [10, 43, 42, 6, 41, 7]))
  (.region 0 [⟨0, (some 47), none, .faddr 10 (.s 7)⟩, ⟨1, (some 48), none, .load false 1 (.s 47)⟩, ⟨2, (some 49), none, .mv (.s 10)⟩, ⟨3, (some 50), none, .iaddr 1 (.s 48) (.s 49)⟩, ⟨4, none, none, .store 1 (.s 50) (.k (.c (.bool true)))⟩] [] (some [43, 42, 6, 41, 7]))))
  (.region 0 [⟨0, (some 51), none, .bin .add (.s 43) (.k (.c (.int .i64 1)))⟩, ⟨1, (some 43), none, .mv (.s 51)⟩] [] (some [43, 42, 6, 41, 7])))))
/-- kerbstone/motion.Along -/
abbrev f_motion_Along : Nat := 46
def c_motion_Along : CFn := { frz := true, rnd := none, nargs := 3, ntmps := 53, res := [(.cell 6 true 11)], code :=
  (.seq (.region 2 [⟨0, (some 3), none, .box 0 5 (.s 0)⟩, ⟨1, (some 6), none, .box 1 11 (.k (.a [(.int .i64 0), .nilslice, .nilslice, .nilslice, .nilslice, .nilslice, .nilslice, (.int .i64 0), (.int .i64 0), .nilslice, .nilslice]))⟩] [] (some [1, 2, 6, 3]))
  (.seq (.region 2 [⟨1, (some 12), none, .mv (.s 1)⟩, ⟨3, (some 14), none, .mv (.s 1)⟩, ⟨6, (some 17), none, .mv (.s 1)⟩, ⟨8, (some 19), none, .mv (.s 2)⟩, ⟨9, (some 20), none, .faddr 1 (.s 3)⟩, ⟨0, (some 11), none, .load true 5 (.s 3)⟩, ⟨2, (some 13), none, .load true 5 (.s 3)⟩, ⟨5, (some 16), none, .load true 5 (.s 3)⟩, ⟨10, (some 21), none, .load false 1 (.s 20)⟩, ⟨4, (some 15), none, .call ⟨true⟩ (.k (.c (.fn 98 [] []))) [(.s 13), (.s 14)]⟩, ⟨7, (some 18), none, .call ⟨true⟩ (.k (.c (.fn 99 [] []))) [(.s 16), (.s 17)]⟩, ⟨11, (some 22), none, .len (.s 21)⟩, ⟨12, (some 23), none, .mkslice 0 1 1 [(.bool false)] (.s 22) (.s 22)⟩, ⟨13, (some 24), none, .build [(.int .i64 0), .nilslice, .nilslice, .nilslice, .nilslice, .nilslice, .nilslice, (.int .i64 0), (.int .i64 0), .nilslice, .nilslice] [(0, 5, (.s 11)), (5, 1, (.s 12)), (6, 1, (.s 15)), (7, 1, (.s 18)), (8, 1, (.s 19)), (10, 1, (.s 23))]⟩, ⟨14, (some 7), none, .box 1 11 (.k (.a [(.int .i64 0), .nilslice, .nilslice, .nilslice, .nilslice, .nilslice, .nilslice, (.int .i64 0), (.int .i64 0), .nilslice, .nilslice]))⟩, ⟨15, none, none, .store 11 (.s 7) (.s 24)⟩] [(5, 9), (5, 10), (5, 12), (5, 14), (6, 12), (6, 14), (7, 9), (7, 12), (7, 14), (8, 9), (8, 10), (8, 14), (9, 12), (9, 14), (10, 12), (10, 14), (12, 14)] (some [6, 3, 7]))
  (.seq (.seq (.region 0 [⟨0, (some 25), none, .faddr 1 (.s 3)⟩, ⟨1, (some 26), none, .load false 1 (.s 25)⟩, ⟨2, (some 27), none, .len (.s 26)⟩, ⟨3, (some 28), none, .mv (.k (.c (.int .i64 0)))⟩] [] (some [28, 27, 6, 3, 7]))
  (.block 0 (.loop (some [28, 27, 6, 3, 7]) c_motion_Along_l1)))
  (.seq (.seq (.region 0 [⟨0, (some 40), none, .load true 5 (.s 3)⟩, ⟨1, (some 41), none, .call ⟨true⟩ (.k (.c (.fn 100 [] []))) [(.s 40)]⟩, ⟨2, (some 42), none, .len (.s 41)⟩, ⟨3, (some 43), none, .mv (.k (.c (.int .i64 0)))⟩] [] (some [43, 42, 6, 41, 7]))
  (.block 2 (.loop (some [43, 42, 6, 41, 7]) c_motion_Along_l2)))
  (.seq (.region 0 [⟨0, (some 52), none, .load true 11 (.s 7)⟩, ⟨1, none, none, .store 11 (.s 6) (.s 52)⟩] [] (some [6]))
  .ret))))) }
def c_motion_Course_Own_l1 : CC := (.seq (.region 0 [⟨0, (some 18), none, .bin .lss (.s 17) (.s 16)⟩] [] (some [18, 1, 17, 16, 15, 5, 3]))
  (.seq (.cond (.s 18) .skip
  (.exit 0))
  (.seq (.block 1 (.seq (.region 0 [⟨0, (some 19), none, .mv (.s 17)⟩, ⟨1, (some 20), none, .iaddr 1 (.s 15) (.s 17)⟩, ⟨2, (some 21), none, .load false 1 (.s 20)⟩, ⟨3, (some 7), none, .mv (.s 19)⟩, ⟨4, (some 8), none, .mv (.s 21)⟩] [] (some [1, 8, 7, 17, 16, 15, 5, 3]))
  (.region 0 [⟨0, (some 22), none, .mv (.s 1)⟩, ⟨1, (some 23), none, .mv (.s 8)⟩, ⟨2, (some 24), none, .faddr 1 (.s 5)⟩, ⟨4, (some 26), none, .faddr 8 (.s 3)⟩, ⟨7, (some 29), none, .faddr 6 (.s 3)⟩, ⟨9, (some 31), none, .mv (.s 7)⟩, ⟨13, (some 35), none, .faddr 0 (.s 5)⟩, ⟨15, (some 37), none, .faddr 6 (.s 3)⟩, ⟨17, (some 39), none, .mv (.s 7)⟩, ⟨3, (some 25), none, .load false 1 (.s 24)⟩, ⟨5, (some 27), none, .load false 1 (.s 26)⟩, ⟨6, (some 28), none, .bin .sub (.s 25) (.s 27)⟩, ⟨8, (some 30), none, .load false 1 (.s 29)⟩, ⟨10, (some 32), none, .iaddr 1 (.s 30) (.s 31)⟩, ⟨11, (some 33), none, .load false 1 (.s 32)⟩, ⟨12, (some 34), none, .bin .sub (.s 28) (.s 33)⟩, ⟨14, (some 36), none, .load false 1 (.s 35)⟩, ⟨16, (some 38), none, .load false 1 (.s 37)⟩, ⟨18, (some 40), none, .iaddr 1 (.s 38) (.s 39)⟩, ⟨19, (some 41), none, .load false 1 (.s 40)⟩, ⟨20, (some 42), none, .bin .sub (.s 36) (.s 41)⟩, ⟨21, (some 43), none, .build [(.int .i64 0), (.int .i64 0), (.int .i64 0)] [(0, 1, (.s 23)), (1, 1, (.s 34)), (2, 1, (.s 42))]⟩, ⟨22, (some 44), none, .call ⟨true⟩ (.k (.c (.fn 90 [] []))) [(.s 22), (.s 43)]⟩, ⟨23, (some 1), none, .mv (.s 44)⟩] [] (some [17, 1, 16, 15, 5, 3]))))
  (.region 0 [⟨0, (some 45), none, .bin .add (.s 17) (.k (.c (.int .i64 1)))⟩, ⟨1, (some 17), none, .mv (.s 45)⟩] [] (some [1, 17, 16, 15, 5, 3])))))
/-- (kerbstone/motion.Course).Own -/
abbrev f_motion_Course_Own : Nat := 47
def c_motion_Course_Own : CFn := { frz := true, rnd := none, nargs := 3, ntmps := 47, res := [(.slot 6)], code :=
  (.seq (.region 3 [⟨0, (some 3), none, .box 0 11 (.s 0)⟩, ⟨1, (some 5), none, .box 1 4 (.s 2)⟩, ⟨2, (some 6), none, .newsl 2 6⟩] [] (some [3, 5, 1]))
  (.seq (.seq (.region 0 [⟨0, (some 9), none, .load true 11 (.s 3)⟩, ⟨1, (some 10), none, .load true 4 (.s 5)⟩, ⟨2, (some 11), none, .call ⟨true⟩ (.k (.c (.fn 101 [] []))) [(.s 9), (.s 10)]⟩, ⟨3, (some 12), none, .un .not (.s 11)⟩] [] (some [12, 3, 5, 1]))
  (.cond (.s 12) (.seq (.region 0 [⟨0, (some 13), none, .mv (.s 1)⟩, ⟨1, (some 6), none, .mv (.s 13)⟩] [] (some [6]))
  .ret)
  .skip))
  (.seq (.seq (.region 0 [⟨0, (some 14), none, .faddr 5 (.s 3)⟩, ⟨1, (some 15), none, .load false 1 (.s 14)⟩, ⟨2, (some 16), none, .len (.s 15)⟩, ⟨3, (some 17), none, .mv (.k (.c (.int .i64 0)))⟩] [] (some [1, 17, 16, 15, 5, 3]))
  (.block 0 (.loop (some [1, 17, 16, 15, 5, 3]) c_motion_Course_Own_l1)))
  (.seq (.region 0 [⟨0, (some 46), none, .mv (.s 1)⟩, ⟨1, (some 6), none, .mv (.s 46)⟩] [] (some [6]))
  .ret)))) }
def c_kerbstoneref03_CheckRoute_l1 : CC := (.seq (.seq (.region 0 [⟨0, (some 44), none, .mv (.s 6)⟩, ⟨1, (some 45), none, .mv (.s 1)⟩, ⟨2, (some 46), none, .len (.s 45)⟩, ⟨3, (some 47), none, .bin .lss (.s 44) (.s 46)⟩] [] (some [47, 1, 2, 6]))
  (.cond (.s 47) .skip
  (.exit 0)))
  (.seq (.block 1 (.seq (.region 0 [⟨0, (some 50), none, .faddr 1 (.s 2)⟩, ⟨2, (some 52), none, .mv (.s 1)⟩, ⟨3, (some 53), none, .mv (.s 6)⟩, ⟨4, (some 54), none, .bin .sub (.s 53) (.k (.c (.int .i64 1)))⟩, ⟨5, (some 55), none, .iaddr 1 (.s 52) (.s 54)⟩, ⟨10, (some 60), none, .mv (.s 1)⟩, ⟨11, (some 61), none, .mv (.s 6)⟩, ⟨12, (some 62), none, .iaddr 1 (.s 60) (.s 61)⟩, ⟨1, (some 51), none, .load false 1 (.s 50)⟩, ⟨6, (some 56), none, .load false 1 (.s 55)⟩, ⟨7, (some 57), none, .iaddr 5 (.s 51) (.s 56)⟩, ⟨8, (some 58), none, .faddr 4 (.s 57)⟩, ⟨9, (some 59), none, .load false 1 (.s 58)⟩, ⟨13, (some 63), none, .load false 1 (.s 62)⟩, ⟨14, (some 64), none, .call ⟨true⟩ (.k (.c (.fn 103 [] []))) [(.s 59), (.s 63)]⟩, ⟨15, (some 65), none, .un .not (.s 64)⟩] [] (some [65, 1, 2, 6]))
  (.cond (.s 65) (.seq (.region 0 [⟨0, (some 4), none, .mv (.k (.c (.int .i64 13)))⟩] [] (some [4]))
  .ret)
  .skip)))
  (.region 0 [⟨0, (some 48), none, .mv (.s 6)⟩, ⟨1, (some 49), none, .bin .add (.s 48) (.k (.c (.int .i64 1)))⟩, ⟨2, (some 6), none, .mv (.s 49)⟩] [] (some [2, 1, 6]))))
/-- kerbstone/kerbstoneref03.CheckRoute -/
abbrev f_kerbstoneref03_CheckRoute : Nat := 48
def c_kerbstoneref03_CheckRoute : CFn := { frz := true, rnd := none, nargs := 2, ntmps := 66, res := [(.slot 4)], code :=
  (.seq (.region 1 [⟨0, (some 2), none, .box 0 5 (.s 0)⟩, ⟨1, (some 4), none, .mv (.k (.c (.int .i64 0)))⟩] [] (some [2, 1]))
  (.seq (.region 0 [⟨0, (some 7), none, .load true 5 (.s 2)⟩, ⟨1, (some 8), none, .call ⟨true⟩ (.k (.c (.fn 85 [] []))) [(.s 7)]⟩, ⟨2, (some 5), none, .mv (.s 8)⟩] [] (some [2, 1, 5]))
  (.seq (.seq (.region 0 [⟨0, (some 9), none, .mv (.s 5)⟩, ⟨1, (some 10), none, .bin .neq (.s 9) (.k (.c (.int .i64 0)))⟩] [] (some [10, 2, 1, 5]))
  (.cond (.s 10) (.seq (.region 0 [⟨0, (some 11), none, .mv (.s 5)⟩, ⟨1, (some 4), none, .mv (.s 11)⟩] [] (some [4]))
  .ret)
  .skip))
  (.seq (.seq (.region 0 [⟨0, (some 12), none, .mv (.s 1)⟩, ⟨1, (some 13), none, .len (.s 12)⟩, ⟨2, (some 14), none, .bin .eql (.s 13) (.k (.c (.int .i64 0)))⟩, ⟨3, (some 15), none, .mv (.s 14)⟩, ⟨4, (some 16), (some (15, false)), .mv (.s 1)⟩, ⟨5, (some 17), (some (15, false)), .len (.s 16)⟩, ⟨6, (some 18), (some (15, false)), .bin .gtr (.s 17) (.k (.c (.int .i64 8)))⟩, ⟨7, (some 19), none, .pick (.s 15) (.k (.c (.bool true))) (.s 18)⟩, ⟨8, (some 20), none, .mv (.s 19)⟩, ⟨9, (some 21), (some (20, false)), .mv (.s 1)⟩, ⟨10, (some 22), (some (20, false)), .iaddr 1 (.s 21) (.k (.c (.int .i64 0)))⟩, ⟨11, (some 23), (some (20, false)), .load false 1 (.s 22)⟩, ⟨12, (some 24), (some (20, false)), .bin .lss (.s 23) (.k (.c (.int .i64 0)))⟩, ⟨13, (some 25), none, .pick (.s 20) (.k (.c (.bool true))) (.s 24)⟩, ⟨14, (some 26), none, .mv (.s 25)⟩, ⟨15, (some 27), (some (26, false)), .mv (.s 1)⟩, ⟨16, (some 28), (some (26, false)), .iaddr 1 (.s 27) (.k (.c (.int .i64 0)))⟩, ⟨18, (some 30), (some (26, false)), .faddr 1 (.s 2)⟩, ⟨17, (some 29), (some (26, false)), .load false 1 (.s 28)⟩, ⟨19, (some 31), (some (26, false)), .load false 1 (.s 30)⟩, ⟨20, (some 32), (some (26, false)), .len (.s 31)⟩, ⟨21, (some 33), (some (26, false)), .bin .geq (.s 29) (.s 32)⟩, ⟨22, (some 34), none, .pick (.s 26) (.k (.c (.bool true))) (.s 33)⟩, ⟨23, (some 35), none, .mv (.s 34)⟩, ⟨25, (some 37), (some (35, false)), .mv (.s 1)⟩, ⟨26, (some 38), (some (35, false)), .iaddr 1 (.s 37) (.k (.c (.int .i64 0)))⟩, ⟨24, (some 36), (some (35, false)), .load true 5 (.s 2)⟩, ⟨27, (some 39), (some (35, false)), .load false 1 (.s 38)⟩, ⟨28, (some 40), (some (35, false)), .call ⟨true⟩ (.k (.c (.fn 102 [] []))) [(.s 36), (.s 39)]⟩, ⟨29, (some 41), (some (35, false)), .len (.s 40)⟩, ⟨30, (some 42), (some (35, false)), .bin .gtr (.s 41) (.k (.c (.int .i64 0)))⟩, ⟨31, (some 43), none, .pick (.s 35) (.k (.c (.bool true))) (.s 42)⟩] [] (some [43, 1, 2]))
  (.cond (.s 43) (.seq (.region 0 [⟨0, (some 4), none, .mv (.k (.c (.int .i64 13)))⟩] [] (some [4]))
  .ret)
  .skip))
  (.seq (.seq (.region 0 [⟨0, (some 6), none, .mv (.k (.c (.int .i64 1)))⟩] [] (some [2, 1, 6]))
  (.block 0 (.loop (some [2, 1, 6]) c_kerbstoneref03_CheckRoute_l1)))
  (.seq (.region 0 [⟨0, (some 4), none, .mv (.k (.c (.int .i64 0)))⟩] [] (some [4]))
  .ret)))))) }
def c_kerbstoneref05_own_l1 : CC := (.seq (.seq (.region 0 [⟨0, (some 28), none, .mv (.s 13)⟩, ⟨1, (some 29), none, .mv (.s 1)⟩, ⟨2, (some 30), none, .len (.s 29)⟩, ⟨3, (some 31), none, .bin .lss (.s 28) (.s 30)⟩] [] (some [31, 3, 13, 1, 2, 9, 11]))
  (.cond (.s 31) .skip
  (.exit 0)))
  (.seq (.block 1 (.region 0 [⟨0, (some 34), none, .mv (.s 3)⟩, ⟨1, (some 35), none, .mv (.s 1)⟩, ⟨2, (some 36), none, .mv (.s 13)⟩, ⟨3, (some 37), none, .iaddr 1 (.s 35) (.s 36)⟩, ⟨5, (some 39), none, .faddr 1 (.s 9)⟩, ⟨7, (some 41), none, .mv (.s 2)⟩, ⟨9, (some 43), none, .mv (.s 11)⟩, ⟨10, (some 44), none, .mv (.s 13)⟩, ⟨11, (some 45), none, .iaddr 1 (.s 43) (.s 44)⟩, ⟨14, (some 48), none, .faddr 0 (.s 9)⟩, ⟨16, (some 50), none, .mv (.s 11)⟩, ⟨17, (some 51), none, .mv (.s 13)⟩, ⟨18, (some 52), none, .iaddr 1 (.s 50) (.s 51)⟩, ⟨4, (some 38), none, .load false 1 (.s 37)⟩, ⟨6, (some 40), none, .load false 1 (.s 39)⟩, ⟨8, (some 42), none, .bin .sub (.s 40) (.s 41)⟩, ⟨12, (some 46), none, .load false 1 (.s 45)⟩, ⟨13, (some 47), none, .bin .sub (.s 42) (.s 46)⟩, ⟨15, (some 49), none, .load false 1 (.s 48)⟩, ⟨19, (some 53), none, .load false 1 (.s 52)⟩, ⟨20, (some 54), none, .bin .sub (.s 49) (.s 53)⟩, ⟨21, (some 55), none, .build [(.int .i64 0), (.int .i64 0), (.int .i64 0)] [(0, 1, (.s 38)), (1, 1, (.s 47)), (2, 1, (.s 54))]⟩, ⟨22, (some 56), none, .call ⟨true⟩ (.k (.c (.fn 89 [] []))) [(.s 34), (.s 55)]⟩, ⟨23, (some 3), none, .mv (.s 56)⟩] [] (some [13, 3, 1, 2, 9, 11])))
  (.region 0 [⟨0, (some 32), none, .mv (.s 13)⟩, ⟨1, (some 33), none, .bin .add (.s 32) (.k (.c (.int .i64 1)))⟩, ⟨2, (some 13), none, .mv (.s 33)⟩] [] (some [3, 13, 1, 2, 9, 11]))))
/-- kerbstone/kerbstoneref05.own -/
abbrev f_kerbstoneref05_own : Nat := 49
def c_kerbstoneref05_own : CFn := { frz := true, rnd := none, nargs := 5, ntmps := 58, res := [(.slot 10)], code :=
  (.seq (.region 3 [⟨0, (some 5), none, .box 0 5 (.s 0)⟩, ⟨1, (some 9), none, .box 1 4 (.s 4)⟩, ⟨2, (some 10), none, .newsl 2 6⟩] [] (some [9, 2, 1, 5, 3]))
  (.seq (.seq (.region 0 [⟨0, (some 14), none, .faddr 1 (.s 9)⟩, ⟨1, (some 15), none, .load false 1 (.s 14)⟩, ⟨2, (some 16), none, .mv (.s 2)⟩, ⟨3, (some 17), none, .bin .sub (.s 15) (.s 16)⟩, ⟨4, (some 18), none, .faddr 0 (.s 9)⟩, ⟨5, (some 19), none, .load false 1 (.s 18)⟩, ⟨6, (some 20), none, .bin .gtr (.s 17) (.s 19)⟩] [] (some [20, 9, 2, 1, 5, 3]))
  (.cond (.s 20) (.seq (.region 0 [⟨0, (some 21), none, .mv (.s 3)⟩, ⟨1, (some 10), none, .mv (.s 21)⟩] [] (some [10]))
  .ret)
  .skip))
  (.seq (.region 0 [⟨0, (some 23), none, .load true 5 (.s 5)⟩, ⟨1, (some 24), none, .mv (.s 1)⟩, ⟨2, (some 25), none, .call ⟨true⟩ (.k (.c (.fn 104 [] []))) [(.s 23), (.s 24)]⟩, ⟨3, (some 22), none, .mv (.s 25)⟩, ⟨4, (some 26), none, .extract 22 0⟩, ⟨5, (some 27), none, .extract 22 1⟩, ⟨6, (some 11), none, .mv (.s 26)⟩, ⟨7, (some 12), none, .mv (.s 27)⟩] [] (some [3, 1, 2, 9, 11]))
  (.seq (.seq (.region 0 [⟨0, (some 13), none, .mv (.k (.c (.int .i64 0)))⟩] [] (some [3, 13, 1, 2, 9, 11]))
  (.block 0 (.loop (some [3, 13, 1, 2, 9, 11]) c_kerbstoneref05_own_l1)))
  (.seq (.region 0 [⟨0, (some 57), none, .mv (.s 3)⟩, ⟨1, (some 10), none, .mv (.s 57)⟩] [] (some [10]))
  .ret))))) }
def c_roads_Check_l1 : CC := (.seq (.region 0 [⟨0, (some 9), none, .bin .lss (.s 8) (.s 7)⟩] [] (some [9, 1, 6, 7, 8]))
  (.seq (.cond (.s 9) .skip
  (.exit 0))
  (.seq (.block 1 (.seq (.region 0 [⟨0, (some 10), none, .iaddr 1 (.s 6) (.s 8)⟩, ⟨1, (some 11), none, .load false 1 (.s 10)⟩, ⟨2, (some 4), none, .mv (.s 11)⟩] [] (some [4, 1, 6, 7, 8]))
  (.seq (.region 0 [⟨0, (some 12), none, .mv (.s 4)⟩, ⟨1, (some 13), none, .load true 5 (.s 1)⟩, ⟨2, (some 14), none, .build [(.int .i64 0), .nilslice, .nilslice, .nilslice, .nilslice] [(0, 5, (.s 13))]⟩, ⟨3, (some 15), none, .call ⟨true⟩ (.s 12) [(.s 14)]⟩, ⟨4, (some 5), none, .mv (.s 15)⟩] [] (some [1, 6, 7, 8, 5]))
  (.seq (.region 0 [⟨0, (some 16), none, .mv (.s 5)⟩, ⟨1, (some 17), none, .bin .neq (.s 16) (.k (.c (.int .i64 0)))⟩] [] (some [17, 1, 6, 7, 8, 5]))
  (.cond (.s 17) (.seq (.region 0 [⟨0, (some 18), none, .mv (.s 5)⟩, ⟨1, (some 2), none, .mv (.s 18)⟩] [] (some [2]))
  .ret)
  .skip)))))
  (.region 0 [⟨0, (some 19), none, .bin .add (.s 8) (.k (.c (.int .i64 1)))⟩, ⟨1, (some 8), none, .mv (.s 19)⟩] [] (some [7, 6, 1, 8])))))
/-- kerbstone/roads.Check -/
abbrev f_roads_Check : Nat := 54
def c_roads_Check : CFn := { frz := true, rnd := none, nargs := 1, ntmps := 20, res := [(.slot 2)], code :=
  (.seq (.region 1 [⟨0, (some 1), none, .box 0 5 (.s 0)⟩, ⟨1, (some 2), none, .mv (.k (.c (.int .i64 0)))⟩] [] (some [1]))
  (.seq (.seq (.region 1 [⟨0, (some 6), none, .lit 0 1 [[.nilfn], [.nilfn], [.nilfn], [.nilfn], [.nilfn], [.nilfn]] [(0, (.k (.c (.fn 107 [] [])))), (1, (.k (.c (.fn 108 [] [])))), (2, (.k (.c (.fn 109 [] [])))), (3, (.k (.c (.fn 110 [] [])))), (4, (.k (.c (.fn 111 [] [])))), (5, (.k (.c (.fn 112 [] []))))]⟩, ⟨1, (some 7), none, .len (.s 6)⟩, ⟨2, (some 8), none, .mv (.k (.c (.int .i64 0)))⟩] [] (some [7, 6, 1, 8]))
  (.block 0 (.loop (some [7, 6, 1, 8]) c_roads_Check_l1)))
  (.seq (.region 0 [⟨0, (some 2), none, .mv (.k (.c (.int .i64 0)))⟩] [] (some [2]))
  .ret))) }
/-- kerbstone/roads.Bounds -/
abbrev f_roads_Bounds : Nat := 55
def c_roads_Bounds : CFn := { frz := true, rnd := none, nargs := 1, ntmps := 26, res := [(.slot 2), (.slot 3), (.slot 4)], code :=
  (.seq (.region 0 [⟨0, (some 2), none, .mv (.k (.c (.int .i64 0)))⟩, ⟨1, (some 3), none, .mv (.k (.c (.int .i64 0)))⟩, ⟨2, (some 4), none, .mv (.k (.c (.int .i64 0)))⟩] [] (some [0]))
  (.seq (.region 1 [⟨0, (some 7), none, .build [(.int .i64 0), (.int .i64 0), (.int .i64 0)] [(0, 1, (.k (.c (.int .i64 2000)))), (1, 1, (.k (.c (.int .i64 30)))), (2, 1, (.k (.c (.int .i64 90))))]⟩, ⟨1, (some 8), none, .build [(.int .i64 0), (.int .i64 0), (.int .i64 0)] [(0, 1, (.k (.c (.int .i64 1000)))), (1, 1, (.k (.c (.int .i64 20)))), (2, 1, (.k (.c (.int .i64 60))))]⟩, ⟨2, (some 9), none, .build [(.int .i64 0), (.int .i64 0), (.int .i64 0)] [(0, 1, (.k (.c (.int .i64 300)))), (1, 1, (.k (.c (.int .i64 100)))), (2, 1, (.k (.c (.int .i64 300))))]⟩, ⟨3, (some 10), none, .build [(.int .i64 0), (.int .i64 0), (.int .i64 0), (.int .i64 0), (.int .i64 0), (.int .i64 0), (.int .i64 0), (.int .i64 0), (.int .i64 0), (.int .i64 0), (.int .i64 0), (.int .i64 0)] [(3, 3, (.s 7)), (6, 3, (.s 8)), (9, 3, (.s 9))]⟩, ⟨4, (some 5), none, .box 0 12 (.k (.a [(.int .i64 0), (.int .i64 0), (.int .i64 0), (.int .i64 0), (.int .i64 0), (.int .i64 0), (.int .i64 0), (.int .i64 0), (.int .i64 0), (.int .i64 0), (.int .i64 0), (.int .i64 0)]))⟩, ⟨5, none, none, .store 12 (.s 5) (.s 10)⟩] [] (some [5, 0]))
  (.seq (.seq (.region 0 [⟨0, (some 11), none, .mv (.s 0)⟩, ⟨1, (some 12), none, .bin .lss (.s 11) (.k (.c (.int .i64 0)))⟩, ⟨2, (some 13), none, .mv (.s 12)⟩, ⟨3, (some 14), (some (13, false)), .mv (.s 0)⟩, ⟨4, (some 15), (some (13, false)), .bin .geq (.s 14) (.k (.c (.int .i64 4)))⟩, ⟨5, (some 16), none, .pick (.s 13) (.k (.c (.bool true))) (.s 15)⟩] [] (some [16, 5, 0]))
  (.cond (.s 16) (.seq (.region 0 [⟨0, (some 2), none, .mv (.k (.c (.int .i64 0)))⟩, ⟨1, (some 3), none, .mv (.k (.c (.int .i64 0)))⟩, ⟨2, (some 4), none, .mv (.k (.c (.int .i64 0)))⟩] [] (some [2, 3, 4]))
  .ret)
  .skip))
  (.seq (.region 1 [⟨0, (some 17), none, .mv (.s 0)⟩, ⟨1, (some 18), none, .aaddr 4 3 (.s 5) (.s 17)⟩, ⟨2, (some 19), none, .load true 3 (.s 18)⟩, ⟨3, (some 6), none, .box 0 3 (.k (.a [(.int .i64 0), (.int .i64 0), (.int .i64 0)]))⟩, ⟨4, none, none, .store 3 (.s 6) (.s 19)⟩] [] (some [6]))
  (.seq (.region 0 [⟨0, (some 20), none, .aaddr 3 1 (.s 6) (.k (.c (.int .i64 0)))⟩, ⟨2, (some 22), none, .aaddr 3 1 (.s 6) (.k (.c (.int .i64 1)))⟩, ⟨4, (some 24), none, .aaddr 3 1 (.s 6) (.k (.c (.int .i64 2)))⟩, ⟨1, (some 21), none, .load false 1 (.s 20)⟩, ⟨6, (some 2), none, .mv (.s 21)⟩, ⟨3, (some 23), none, .load false 1 (.s 22)⟩, ⟨7, (some 3), none, .mv (.s 23)⟩, ⟨5, (some 25), none, .load false 1 (.s 24)⟩, ⟨8, (some 4), none, .mv (.s 25)⟩] [] (some [2, 3, 4]))
  .ret))))) }
/-- kerbstone/roads.Length -/
abbrev f_roads_Length : Nat := 56
def c_roads_Length : CFn := { frz := true, rnd := none, nargs := 2, ntmps := 12, res := [(.slot 4)], code :=
  (.seq (.region 1 [⟨0, (some 2), none, .box 0 5 (.s 0)⟩, ⟨1, (some 4), none, .mv (.k (.c (.int .i64 0)))⟩] [] (some [1, 2]))
  (.seq (.seq (.region 0 [⟨0, (some 5), none, .load true 5 (.s 2)⟩, ⟨1, (some 6), none, .mv (.s 1)⟩, ⟨2, (some 7), none, .call ⟨true⟩ (.k (.c (.fn 113 [] []))) [(.s 5), (.s 6)]⟩, ⟨3, (some 8), none, .un .not (.s 7)⟩] [] (some [8, 1, 2]))
  (.cond (.s 8) (.seq (.region 0 [⟨0, (some 4), none, .mv (.k (.c (.int .i64 0)))⟩] [] (some [4]))
  .ret)
  .skip))
  (.seq (.region 0 [⟨0, (some 9), none, .load true 5 (.s 2)⟩, ⟨1, (some 10), none, .mv (.s 1)⟩, ⟨2, (some 11), none, .call ⟨true⟩ (.k (.c (.fn 114 [] []))) [(.s 9), (.s 10)]⟩, ⟨3, (some 4), none, .mv (.s 11)⟩] [] (some [4]))
  .ret))) }
/-- kerbstone/kerbstoneref03.Bounds -/
abbrev f_kerbstoneref03_Bounds : Nat := 57
def c_kerbstoneref03_Bounds : CFn := { frz := true, rnd := none, nargs := 1, ntmps := 12, res := [(.slot 2), (.slot 3), (.slot 4)], code :=
  (.seq (.region 0 [⟨0, (some 2), none, .mv (.k (.c (.int .i64 0)))⟩, ⟨1, (some 3), none, .mv (.k (.c (.int .i64 0)))⟩, ⟨2, (some 4), none, .mv (.k (.c (.int .i64 0)))⟩] [] (some [0]))
  (.seq (.seq (.region 0 [⟨0, (some 5), none, .mv (.s 0)⟩] [] (some [5]))
  (.block 0 (.seq (.region 0 [⟨0, (some 7), none, .bin .eql (.s 5) (.k (.c (.int .i64 1)))⟩, ⟨1, (some 6), none, .mv (.s 7)⟩] [] (some [6, 5]))
  (.cond (.s 6) (.seq (.region 0 [⟨0, (some 2), none, .mv (.k (.c (.int .i64 2000)))⟩, ⟨1, (some 3), none, .mv (.k (.c (.int .i64 30)))⟩, ⟨2, (some 4), none, .mv (.k (.c (.int .i64 90)))⟩] [] (some [2, 3, 4]))
  .ret)
  (.seq (.region 0 [⟨0, (some 9), none, .bin .eql (.s 5) (.k (.c (.int .i64 2)))⟩, ⟨1, (some 8), none, .mv (.s 9)⟩] [] (some [8, 5]))
  (.cond (.s 8) (.seq (.region 0 [⟨0, (some 2), none, .mv (.k (.c (.int .i64 1000)))⟩, ⟨1, (some 3), none, .mv (.k (.c (.int .i64 20)))⟩, ⟨2, (some 4), none, .mv (.k (.c (.int .i64 60)))⟩] [] (some [2, 3, 4]))
  .ret)
  (.seq (.region 0 [⟨0, (some 11), none, .bin .eql (.s 5) (.k (.c (.int .i64 3)))⟩, ⟨1, (some 10), none, .mv (.s 11)⟩] [] (some [10]))
  (.cond (.s 10) (.seq (.region 0 [⟨0, (some 2), none, .mv (.k (.c (.int .i64 300)))⟩, ⟨1, (some 3), none, .mv (.k (.c (.int .i64 100)))⟩, ⟨2, (some 4), none, .mv (.k (.c (.int .i64 300)))⟩] [] (some [2, 3, 4]))
  .ret)
  .skip))))))))
  (.seq (.region 0 [⟨0, (some 2), none, .mv (.k (.c (.int .i64 0)))⟩, ⟨1, (some 3), none, .mv (.k (.c (.int .i64 0)))⟩, ⟨2, (some 4), none, .mv (.k (.c (.int .i64 0)))⟩] [] (some [2, 3, 4]))
  .ret))) }
/-- kerbstone/kerbstoneref03.length -/
abbrev f_kerbstoneref03_length : Nat := 62
def c_kerbstoneref03_length : CFn := { frz := true, rnd := none, nargs := 2, ntmps := 12, res := [(.slot 4)], code :=
  (.seq (.region 1 [⟨0, (some 2), none, .box 0 5 (.s 0)⟩, ⟨1, (some 4), none, .mv (.k (.c (.int .i64 0)))⟩] [] (some [2, 1]))
  (.seq (.region 0 [⟨0, (some 5), none, .faddr 1 (.s 2)⟩, ⟨1, (some 6), none, .load false 1 (.s 5)⟩, ⟨2, (some 7), none, .mv (.s 1)⟩, ⟨3, (some 8), none, .iaddr 5 (.s 6) (.s 7)⟩, ⟨4, (some 9), none, .faddr 1 (.s 8)⟩, ⟨5, (some 10), none, .load true 1 (.s 9)⟩, ⟨6, (some 11), none, .call ⟨true⟩ (.k (.c (.fn 116 [] []))) [(.s 10)]⟩, ⟨7, (some 4), none, .mv (.s 11)⟩] [] (some [4]))
  .ret)) }
/-- kerbstone/track.within -/
abbrev f_track_within : Nat := 66
def c_track_within : CFn := { frz := true, rnd := none, nargs := 3, ntmps := 15, res := [(.slot 6)], code :=
  (.seq (.region 0 [⟨0, (some 6), none, .mv (.k (.c (.bool false)))⟩] [] (some [1, 0, 2]))
  (.seq (.region 0 [⟨0, (some 7), none, .mv (.s 1)⟩, ⟨1, (some 8), none, .mv (.s 0)⟩, ⟨2, (some 9), none, .bin .leq (.s 7) (.s 8)⟩, ⟨3, (some 10), none, .mv (.s 9)⟩, ⟨4, (some 11), (some (10, true)), .mv (.s 0)⟩, ⟨5, (some 12), (some (10, true)), .mv (.s 2)⟩, ⟨6, (some 13), (some (10, true)), .bin .leq (.s 11) (.s 12)⟩, ⟨7, (some 14), none, .pick (.s 10) (.s 13) (.k (.c (.bool false)))⟩, ⟨8, (some 6), none, .mv (.s 14)⟩] [] (some [6]))
  .ret)) }
/-- slices.Clone[[]kerbstone/api.Blob,kerbstone/api.Blob] -/
abbrev f_slices_Clone_Blob : Nat := 78
/-- cmp.Compare[int64] -/
abbrev f_cmp_Compare_int64 : Nat := 83
def c_cmp_Compare_int64 : CFn := { frz := true, rnd := none, nargs := 2, ntmps := 20, res := [(.slot 4)], code :=
  (.seq (.region 0 [⟨0, (some 4), none, .mv (.k (.c (.int .i64 0)))⟩] [] (some [1, 0]))
  (.seq (.region 0 [⟨0, (some 7), none, .mv (.s 0)⟩, ⟨1, (some 8), none, .call ⟨true⟩ (.k (.c (.fn 138 [] []))) [(.s 7)]⟩, ⟨2, (some 5), none, .mv (.s 8)⟩] [] (some [5, 1, 0]))
  (.seq (.region 0 [⟨0, (some 9), none, .mv (.s 1)⟩, ⟨1, (some 10), none, .call ⟨true⟩ (.k (.c (.fn 138 [] []))) [(.s 9)]⟩, ⟨2, (some 6), none, .mv (.s 10)⟩] [] (some [5, 1, 0, 6]))
  (.seq (.seq (.region 0 [⟨0, (some 11), none, .mv (.s 5)⟩] [] (some [11, 1, 0, 6]))
  (.cond (.s 11) (.seq (.seq (.region 0 [⟨0, (some 12), none, .mv (.s 6)⟩] [] (some [12]))
  (.cond (.s 12) (.seq (.region 0 [⟨0, (some 4), none, .mv (.k (.c (.int .i64 0)))⟩] [] (some [4]))
  .ret)
  .skip))
  (.seq (.region 0 [⟨0, (some 4), none, .mv (.k (.c (.int .i64 (-1))))⟩] [] (some [4]))
  .ret))
  .skip))
  (.seq (.seq (.region 0 [⟨0, (some 13), none, .mv (.s 6)⟩] [] (some [13, 0, 1]))
  (.cond (.s 13) (.seq (.region 0 [⟨0, (some 4), none, .mv (.k (.c (.int .i64 1)))⟩] [] (some [4]))
  .ret)
  .skip))
  (.seq (.seq (.region 0 [⟨0, (some 14), none, .mv (.s 0)⟩, ⟨1, (some 15), none, .mv (.s 1)⟩, ⟨2, (some 16), none, .bin .lss (.s 14) (.s 15)⟩] [] (some [16, 1, 0]))
  (.cond (.s 16) (.seq (.region 0 [⟨0, (some 4), none, .mv (.k (.c (.int .i64 (-1))))⟩] [] (some [4]))
  .ret)
  .skip))
  (.seq (.seq (.region 0 [⟨0, (some 17), none, .mv (.s 0)⟩, ⟨1, (some 18), none, .mv (.s 1)⟩, ⟨2, (some 19), none, .bin .gtr (.s 17) (.s 18)⟩] [] (some [19]))
  (.cond (.s 19) (.seq (.region 0 [⟨0, (some 4), none, .mv (.k (.c (.int .i64 1)))⟩] [] (some [4]))
  .ret)
  .skip))
  (.seq (.region 0 [⟨0, (some 4), none, .mv (.k (.c (.int .i64 0)))⟩] [] (some [4]))
  .ret)))))))) }
def c_kerbstoneref03_Check_l1 : CC := (.seq (.seq (.region 0 [⟨0, (some 39), none, .mv (.s 3)⟩, ⟨1, (some 40), none, .faddr 1 (.s 1)⟩, ⟨2, (some 41), none, .load false 1 (.s 40)⟩, ⟨3, (some 42), none, .len (.s 41)⟩, ⟨4, (some 43), none, .bin .lss (.s 39) (.s 42)⟩] [] (some [43, 1, 3]))
  (.cond (.s 43) .skip
  (.exit 0)))
  (.seq (.block 1 (.seq (.region 0 [⟨0, (some 46), none, .load true 5 (.s 1)⟩, ⟨1, (some 47), none, .mv (.s 3)⟩, ⟨2, (some 48), none, .call ⟨true⟩ (.k (.c (.fn 140 [] []))) [(.s 46), (.s 47)]⟩, ⟨3, (some 4), none, .mv (.s 48)⟩] [] (some [1, 3, 4]))
  (.seq (.region 0 [⟨0, (some 49), none, .mv (.s 4)⟩, ⟨1, (some 50), none, .bin .neq (.s 49) (.k (.c (.int .i64 0)))⟩] [] (some [50, 1, 3, 4]))
  (.cond (.s 50) (.seq (.region 0 [⟨0, (some 51), none, .mv (.s 4)⟩, ⟨1, (some 2), none, .mv (.s 51)⟩] [] (some [2]))
  .ret)
  .skip))))
  (.region 0 [⟨0, (some 44), none, .mv (.s 3)⟩, ⟨1, (some 45), none, .bin .add (.s 44) (.k (.c (.int .i64 1)))⟩, ⟨2, (some 3), none, .mv (.s 45)⟩] [] (some [1, 3]))))
def c_kerbstoneref03_Check_l2 : CC := (.seq (.seq (.region 0 [⟨0, (some 54), none, .mv (.s 6)⟩, ⟨1, (some 55), none, .faddr 3 (.s 1)⟩, ⟨2, (some 56), none, .load false 1 (.s 55)⟩, ⟨3, (some 57), none, .len (.s 56)⟩, ⟨4, (some 58), none, .bin .lss (.s 54) (.s 57)⟩, ⟨5, (some 59), none, .mv (.s 58)⟩, ⟨6, (some 60), (some (59, true)), .mv (.s 5)⟩, ⟨7, (some 61), (some (59, true)), .bin .eql (.s 60) (.k (.c (.int .i64 0)))⟩, ⟨8, (some 62), none, .pick (.s 59) (.s 61) (.k (.c (.bool false)))⟩] [] (some [62, 5, 6, 1]))
  (.cond (.s 62) .skip
  (.exit 2)))
  (.seq (.block 3 (.region 0 [⟨1, (some 66), none, .faddr 3 (.s 1)⟩, ⟨3, (some 68), none, .mv (.s 6)⟩, ⟨0, (some 65), none, .load true 5 (.s 1)⟩, ⟨2, (some 67), none, .load false 1 (.s 66)⟩, ⟨4, (some 69), none, .iaddr 2 (.s 67) (.s 68)⟩, ⟨5, (some 70), none, .load true 2 (.s 69)⟩, ⟨6, (some 71), none, .call ⟨true⟩ (.k (.c (.fn 142 [] []))) [(.s 65), (.s 70)]⟩, ⟨7, (some 5), none, .mv (.s 71)⟩] [] (some [6, 5, 1])))
  (.region 0 [⟨0, (some 63), none, .mv (.s 6)⟩, ⟨1, (some 64), none, .bin .add (.s 63) (.k (.c (.int .i64 1)))⟩, ⟨2, (some 6), none, .mv (.s 64)⟩] [] (some [5, 6, 1]))))
def c_kerbstoneref03_Check_l3 : CC := (.seq (.seq (.region 0 [⟨0, (some 72), none, .mv (.s 7)⟩, ⟨1, (some 73), none, .faddr 2 (.s 1)⟩, ⟨2, (some 74), none, .load false 1 (.s 73)⟩, ⟨3, (some 75), none, .len (.s 74)⟩, ⟨4, (some 76), none, .bin .lss (.s 72) (.s 75)⟩, ⟨5, (some 77), none, .mv (.s 76)⟩, ⟨6, (some 78), (some (77, true)), .mv (.s 5)⟩, ⟨7, (some 79), (some (77, true)), .bin .eql (.s 78) (.k (.c (.int .i64 0)))⟩, ⟨8, (some 80), none, .pick (.s 77) (.s 79) (.k (.c (.bool false)))⟩] [] (some [80, 5, 7, 1]))
  (.cond (.s 80) .skip
  (.exit 4)))
  (.seq (.block 5 (.region 0 [⟨1, (some 84), none, .faddr 2 (.s 1)⟩, ⟨3, (some 86), none, .mv (.s 7)⟩, ⟨0, (some 83), none, .load true 5 (.s 1)⟩, ⟨2, (some 85), none, .load false 1 (.s 84)⟩, ⟨4, (some 87), none, .iaddr 2 (.s 85) (.s 86)⟩, ⟨5, (some 88), none, .load true 2 (.s 87)⟩, ⟨6, (some 89), none, .call ⟨true⟩ (.k (.c (.fn 143 [] []))) [(.s 83), (.s 88)]⟩, ⟨7, (some 5), none, .mv (.s 89)⟩] [] (some [7, 5, 1])))
  (.region 0 [⟨0, (some 81), none, .mv (.s 7)⟩, ⟨1, (some 82), none, .bin .add (.s 81) (.k (.c (.int .i64 1)))⟩, ⟨2, (some 7), none, .mv (.s 82)⟩] [] (some [5, 7, 1]))))
def c_kerbstoneref03_Check_l4 : CC := (.seq (.seq (.region 0 [⟨0, (some 90), none, .mv (.s 8)⟩, ⟨1, (some 91), none, .faddr 4 (.s 1)⟩, ⟨2, (some 92), none, .load false 1 (.s 91)⟩, ⟨3, (some 93), none, .len (.s 92)⟩, ⟨4, (some 94), none, .bin .lss (.s 90) (.s 93)⟩, ⟨5, (some 95), none, .mv (.s 94)⟩, ⟨6, (some 96), (some (95, true)), .mv (.s 5)⟩, ⟨7, (some 97), (some (95, true)), .bin .eql (.s 96) (.k (.c (.int .i64 0)))⟩, ⟨8, (some 98), none, .pick (.s 95) (.s 97) (.k (.c (.bool false)))⟩] [] (some [98, 5, 8, 1]))
  (.cond (.s 98) .skip
  (.exit 6)))
  (.seq (.block 7 (.region 0 [⟨1, (some 102), none, .faddr 4 (.s 1)⟩, ⟨3, (some 104), none, .mv (.s 8)⟩, ⟨0, (some 101), none, .load true 5 (.s 1)⟩, ⟨2, (some 103), none, .load false 1 (.s 102)⟩, ⟨4, (some 105), none, .iaddr 6 (.s 103) (.s 104)⟩, ⟨5, (some 106), none, .load true 6 (.s 105)⟩, ⟨6, (some 107), none, .call ⟨true⟩ (.k (.c (.fn 144 [] []))) [(.s 101), (.s 106)]⟩, ⟨7, (some 5), none, .mv (.s 107)⟩] [] (some [8, 5, 1])))
  (.region 0 [⟨0, (some 99), none, .mv (.s 8)⟩, ⟨1, (some 100), none, .bin .add (.s 99) (.k (.c (.int .i64 1)))⟩, ⟨2, (some 8), none, .mv (.s 100)⟩] [] (some [5, 8, 1]))))
/-- kerbstone/kerbstoneref03.Check -/
abbrev f_kerbstoneref03_Check : Nat := 85
def c_kerbstoneref03_Check : CFn := { frz := true, rnd := none, nargs := 1, ntmps := 109, res := [(.slot 2)], code :=
  (.seq (.region 1 [⟨0, (some 1), none, .box 0 5 (.s 0)⟩, ⟨1, (some 2), none, .mv (.k (.c (.int .i64 0)))⟩] [] (some [1]))
  (.seq (.seq (.region 0 [⟨0, (some 9), none, .faddr 0 (.s 1)⟩, ⟨1, (some 10), none, .load false 1 (.s 9)⟩, ⟨2, (some 11), none, .call ⟨true⟩ (.k (.c (.fn 139 [] []))) [(.s 10), (.k (.c (.int .i64 0))), (.k (.c (.int .i64 1099511627776)))]⟩, ⟨3, (some 12), none, .un .not (.s 11)⟩] [] (some [12, 1]))
  (.cond (.s 12) (.seq (.region 0 [⟨0, (some 2), none, .mv (.k (.c (.int .i64 2)))⟩] [] (some [2]))
  .ret)
  .skip))
  (.seq (.seq (.region 0 [⟨0, (some 13), none, .faddr 1 (.s 1)⟩, ⟨1, (some 14), none, .load false 1 (.s 13)⟩, ⟨2, (some 15), none, .len (.s 14)⟩, ⟨3, (some 16), none, .bin .eql (.s 15) (.k (.c (.int .i64 0)))⟩] [] (some [16, 1]))
  (.cond (.s 16) (.seq (.region 0 [⟨0, (some 2), none, .mv (.k (.c (.int .i64 6)))⟩] [] (some [2]))
  .ret)
  .skip))
  (.seq (.seq (.region 0 [⟨0, (some 17), none, .faddr 1 (.s 1)⟩, ⟨1, (some 18), none, .load false 1 (.s 17)⟩, ⟨2, (some 19), none, .len (.s 18)⟩, ⟨3, (some 20), none, .bin .gtr (.s 19) (.k (.c (.int .i64 12)))⟩, ⟨4, (some 21), none, .mv (.s 20)⟩, ⟨5, (some 22), (some (21, false)), .faddr 2 (.s 1)⟩, ⟨6, (some 23), (some (21, false)), .load false 1 (.s 22)⟩, ⟨7, (some 24), (some (21, false)), .len (.s 23)⟩, ⟨8, (some 25), (some (21, false)), .bin .gtr (.s 24) (.k (.c (.int .i64 12)))⟩, ⟨9, (some 26), none, .pick (.s 21) (.k (.c (.bool true))) (.s 25)⟩, ⟨10, (some 27), none, .mv (.s 26)⟩, ⟨11, (some 28), (some (27, false)), .faddr 3 (.s 1)⟩, ⟨12, (some 29), (some (27, false)), .load false 1 (.s 28)⟩, ⟨13, (some 30), (some (27, false)), .len (.s 29)⟩, ⟨14, (some 31), (some (27, false)), .bin .gtr (.s 30) (.k (.c (.int .i64 4)))⟩, ⟨15, (some 32), none, .pick (.s 27) (.k (.c (.bool true))) (.s 31)⟩, ⟨16, (some 33), none, .mv (.s 32)⟩, ⟨17, (some 34), (some (33, false)), .faddr 4 (.s 1)⟩, ⟨18, (some 35), (some (33, false)), .load false 1 (.s 34)⟩, ⟨19, (some 36), (some (33, false)), .len (.s 35)⟩, ⟨20, (some 37), (some (33, false)), .bin .gtr (.s 36) (.k (.c (.int .i64 8)))⟩, ⟨21, (some 38), none, .pick (.s 33) (.k (.c (.bool true))) (.s 37)⟩] [] (some [38, 1]))
  (.cond (.s 38) (.seq (.region 0 [⟨0, (some 2), none, .mv (.k (.c (.int .i64 8)))⟩] [] (some [2]))
  .ret)
  .skip))
  (.seq (.seq (.region 0 [⟨0, (some 3), none, .mv (.k (.c (.int .i64 0)))⟩] [] (some [1, 3]))
  (.block 0 (.loop (some [1, 3]) c_kerbstoneref03_Check_l1)))
  (.seq (.region 0 [⟨0, (some 52), none, .load true 5 (.s 1)⟩, ⟨1, (some 53), none, .call ⟨true⟩ (.k (.c (.fn 141 [] []))) [(.s 52)]⟩, ⟨2, (some 5), none, .mv (.s 53)⟩] [] (some [5, 1]))
  (.seq (.seq (.region 0 [⟨0, (some 6), none, .mv (.k (.c (.int .i64 0)))⟩] [] (some [5, 6, 1]))
  (.block 2 (.loop (some [5, 6, 1]) c_kerbstoneref03_Check_l2)))
  (.seq (.seq (.region 0 [⟨0, (some 7), none, .mv (.k (.c (.int .i64 0)))⟩] [] (some [5, 7, 1]))
  (.block 4 (.loop (some [5, 7, 1]) c_kerbstoneref03_Check_l3)))
  (.seq (.seq (.region 0 [⟨0, (some 8), none, .mv (.k (.c (.int .i64 0)))⟩] [] (some [5, 8, 1]))
  (.block 6 (.loop (some [5, 8, 1]) c_kerbstoneref03_Check_l4)))
  (.seq (.region 0 [⟨0, (some 108), none, .mv (.s 5)⟩, ⟨1, (some 2), none, .mv (.s 108)⟩] [] (some [2]))
  .ret)))))))))) }
def c_kerbstoneref05_cut_l1 : CC := (.seq (.seq (.region 0 [⟨0, (some 10), none, .mv (.s 6)⟩, ⟨1, (some 11), none, .mv (.s 0)⟩, ⟨2, (some 12), none, .len (.s 11)⟩, ⟨3, (some 13), none, .bin .lss (.s 10) (.s 12)⟩] [] (some [13, 5, 6, 0, 3]))
  (.cond (.s 13) .skip
  (.exit 0)))
  (.seq (.block 1 (.seq (.region 1 [⟨0, (some 16), none, .mv (.s 0)⟩, ⟨1, (some 17), none, .mv (.s 6)⟩, ⟨2, (some 18), none, .iaddr 6 (.s 16) (.s 17)⟩, ⟨3, (some 19), none, .load true 6 (.s 18)⟩, ⟨4, (some 7), none, .box 0 6 (.k (.a [(.int .i64 0), (.int .i64 0), (.int .i64 0), (.int .i64 0), (.int .i64 0), (.int .i64 0)]))⟩, ⟨5, none, none, .store 6 (.s 7) (.s 19)⟩] [] (some [5, 7, 6, 0, 3]))
  (.seq (.seq (.region 0 [⟨0, (some 20), none, .faddr 0 (.s 7)⟩, ⟨1, (some 21), none, .load false 1 (.s 20)⟩, ⟨2, (some 22), none, .faddr 0 (.s 3)⟩, ⟨3, (some 23), none, .load false 1 (.s 22)⟩, ⟨4, (some 24), none, .bin .neq (.s 21) (.s 23)⟩, ⟨5, (some 25), none, .mv (.s 24)⟩, ⟨6, (some 26), (some (25, false)), .faddr 1 (.s 3)⟩, ⟨7, (some 27), (some (25, false)), .load false 1 (.s 26)⟩, ⟨8, (some 28), (some (25, false)), .faddr 2 (.s 7)⟩, ⟨9, (some 29), (some (25, false)), .load false 1 (.s 28)⟩, ⟨10, (some 30), (some (25, false)), .bin .gtr (.s 27) (.s 29)⟩, ⟨11, (some 31), none, .pick (.s 25) (.k (.c (.bool true))) (.s 30)⟩, ⟨12, (some 32), none, .mv (.s 31)⟩, ⟨13, (some 33), (some (32, false)), .faddr 2 (.s 3)⟩, ⟨14, (some 34), (some (32, false)), .load false 1 (.s 33)⟩, ⟨15, (some 35), (some (32, false)), .faddr 1 (.s 7)⟩, ⟨16, (some 36), (some (32, false)), .load false 1 (.s 35)⟩, ⟨17, (some 37), (some (32, false)), .bin .lss (.s 34) (.s 36)⟩, ⟨18, (some 38), none, .pick (.s 32) (.k (.c (.bool true))) (.s 37)⟩, ⟨19, (some 39), none, .mv (.s 38)⟩, ⟨20, (some 40), (some (39, false)), .faddr 1 (.s 3)⟩, ⟨21, (some 41), (some (39, false)), .load false 1 (.s 40)⟩, ⟨22, (some 42), (some (39, false)), .faddr 2 (.s 3)⟩, ⟨23, (some 43), (some (39, false)), .load false 1 (.s 42)⟩, ⟨24, (some 44), (some (39, false)), .bin .gtr (.s 41) (.s 43)⟩, ⟨25, (some 45), none, .pick (.s 39) (.k (.c (.bool true))) (.s 44)⟩] [] (some [45, 5, 7, 6, 0, 3]))
  (.cond (.s 45) (.seq (.region 1 [⟨0, (some 46), none, .mv (.s 5)⟩, ⟨1, (some 47), none, .load true 6 (.s 7)⟩, ⟨2, (some 48), none, .lit 0 6 [[(.int .i64 0), (.int .i64 0), (.int .i64 0), (.int .i64 0), (.int .i64 0), (.int .i64 0)]] [(0, (.s 47))]⟩, ⟨3, (some 49), none, .append 6 48 (.s 46) (.s 48)⟩, ⟨4, (some 5), none, .mv (.s 49)⟩] [] (some [6, 5, 0, 3]))
  (.exit 1))
  .skip))
  (.seq (.region 2 [⟨0, (some 50), none, .load true 6 (.s 7)⟩, ⟨1, (some 51), none, .load true 6 (.s 7)⟩, ⟨2, (some 8), none, .box 0 6 (.k (.a [(.int .i64 0), (.int .i64 0), (.int .i64 0), (.int .i64 0), (.int .i64 0), (.int .i64 0)]))⟩, ⟨3, (some 9), none, .box 1 6 (.k (.a [(.int .i64 0), (.int .i64 0), (.int .i64 0), (.int .i64 0), (.int .i64 0), (.int .i64 0)]))⟩, ⟨4, none, none, .store 6 (.s 8) (.s 50)⟩, ⟨5, none, none, .store 6 (.s 9) (.s 51)⟩] [(0, 2), (0, 3), (1, 2), (1, 3), (1, 4), (2, 3)] (some [5, 8, 9, 6, 0, 3]))
  (.seq (.region 0 [⟨0, (some 52), none, .faddr 1 (.s 3)⟩, ⟨3, (some 55), none, .faddr 2 (.s 3)⟩, ⟨1, (some 53), none, .load false 1 (.s 52)⟩, ⟨2, (some 54), none, .bin .sub (.s 53) (.k (.c (.int .i64 1)))⟩, ⟨6, (some 58), none, .faddr 2 (.s 8)⟩, ⟨4, (some 56), none, .load false 1 (.s 55)⟩, ⟨5, (some 57), none, .bin .add (.s 56) (.k (.c (.int .i64 1)))⟩, ⟨7, none, none, .store 1 (.s 58) (.s 54)⟩, ⟨8, (some 59), none, .faddr 1 (.s 9)⟩, ⟨9, none, none, .store 1 (.s 59) (.s 57)⟩] [(5, 7)] (some [5, 8, 9, 6, 0, 3]))
  (.seq (.seq (.region 0 [⟨0, (some 60), none, .faddr 1 (.s 8)⟩, ⟨1, (some 61), none, .load false 1 (.s 60)⟩, ⟨2, (some 62), none, .faddr 2 (.s 8)⟩, ⟨3, (some 63), none, .load false 1 (.s 62)⟩, ⟨4, (some 64), none, .bin .leq (.s 61) (.s 63)⟩] [] (some [64, 5, 8, 9, 6, 0, 3]))
  (.cond (.s 64) (.region 1 [⟨0, (some 65), none, .mv (.s 5)⟩, ⟨1, (some 66), none, .load true 6 (.s 8)⟩, ⟨2, (some 67), none, .lit 0 6 [[(.int .i64 0), (.int .i64 0), (.int .i64 0), (.int .i64 0), (.int .i64 0), (.int .i64 0)]] [(0, (.s 66))]⟩, ⟨3, (some 68), none, .append 6 48 (.s 65) (.s 67)⟩, ⟨4, (some 5), none, .mv (.s 68)⟩] [] (some [5, 9, 6, 0, 3]))
  .skip))
  (.seq (.region 0 [⟨0, (some 69), none, .faddr 1 (.s 9)⟩, ⟨1, (some 70), none, .load false 1 (.s 69)⟩, ⟨2, (some 71), none, .faddr 2 (.s 9)⟩, ⟨3, (some 72), none, .load false 1 (.s 71)⟩, ⟨4, (some 73), none, .bin .leq (.s 70) (.s 72)⟩] [] (some [73, 5, 9, 6, 0, 3]))
  (.cond (.s 73) (.region 1 [⟨0, (some 74), none, .mv (.s 5)⟩, ⟨1, (some 75), none, .load true 6 (.s 9)⟩, ⟨2, (some 76), none, .lit 0 6 [[(.int .i64 0), (.int .i64 0), (.int .i64 0), (.int .i64 0), (.int .i64 0), (.int .i64 0)]] [(0, (.s 75))]⟩, ⟨3, (some 77), none, .append 6 48 (.s 74) (.s 76)⟩, ⟨4, (some 5), none, .mv (.s 77)⟩] [] (some [6, 5, 0, 3]))
  .skip))))))))
  (.region 0 [⟨0, (some 14), none, .mv (.s 6)⟩, ⟨1, (some 15), none, .bin .add (.s 14) (.k (.c (.int .i64 1)))⟩, ⟨2, (some 6), none, .mv (.s 15)⟩] [] (some [5, 6, 0, 3]))))
/-- kerbstone/kerbstoneref05.cut -/
abbrev f_kerbstoneref05_cut : Nat := 89
def c_kerbstoneref05_cut : CFn := { frz := true, rnd := none, nargs := 2, ntmps := 79, res := [(.slot 4)], code :=
  (.seq (.region 2 [⟨0, (some 3), none, .box 0 3 (.s 1)⟩, ⟨1, (some 4), none, .newsl 1 6⟩] [] (some [0, 3]))
  (.seq (.region 1 [⟨0, (some 5), none, .newsl 0 6⟩] [] (some [5, 0, 3]))
  (.seq (.seq (.region 0 [⟨0, (some 6), none, .mv (.k (.c (.int .i64 0)))⟩] [] (some [5, 6, 0, 3]))
  (.block 0 (.loop (some [5, 6, 0, 3]) c_kerbstoneref05_cut_l1)))
  (.seq (.region 0 [⟨0, (some 78), none, .mv (.s 5)⟩, ⟨1, (some 4), none, .mv (.s 78)⟩] [] (some [4]))
  .ret)))) }
def c_motion_Cut_Blob_l1 : CC := (.seq (.region 0 [⟨0, (some 22), none, .bin .lss (.s 21) (.s 20)⟩] [] (some [22, 5, 21, 20, 19, 3]))
  (.seq (.cond (.s 22) .skip
  (.exit 0))
  (.seq (.block 1 (.seq (.region 1 [⟨0, (some 23), none, .iaddr 6 (.s 19) (.s 21)⟩, ⟨1, (some 24), none, .load true 6 (.s 23)⟩, ⟨2, (some 7), none, .box 0 6 (.k (.a [(.int .i64 0), (.int .i64 0), (.int .i64 0), (.int .i64 0), (.int .i64 0), (.int .i64 0)]))⟩, ⟨3, none, none, .store 6 (.s 7) (.s 24)⟩] [] (some [5, 7, 21, 20, 19, 3]))
  (.seq (.region 2 [⟨0, (some 25), none, .load true 6 (.s 7)⟩, ⟨1, (some 26), none, .load true 6 (.s 7)⟩, ⟨2, (some 8), none, .box 0 6 (.k (.a [(.int .i64 0), (.int .i64 0), (.int .i64 0), (.int .i64 0), (.int .i64 0), (.int .i64 0)]))⟩, ⟨3, (some 9), none, .box 1 6 (.k (.a [(.int .i64 0), (.int .i64 0), (.int .i64 0), (.int .i64 0), (.int .i64 0), (.int .i64 0)]))⟩, ⟨4, none, none, .store 6 (.s 8) (.s 25)⟩, ⟨5, none, none, .store 6 (.s 9) (.s 26)⟩] [] (some [9, 8, 5, 7, 21, 20, 19, 3]))
  (.seq (.region 0 [⟨0, (some 28), none, .call ⟨true⟩ (.k (.c (.fn 147 [] []))) [(.s 7)]⟩, ⟨1, (some 27), none, .mv (.s 28)⟩, ⟨2, (some 29), none, .extract 27 0⟩, ⟨3, (some 30), none, .extract 27 1⟩, ⟨4, (some 31), none, .extract 27 2⟩, ⟨5, (some 10), none, .mv (.s 29)⟩, ⟨6, (some 11), none, .mv (.s 30)⟩, ⟨7, (some 12), none, .mv (.s 31)⟩] [] (some [10, 9, 12, 8, 11, 5, 7, 21, 20, 19, 3]))
  (.seq (.seq (.region 0 [⟨0, (some 32), none, .mv (.s 10)⟩, ⟨1, (some 33), none, .faddr 0 (.s 3)⟩, ⟨2, (some 34), none, .load false 1 (.s 33)⟩, ⟨3, (some 35), none, .bin .neq (.s 32) (.s 34)⟩, ⟨4, (some 36), none, .mv (.s 35)⟩, ⟨5, (some 37), (some (36, false)), .faddr 1 (.s 3)⟩, ⟨7, (some 39), (some (36, false)), .faddr 2 (.s 3)⟩, ⟨6, (some 38), (some (36, false)), .load false 1 (.s 37)⟩, ⟨8, (some 40), (some (36, false)), .load false 1 (.s 39)⟩, ⟨9, (some 41), (some (36, false)), .bin .gtr (.s 38) (.s 40)⟩, ⟨10, (some 42), none, .pick (.s 36) (.k (.c (.bool true))) (.s 41)⟩, ⟨11, (some 43), none, .mv (.s 42)⟩, ⟨12, (some 44), (some (43, false)), .faddr 1 (.s 3)⟩, ⟨14, (some 46), (some (43, false)), .mv (.s 12)⟩, ⟨15, (some 47), (some (43, false)), .nilck (.s 46)⟩, ⟨13, (some 45), (some (43, false)), .load false 1 (.s 44)⟩, ⟨16, (some 48), (some (43, false)), .load false 1 (.s 47)⟩, ⟨17, (some 49), (some (43, false)), .bin .gtr (.s 45) (.s 48)⟩, ⟨18, (some 50), none, .pick (.s 43) (.k (.c (.bool true))) (.s 49)⟩, ⟨19, (some 51), none, .mv (.s 50)⟩, ⟨20, (some 52), (some (51, false)), .faddr 2 (.s 3)⟩, ⟨22, (some 54), (some (51, false)), .mv (.s 11)⟩, ⟨23, (some 55), (some (51, false)), .nilck (.s 54)⟩, ⟨21, (some 53), (some (51, false)), .load false 1 (.s 52)⟩, ⟨24, (some 56), (some (51, false)), .load false 1 (.s 55)⟩, ⟨25, (some 57), (some (51, false)), .bin .lss (.s 53) (.s 56)⟩, ⟨26, (some 58), none, .pick (.s 51) (.k (.c (.bool true))) (.s 57)⟩] [] (some [58, 9, 12, 8, 11, 5, 7, 21, 20, 19, 3]))
  (.cond (.s 58) (.seq (.region 1 [⟨0, (some 59), none, .mv (.s 5)⟩, ⟨1, (some 60), none, .load true 6 (.s 7)⟩, ⟨2, (some 61), none, .lit 0 6 [[(.int .i64 0), (.int .i64 0), (.int .i64 0), (.int .i64 0), (.int .i64 0), (.int .i64 0)]] [(0, (.s 60))]⟩, ⟨3, (some 62), none, .append 6 48 (.s 59) (.s 61)⟩, ⟨4, (some 5), none, .mv (.s 62)⟩] [] (some [21, 5, 20, 19, 3]))
  (.exit 1))
  .skip))
  (.seq (.seq (.region 0 [⟨0, (some 63), none, .faddr 1 (.s 3)⟩, ⟨2, (some 65), none, .mv (.s 11)⟩, ⟨3, (some 66), none, .nilck (.s 65)⟩, ⟨1, (some 64), none, .load false 1 (.s 63)⟩, ⟨4, (some 67), none, .load false 1 (.s 66)⟩, ⟨5, (some 68), none, .bin .gtr (.s 64) (.s 67)⟩] [] (some [68, 5, 8, 12, 9, 21, 20, 19, 3]))
  (.cond (.s 68) (.seq (.region 0 [⟨0, (some 70), none, .call ⟨true⟩ (.k (.c (.fn 147 [] []))) [(.s 8)]⟩, ⟨1, (some 69), none, .mv (.s 70)⟩, ⟨2, (some 71), none, .extract 69 0⟩, ⟨3, (some 72), none, .extract 69 1⟩, ⟨4, (some 73), none, .extract 69 2⟩, ⟨5, (some 13), none, .mv (.s 71)⟩, ⟨6, (some 14), none, .mv (.s 72)⟩, ⟨7, (some 15), none, .mv (.s 73)⟩] [] (some [15, 5, 8, 12, 9, 21, 20, 19, 3]))
  (.seq (.region 0 [⟨0, (some 74), none, .mv (.s 15)⟩, ⟨1, (some 75), none, .faddr 1 (.s 3)⟩, ⟨2, (some 76), none, .load false 1 (.s 75)⟩, ⟨3, (some 77), none, .bin .sub (.s 76) (.k (.c (.int .i64 1)))⟩, ⟨4, (some 78), none, .nilck (.s 74)⟩, ⟨5, none, none, .store 1 (.s 78) (.s 77)⟩] [] (some [5, 8, 12, 9, 21, 20, 19, 3]))
  (.region 1 [⟨0, (some 79), none, .mv (.s 5)⟩, ⟨1, (some 80), none, .load true 6 (.s 8)⟩, ⟨2, (some 81), none, .lit 0 6 [[(.int .i64 0), (.int .i64 0), (.int .i64 0), (.int .i64 0), (.int .i64 0), (.int .i64 0)]] [(0, (.s 80))]⟩, ⟨3, (some 82), none, .append 6 48 (.s 79) (.s 81)⟩, ⟨4, (some 5), none, .mv (.s 82)⟩] [] (some [12, 5, 9, 21, 20, 19, 3]))))
  .skip))
  (.seq (.region 0 [⟨0, (some 83), none, .faddr 2 (.s 3)⟩, ⟨2, (some 85), none, .mv (.s 12)⟩, ⟨3, (some 86), none, .nilck (.s 85)⟩, ⟨1, (some 84), none, .load false 1 (.s 83)⟩, ⟨4, (some 87), none, .load false 1 (.s 86)⟩, ⟨5, (some 88), none, .bin .lss (.s 84) (.s 87)⟩] [] (some [88, 5, 9, 21, 20, 19, 3]))
  (.cond (.s 88) (.seq (.region 0 [⟨0, (some 90), none, .call ⟨true⟩ (.k (.c (.fn 147 [] []))) [(.s 9)]⟩, ⟨1, (some 89), none, .mv (.s 90)⟩, ⟨2, (some 91), none, .extract 89 0⟩, ⟨3, (some 92), none, .extract 89 1⟩, ⟨4, (some 93), none, .extract 89 2⟩, ⟨5, (some 16), none, .mv (.s 91)⟩, ⟨6, (some 17), none, .mv (.s 92)⟩, ⟨7, (some 18), none, .mv (.s 93)⟩] [] (some [17, 5, 9, 21, 20, 19, 3]))
  (.seq (.region 0 [⟨0, (some 94), none, .mv (.s 17)⟩, ⟨1, (some 95), none, .faddr 2 (.s 3)⟩, ⟨2, (some 96), none, .load false 1 (.s 95)⟩, ⟨3, (some 97), none, .bin .add (.s 96) (.k (.c (.int .i64 1)))⟩, ⟨4, (some 98), none, .nilck (.s 94)⟩, ⟨5, none, none, .store 1 (.s 98) (.s 97)⟩] [] (some [5, 9, 21, 20, 19, 3]))
  (.region 1 [⟨0, (some 99), none, .mv (.s 5)⟩, ⟨1, (some 100), none, .load true 6 (.s 9)⟩, ⟨2, (some 101), none, .lit 0 6 [[(.int .i64 0), (.int .i64 0), (.int .i64 0), (.int .i64 0), (.int .i64 0), (.int .i64 0)]] [(0, (.s 100))]⟩, ⟨3, (some 102), none, .append 6 48 (.s 99) (.s 101)⟩, ⟨4, (some 5), none, .mv (.s 102)⟩] [] (some [21, 5, 20, 19, 3]))))
  .skip))))))))
  (.region 0 [⟨0, (some 103), none, .bin .add (.s 21) (.k (.c (.int .i64 1)))⟩, ⟨1, (some 21), none, .mv (.s 103)⟩] [] (some [5, 21, 20, 19, 3])))))
/-- kerbstone/motion.Cut[kerbstone/api.Blob] -/
abbrev f_motion_Cut_Blob : Nat := 90
def c_motion_Cut_Blob : CFn := { frz := true, rnd := none, nargs := 2, ntmps := 105, res := [(.slot 4)], code :=
  (.seq (.region 2 [⟨0, (some 3), none, .box 0 3 (.s 1)⟩, ⟨1, (some 4), none, .newsl 1 6⟩] [] (some [0, 3]))
  (.seq (.region 1 [⟨0, (some 5), none, .newsl 0 6⟩] [] (some [0, 5, 3]))
  (.seq (.seq (.region 0 [⟨0, (some 19), none, .mv (.s 0)⟩, ⟨1, (some 20), none, .len (.s 19)⟩, ⟨2, (some 21), none, .mv (.k (.c (.int .i64 0)))⟩] [] (some [5, 21, 20, 19, 3]))
  (.block 0 (.loop (some [5, 21, 20, 19, 3]) c_motion_Cut_Blob_l1)))
  (.seq (.region 0 [⟨0, (some 104), none, .mv (.s 5)⟩, ⟨1, (some 4), none, .mv (.s 104)⟩] [] (some [4]))
  .ret)))) }
/-- kerbstone/kerbstoneref05.checkBlob -/
abbrev f_kerbstoneref05_checkBlob : Nat := 94
def c_kerbstoneref05_checkBlob : CFn := { frz := true, rnd := none, nargs := 3, ntmps := 124, res := [(.slot 6)], code :=
  (.seq (.region 1 [⟨0, (some 3), none, .box 0 5 (.s 0)⟩, ⟨1, (some 6), none, .mv (.k (.c (.int .i64 0)))⟩] [] (some [1, 2, 3]))
  (.seq (.region 1 [⟨0, (some 12), none, .mv (.s 1)⟩, ⟨1, (some 13), none, .mv (.s 2)⟩, ⟨2, (some 14), none, .iaddr 6 (.s 12) (.s 13)⟩, ⟨3, (some 15), none, .load true 6 (.s 14)⟩, ⟨4, (some 7), none, .box 0 6 (.k (.a [(.int .i64 0), (.int .i64 0), (.int .i64 0), (.int .i64 0), (.int .i64 0), (.int .i64 0)]))⟩, ⟨5, none, none, .store 6 (.s 7) (.s 15)⟩] [] (some [7, 1, 2, 3]))
  (.seq (.seq (.region 0 [⟨0, (some 16), none, .faddr 0 (.s 7)⟩, ⟨1, (some 17), none, .load false 1 (.s 16)⟩, ⟨2, (some 18), none, .bin .lss (.s 17) (.k (.c (.int .i64 0)))⟩, ⟨3, (some 19), none, .mv (.s 18)⟩, ⟨4, (some 20), (some (19, false)), .faddr 0 (.s 7)⟩, ⟨5, (some 21), (some (19, false)), .load false 1 (.s 20)⟩, ⟨6, (some 22), (some (19, false)), .faddr 1 (.s 3)⟩, ⟨7, (some 23), (some (19, false)), .load false 1 (.s 22)⟩, ⟨8, (some 24), (some (19, false)), .len (.s 23)⟩, ⟨9, (some 25), (some (19, false)), .bin .geq (.s 21) (.s 24)⟩, ⟨10, (some 26), none, .pick (.s 19) (.k (.c (.bool true))) (.s 25)⟩] [] (some [26, 7, 1, 2, 3]))
  (.cond (.s 26) (.seq (.region 0 [⟨0, (some 6), none, .mv (.k (.c (.int .i64 7)))⟩] [] (some [6]))
  .ret)
  .skip))
  (.seq (.region 0 [⟨0, (some 27), none, .load true 5 (.s 3)⟩, ⟨1, (some 28), none, .faddr 0 (.s 7)⟩, ⟨2, (some 29), none, .load false 1 (.s 28)⟩, ⟨3, (some 30), none, .call ⟨true⟩ (.k (.c (.fn 145 [] []))) [(.s 27), (.s 29)]⟩, ⟨4, (some 8), none, .mv (.s 30)⟩] [] (some [3, 8, 2, 1, 7]))
  (.seq (.region 0 [⟨0, (some 32), none, .faddr 1 (.s 3)⟩, ⟨1, (some 33), none, .load false 1 (.s 32)⟩, ⟨2, (some 34), none, .faddr 0 (.s 7)⟩, ⟨3, (some 35), none, .load false 1 (.s 34)⟩, ⟨4, (some 36), none, .iaddr 5 (.s 33) (.s 35)⟩, ⟨5, (some 37), none, .faddr 0 (.s 36)⟩, ⟨6, (some 38), none, .load false 1 (.s 37)⟩, ⟨7, (some 39), none, .call ⟨true⟩ (.k (.c (.fn 57 [] []))) [(.s 38)]⟩, ⟨8, (some 31), none, .mv (.s 39)⟩, ⟨9, (some 40), none, .extract 31 0⟩, ⟨10, (some 41), none, .extract 31 1⟩, ⟨11, (some 42), none, .extract 31 2⟩, ⟨12, (some 9), none, .mv (.s 40)⟩, ⟨13, (some 10), none, .mv (.s 41)⟩, ⟨14, (some 11), none, .mv (.s 42)⟩] [] (some [9, 8, 2, 1, 7]))
  (.seq (.seq (.region 0 [⟨0, (some 43), none, .faddr 1 (.s 7)⟩, ⟨1, (some 44), none, .load false 1 (.s 43)⟩, ⟨2, (some 45), none, .bin .lss (.s 44) (.k (.c (.int .i64 0)))⟩, ⟨3, (some 46), none, .mv (.s 45)⟩, ⟨4, (some 47), (some (46, false)), .faddr 1 (.s 7)⟩, ⟨5, (some 48), (some (46, false)), .load false 1 (.s 47)⟩, ⟨6, (some 49), (some (46, false)), .faddr 2 (.s 7)⟩, ⟨7, (some 50), (some (46, false)), .load false 1 (.s 49)⟩, ⟨8, (some 51), (some (46, false)), .bin .gtr (.s 48) (.s 50)⟩, ⟨9, (some 52), none, .pick (.s 46) (.k (.c (.bool true))) (.s 51)⟩, ⟨10, (some 53), none, .mv (.s 52)⟩, ⟨11, (some 54), (some (53, false)), .faddr 2 (.s 7)⟩, ⟨12, (some 55), (some (53, false)), .load false 1 (.s 54)⟩, ⟨13, (some 56), (some (53, false)), .mv (.s 8)⟩, ⟨14, (some 57), (some (53, false)), .bin .gtr (.s 55) (.s 56)⟩, ⟨15, (some 58), none, .pick (.s 53) (.k (.c (.bool true))) (.s 57)⟩, ⟨16, (some 59), none, .mv (.s 58)⟩, ⟨17, (some 60), (some (59, false)), .faddr 3 (.s 7)⟩, ⟨18, (some 61), (some (59, false)), .load false 1 (.s 60)⟩, ⟨19, (some 62), (some (59, false)), .bin .lss (.s 61) (.k (.c (.int .i64 0)))⟩, ⟨20, (some 63), none, .pick (.s 59) (.k (.c (.bool true))) (.s 62)⟩, ⟨21, (some 64), none, .mv (.s 63)⟩, ⟨22, (some 65), (some (64, false)), .faddr 3 (.s 7)⟩, ⟨23, (some 66), (some (64, false)), .load false 1 (.s 65)⟩, ⟨24, (some 67), (some (64, false)), .faddr 4 (.s 7)⟩, ⟨25, (some 68), (some (64, false)), .load false 1 (.s 67)⟩, ⟨26, (some 69), (some (64, false)), .bin .gtr (.s 66) (.s 68)⟩, ⟨27, (some 70), none, .pick (.s 64) (.k (.c (.bool true))) (.s 69)⟩, ⟨28, (some 71), none, .mv (.s 70)⟩, ⟨29, (some 72), (some (71, false)), .faddr 4 (.s 7)⟩, ⟨30, (some 73), (some (71, false)), .load false 1 (.s 72)⟩, ⟨31, (some 74), (some (71, false)), .mv (.s 9)⟩, ⟨32, (some 75), (some (71, false)), .bin .gtr (.s 73) (.s 74)⟩, ⟨33, (some 76), none, .pick (.s 71) (.k (.c (.bool true))) (.s 75)⟩, ⟨34, (some 77), none, .mv (.s 76)⟩, ⟨35, (some 78), (some (77, false)), .faddr 5 (.s 7)⟩, ⟨36, (some 79), (some (77, false)), .load false 1 (.s 78)⟩, ⟨37, (some 80), (some (77, false)), .bin .lss (.s 79) (.k (.c (.int .i64 0)))⟩, ⟨38, (some 81), none, .pick (.s 77) (.k (.c (.bool true))) (.s 80)⟩, ⟨39, (some 82), none, .mv (.s 81)⟩, ⟨40, (some 83), (some (82, false)), .faddr 5 (.s 7)⟩, ⟨41, (some 84), (some (82, false)), .load false 1 (.s 83)⟩, ⟨42, (some 85), (some (82, false)), .mv (.s 8)⟩, ⟨43, (some 86), (some (82, false)), .bin .gtr (.s 84) (.s 85)⟩, ⟨44, (some 87), none, .pick (.s 82) (.k (.c (.bool true))) (.s 86)⟩] [] (some [87, 2, 1, 7]))
  (.cond (.s 87) (.seq (.region 0 [⟨0, (some 6), none, .mv (.k (.c (.int .i64 2)))⟩] [] (some [6]))
  .ret)
  .skip))
  (.seq (.seq (.region 0 [⟨0, (some 88), none, .mv (.s 2)⟩, ⟨1, (some 89), none, .bin .gtr (.s 88) (.k (.c (.int .i64 0)))⟩, ⟨2, (some 90), none, .mv (.s 89)⟩, ⟨3, (some 91), (some (90, true)), .faddr 0 (.s 7)⟩, ⟨5, (some 93), (some (90, true)), .mv (.s 1)⟩, ⟨6, (some 94), (some (90, true)), .mv (.s 2)⟩, ⟨7, (some 95), (some (90, true)), .bin .sub (.s 94) (.k (.c (.int .i64 1)))⟩, ⟨8, (some 96), (some (90, true)), .iaddr 6 (.s 93) (.s 95)⟩, ⟨9, (some 97), (some (90, true)), .faddr 0 (.s 96)⟩, ⟨4, (some 92), (some (90, true)), .load false 1 (.s 91)⟩, ⟨10, (some 98), (some (90, true)), .load false 1 (.s 97)⟩, ⟨11, (some 99), (some (90, true)), .bin .lss (.s 92) (.s 98)⟩, ⟨12, (some 100), (some (90, true)), .mv (.s 99)⟩, ⟨13, (some 101), (some (100, false)), .faddr 0 (.s 7)⟩, ⟨15, (some 103), (some (100, false)), .mv (.s 1)⟩, ⟨16, (some 104), (some (100, false)), .mv (.s 2)⟩, ⟨17, (some 105), (some (100, false)), .bin .sub (.s 104) (.k (.c (.int .i64 1)))⟩, ⟨18, (some 106), (some (100, false)), .iaddr 6 (.s 103) (.s 105)⟩, ⟨19, (some 107), (some (100, false)), .faddr 0 (.s 106)⟩, ⟨14, (some 102), (some (100, false)), .load false 1 (.s 101)⟩, ⟨20, (some 108), (some (100, false)), .load false 1 (.s 107)⟩, ⟨21, (some 109), (some (100, false)), .bin .eql (.s 102) (.s 108)⟩, ⟨22, (some 110), (some (100, false)), .mv (.s 109)⟩, ⟨23, (some 111), (some (110, true)), .faddr 1 (.s 7)⟩, ⟨26, (some 114), (some (110, true)), .mv (.s 1)⟩, ⟨27, (some 115), (some (110, true)), .mv (.s 2)⟩, ⟨28, (some 116), (some (110, true)), .bin .sub (.s 115) (.k (.c (.int .i64 1)))⟩, ⟨29, (some 117), (some (110, true)), .iaddr 6 (.s 114) (.s 116)⟩, ⟨30, (some 118), (some (110, true)), .faddr 2 (.s 117)⟩, ⟨24, (some 112), (some (110, true)), .load false 1 (.s 111)⟩, ⟨25, (some 113), (some (110, true)), .bin .sub (.s 112) (.k (.c (.int .i64 1)))⟩, ⟨31, (some 119), (some (110, true)), .load false 1 (.s 118)⟩, ⟨32, (some 120), (some (110, true)), .bin .leq (.s 113) (.s 119)⟩, ⟨33, (some 121), (some (100, false)), .pick (.s 110) (.s 120) (.k (.c (.bool false)))⟩, ⟨34, (some 122), (some (90, true)), .pick (.s 100) (.k (.c (.bool true))) (.s 121)⟩, ⟨35, (some 123), none, .pick (.s 90) (.s 122) (.k (.c (.bool false)))⟩] [] (some [123]))
  (.cond (.s 123) (.seq (.region 0 [⟨0, (some 6), none, .mv (.k (.c (.int .i64 11)))⟩] [] (some [6]))
  .ret)
  .skip))
  (.seq (.region 0 [⟨0, (some 6), none, .mv (.k (.c (.int .i64 0)))⟩] [] (some [6]))
  .ret)))))))) }
def c_motion_Join_l1 : CC := (.seq (.region 0 [⟨0, (some 16), none, .bin .lss (.s 15) (.s 14)⟩] [] (some [16, 15, 14, 13, 4]))
  (.seq (.cond (.s 16) .skip
  (.exit 0))
  (.seq (.block 1 (.seq (.region 1 [⟨0, (some 17), none, .iaddr 6 (.s 13) (.s 15)⟩, ⟨1, (some 18), none, .load true 6 (.s 17)⟩, ⟨2, (some 6), none, .box 0 6 (.k (.a [(.int .i64 0), (.int .i64 0), (.int .i64 0), (.int .i64 0), (.int .i64 0), (.int .i64 0)]))⟩, ⟨3, none, none, .store 6 (.s 6) (.s 18)⟩] [] (some [6, 15, 14, 13, 4]))
  (.seq (.region 0 [⟨0, (some 19), none, .mv (.s 4)⟩, ⟨1, (some 20), none, .len (.s 19)⟩, ⟨2, (some 7), none, .mv (.s 20)⟩] [] (some [7, 6, 15, 14, 13, 4]))
  (.seq (.region 0 [⟨0, (some 21), none, .mv (.s 7)⟩, ⟨1, (some 22), none, .bin .gtr (.s 21) (.k (.c (.int .i64 0)))⟩, ⟨2, (some 23), none, .mv (.s 22)⟩, ⟨3, (some 24), (some (23, true)), .mv (.s 4)⟩, ⟨4, (some 25), (some (23, true)), .mv (.s 7)⟩, ⟨5, (some 26), (some (23, true)), .bin .sub (.s 25) (.k (.c (.int .i64 1)))⟩, ⟨6, (some 27), (some (23, true)), .iaddr 6 (.s 24) (.s 26)⟩, ⟨7, (some 28), (some (23, true)), .faddr 0 (.s 27)⟩, ⟨9, (some 30), (some (23, true)), .faddr 0 (.s 6)⟩, ⟨8, (some 29), (some (23, true)), .load false 1 (.s 28)⟩, ⟨10, (some 31), (some (23, true)), .load false 1 (.s 30)⟩, ⟨11, (some 32), (some (23, true)), .bin .eql (.s 29) (.s 31)⟩, ⟨12, (some 33), none, .pick (.s 23) (.s 32) (.k (.c (.bool false)))⟩, ⟨13, (some 34), none, .mv (.s 33)⟩, ⟨14, (some 35), (some (34, true)), .faddr 1 (.s 6)⟩, ⟨16, (some 37), (some (34, true)), .mv (.s 4)⟩, ⟨17, (some 38), (some (34, true)), .mv (.s 7)⟩, ⟨18, (some 39), (some (34, true)), .bin .sub (.s 38) (.k (.c (.int .i64 1)))⟩, ⟨19, (some 40), (some (34, true)), .iaddr 6 (.s 37) (.s 39)⟩, ⟨20, (some 41), (some (34, true)), .faddr 2 (.s 40)⟩, ⟨15, (some 36), (some (34, true)), .load false 1 (.s 35)⟩, ⟨21, (some 42), (some (34, true)), .load false 1 (.s 41)⟩, ⟨22, (some 43), (some (34, true)), .bin .leq (.s 36) (.s 42)⟩, ⟨23, (some 44), (some (34, true)), .mv (.s 43)⟩, ⟨24, (some 45), (some (44, false)), .faddr 1 (.s 6)⟩, ⟨27, (some 48), (some (44, false)), .mv (.s 4)⟩, ⟨28, (some 49), (some (44, false)), .mv (.s 7)⟩, ⟨29, (some 50), (some (44, false)), .bin .sub (.s 49) (.k (.c (.int .i64 1)))⟩, ⟨30, (some 51), (some (44, false)), .iaddr 6 (.s 48) (.s 50)⟩, ⟨31, (some 52), (some (44, false)), .faddr 2 (.s 51)⟩, ⟨25, (some 46), (some (44, false)), .load false 1 (.s 45)⟩, ⟨26, (some 47), (some (44, false)), .bin .sub (.s 46) (.k (.c (.int .i64 1)))⟩, ⟨32, (some 53), (some (44, false)), .load false 1 (.s 52)⟩, ⟨33, (some 54), (some (44, false)), .bin .eql (.s 47) (.s 53)⟩, ⟨34, (some 55), (some (34, true)), .pick (.s 44) (.k (.c (.bool true))) (.s 54)⟩, ⟨35, (some 56), none, .pick (.s 34) (.s 55) (.k (.c (.bool false)))⟩] [] (some [56, 7, 6, 15, 14, 13, 4]))
  (.cond (.s 56) (.region 0 [⟨0, (some 57), none, .mv (.s 4)⟩, ⟨1, (some 58), none, .mv (.s 7)⟩, ⟨2, (some 59), none, .bin .sub (.s 58) (.k (.c (.int .i64 1)))⟩, ⟨3, (some 60), none, .mv (.s 4)⟩, ⟨4, (some 61), none, .mv (.s 7)⟩, ⟨5, (some 62), none, .bin .sub (.s 61) (.k (.c (.int .i64 1)))⟩, ⟨6, (some 63), none, .iaddr 6 (.s 60) (.s 62)⟩, ⟨7, (some 64), none, .load true 6 (.s 63)⟩, ⟨8, (some 65), none, .load true 6 (.s 6)⟩, ⟨9, (some 66), none, .call ⟨true⟩ (.k (.c (.fn 159 [] []))) [(.s 64), (.s 65)]⟩, ⟨10, (some 67), none, .iaddr 6 (.s 57) (.s 59)⟩, ⟨11, none, none, .store 6 (.s 67) (.s 66)⟩] [] (some [15, 14, 13, 4]))
  (.region 1 [⟨0, (some 68), none, .mv (.s 4)⟩, ⟨1, (some 69), none, .load true 6 (.s 6)⟩, ⟨2, (some 70), none, .lit 0 6 [[(.int .i64 0), (.int .i64 0), (.int .i64 0), (.int .i64 0), (.int .i64 0), (.int .i64 0)]] [(0, (.s 69))]⟩, ⟨3, (some 71), none, .append 6 48 (.s 68) (.s 70)⟩, ⟨4, (some 4), none, .mv (.s 71)⟩] [] (some [15, 14, 13, 4])))))))
  (.region 0 [⟨0, (some 72), none, .bin .add (.s 15) (.k (.c (.int .i64 1)))⟩, ⟨1, (some 15), none, .mv (.s 72)⟩] [] (some [15, 14, 13, 4])))))
/-- kerbstone/motion.Join -/
abbrev f_motion_Join : Nat := 95
def c_motion_Join : CFn := { frz := true, rnd := none, nargs := 1, ntmps := 74, res := [(.slot 2)], code :=
  (.seq (.region 1 [⟨0, (some 2), none, .newsl 0 6⟩] [] (some [0]))
  (.seq (.region 0 [⟨0, (some 8), none, .mv (.s 0)⟩, ⟨1, (some 9), none, .call ⟨true⟩ (.k (.c (.fn 78 [] []))) [(.s 8)]⟩, ⟨2, (some 10), none, .call ⟨false⟩ (.k (.c (.fn 153 [] []))) [(.s 9), (.k (.c (.fn 154 [] [])))]⟩, ⟨3, (some 3), none, .mv (.s 10)⟩] [] (some [3]))
  (.seq (.region 0 [⟨0, (some 11), none, .mv (.s 3)⟩, ⟨1, (some 12), none, .call ⟨false⟩ (.k (.c (.fn 155 [] []))) [(.s 11), (.k (.c (.fn 156 [] [])))]⟩] [] (some [3]))
  (.seq (.region 1 [⟨0, (some 4), none, .newsl 0 6⟩] [] (some [3, 4]))
  (.seq (.seq (.region 0 [⟨0, (some 13), none, .mv (.s 3)⟩, ⟨1, (some 14), none, .len (.s 13)⟩, ⟨2, (some 15), none, .mv (.k (.c (.int .i64 0)))⟩] [] (some [15, 14, 13, 4]))
  (.block 0 (.loop (some [15, 14, 13, 4]) c_motion_Join_l1)))
  (.seq (.region 0 [⟨0, (some 73), none, .mv (.s 4)⟩, ⟨1, (some 2), none, .mv (.s 73)⟩] [] (some [2]))
  .ret)))))) }
def c_roads_before_l1 : CC := (.seq (.region 0 [⟨0, (some 12), none, .bin .lss (.s 11) (.s 10)⟩] [] (some [12, 5, 11, 10, 9, 1]))
  (.seq (.cond (.s 12) .skip
  (.exit 0))
  (.seq (.block 1 (.seq (.region 1 [⟨0, (some 13), none, .mv (.s 11)⟩, ⟨1, (some 14), none, .iaddr 5 (.s 9) (.s 11)⟩, ⟨2, (some 15), none, .load true 5 (.s 14)⟩, ⟨3, (some 7), none, .box 0 5 (.k (.a [(.int .i64 0), .nilslice, (.int .i64 0), (.int .i64 0), .nilslice]))⟩, ⟨4, (some 6), none, .mv (.s 13)⟩, ⟨5, none, none, .store 5 (.s 7) (.s 15)⟩] [] (some [7, 5, 6, 11, 10, 9, 1]))
  (.seq (.region 0 [⟨0, (some 16), none, .faddr 4 (.s 7)⟩, ⟨1, (some 17), none, .load false 1 (.s 16)⟩, ⟨2, (some 18), none, .mv (.s 1)⟩, ⟨3, (some 19), none, .call ⟨true⟩ (.k (.c (.fn 97 [] []))) [(.s 17), (.s 18)]⟩] [] (some [19, 5, 6, 11, 10, 9, 1]))
  (.cond (.s 19) (.region 1 [⟨0, (some 20), none, .mv (.s 5)⟩, ⟨1, (some 21), none, .mv (.s 6)⟩, ⟨2, (some 22), none, .lit 0 1 [[(.int .i64 0)]] [(0, (.s 21))]⟩, ⟨3, (some 23), none, .append 1 8 (.s 20) (.s 22)⟩, ⟨4, (some 5), none, .mv (.s 23)⟩] [] (some [11, 5, 10, 9, 1]))
  .skip))))
  (.region 0 [⟨0, (some 24), none, .bin .add (.s 11) (.k (.c (.int .i64 1)))⟩, ⟨1, (some 11), none, .mv (.s 24)⟩] [] (some [5, 11, 10, 9, 1])))))
/-- kerbstone/roads.before -/
abbrev f_roads_before : Nat := 96
def c_roads_before : CFn := { frz := true, rnd := none, nargs := 2, ntmps := 26, res := [(.slot 4)], code :=
  (.seq (.region 2 [⟨0, (some 2), none, .box 0 5 (.s 0)⟩, ⟨1, (some 4), none, .newsl 1 1⟩] [] (some [2, 1]))
  (.seq (.region 1 [⟨0, (some 5), none, .newsl 0 1⟩] [] (some [2, 5, 1]))
  (.seq (.seq (.region 0 [⟨0, (some 8), none, .faddr 1 (.s 2)⟩, ⟨1, (some 9), none, .load false 1 (.s 8)⟩, ⟨2, (some 10), none, .len (.s 9)⟩, ⟨3, (some 11), none, .mv (.k (.c (.int .i64 0)))⟩] [] (some [5, 11, 10, 9, 1]))
  (.block 0 (.loop (some [5, 11, 10, 9, 1]) c_roads_before_l1)))
  (.seq (.region 0 [⟨0, (some 25), none, .mv (.s 5)⟩, ⟨1, (some 4), none, .mv (.s 25)⟩] [] (some [4]))
  .ret)))) }
/-- slices.Contains[[]int,int] -/
abbrev f_slices_Contains_int : Nat := 97
def c_slices_Contains_int : CFn := { frz := true, rnd := none, nargs := 2, ntmps := 9, res := [(.slot 4)], code :=
  (.seq (.region 0 [⟨0, (some 4), none, .mv (.k (.c (.bool false)))⟩] [] (some [0, 1]))
  (.seq (.region 0 [⟨0, (some 5), none, .mv (.s 0)⟩, ⟨1, (some 6), none, .mv (.s 1)⟩, ⟨2, (some 7), none, .call ⟨true⟩ (.k (.c (.fn 160 [] []))) [(.s 5), (.s 6)]⟩, ⟨3, (some 8), none, .bin .geq (.s 7) (.k (.c (.int .i64 0)))⟩, ⟨4, (some 4), none, .mv (.s 8)⟩] [] (some [4]))
  .ret)) }
/-- kerbstone/roads.Starts -/
abbrev f_roads_Starts : Nat := 98
def c_roads_Starts : CFn := { frz := true, rnd := none, nargs := 2, ntmps := 9, res := [(.slot 4)], code :=
  (.seq (.region 2 [⟨0, (some 2), none, .box 0 5 (.s 0)⟩, ⟨1, (some 4), none, .newsl 1 1⟩] [] (some [2, 1]))
  (.seq (.region 0 [⟨0, (some 5), none, .load true 5 (.s 2)⟩, ⟨1, (some 6), none, .mv (.s 1)⟩, ⟨2, (some 7), none, .call ⟨true⟩ (.k (.c (.fn 161 [] []))) [(.s 5), (.s 6)]⟩, ⟨3, (some 8), none, .field false 6 1 (.s 7)⟩, ⟨4, (some 4), none, .mv (.s 8)⟩] [] (some [4]))
  .ret)) }
/-- kerbstone/roads.RouteLength -/
abbrev f_roads_RouteLength : Nat := 99
def c_roads_RouteLength : CFn := { frz := true, rnd := none, nargs := 2, ntmps := 9, res := [(.slot 4)], code :=
  (.seq (.region 1 [⟨0, (some 2), none, .box 0 5 (.s 0)⟩, ⟨1, (some 4), none, .mv (.k (.c (.int .i64 0)))⟩] [] (some [2, 1]))
  (.seq (.region 0 [⟨0, (some 5), none, .load true 5 (.s 2)⟩, ⟨1, (some 6), none, .mv (.s 1)⟩, ⟨2, (some 7), none, .call ⟨true⟩ (.k (.c (.fn 161 [] []))) [(.s 5), (.s 6)]⟩, ⟨3, (some 8), none, .field false 7 1 (.s 7)⟩, ⟨4, (some 4), none, .mv (.s 8)⟩] [] (some [4]))
  .ret)) }
def c_roads_Sources_l1 : CC := (.seq (.region 0 [⟨0, (some 12), none, .bin .lss (.s 11) (.s 10)⟩] [] (some [12, 3, 11, 10, 1]))
  (.seq (.cond (.s 12) .skip
  (.exit 0))
  (.seq (.block 1 (.seq (.region 0 [⟨0, (some 13), none, .mv (.s 11)⟩, ⟨1, (some 4), none, .mv (.s 13)⟩] [] (some [3, 4, 11, 10, 1]))
  (.seq (.region 0 [⟨0, (some 14), none, .load true 5 (.s 1)⟩, ⟨1, (some 15), none, .mv (.s 4)⟩, ⟨2, (some 16), none, .call ⟨true⟩ (.k (.c (.fn 96 [] []))) [(.s 14), (.s 15)]⟩, ⟨3, (some 17), none, .len (.s 16)⟩, ⟨4, (some 18), none, .bin .eql (.s 17) (.k (.c (.int .i64 0)))⟩] [] (some [18, 3, 4, 11, 10, 1]))
  (.cond (.s 18) (.region 1 [⟨0, (some 19), none, .mv (.s 3)⟩, ⟨1, (some 20), none, .mv (.s 4)⟩, ⟨2, (some 21), none, .lit 0 1 [[(.int .i64 0)]] [(0, (.s 20))]⟩, ⟨3, (some 22), none, .append 1 8 (.s 19) (.s 21)⟩, ⟨4, (some 3), none, .mv (.s 22)⟩] [] (some [11, 3, 10, 1]))
  .skip))))
  (.region 0 [⟨0, (some 23), none, .bin .add (.s 11) (.k (.c (.int .i64 1)))⟩, ⟨1, (some 11), none, .mv (.s 23)⟩] [] (some [3, 11, 10, 1])))))
/-- kerbstone/roads.Sources -/
abbrev f_roads_Sources : Nat := 100
def c_roads_Sources : CFn := { frz := true, rnd := none, nargs := 1, ntmps := 25, res := [(.slot 2)], code :=
  (.seq (.region 2 [⟨0, (some 1), none, .box 0 5 (.s 0)⟩, ⟨1, (some 2), none, .newsl 1 1⟩] [] (some [1]))
  (.seq (.seq (.region 0 [⟨0, (some 5), none, .load true 5 (.s 1)⟩, ⟨1, (some 6), none, .call ⟨true⟩ (.k (.c (.fn 54 [] []))) [(.s 5)]⟩, ⟨2, (some 7), none, .bin .neq (.s 6) (.k (.c (.int .i64 0)))⟩] [] (some [7, 1]))
  (.cond (.s 7) (.seq (.region 1 [⟨0, (some 2), none, .newsl 0 1⟩] [] (some [2]))
  .ret)
  .skip))
  (.seq (.region 1 [⟨0, (some 3), none, .newsl 0 1⟩] [] (some [3, 1]))
  (.seq (.seq (.region 0 [⟨0, (some 8), none, .faddr 1 (.s 1)⟩, ⟨1, (some 9), none, .load false 1 (.s 8)⟩, ⟨2, (some 10), none, .len (.s 9)⟩, ⟨3, (some 11), none, .mv (.k (.c (.int .i64 0)))⟩] [] (some [3, 11, 10, 1]))
  (.block 0 (.loop (some [3, 11, 10, 1]) c_roads_Sources_l1)))
  (.seq (.region 0 [⟨0, (some 24), none, .mv (.s 3)⟩, ⟨1, (some 2), none, .mv (.s 24)⟩] [] (some [2]))
  .ret))))) }
/-- (kerbstone/motion.Course).gap -/
abbrev f_motion_Course_gap : Nat := 101
def c_motion_Course_gap : CFn := { frz := true, rnd := none, nargs := 2, ntmps := 13, res := [(.slot 4)], code :=
  (.seq (.region 2 [⟨0, (some 2), none, .box 0 11 (.s 0)⟩, ⟨1, (some 3), none, .box 1 4 (.s 1)⟩, ⟨2, (some 4), none, .mv (.k (.c (.bool false)))⟩] [] (some [2, 3]))
  (.seq (.region 0 [⟨0, (some 5), none, .faddr 1 (.s 3)⟩, ⟨1, (some 6), none, .load false 1 (.s 5)⟩, ⟨2, (some 7), none, .faddr 8 (.s 2)⟩, ⟨3, (some 8), none, .load false 1 (.s 7)⟩, ⟨4, (some 9), none, .bin .sub (.s 6) (.s 8)⟩, ⟨5, (some 10), none, .faddr 0 (.s 3)⟩, ⟨6, (some 11), none, .load false 1 (.s 10)⟩, ⟨7, (some 12), none, .bin .leq (.s 9) (.s 11)⟩, ⟨8, (some 4), none, .mv (.s 12)⟩] [] (some [4]))
  .ret)) }
def c_kerbstoneref03_before_l1 : CC := (.seq (.seq (.region 0 [⟨0, (some 7), none, .mv (.s 6)⟩, ⟨1, (some 8), none, .faddr 1 (.s 2)⟩, ⟨2, (some 9), none, .load false 1 (.s 8)⟩, ⟨3, (some 10), none, .len (.s 9)⟩, ⟨4, (some 11), none, .bin .lss (.s 7) (.s 10)⟩] [] (some [11, 5, 6, 2, 1]))
  (.cond (.s 11) .skip
  (.exit 0)))
  (.seq (.block 1 (.seq (.region 0 [⟨0, (some 14), none, .faddr 1 (.s 2)⟩, ⟨1, (some 15), none, .load false 1 (.s 14)⟩, ⟨2, (some 16), none, .mv (.s 6)⟩, ⟨3, (some 17), none, .iaddr 5 (.s 15) (.s 16)⟩, ⟨4, (some 18), none, .faddr 4 (.s 17)⟩, ⟨5, (some 19), none, .load false 1 (.s 18)⟩, ⟨6, (some 20), none, .mv (.s 1)⟩, ⟨7, (some 21), none, .call ⟨true⟩ (.k (.c (.fn 103 [] []))) [(.s 19), (.s 20)]⟩] [] (some [21, 5, 6, 2, 1]))
  (.cond (.s 21) (.region 1 [⟨0, (some 22), none, .mv (.s 5)⟩, ⟨1, (some 23), none, .mv (.s 6)⟩, ⟨2, (some 24), none, .lit 0 1 [[(.int .i64 0)]] [(0, (.s 23))]⟩, ⟨3, (some 25), none, .append 1 8 (.s 22) (.s 24)⟩, ⟨4, (some 5), none, .mv (.s 25)⟩] [] (some [6, 5, 2, 1]))
  .skip)))
  (.region 0 [⟨0, (some 12), none, .mv (.s 6)⟩, ⟨1, (some 13), none, .bin .add (.s 12) (.k (.c (.int .i64 1)))⟩, ⟨2, (some 6), none, .mv (.s 13)⟩] [] (some [5, 6, 2, 1]))))
/-- kerbstone/kerbstoneref03.before -/
abbrev f_kerbstoneref03_before : Nat := 102
def c_kerbstoneref03_before : CFn := { frz := true, rnd := none, nargs := 2, ntmps := 27, res := [(.slot 4)], code :=
  (.seq (.region 2 [⟨0, (some 2), none, .box 0 5 (.s 0)⟩, ⟨1, (some 4), none, .newsl 1 1⟩] [] (some [2, 1]))
  (.seq (.region 1 [⟨0, (some 5), none, .newsl 0 1⟩] [] (some [5, 2, 1]))
  (.seq (.seq (.region 0 [⟨0, (some 6), none, .mv (.k (.c (.int .i64 0)))⟩] [] (some [5, 6, 2, 1]))
  (.block 0 (.loop (some [5, 6, 2, 1]) c_kerbstoneref03_before_l1)))
  (.seq (.region 0 [⟨0, (some 26), none, .mv (.s 5)⟩, ⟨1, (some 4), none, .mv (.s 26)⟩] [] (some [4]))
  .ret)))) }
def c_kerbstoneref03_has_l1 : CC := (.seq (.seq (.region 0 [⟨0, (some 6), none, .mv (.s 5)⟩, ⟨1, (some 7), none, .mv (.s 0)⟩, ⟨2, (some 8), none, .len (.s 7)⟩, ⟨3, (some 9), none, .bin .lss (.s 6) (.s 8)⟩] [] (some [9, 1, 0, 5]))
  (.cond (.s 9) .skip
  (.exit 0)))
  (.seq (.block 1 (.seq (.region 0 [⟨0, (some 12), none, .mv (.s 0)⟩, ⟨1, (some 13), none, .mv (.s 5)⟩, ⟨2, (some 14), none, .iaddr 1 (.s 12) (.s 13)⟩, ⟨3, (some 15), none, .load false 1 (.s 14)⟩, ⟨4, (some 16), none, .mv (.s 1)⟩, ⟨5, (some 17), none, .bin .eql (.s 15) (.s 16)⟩] [] (some [17, 1, 0, 5]))
  (.cond (.s 17) (.seq (.region 0 [⟨0, (some 4), none, .mv (.k (.c (.bool true)))⟩] [] (some [4]))
  .ret)
  .skip)))
  (.region 0 [⟨0, (some 10), none, .mv (.s 5)⟩, ⟨1, (some 11), none, .bin .add (.s 10) (.k (.c (.int .i64 1)))⟩, ⟨2, (some 5), none, .mv (.s 11)⟩] [] (some [0, 1, 5]))))
/-- kerbstone/kerbstoneref03.has -/
abbrev f_kerbstoneref03_has : Nat := 103
def c_kerbstoneref03_has : CFn := { frz := true, rnd := none, nargs := 2, ntmps := 18, res := [(.slot 4)], code :=
  (.seq (.region 0 [⟨0, (some 4), none, .mv (.k (.c (.bool false)))⟩] [] (some [0, 1]))
  (.seq (.seq (.region 0 [⟨0, (some 5), none, .mv (.k (.c (.int .i64 0)))⟩] [] (some [0, 1, 5]))
  (.block 0 (.loop (some [0, 1, 5]) c_kerbstoneref03_has_l1)))
  (.seq (.region 0 [⟨0, (some 4), none, .mv (.k (.c (.bool false)))⟩] [] (some [4]))
  .ret))) }
def c_kerbstoneref03_Begins_l1 : CC := (.seq (.seq (.region 0 [⟨0, (some 9), none, .mv (.s 8)⟩, ⟨1, (some 10), none, .mv (.s 1)⟩, ⟨2, (some 11), none, .len (.s 10)⟩, ⟨3, (some 12), none, .bin .lss (.s 9) (.s 11)⟩] [] (some [12, 6, 7, 8, 1, 2]))
  (.cond (.s 12) .skip
  (.exit 0)))
  (.seq (.block 1 (.seq (.region 1 [⟨0, (some 15), none, .mv (.s 6)⟩, ⟨1, (some 16), none, .mv (.s 7)⟩, ⟨2, (some 17), none, .lit 0 1 [[(.int .i64 0)]] [(0, (.s 16))]⟩, ⟨3, (some 18), none, .append 1 8 (.s 15) (.s 17)⟩, ⟨4, (some 6), none, .mv (.s 18)⟩] [] (some [7, 8, 6, 1, 2]))
  (.region 0 [⟨0, (some 19), none, .mv (.s 7)⟩, ⟨2, (some 21), none, .mv (.s 1)⟩, ⟨3, (some 22), none, .mv (.s 8)⟩, ⟨4, (some 23), none, .iaddr 1 (.s 21) (.s 22)⟩, ⟨1, (some 20), none, .load true 5 (.s 2)⟩, ⟨5, (some 24), none, .load false 1 (.s 23)⟩, ⟨6, (some 25), none, .call ⟨true⟩ (.k (.c (.fn 62 [] []))) [(.s 20), (.s 24)]⟩, ⟨7, (some 26), none, .bin .add (.s 19) (.s 25)⟩, ⟨8, (some 7), none, .mv (.s 26)⟩] [] (some [8, 6, 7, 1, 2]))))
  (.region 0 [⟨0, (some 13), none, .mv (.s 8)⟩, ⟨1, (some 14), none, .bin .add (.s 13) (.k (.c (.int .i64 1)))⟩, ⟨2, (some 8), none, .mv (.s 14)⟩] [] (some [6, 7, 8, 1, 2]))))
/-- kerbstone/kerbstoneref03.Begins -/
abbrev f_kerbstoneref03_Begins : Nat := 104
def c_kerbstoneref03_Begins : CFn := { frz := true, rnd := none, nargs := 2, ntmps := 29, res := [(.slot 4), (.slot 5)], code :=
  (.seq (.region 2 [⟨0, (some 2), none, .box 0 5 (.s 0)⟩, ⟨1, (some 4), none, .newsl 1 1⟩, ⟨2, (some 5), none, .mv (.k (.c (.int .i64 0)))⟩] [] (some [1, 2]))
  (.seq (.region 1 [⟨0, (some 6), none, .newsl 0 1⟩] [] (some [6, 1, 2]))
  (.seq (.region 0 [⟨0, (some 7), none, .mv (.k (.c (.int .i64 0)))⟩] [] (some [6, 7, 1, 2]))
  (.seq (.seq (.region 0 [⟨0, (some 8), none, .mv (.k (.c (.int .i64 0)))⟩] [] (some [6, 7, 8, 1, 2]))
  (.block 0 (.loop (some [6, 7, 8, 1, 2]) c_kerbstoneref03_Begins_l1)))
  (.seq (.region 0 [⟨0, (some 27), none, .mv (.s 6)⟩, ⟨1, (some 28), none, .mv (.s 7)⟩, ⟨2, (some 4), none, .mv (.s 27)⟩, ⟨3, (some 5), none, .mv (.s 28)⟩] [] (some [4, 5]))
  .ret))))) }
/-- (kerbstone/roads.check).numbers -/
abbrev f_roads_check_numbers : Nat := 107
def c_roads_check_numbers : CFn := { frz := true, rnd := none, nargs := 1, ntmps := 42, res := [(.slot 2)], code :=
  (.seq (.region 1 [⟨0, (some 1), none, .box 0 5 (.s 0)⟩, ⟨1, (some 2), none, .mv (.k (.c (.int .i64 0)))⟩] [] (some [1]))
  (.seq (.block 0 (.seq (.region 0 [⟨0, (some 4), none, .faddr 0 (.s 1)⟩, ⟨1, (some 5), none, .faddr 0 (.s 4)⟩, ⟨2, (some 6), none, .load false 1 (.s 5)⟩, ⟨3, (some 7), none, .call ⟨true⟩ (.k (.c (.fn 162 [] []))) [(.s 6), (.k (.c (.int .i64 0))), (.k (.c (.int .i64 1099511627776)))]⟩, ⟨4, (some 8), none, .un .not (.s 7)⟩, ⟨5, (some 3), none, .mv (.s 8)⟩] [] (some [3, 1]))
  (.cond (.s 3) (.seq (.region 0 [⟨0, (some 2), none, .mv (.k (.c (.int .i64 2)))⟩] [] (some [2]))
  .ret)
  (.seq (.region 0 [⟨0, (some 10), none, .faddr 0 (.s 1)⟩, ⟨1, (some 11), none, .faddr 1 (.s 10)⟩, ⟨2, (some 12), none, .load false 1 (.s 11)⟩, ⟨3, (some 13), none, .len (.s 12)⟩, ⟨4, (some 14), none, .bin .eql (.s 13) (.k (.c (.int .i64 0)))⟩, ⟨5, (some 9), none, .mv (.s 14)⟩] [] (some [9, 1]))
  (.cond (.s 9) (.seq (.region 0 [⟨0, (some 2), none, .mv (.k (.c (.int .i64 6)))⟩] [] (some [2]))
  .ret)
  (.seq (.region 0 [⟨0, (some 16), none, .faddr 0 (.s 1)⟩, ⟨1, (some 17), none, .faddr 1 (.s 16)⟩, ⟨2, (some 18), none, .load false 1 (.s 17)⟩, ⟨3, (some 19), none, .len (.s 18)⟩, ⟨4, (some 20), none, .bin .gtr (.s 19) (.k (.c (.int .i64 12)))⟩, ⟨5, (some 21), none, .mv (.s 20)⟩, ⟨6, (some 22), (some (21, false)), .faddr 0 (.s 1)⟩, ⟨7, (some 23), (some (21, false)), .faddr 2 (.s 22)⟩, ⟨8, (some 24), (some (21, false)), .load false 1 (.s 23)⟩, ⟨9, (some 25), (some (21, false)), .len (.s 24)⟩, ⟨10, (some 26), (some (21, false)), .bin .gtr (.s 25) (.k (.c (.int .i64 12)))⟩, ⟨11, (some 27), none, .pick (.s 21) (.k (.c (.bool true))) (.s 26)⟩, ⟨12, (some 28), none, .mv (.s 27)⟩, ⟨13, (some 29), (some (28, false)), .faddr 0 (.s 1)⟩, ⟨14, (some 30), (some (28, false)), .faddr 3 (.s 29)⟩, ⟨15, (some 31), (some (28, false)), .load false 1 (.s 30)⟩, ⟨16, (some 32), (some (28, false)), .len (.s 31)⟩, ⟨17, (some 33), (some (28, false)), .bin .gtr (.s 32) (.k (.c (.int .i64 4)))⟩, ⟨18, (some 34), none, .pick (.s 28) (.k (.c (.bool true))) (.s 33)⟩, ⟨19, (some 35), none, .mv (.s 34)⟩, ⟨20, (some 36), (some (35, false)), .faddr 0 (.s 1)⟩, ⟨21, (some 37), (some (35, false)), .faddr 4 (.s 36)⟩, ⟨22, (some 38), (some (35, false)), .load false 1 (.s 37)⟩, ⟨23, (some 39), (some (35, false)), .len (.s 38)⟩, ⟨24, (some 40), (some (35, false)), .bin .gtr (.s 39) (.k (.c (.int .i64 8)))⟩, ⟨25, (some 41), none, .pick (.s 35) (.k (.c (.bool true))) (.s 40)⟩, ⟨26, (some 15), none, .mv (.s 41)⟩] [] (some [15]))
  (.cond (.s 15) (.seq (.region 0 [⟨0, (some 2), none, .mv (.k (.c (.int .i64 8)))⟩] [] (some [2]))
  .ret)
  .skip)))))))
  (.seq (.region 0 [⟨0, (some 2), none, .mv (.k (.c (.int .i64 0)))⟩] [] (some [2]))
  .ret))) }
def c_roads_check_lanes_l1 : CC := (.seq (.region 0 [⟨0, (some 14), none, .bin .lss (.s 13) (.s 12)⟩] [] (some [14, 1, 11, 12, 13]))
  (.seq (.cond (.s 14) .skip
  (.exit 0))
  (.seq (.block 1 (.seq (.region 1 [⟨0, (some 15), none, .mv (.s 13)⟩, ⟨1, (some 16), none, .iaddr 5 (.s 11) (.s 13)⟩, ⟨2, (some 17), none, .load true 5 (.s 16)⟩, ⟨3, (some 4), none, .box 0 5 (.k (.a [(.int .i64 0), .nilslice, (.int .i64 0), (.int .i64 0), .nilslice]))⟩, ⟨4, (some 3), none, .mv (.s 15)⟩, ⟨5, none, none, .store 5 (.s 4) (.s 17)⟩] [] (some [4, 3, 1, 11, 12, 13]))
  (.seq (.region 0 [⟨0, (some 19), none, .faddr 0 (.s 4)⟩, ⟨1, (some 20), none, .load false 1 (.s 19)⟩, ⟨2, (some 21), none, .call ⟨true⟩ (.k (.c (.fn 55 [] []))) [(.s 20)]⟩, ⟨3, (some 18), none, .mv (.s 21)⟩, ⟨4, (some 22), none, .extract 18 0⟩, ⟨5, (some 23), none, .extract 18 1⟩, ⟨6, (some 24), none, .extract 18 2⟩, ⟨7, (some 5), none, .mv (.s 22)⟩, ⟨8, (some 6), none, .mv (.s 23)⟩, ⟨9, (some 7), none, .mv (.s 24)⟩] [] (some [5, 4, 3, 1, 11, 12, 13]))
  (.seq (.seq (.region 0 [⟨0, (some 25), none, .mv (.s 5)⟩, ⟨1, (some 26), none, .bin .eql (.s 25) (.k (.c (.int .i64 0)))⟩] [] (some [26, 5, 4, 3, 1, 11, 12, 13]))
  (.cond (.s 26) (.seq (.region 0 [⟨0, (some 2), none, .mv (.k (.c (.int .i64 4)))⟩] [] (some [2]))
  .ret)
  .skip))
  (.seq (.seq (.region 0 [⟨0, (some 27), none, .faddr 1 (.s 4)⟩, ⟨1, (some 28), none, .load true 1 (.s 27)⟩, ⟨2, (some 29), none, .call ⟨true⟩ (.k (.c (.fn 163 [] []))) [(.s 28)]⟩, ⟨3, (some 8), none, .mv (.s 29)⟩] [] (some [13, 12, 11, 1, 3, 4, 5, 8]))
  (.seq (.region 0 [⟨0, (some 30), none, .mv (.s 8)⟩, ⟨1, (some 31), none, .bin .neq (.s 30) (.k (.c (.int .i64 0)))⟩] [] (some [31, 13, 12, 11, 1, 3, 4, 5, 8]))
  (.cond (.s 31) (.seq (.region 0 [⟨0, (some 32), none, .mv (.s 8)⟩, ⟨1, (some 2), none, .mv (.s 32)⟩] [] (some [2]))
  .ret)
  .skip)))
  (.block 2 (.seq (.region 0 [⟨0, (some 34), none, .faddr 2 (.s 4)⟩, ⟨1, (some 35), none, .load false 1 (.s 34)⟩, ⟨2, (some 36), none, .call ⟨true⟩ (.k (.c (.fn 162 [] []))) [(.s 35), (.k (.c (.int .i64 200))), (.k (.c (.int .i64 4000)))]⟩, ⟨3, (some 37), none, .un .not (.s 36)⟩, ⟨4, (some 38), none, .mv (.s 37)⟩, ⟨5, (some 39), (some (38, false)), .faddr 3 (.s 4)⟩, ⟨6, (some 40), (some (38, false)), .load false 1 (.s 39)⟩, ⟨7, (some 41), (some (38, false)), .mv (.s 5)⟩, ⟨8, (some 42), (some (38, false)), .call ⟨true⟩ (.k (.c (.fn 162 [] []))) [(.s 40), (.k (.c (.int .i64 1))), (.s 41)]⟩, ⟨9, (some 43), (some (38, false)), .un .not (.s 42)⟩, ⟨10, (some 44), none, .pick (.s 38) (.k (.c (.bool true))) (.s 43)⟩, ⟨11, (some 33), none, .mv (.s 44)⟩] [] (some [33, 4, 3, 1, 11, 12, 13]))
  (.cond (.s 33) (.seq (.region 0 [⟨0, (some 2), none, .mv (.k (.c (.int .i64 2)))⟩] [] (some [2]))
  .ret)
  (.seq (.region 0 [⟨0, (some 46), none, .faddr 4 (.s 4)⟩, ⟨1, (some 47), none, .load false 1 (.s 46)⟩, ⟨2, (some 48), none, .len (.s 47)⟩, ⟨3, (some 49), none, .bin .gtr (.s 48) (.k (.c (.int .i64 3)))⟩, ⟨4, (some 45), none, .mv (.s 49)⟩] [] (some [45, 13, 12, 11, 1, 3, 4]))
  (.cond (.s 45) (.seq (.region 0 [⟨0, (some 2), none, .mv (.k (.c (.int .i64 8)))⟩] [] (some [2]))
  .ret)
  (.seq (.region 0 [⟨0, (some 51), none, .faddr 4 (.s 4)⟩, ⟨1, (some 52), none, .load false 1 (.s 51)⟩, ⟨2, (some 53), none, .mv (.s 3)⟩, ⟨3, (some 54), none, .bin .add (.s 53) (.k (.c (.int .i64 1)))⟩, ⟨4, (some 55), none, .faddr 0 (.s 1)⟩, ⟨5, (some 56), none, .faddr 1 (.s 55)⟩, ⟨6, (some 57), none, .load false 1 (.s 56)⟩, ⟨7, (some 58), none, .len (.s 57)⟩, ⟨8, (some 59), none, .call ⟨true⟩ (.k (.c (.fn 164 [] []))) [(.s 52), (.s 54), (.s 58)]⟩, ⟨9, (some 60), none, .un .not (.s 59)⟩, ⟨10, (some 50), none, .mv (.s 60)⟩] [] (some [50, 1, 11, 12, 13]))
  (.cond (.s 50) (.seq (.region 0 [⟨0, (some 2), none, .mv (.k (.c (.int .i64 11)))⟩] [] (some [2]))
  .ret)
  .skip))))))))))))
  (.region 0 [⟨0, (some 61), none, .bin .add (.s 13) (.k (.c (.int .i64 1)))⟩, ⟨1, (some 13), none, .mv (.s 61)⟩] [] (some [12, 11, 1, 13])))))
/-- (kerbstone/roads.check).lanes -/
abbrev f_roads_check_lanes : Nat := 108
def c_roads_check_lanes : CFn := { frz := true, rnd := none, nargs := 1, ntmps := 62, res := [(.slot 2)], code :=
  (.seq (.region 1 [⟨0, (some 1), none, .box 0 5 (.s 0)⟩, ⟨1, (some 2), none, .mv (.k (.c (.int .i64 0)))⟩] [] (some [1]))
  (.seq (.seq (.region 0 [⟨0, (some 9), none, .faddr 0 (.s 1)⟩, ⟨1, (some 10), none, .faddr 1 (.s 9)⟩, ⟨2, (some 11), none, .load false 1 (.s 10)⟩, ⟨3, (some 12), none, .len (.s 11)⟩, ⟨4, (some 13), none, .mv (.k (.c (.int .i64 0)))⟩] [] (some [12, 11, 1, 13]))
  (.block 0 (.loop (some [12, 11, 1, 13]) c_roads_check_lanes_l1)))
  (.seq (.region 0 [⟨0, (some 2), none, .mv (.k (.c (.int .i64 0)))⟩] [] (some [2]))
  .ret))) }
def c_roads_check_joints_l1 : CC := (.seq (.region 0 [⟨0, (some 30), none, .bin .lss (.s 29) (.s 28)⟩] [] (some [30, 29, 28, 10, 11, 12, 27, 4, 5, 1]))
  (.seq (.cond (.s 30) .skip
  (.exit 2))
  (.seq (.block 3 (.seq (.region 0 [⟨0, (some 31), none, .iaddr 1 (.s 27) (.s 29)⟩, ⟨1, (some 32), none, .load false 1 (.s 31)⟩, ⟨2, (some 7), none, .mv (.s 32)⟩] [] (some [29, 28, 10, 11, 12, 27, 4, 5, 1, 7]))
  (.seq (.seq (.region 0 [⟨0, (some 33), none, .faddr 0 (.s 1)⟩, ⟨1, (some 34), none, .faddr 1 (.s 33)⟩, ⟨3, (some 36), none, .mv (.s 7)⟩, ⟨7, (some 40), none, .faddr 0 (.s 4)⟩, ⟨2, (some 35), none, .load false 1 (.s 34)⟩, ⟨4, (some 37), none, .iaddr 5 (.s 35) (.s 36)⟩, ⟨5, (some 38), none, .faddr 0 (.s 37)⟩, ⟨6, (some 39), none, .load false 1 (.s 38)⟩, ⟨8, (some 41), none, .load false 1 (.s 40)⟩, ⟨9, (some 42), none, .bin .neq (.s 39) (.s 41)⟩] [] (some [42, 29, 28, 10, 11, 12, 27, 4, 5, 1, 7]))
  (.cond (.s 42) (.seq (.region 0 [⟨0, (some 2), none, .mv (.k (.c (.int .i64 4)))⟩] [] (some [2]))
  .ret)
  .skip))
  (.seq (.region 0 [⟨0, (some 43), none, .faddr 0 (.s 1)⟩, ⟨1, (some 44), none, .faddr 1 (.s 43)⟩, ⟨3, (some 46), none, .mv (.s 7)⟩, ⟨2, (some 45), none, .load false 1 (.s 44)⟩, ⟨4, (some 47), none, .iaddr 5 (.s 45) (.s 46)⟩, ⟨5, (some 48), none, .faddr 1 (.s 47)⟩, ⟨6, (some 49), none, .faddr 0 (.s 48)⟩, ⟨7, (some 50), none, .load false 1 (.s 49)⟩, ⟨8, (some 51), none, .iaddr 2 (.s 50) (.k (.c (.int .i64 0)))⟩, ⟨9, (some 52), none, .load true 2 (.s 51)⟩, ⟨10, (some 53), none, .load true 2 (.s 5)⟩, ⟨11, (some 54), none, .eqa true [false, false] (.s 52) (.s 53)⟩] [] (some [54, 1, 5, 4, 27, 12, 11, 10, 28, 29]))
  (.cond (.s 54) (.seq (.region 0 [⟨0, (some 2), none, .mv (.k (.c (.int .i64 3)))⟩] [] (some [2]))
  .ret)
  .skip)))))
  (.region 0 [⟨0, (some 55), none, .bin .add (.s 29) (.k (.c (.int .i64 1)))⟩, ⟨1, (some 29), none, .mv (.s 55)⟩] [] (some [29, 28, 10, 11, 12, 27, 4, 5, 1])))))
def c_roads_check_joints_l2 : CC := (.seq (.region 0 [⟨0, (some 13), none, .bin .lss (.s 12) (.s 11)⟩] [] (some [13, 10, 11, 12, 1]))
  (.seq (.cond (.s 13) .skip
  (.exit 0))
  (.seq (.block 1 (.seq (.region 1 [⟨0, (some 14), none, .iaddr 5 (.s 10) (.s 12)⟩, ⟨1, (some 15), none, .load true 5 (.s 14)⟩, ⟨2, (some 4), none, .box 0 5 (.k (.a [(.int .i64 0), .nilslice, (.int .i64 0), (.int .i64 0), .nilslice]))⟩, ⟨3, none, none, .store 5 (.s 4) (.s 15)⟩] [] (some [10, 11, 12, 4, 1]))
  (.seq (.region 1 [⟨0, (some 16), none, .faddr 1 (.s 4)⟩, ⟨1, (some 17), none, .faddr 0 (.s 16)⟩, ⟨2, (some 18), none, .load false 1 (.s 17)⟩, ⟨3, (some 19), none, .faddr 1 (.s 4)⟩, ⟨4, (some 20), none, .faddr 0 (.s 19)⟩, ⟨5, (some 21), none, .load false 1 (.s 20)⟩, ⟨6, (some 22), none, .len (.s 21)⟩, ⟨7, (some 23), none, .bin .sub (.s 22) (.k (.c (.int .i64 1)))⟩, ⟨8, (some 24), none, .iaddr 2 (.s 18) (.s 23)⟩, ⟨9, (some 25), none, .load true 2 (.s 24)⟩, ⟨10, (some 5), none, .box 0 2 (.k (.a [(.int .i64 0), (.int .i64 0)]))⟩, ⟨11, none, none, .store 2 (.s 5) (.s 25)⟩] [] (some [10, 11, 12, 4, 5, 1]))
  (.seq (.region 0 [⟨0, (some 26), none, .faddr 4 (.s 4)⟩, ⟨1, (some 27), none, .load false 1 (.s 26)⟩, ⟨2, (some 28), none, .len (.s 27)⟩, ⟨3, (some 29), none, .mv (.k (.c (.int .i64 0)))⟩] [] (some [29, 28, 10, 11, 12, 27, 4, 5, 1]))
  (.block 2 (.loop (some [29, 28, 10, 11, 12, 27, 4, 5, 1]) c_roads_check_joints_l1))))))
  (.region 0 [⟨0, (some 56), none, .bin .add (.s 12) (.k (.c (.int .i64 1)))⟩, ⟨1, (some 12), none, .mv (.s 56)⟩] [] (some [11, 10, 12, 1])))))
/-- (kerbstone/roads.check).joints -/
abbrev f_roads_check_joints : Nat := 109
def c_roads_check_joints : CFn := { frz := true, rnd := none, nargs := 1, ntmps := 57, res := [(.slot 2)], code :=
  (.seq (.region 1 [⟨0, (some 1), none, .box 0 5 (.s 0)⟩, ⟨1, (some 2), none, .mv (.k (.c (.int .i64 0)))⟩] [] (some [1]))
  (.seq (.seq (.region 0 [⟨0, (some 8), none, .faddr 0 (.s 1)⟩, ⟨1, (some 9), none, .faddr 1 (.s 8)⟩, ⟨2, (some 10), none, .load false 1 (.s 9)⟩, ⟨3, (some 11), none, .len (.s 10)⟩, ⟨4, (some 12), none, .mv (.k (.c (.int .i64 0)))⟩] [] (some [11, 10, 12, 1]))
  (.block 0 (.loop (some [11, 10, 12, 1]) c_roads_check_joints_l2)))
  (.seq (.region 0 [⟨0, (some 2), none, .mv (.k (.c (.int .i64 0)))⟩] [] (some [2]))
  .ret))) }
def c_roads_check_signals_l1 : CC := (.seq (.region 0 [⟨0, (some 11), none, .bin .lss (.s 10) (.s 9)⟩] [] (some [11, 1, 8, 9, 10]))
  (.seq (.cond (.s 11) .skip
  (.exit 0))
  (.seq (.block 1 (.seq (.region 1 [⟨0, (some 12), none, .iaddr 2 (.s 8) (.s 10)⟩, ⟨1, (some 13), none, .load true 2 (.s 12)⟩, ⟨2, (some 4), none, .box 0 2 (.k (.a [(.int .i64 0), .nilslice]))⟩, ⟨3, none, none, .store 2 (.s 4) (.s 13)⟩] [] (some [4, 1, 8, 9, 10]))
  (.seq (.region 0 [⟨0, (some 14), none, .faddr 1 (.s 4)⟩, ⟨1, (some 15), none, .load false 1 (.s 14)⟩, ⟨2, (some 16), none, .len (.s 15)⟩, ⟨3, (some 5), none, .mv (.s 16)⟩] [] (some [4, 1, 8, 9, 10, 5]))
  (.block 2 (.seq (.region 0 [⟨0, (some 18), none, .mv (.s 5)⟩, ⟨1, (some 19), none, .bin .eql (.s 18) (.k (.c (.int .i64 0)))⟩, ⟨2, (some 17), none, .mv (.s 19)⟩] [] (some [17, 4, 1, 8, 9, 10, 5]))
  (.cond (.s 17) (.seq (.region 0 [⟨0, (some 2), none, .mv (.k (.c (.int .i64 6)))⟩] [] (some [2]))
  .ret)
  (.seq (.region 0 [⟨0, (some 21), none, .mv (.s 5)⟩, ⟨1, (some 22), none, .bin .gtr (.s 21) (.k (.c (.int .i64 6)))⟩, ⟨2, (some 20), none, .mv (.s 22)⟩] [] (some [20, 10, 9, 8, 1, 4]))
  (.cond (.s 20) (.seq (.region 0 [⟨0, (some 2), none, .mv (.k (.c (.int .i64 8)))⟩] [] (some [2]))
  .ret)
  (.seq (.region 0 [⟨0, (some 24), none, .faddr 0 (.s 4)⟩, ⟨1, (some 25), none, .load false 1 (.s 24)⟩, ⟨2, (some 26), none, .call ⟨true⟩ (.k (.c (.fn 162 [] []))) [(.s 25), (.k (.c (.int .i64 0))), (.k (.c (.int .i64 1099511627776)))]⟩, ⟨3, (some 27), none, .un .not (.s 26)⟩, ⟨4, (some 23), none, .mv (.s 27)⟩] [] (some [23, 4, 1, 8, 9, 10]))
  (.cond (.s 23) (.seq (.region 0 [⟨0, (some 2), none, .mv (.k (.c (.int .i64 2)))⟩] [] (some [2]))
  .ret)
  (.seq (.region 0 [⟨0, (some 29), none, .faddr 1 (.s 4)⟩, ⟨1, (some 30), none, .load false 1 (.s 29)⟩, ⟨2, (some 31), none, .call ⟨true⟩ (.k (.c (.fn 165 [] []))) [(.s 30), (.k (.c (.fn 166 [] [])))]⟩, ⟨3, (some 28), none, .mv (.s 31)⟩] [] (some [28, 10, 9, 8, 1, 4]))
  (.cond (.s 28) (.seq (.region 0 [⟨0, (some 2), none, .mv (.k (.c (.int .i64 2)))⟩] [] (some [2]))
  .ret)
  (.seq (.region 0 [⟨0, (some 33), none, .faddr 1 (.s 4)⟩, ⟨1, (some 34), none, .load false 1 (.s 33)⟩, ⟨2, (some 35), none, .mkfn 167 [] [(.s 1)]⟩, ⟨3, (some 36), none, .call ⟨true⟩ (.k (.c (.fn 165 [] []))) [(.s 34), (.s 35)]⟩, ⟨4, (some 32), none, .mv (.s 36)⟩] [] (some [32, 1, 8, 9, 10]))
  (.cond (.s 32) (.seq (.region 0 [⟨0, (some 2), none, .mv (.k (.c (.int .i64 11)))⟩] [] (some [2]))
  .ret)
  .skip))))))))))))))
  (.region 0 [⟨0, (some 37), none, .bin .add (.s 10) (.k (.c (.int .i64 1)))⟩, ⟨1, (some 10), none, .mv (.s 37)⟩] [] (some [9, 8, 1, 10])))))
/-- (kerbstone/roads.check).signals -/
abbrev f_roads_check_signals : Nat := 110
def c_roads_check_signals : CFn := { frz := true, rnd := none, nargs := 1, ntmps := 38, res := [(.slot 2)], code :=
  (.seq (.region 1 [⟨0, (some 1), none, .box 0 5 (.s 0)⟩, ⟨1, (some 2), none, .mv (.k (.c (.int .i64 0)))⟩] [] (some [1]))
  (.seq (.seq (.region 0 [⟨0, (some 6), none, .faddr 0 (.s 1)⟩, ⟨1, (some 7), none, .faddr 3 (.s 6)⟩, ⟨2, (some 8), none, .load false 1 (.s 7)⟩, ⟨3, (some 9), none, .len (.s 8)⟩, ⟨4, (some 10), none, .mv (.k (.c (.int .i64 0)))⟩] [] (some [9, 8, 1, 10]))
  (.block 0 (.loop (some [9, 8, 1, 10]) c_roads_check_signals_l1)))
  (.seq (.region 0 [⟨0, (some 2), none, .mv (.k (.c (.int .i64 0)))⟩] [] (some [2]))
  .ret))) }
def c_roads_check_zones_l1 : CC := (.seq (.region 0 [⟨0, (some 45), none, .bin .lss (.s 44) (.s 43)⟩] [] (some [45, 6, 44, 43, 4, 13, 14, 15, 1, 42]))
  (.seq (.cond (.s 45) .skip
  (.exit 3))
  (.seq (.block 4 (.seq (.region 1 [⟨0, (some 46), none, .iaddr 4 (.s 42) (.s 44)⟩, ⟨1, (some 47), none, .load true 4 (.s 46)⟩, ⟨2, (some 8), none, .box 0 4 (.k (.a [(.int .i64 0), (.int .i64 0), (.int .i64 0), (.int .i64 0)]))⟩, ⟨3, none, none, .store 4 (.s 8) (.s 47)⟩] [] (some [6, 8, 44, 43, 4, 13, 14, 15, 1, 42]))
  (.region 1 [⟨0, (some 48), none, .mv (.s 6)⟩, ⟨1, (some 49), none, .faddr 0 (.s 8)⟩, ⟨2, (some 50), none, .load false 1 (.s 49)⟩, ⟨3, (some 51), none, .lit 0 1 [[(.int .i64 0)]] [(0, (.s 50))]⟩, ⟨4, (some 52), none, .append 1 8 (.s 48) (.s 51)⟩, ⟨5, (some 6), none, .mv (.s 52)⟩] [] (some [44, 6, 43, 4, 13, 14, 15, 1, 42]))))
  (.region 0 [⟨0, (some 53), none, .bin .add (.s 44) (.k (.c (.int .i64 1)))⟩, ⟨1, (some 44), none, .mv (.s 53)⟩] [] (some [6, 44, 43, 4, 13, 14, 15, 1, 42])))))
def c_roads_check_zones_l2 : CC := (.seq (.region 0 [⟨0, (some 65), none, .bin .lss (.s 64) (.s 63)⟩] [] (some [65, 1, 62, 15, 14, 13, 63, 64]))
  (.seq (.cond (.s 65) .skip
  (.exit 5))
  (.seq (.block 6 (.seq (.region 1 [⟨0, (some 66), none, .iaddr 4 (.s 62) (.s 64)⟩, ⟨1, (some 67), none, .load true 4 (.s 66)⟩, ⟨2, (some 10), none, .box 0 4 (.k (.a [(.int .i64 0), (.int .i64 0), (.int .i64 0), (.int .i64 0)]))⟩, ⟨3, none, none, .store 4 (.s 10) (.s 67)⟩] [] (some [10, 1, 62, 15, 14, 13, 63, 64]))
  (.seq (.region 0 [⟨0, (some 68), none, .faddr 1 (.s 10)⟩, ⟨1, (some 69), none, .load false 1 (.s 68)⟩, ⟨2, (some 70), none, .bin .lss (.s 69) (.k (.c (.int .i64 0)))⟩, ⟨3, (some 71), none, .mv (.s 70)⟩, ⟨4, (some 72), (some (71, false)), .faddr 1 (.s 10)⟩, ⟨6, (some 74), (some (71, false)), .faddr 2 (.s 10)⟩, ⟨5, (some 73), (some (71, false)), .load false 1 (.s 72)⟩, ⟨7, (some 75), (some (71, false)), .load false 1 (.s 74)⟩, ⟨8, (some 76), (some (71, false)), .bin .geq (.s 73) (.s 75)⟩, ⟨9, (some 77), none, .pick (.s 71) (.k (.c (.bool true))) (.s 76)⟩, ⟨10, (some 78), none, .mv (.s 77)⟩, ⟨11, (some 79), (some (78, false)), .faddr 2 (.s 10)⟩, ⟨13, (some 81), (some (78, false)), .faddr 0 (.s 1)⟩, ⟨15, (some 83), (some (78, false)), .faddr 0 (.s 10)⟩, ⟨12, (some 80), (some (78, false)), .load false 1 (.s 79)⟩, ⟨14, (some 82), (some (78, false)), .load true 5 (.s 81)⟩, ⟨16, (some 84), (some (78, false)), .load false 1 (.s 83)⟩, ⟨17, (some 85), (some (78, false)), .call ⟨true⟩ (.k (.c (.fn 114 [] []))) [(.s 82), (.s 84)]⟩, ⟨18, (some 86), (some (78, false)), .bin .gtr (.s 80) (.s 85)⟩, ⟨19, (some 87), none, .pick (.s 78) (.k (.c (.bool true))) (.s 86)⟩, ⟨20, (some 88), none, .mv (.s 87)⟩, ⟨21, (some 89), (some (88, false)), .faddr 3 (.s 10)⟩, ⟨22, (some 90), (some (88, false)), .load false 1 (.s 89)⟩, ⟨23, (some 91), (some (88, false)), .bin .lss (.s 90) (.k (.c (.int .i64 0)))⟩, ⟨24, (some 92), none, .pick (.s 88) (.k (.c (.bool true))) (.s 91)⟩, ⟨25, (some 93), none, .mv (.s 92)⟩, ⟨26, (some 94), (some (93, false)), .faddr 3 (.s 10)⟩, ⟨27, (some 95), (some (93, false)), .load false 1 (.s 94)⟩, ⟨28, (some 96), (some (93, false)), .bin .gtr (.s 95) (.k (.c (.int .i64 100)))⟩, ⟨29, (some 97), none, .pick (.s 93) (.k (.c (.bool true))) (.s 96)⟩] [(14, 17)] (some [97, 1, 62, 15, 14, 13, 63, 64]))
  (.cond (.s 97) (.seq (.region 0 [⟨0, (some 2), none, .mv (.k (.c (.int .i64 2)))⟩] [] (some [2]))
  .ret)
  .skip))))
  (.region 0 [⟨0, (some 98), none, .bin .add (.s 64) (.k (.c (.int .i64 1)))⟩, ⟨1, (some 64), none, .mv (.s 98)⟩] [] (some [63, 13, 14, 15, 62, 1, 64])))))
def c_roads_check_zones_l3 : CC := (.seq (.region 0 [⟨0, (some 16), none, .bin .lss (.s 15) (.s 14)⟩] [] (some [16, 1, 15, 14, 13]))
  (.seq (.cond (.s 16) .skip
  (.exit 0))
  (.seq (.block 1 (.seq (.region 1 [⟨0, (some 17), none, .iaddr 2 (.s 13) (.s 15)⟩, ⟨1, (some 18), none, .load true 2 (.s 17)⟩, ⟨2, (some 4), none, .box 0 2 (.k (.a [.nilslice, (.int .i64 0)]))⟩, ⟨3, none, none, .store 2 (.s 4) (.s 18)⟩] [] (some [1, 15, 14, 13, 4]))
  (.seq (.seq (.region 0 [⟨0, (some 19), none, .faddr 0 (.s 4)⟩, ⟨1, (some 20), none, .load false 1 (.s 19)⟩, ⟨2, (some 21), none, .len (.s 20)⟩, ⟨3, (some 5), none, .mv (.s 21)⟩] [] (some [1, 15, 14, 13, 4, 5]))
  (.block 2 (.seq (.region 0 [⟨0, (some 23), none, .mv (.s 5)⟩, ⟨1, (some 24), none, .bin .lss (.s 23) (.k (.c (.int .i64 2)))⟩, ⟨2, (some 22), none, .mv (.s 24)⟩] [] (some [22, 1, 15, 14, 13, 4, 5]))
  (.cond (.s 22) (.seq (.region 0 [⟨0, (some 2), none, .mv (.k (.c (.int .i64 6)))⟩] [] (some [2]))
  .ret)
  (.seq (.region 0 [⟨0, (some 26), none, .mv (.s 5)⟩, ⟨1, (some 27), none, .bin .gtr (.s 26) (.k (.c (.int .i64 6)))⟩, ⟨2, (some 25), none, .mv (.s 27)⟩] [] (some [25, 4, 13, 14, 15, 1]))
  (.cond (.s 25) (.seq (.region 0 [⟨0, (some 2), none, .mv (.k (.c (.int .i64 8)))⟩] [] (some [2]))
  .ret)
  (.seq (.region 0 [⟨0, (some 29), none, .faddr 1 (.s 4)⟩, ⟨1, (some 30), none, .load false 1 (.s 29)⟩, ⟨2, (some 31), none, .bin .lss (.s 30) (.k (.c (.int .i64 0)))⟩, ⟨3, (some 32), none, .mv (.s 31)⟩, ⟨4, (some 33), (some (32, false)), .faddr 1 (.s 4)⟩, ⟨5, (some 34), (some (32, false)), .load false 1 (.s 33)⟩, ⟨6, (some 35), (some (32, false)), .faddr 0 (.s 1)⟩, ⟨7, (some 36), (some (32, false)), .faddr 3 (.s 35)⟩, ⟨8, (some 37), (some (32, false)), .load false 1 (.s 36)⟩, ⟨9, (some 38), (some (32, false)), .len (.s 37)⟩, ⟨10, (some 39), (some (32, false)), .bin .gtr (.s 34) (.s 38)⟩, ⟨11, (some 40), none, .pick (.s 32) (.k (.c (.bool true))) (.s 39)⟩, ⟨12, (some 28), none, .mv (.s 40)⟩] [] (some [28, 1, 15, 14, 13, 4]))
  (.cond (.s 28) (.seq (.region 0 [⟨0, (some 2), none, .mv (.k (.c (.int .i64 2)))⟩] [] (some [2]))
  .ret)
  .skip))))))))
  (.seq (.region 1 [⟨0, (some 6), none, .newsl 0 1⟩] [] (some [6, 4, 13, 14, 15, 1]))
  (.seq (.seq (.region 0 [⟨0, (some 41), none, .faddr 0 (.s 4)⟩, ⟨1, (some 42), none, .load false 1 (.s 41)⟩, ⟨2, (some 43), none, .len (.s 42)⟩, ⟨3, (some 44), none, .mv (.k (.c (.int .i64 0)))⟩] [] (some [6, 44, 43, 4, 13, 14, 15, 1, 42]))
  (.block 3 (.loop (some [6, 44, 43, 4, 13, 14, 15, 1, 42]) c_roads_check_zones_l1)))
  (.seq (.seq (.region 0 [⟨0, (some 54), none, .mv (.s 6)⟩, ⟨1, (some 55), none, .faddr 0 (.s 1)⟩, ⟨2, (some 56), none, .faddr 1 (.s 55)⟩, ⟨3, (some 57), none, .load false 1 (.s 56)⟩, ⟨4, (some 58), none, .len (.s 57)⟩, ⟨5, (some 59), none, .call ⟨true⟩ (.k (.c (.fn 164 [] []))) [(.s 54), (.k (.c (.int .i64 0))), (.s 58)]⟩, ⟨6, (some 60), none, .un .not (.s 59)⟩] [] (some [60, 1, 15, 14, 13, 4]))
  (.cond (.s 60) (.seq (.region 0 [⟨0, (some 2), none, .mv (.k (.c (.int .i64 11)))⟩] [] (some [2]))
  .ret)
  .skip))
  (.seq (.region 0 [⟨0, (some 61), none, .faddr 0 (.s 4)⟩, ⟨1, (some 62), none, .load false 1 (.s 61)⟩, ⟨2, (some 63), none, .len (.s 62)⟩, ⟨3, (some 64), none, .mv (.k (.c (.int .i64 0)))⟩] [] (some [63, 13, 14, 15, 62, 1, 64]))
  (.block 5 (.loop (some [63, 13, 14, 15, 62, 1, 64]) c_roads_check_zones_l2)))))))))
  (.region 0 [⟨0, (some 99), none, .bin .add (.s 15) (.k (.c (.int .i64 1)))⟩, ⟨1, (some 15), none, .mv (.s 99)⟩] [] (some [1, 15, 14, 13])))))
/-- (kerbstone/roads.check).zones -/
abbrev f_roads_check_zones : Nat := 111
def c_roads_check_zones : CFn := { frz := true, rnd := none, nargs := 1, ntmps := 100, res := [(.slot 2)], code :=
  (.seq (.region 1 [⟨0, (some 1), none, .box 0 5 (.s 0)⟩, ⟨1, (some 2), none, .mv (.k (.c (.int .i64 0)))⟩] [] (some [1]))
  (.seq (.seq (.region 0 [⟨0, (some 11), none, .faddr 0 (.s 1)⟩, ⟨1, (some 12), none, .faddr 2 (.s 11)⟩, ⟨2, (some 13), none, .load false 1 (.s 12)⟩, ⟨3, (some 14), none, .len (.s 13)⟩, ⟨4, (some 15), none, .mv (.k (.c (.int .i64 0)))⟩] [] (some [1, 15, 14, 13]))
  (.block 0 (.loop (some [1, 15, 14, 13]) c_roads_check_zones_l3)))
  (.seq (.region 0 [⟨0, (some 2), none, .mv (.k (.c (.int .i64 0)))⟩] [] (some [2]))
  .ret))) }
def c_roads_check_works_l1 : CC := (.seq (.region 0 [⟨0, (some 13), none, .bin .lss (.s 12) (.s 11)⟩] [] (some [13, 12, 11, 10, 1]))
  (.seq (.cond (.s 13) .skip
  (.exit 0))
  (.seq (.block 1 (.seq (.region 1 [⟨0, (some 14), none, .iaddr 6 (.s 10) (.s 12)⟩, ⟨1, (some 15), none, .load true 6 (.s 14)⟩, ⟨2, (some 4), none, .box 0 6 (.k (.a [(.int .i64 0), (.int .i64 0), (.int .i64 0), (.int .i64 0), (.int .i64 0), (.int .i64 0)]))⟩, ⟨3, none, none, .store 6 (.s 4) (.s 15)⟩] [] (some [12, 11, 10, 1, 4]))
  (.seq (.seq (.region 0 [⟨0, (some 16), none, .faddr 0 (.s 4)⟩, ⟨1, (some 17), none, .load false 1 (.s 16)⟩, ⟨2, (some 18), none, .bin .lss (.s 17) (.k (.c (.int .i64 0)))⟩, ⟨3, (some 19), none, .mv (.s 18)⟩, ⟨4, (some 20), (some (19, false)), .faddr 0 (.s 4)⟩, ⟨5, (some 21), (some (19, false)), .load false 1 (.s 20)⟩, ⟨6, (some 22), (some (19, false)), .faddr 0 (.s 1)⟩, ⟨7, (some 23), (some (19, false)), .faddr 1 (.s 22)⟩, ⟨8, (some 24), (some (19, false)), .load false 1 (.s 23)⟩, ⟨9, (some 25), (some (19, false)), .len (.s 24)⟩, ⟨10, (some 26), (some (19, false)), .bin .geq (.s 21) (.s 25)⟩, ⟨11, (some 27), none, .pick (.s 19) (.k (.c (.bool true))) (.s 26)⟩] [] (some [27, 12, 11, 10, 1, 4]))
  (.cond (.s 27) (.seq (.region 0 [⟨0, (some 2), none, .mv (.k (.c (.int .i64 7)))⟩] [] (some [2]))
  .ret)
  .skip))
  (.seq (.region 0 [⟨0, (some 29), none, .faddr 0 (.s 1)⟩, ⟨1, (some 30), none, .faddr 1 (.s 29)⟩, ⟨2, (some 31), none, .load false 1 (.s 30)⟩, ⟨3, (some 32), none, .faddr 0 (.s 4)⟩, ⟨4, (some 33), none, .load false 1 (.s 32)⟩, ⟨5, (some 34), none, .iaddr 5 (.s 31) (.s 33)⟩, ⟨6, (some 35), none, .faddr 0 (.s 34)⟩, ⟨7, (some 36), none, .load false 1 (.s 35)⟩, ⟨8, (some 37), none, .call ⟨true⟩ (.k (.c (.fn 55 [] []))) [(.s 36)]⟩, ⟨9, (some 28), none, .mv (.s 37)⟩, ⟨10, (some 38), none, .extract 28 0⟩, ⟨11, (some 39), none, .extract 28 1⟩, ⟨12, (some 40), none, .extract 28 2⟩, ⟨13, (some 5), none, .mv (.s 38)⟩, ⟨14, (some 6), none, .mv (.s 39)⟩, ⟨15, (some 7), none, .mv (.s 40)⟩] [] (some [4, 5, 1, 10, 11, 12]))
  (.seq (.region 0 [⟨0, (some 41), none, .faddr 1 (.s 4)⟩, ⟨1, (some 42), none, .load false 1 (.s 41)⟩, ⟨2, (some 43), none, .bin .lss (.s 42) (.k (.c (.int .i64 0)))⟩, ⟨3, (some 44), none, .mv (.s 43)⟩, ⟨4, (some 45), (some (44, false)), .faddr 1 (.s 4)⟩, ⟨6, (some 47), (some (44, false)), .faddr 2 (.s 4)⟩, ⟨5, (some 46), (some (44, false)), .load false 1 (.s 45)⟩, ⟨7, (some 48), (some (44, false)), .load false 1 (.s 47)⟩, ⟨8, (some 49), (some (44, false)), .bin .gtr (.s 46) (.s 48)⟩, ⟨9, (some 50), none, .pick (.s 44) (.k (.c (.bool true))) (.s 49)⟩, ⟨10, (some 51), none, .mv (.s 50)⟩, ⟨11, (some 52), (some (51, false)), .faddr 2 (.s 4)⟩, ⟨13, (some 54), (some (51, false)), .faddr 0 (.s 1)⟩, ⟨15, (some 56), (some (51, false)), .faddr 0 (.s 4)⟩, ⟨12, (some 53), (some (51, false)), .load false 1 (.s 52)⟩, ⟨14, (some 55), (some (51, false)), .load true 5 (.s 54)⟩, ⟨16, (some 57), (some (51, false)), .load false 1 (.s 56)⟩, ⟨17, (some 58), (some (51, false)), .call ⟨true⟩ (.k (.c (.fn 114 [] []))) [(.s 55), (.s 57)]⟩, ⟨18, (some 59), (some (51, false)), .bin .gtr (.s 53) (.s 58)⟩, ⟨19, (some 60), none, .pick (.s 51) (.k (.c (.bool true))) (.s 59)⟩, ⟨20, (some 61), none, .mv (.s 60)⟩, ⟨21, (some 62), (some (61, false)), .faddr 3 (.s 4)⟩, ⟨22, (some 63), (some (61, false)), .load false 1 (.s 62)⟩, ⟨23, (some 64), (some (61, false)), .bin .lss (.s 63) (.k (.c (.int .i64 0)))⟩, ⟨24, (some 65), none, .pick (.s 61) (.k (.c (.bool true))) (.s 64)⟩, ⟨25, (some 66), none, .mv (.s 65)⟩, ⟨26, (some 67), (some (66, false)), .faddr 3 (.s 4)⟩, ⟨28, (some 69), (some (66, false)), .faddr 4 (.s 4)⟩, ⟨27, (some 68), (some (66, false)), .load false 1 (.s 67)⟩, ⟨29, (some 70), (some (66, false)), .load false 1 (.s 69)⟩, ⟨30, (some 71), (some (66, false)), .bin .geq (.s 68) (.s 70)⟩, ⟨31, (some 72), none, .pick (.s 66) (.k (.c (.bool true))) (.s 71)⟩, ⟨32, (some 73), none, .mv (.s 72)⟩, ⟨33, (some 74), (some (73, false)), .faddr 4 (.s 4)⟩, ⟨34, (some 75), (some (73, false)), .load false 1 (.s 74)⟩, ⟨35, (some 76), (some (73, false)), .bin .gtr (.s 75) (.k (.c (.int .i64 1099511627776)))⟩, ⟨36, (some 77), none, .pick (.s 73) (.k (.c (.bool true))) (.s 76)⟩, ⟨37, (some 78), none, .mv (.s 77)⟩, ⟨38, (some 79), (some (78, false)), .faddr 5 (.s 4)⟩, ⟨40, (some 81), (some (78, false)), .mv (.s 5)⟩, ⟨39, (some 80), (some (78, false)), .load false 1 (.s 79)⟩, ⟨41, (some 82), (some (78, false)), .call ⟨true⟩ (.k (.c (.fn 162 [] []))) [(.s 80), (.k (.c (.int .i64 0))), (.s 81)]⟩, ⟨42, (some 83), (some (78, false)), .un .not (.s 82)⟩, ⟨43, (some 84), none, .pick (.s 78) (.k (.c (.bool true))) (.s 83)⟩] [(14, 17)] (some [84, 1, 10, 11, 12]))
  (.cond (.s 84) (.seq (.region 0 [⟨0, (some 2), none, .mv (.k (.c (.int .i64 2)))⟩] [] (some [2]))
  .ret)
  .skip))))))
  (.region 0 [⟨0, (some 85), none, .bin .add (.s 12) (.k (.c (.int .i64 1)))⟩, ⟨1, (some 12), none, .mv (.s 85)⟩] [] (some [12, 11, 10, 1])))))
/-- (kerbstone/roads.check).works -/
abbrev f_roads_check_works : Nat := 112
def c_roads_check_works : CFn := { frz := true, rnd := none, nargs := 1, ntmps := 86, res := [(.slot 2)], code :=
  (.seq (.region 1 [⟨0, (some 1), none, .box 0 5 (.s 0)⟩, ⟨1, (some 2), none, .mv (.k (.c (.int .i64 0)))⟩] [] (some [1]))
  (.seq (.seq (.region 0 [⟨0, (some 8), none, .faddr 0 (.s 1)⟩, ⟨1, (some 9), none, .faddr 4 (.s 8)⟩, ⟨2, (some 10), none, .load false 1 (.s 9)⟩, ⟨3, (some 11), none, .len (.s 10)⟩, ⟨4, (some 12), none, .mv (.k (.c (.int .i64 0)))⟩] [] (some [12, 11, 10, 1]))
  (.block 0 (.loop (some [12, 11, 10, 1]) c_roads_check_works_l1)))
  (.seq (.region 0 [⟨0, (some 2), none, .mv (.k (.c (.int .i64 0)))⟩] [] (some [2]))
  .ret))) }
/-- kerbstone/roads.is -/
abbrev f_roads_is : Nat := 113
def c_roads_is : CFn := { frz := true, rnd := none, nargs := 2, ntmps := 19, res := [(.slot 4)], code :=
  (.seq (.region 1 [⟨0, (some 2), none, .box 0 5 (.s 0)⟩, ⟨1, (some 4), none, .mv (.k (.c (.bool false)))⟩] [] (some [1, 2]))
  (.seq (.region 0 [⟨0, (some 5), none, .mv (.s 1)⟩, ⟨1, (some 6), none, .bin .geq (.s 5) (.k (.c (.int .i64 0)))⟩, ⟨2, (some 7), none, .mv (.s 6)⟩, ⟨3, (some 8), (some (7, true)), .mv (.s 1)⟩, ⟨4, (some 9), (some (7, true)), .faddr 1 (.s 2)⟩, ⟨5, (some 10), (some (7, true)), .load false 1 (.s 9)⟩, ⟨6, (some 11), (some (7, true)), .len (.s 10)⟩, ⟨7, (some 12), (some (7, true)), .bin .lss (.s 8) (.s 11)⟩, ⟨8, (some 13), none, .pick (.s 7) (.s 12) (.k (.c (.bool false)))⟩, ⟨9, (some 14), none, .mv (.s 13)⟩, ⟨10, (some 15), (some (14, true)), .load true 5 (.s 2)⟩, ⟨11, (some 16), (some (14, true)), .call ⟨true⟩ (.k (.c (.fn 54 [] []))) [(.s 15)]⟩, ⟨12, (some 17), (some (14, true)), .bin .eql (.s 16) (.k (.c (.int .i64 0)))⟩, ⟨13, (some 18), none, .pick (.s 14) (.s 17) (.k (.c (.bool false)))⟩, ⟨14, (some 4), none, .mv (.s 18)⟩] [] (some [4]))
  .ret)) }
/-- kerbstone/roads.long -/
abbrev f_roads_long : Nat := 114
def c_roads_long : CFn := { frz := true, rnd := none, nargs := 2, ntmps := 12, res := [(.slot 4)], code :=
  (.seq (.region 1 [⟨0, (some 2), none, .box 0 5 (.s 0)⟩, ⟨1, (some 4), none, .mv (.k (.c (.int .i64 0)))⟩] [] (some [2, 1]))
  (.seq (.region 0 [⟨0, (some 5), none, .faddr 1 (.s 2)⟩, ⟨1, (some 6), none, .load false 1 (.s 5)⟩, ⟨2, (some 7), none, .mv (.s 1)⟩, ⟨3, (some 8), none, .iaddr 5 (.s 6) (.s 7)⟩, ⟨4, (some 9), none, .faddr 1 (.s 8)⟩, ⟨5, (some 10), none, .load true 1 (.s 9)⟩, ⟨6, (some 11), none, .call ⟨true⟩ (.k (.c (.fn 168 [] []))) [(.s 10)]⟩, ⟨7, (some 4), none, .mv (.s 11)⟩] [] (some [4]))
  .ret)) }
def c_kerbstoneref01_Length_l1 : CC := (.seq (.seq (.region 0 [⟨0, (some 8), none, .mv (.s 5)⟩, ⟨1, (some 9), none, .mv (.s 4)⟩, ⟨2, (some 10), none, .len (.s 9)⟩, ⟨3, (some 11), none, .bin .lss (.s 8) (.s 10)⟩] [] (some [11, 3, 5, 4]))
  (.cond (.s 11) .skip
  (.exit 0)))
  (.seq (.block 1 (.region 0 [⟨0, (some 14), none, .mv (.s 3)⟩, ⟨1, (some 15), none, .mv (.s 4)⟩, ⟨2, (some 16), none, .mv (.s 5)⟩, ⟨3, (some 17), none, .iaddr 1 (.s 15) (.s 16)⟩, ⟨4, (some 18), none, .load false 1 (.s 17)⟩, ⟨5, (some 19), none, .bin .add (.s 14) (.s 18)⟩, ⟨6, (some 3), none, .mv (.s 19)⟩] [] (some [5, 3, 4])))
  (.region 0 [⟨0, (some 12), none, .mv (.s 5)⟩, ⟨1, (some 13), none, .bin .add (.s 12) (.k (.c (.int .i64 1)))⟩, ⟨2, (some 5), none, .mv (.s 13)⟩] [] (some [3, 5, 4]))))
/-- kerbstone/kerbstoneref01.Length -/
abbrev f_kerbstoneref01_Length : Nat := 116
def c_kerbstoneref01_Length : CFn := { frz := true, rnd := none, nargs := 1, ntmps := 21, res := [(.slot 2)], code :=
  (.seq (.region 1 [⟨0, (some 1), none, .box 0 1 (.s 0)⟩, ⟨1, (some 2), none, .mv (.k (.c (.int .i64 0)))⟩] [] (some [1]))
  (.seq (.region 0 [⟨0, (some 3), none, .mv (.k (.c (.int .i64 0)))⟩] [] (some [1, 3]))
  (.seq (.region 0 [⟨0, (some 6), none, .load true 1 (.s 1)⟩, ⟨1, (some 7), none, .call ⟨true⟩ (.k (.c (.fn 169 [] []))) [(.s 6)]⟩, ⟨2, (some 4), none, .mv (.s 7)⟩] [] (some [3, 4]))
  (.seq (.seq (.region 0 [⟨0, (some 5), none, .mv (.k (.c (.int .i64 0)))⟩] [] (some [3, 5, 4]))
  (.block 0 (.loop (some [3, 5, 4]) c_kerbstoneref01_Length_l1)))
  (.seq (.region 0 [⟨0, (some 20), none, .mv (.s 3)⟩, ⟨1, (some 2), none, .mv (.s 20)⟩] [] (some [2]))
  .ret))))) }
def c_slices_IndexFunc_Blob_l1 : CC := (.seq (.region 0 [⟨0, (some 9), none, .bin .lss (.s 8) (.s 7)⟩] [] (some [9, 0, 1, 7, 8]))
  (.seq (.cond (.s 9) .skip
  (.exit 0))
  (.seq (.block 1 (.seq (.region 0 [⟨0, (some 10), none, .mv (.s 8)⟩, ⟨1, (some 5), none, .mv (.s 10)⟩] [] (some [0, 1, 7, 8, 5]))
  (.seq (.region 0 [⟨0, (some 11), none, .mv (.s 1)⟩, ⟨1, (some 12), none, .mv (.s 0)⟩, ⟨2, (some 13), none, .mv (.s 5)⟩, ⟨3, (some 14), none, .iaddr 6 (.s 12) (.s 13)⟩, ⟨4, (some 15), none, .load true 6 (.s 14)⟩, ⟨5, (some 16), none, .call ⟨true⟩ (.s 11) [(.s 15)]⟩] [] (some [16, 0, 1, 7, 8, 5]))
  (.cond (.s 16) (.seq (.region 0 [⟨0, (some 17), none, .mv (.s 5)⟩, ⟨1, (some 4), none, .mv (.s 17)⟩] [] (some [4]))
  .ret)
  .skip))))
  (.region 0 [⟨0, (some 18), none, .bin .add (.s 8) (.k (.c (.int .i64 1)))⟩, ⟨1, (some 8), none, .mv (.s 18)⟩] [] (some [7, 1, 0, 8])))))
/-- slices.IndexFunc[[]kerbstone/api.Blob,kerbstone/api.Blob] -/
abbrev f_slices_IndexFunc_Blob : Nat := 131
def c_slices_IndexFunc_Blob : CFn := { frz := true, rnd := none, nargs := 2, ntmps := 19, res := [(.slot 4)], code :=
  (.seq (.region 0 [⟨0, (some 4), none, .mv (.k (.c (.int .i64 0)))⟩] [] (some [1, 0]))
  (.seq (.seq (.region 0 [⟨0, (some 6), none, .mv (.s 0)⟩, ⟨1, (some 7), none, .len (.s 6)⟩, ⟨2, (some 8), none, .mv (.k (.c (.int .i64 0)))⟩] [] (some [7, 1, 0, 8]))
  (.block 0 (.loop (some [7, 1, 0, 8]) c_slices_IndexFunc_Blob_l1)))
  (.seq (.region 0 [⟨0, (some 4), none, .mv (.k (.c (.int .i64 (-1))))⟩] [] (some [4]))
  .ret))) }
/-- cmp.isNaN[int64] -/
abbrev f_cmp_isNaN_int64 : Nat := 138
def c_cmp_isNaN_int64 : CFn := { frz := true, rnd := none, nargs := 1, ntmps := 6, res := [(.slot 2)], code :=
  (.seq (.region 0 [⟨0, (some 2), none, .mv (.k (.c (.bool false)))⟩] [] (some [0]))
  (.seq (.region 0 [⟨0, (some 3), none, .mv (.s 0)⟩, ⟨1, (some 4), none, .mv (.s 0)⟩, ⟨2, (some 5), none, .bin .neq (.s 3) (.s 4)⟩, ⟨3, (some 2), none, .mv (.s 5)⟩] [] (some [2]))
  .ret)) }
/-- kerbstone/kerbstoneref03.within -/
abbrev f_kerbstoneref03_within : Nat := 139
def c_kerbstoneref03_within : CFn := { frz := true, rnd := none, nargs := 3, ntmps := 15, res := [(.slot 6)], code :=
  (.seq (.region 0 [⟨0, (some 6), none, .mv (.k (.c (.bool false)))⟩] [] (some [1, 0, 2]))
  (.seq (.region 0 [⟨0, (some 7), none, .mv (.s 0)⟩, ⟨1, (some 8), none, .mv (.s 1)⟩, ⟨2, (some 9), none, .bin .geq (.s 7) (.s 8)⟩, ⟨3, (some 10), none, .mv (.s 9)⟩, ⟨4, (some 11), (some (10, true)), .mv (.s 0)⟩, ⟨5, (some 12), (some (10, true)), .mv (.s 2)⟩, ⟨6, (some 13), (some (10, true)), .bin .leq (.s 11) (.s 12)⟩, ⟨7, (some 14), none, .pick (.s 10) (.s 13) (.k (.c (.bool false)))⟩, ⟨8, (some 6), none, .mv (.s 14)⟩] [] (some [6]))
  .ret)) }
/-- kerbstone/kerbstoneref03.checkLane -/
abbrev f_kerbstoneref03_checkLane : Nat := 140
def c_kerbstoneref03_checkLane : CFn := { frz := true, rnd := none, nargs := 2, ntmps := 60, res := [(.slot 4)], code :=
  (.seq (.region 1 [⟨0, (some 2), none, .box 0 5 (.s 0)⟩, ⟨1, (some 4), none, .mv (.k (.c (.int .i64 0)))⟩] [] (some [1, 2]))
  (.seq (.region 1 [⟨0, (some 10), none, .faddr 1 (.s 2)⟩, ⟨1, (some 11), none, .load false 1 (.s 10)⟩, ⟨2, (some 12), none, .mv (.s 1)⟩, ⟨3, (some 13), none, .iaddr 5 (.s 11) (.s 12)⟩, ⟨4, (some 14), none, .load true 5 (.s 13)⟩, ⟨5, (some 5), none, .box 0 5 (.k (.a [(.int .i64 0), .nilslice, (.int .i64 0), (.int .i64 0), .nilslice]))⟩, ⟨6, none, none, .store 5 (.s 5) (.s 14)⟩] [] (some [5, 1, 2]))
  (.seq (.seq (.region 0 [⟨0, (some 15), none, .faddr 0 (.s 5)⟩, ⟨1, (some 16), none, .load false 1 (.s 15)⟩, ⟨2, (some 17), none, .bin .lss (.s 16) (.k (.c (.int .i64 1)))⟩, ⟨3, (some 18), none, .mv (.s 17)⟩, ⟨4, (some 19), (some (18, false)), .faddr 0 (.s 5)⟩, ⟨5, (some 20), (some (18, false)), .load false 1 (.s 19)⟩, ⟨6, (some 21), (some (18, false)), .bin .gtr (.s 20) (.k (.c (.int .i64 3)))⟩, ⟨7, (some 22), none, .pick (.s 18) (.k (.c (.bool true))) (.s 21)⟩] [] (some [22, 5, 1, 2]))
  (.cond (.s 22) (.seq (.region 0 [⟨0, (some 4), none, .mv (.k (.c (.int .i64 4)))⟩] [] (some [4]))
  .ret)
  .skip))
  (.seq (.region 0 [⟨0, (some 23), none, .faddr 1 (.s 5)⟩, ⟨1, (some 24), none, .load true 1 (.s 23)⟩, ⟨2, (some 25), none, .call ⟨true⟩ (.k (.c (.fn 195 [] []))) [(.s 24)]⟩, ⟨3, (some 6), none, .mv (.s 25)⟩] [] (some [2, 1, 5, 6]))
  (.seq (.seq (.region 0 [⟨0, (some 26), none, .mv (.s 6)⟩, ⟨1, (some 27), none, .bin .neq (.s 26) (.k (.c (.int .i64 0)))⟩] [] (some [27, 2, 1, 5, 6]))
  (.cond (.s 27) (.seq (.region 0 [⟨0, (some 28), none, .mv (.s 6)⟩, ⟨1, (some 4), none, .mv (.s 28)⟩] [] (some [4]))
  .ret)
  .skip))
  (.seq (.region 0 [⟨0, (some 30), none, .faddr 0 (.s 5)⟩, ⟨1, (some 31), none, .load false 1 (.s 30)⟩, ⟨2, (some 32), none, .call ⟨true⟩ (.k (.c (.fn 57 [] []))) [(.s 31)]⟩, ⟨3, (some 29), none, .mv (.s 32)⟩, ⟨4, (some 33), none, .extract 29 0⟩, ⟨5, (some 34), none, .extract 29 1⟩, ⟨6, (some 35), none, .extract 29 2⟩, ⟨7, (some 7), none, .mv (.s 33)⟩, ⟨8, (some 8), none, .mv (.s 34)⟩, ⟨9, (some 9), none, .mv (.s 35)⟩] [] (some [7, 5, 1, 2]))
  (.seq (.seq (.region 0 [⟨0, (some 36), none, .faddr 2 (.s 5)⟩, ⟨1, (some 37), none, .load false 1 (.s 36)⟩, ⟨2, (some 38), none, .call ⟨true⟩ (.k (.c (.fn 139 [] []))) [(.s 37), (.k (.c (.int .i64 200))), (.k (.c (.int .i64 4000)))]⟩, ⟨3, (some 39), none, .un .not (.s 38)⟩, ⟨4, (some 40), none, .mv (.s 39)⟩, ⟨5, (some 41), (some (40, false)), .faddr 3 (.s 5)⟩, ⟨6, (some 42), (some (40, false)), .load false 1 (.s 41)⟩, ⟨7, (some 43), (some (40, false)), .mv (.s 7)⟩, ⟨8, (some 44), (some (40, false)), .call ⟨true⟩ (.k (.c (.fn 139 [] []))) [(.s 42), (.k (.c (.int .i64 1))), (.s 43)]⟩, ⟨9, (some 45), (some (40, false)), .un .not (.s 44)⟩, ⟨10, (some 46), none, .pick (.s 40) (.k (.c (.bool true))) (.s 45)⟩] [] (some [46, 5, 1, 2]))
  (.cond (.s 46) (.seq (.region 0 [⟨0, (some 4), none, .mv (.k (.c (.int .i64 2)))⟩] [] (some [4]))
  .ret)
  .skip))
  (.seq (.seq (.region 0 [⟨0, (some 47), none, .faddr 4 (.s 5)⟩, ⟨1, (some 48), none, .load false 1 (.s 47)⟩, ⟨2, (some 49), none, .len (.s 48)⟩, ⟨3, (some 50), none, .bin .gtr (.s 49) (.k (.c (.int .i64 3)))⟩] [] (some [50, 2, 1, 5]))
  (.cond (.s 50) (.seq (.region 0 [⟨0, (some 4), none, .mv (.k (.c (.int .i64 8)))⟩] [] (some [4]))
  .ret)
  .skip))
  (.seq (.seq (.region 0 [⟨0, (some 51), none, .faddr 4 (.s 5)⟩, ⟨1, (some 52), none, .load false 1 (.s 51)⟩, ⟨2, (some 53), none, .mv (.s 1)⟩, ⟨3, (some 54), none, .bin .add (.s 53) (.k (.c (.int .i64 1)))⟩, ⟨4, (some 55), none, .faddr 1 (.s 2)⟩, ⟨5, (some 56), none, .load false 1 (.s 55)⟩, ⟨6, (some 57), none, .len (.s 56)⟩, ⟨7, (some 58), none, .call ⟨true⟩ (.k (.c (.fn 196 [] []))) [(.s 52), (.s 54), (.s 57)]⟩, ⟨8, (some 59), none, .un .not (.s 58)⟩] [] (some [59]))
  (.cond (.s 59) (.seq (.region 0 [⟨0, (some 4), none, .mv (.k (.c (.int .i64 11)))⟩] [] (some [4]))
  .ret)
  .skip))
  (.seq (.region 0 [⟨0, (some 4), none, .mv (.k (.c (.int .i64 0)))⟩] [] (some [4]))
  .ret)))))))))) }
def c_kerbstoneref03_checkNext_l1 : CC := (.seq (.seq (.region 0 [⟨0, (some 19), none, .mv (.s 5)⟩, ⟨1, (some 20), none, .faddr 4 (.s 4)⟩, ⟨2, (some 21), none, .load false 1 (.s 20)⟩, ⟨3, (some 22), none, .len (.s 21)⟩, ⟨4, (some 23), none, .bin .lss (.s 19) (.s 22)⟩] [] (some [23, 5, 3, 1, 4]))
  (.cond (.s 23) .skip
  (.exit 2)))
  (.seq (.block 3 (.seq (.region 1 [⟨0, (some 26), none, .faddr 1 (.s 1)⟩, ⟨2, (some 28), none, .faddr 4 (.s 4)⟩, ⟨4, (some 30), none, .mv (.s 5)⟩, ⟨1, (some 27), none, .load false 1 (.s 26)⟩, ⟨3, (some 29), none, .load false 1 (.s 28)⟩, ⟨5, (some 31), none, .iaddr 1 (.s 29) (.s 30)⟩, ⟨6, (some 32), none, .load false 1 (.s 31)⟩, ⟨7, (some 33), none, .iaddr 5 (.s 27) (.s 32)⟩, ⟨8, (some 34), none, .load true 5 (.s 33)⟩, ⟨9, (some 6), none, .box 0 5 (.k (.a [(.int .i64 0), .nilslice, (.int .i64 0), (.int .i64 0), .nilslice]))⟩, ⟨10, none, none, .store 5 (.s 6) (.s 34)⟩] [(3, 9), (4, 9), (6, 9), (8, 9)] (some [5, 3, 1, 4, 6]))
  (.seq (.seq (.region 0 [⟨0, (some 35), none, .faddr 0 (.s 6)⟩, ⟨1, (some 36), none, .load false 1 (.s 35)⟩, ⟨2, (some 37), none, .faddr 0 (.s 4)⟩, ⟨3, (some 38), none, .load false 1 (.s 37)⟩, ⟨4, (some 39), none, .bin .neq (.s 36) (.s 38)⟩] [] (some [39, 5, 3, 1, 4, 6]))
  (.cond (.s 39) (.seq (.region 0 [⟨0, (some 2), none, .mv (.k (.c (.int .i64 4)))⟩] [] (some [2]))
  .ret)
  .skip))
  (.seq (.region 0 [⟨0, (some 40), none, .faddr 1 (.s 6)⟩, ⟨1, (some 41), none, .faddr 0 (.s 40)⟩, ⟨5, (some 45), none, .faddr 1 (.s 4)⟩, ⟨6, (some 46), none, .faddr 0 (.s 45)⟩, ⟨8, (some 48), none, .faddr 1 (.s 4)⟩, ⟨9, (some 49), none, .faddr 0 (.s 48)⟩, ⟨2, (some 42), none, .load false 1 (.s 41)⟩, ⟨3, (some 43), none, .iaddr 2 (.s 42) (.k (.c (.int .i64 0)))⟩, ⟨4, (some 44), none, .load true 2 (.s 43)⟩, ⟨7, (some 47), none, .load false 1 (.s 46)⟩, ⟨10, (some 50), none, .load false 1 (.s 49)⟩, ⟨11, (some 51), none, .len (.s 50)⟩, ⟨12, (some 52), none, .bin .sub (.s 51) (.k (.c (.int .i64 1)))⟩, ⟨13, (some 53), none, .iaddr 2 (.s 47) (.s 52)⟩, ⟨14, (some 54), none, .load true 2 (.s 53)⟩, ⟨15, (some 55), none, .eqa true [false, false] (.s 44) (.s 54)⟩] [] (some [55, 4, 1, 3, 5]))
  (.cond (.s 55) (.seq (.region 0 [⟨0, (some 2), none, .mv (.k (.c (.int .i64 3)))⟩] [] (some [2]))
  .ret)
  .skip)))))
  (.region 0 [⟨0, (some 24), none, .mv (.s 5)⟩, ⟨1, (some 25), none, .bin .add (.s 24) (.k (.c (.int .i64 1)))⟩, ⟨2, (some 5), none, .mv (.s 25)⟩] [] (some [5, 3, 1, 4]))))
def c_kerbstoneref03_checkNext_l2 : CC := (.seq (.seq (.region 0 [⟨0, (some 7), none, .mv (.s 3)⟩, ⟨1, (some 8), none, .faddr 1 (.s 1)⟩, ⟨2, (some 9), none, .load false 1 (.s 8)⟩, ⟨3, (some 10), none, .len (.s 9)⟩, ⟨4, (some 11), none, .bin .lss (.s 7) (.s 10)⟩] [] (some [11, 3, 1]))
  (.cond (.s 11) .skip
  (.exit 0)))
  (.seq (.block 1 (.seq (.region 1 [⟨0, (some 14), none, .faddr 1 (.s 1)⟩, ⟨1, (some 15), none, .load false 1 (.s 14)⟩, ⟨2, (some 16), none, .mv (.s 3)⟩, ⟨3, (some 17), none, .iaddr 5 (.s 15) (.s 16)⟩, ⟨4, (some 18), none, .load true 5 (.s 17)⟩, ⟨5, (some 4), none, .box 0 5 (.k (.a [(.int .i64 0), .nilslice, (.int .i64 0), (.int .i64 0), .nilslice]))⟩, ⟨6, none, none, .store 5 (.s 4) (.s 18)⟩] [] (some [3, 1, 4]))
  (.seq (.region 0 [⟨0, (some 5), none, .mv (.k (.c (.int .i64 0)))⟩] [] (some [5, 3, 1, 4]))
  (.block 2 (.loop (some [5, 3, 1, 4]) c_kerbstoneref03_checkNext_l1)))))
  (.region 0 [⟨0, (some 12), none, .mv (.s 3)⟩, ⟨1, (some 13), none, .bin .add (.s 12) (.k (.c (.int .i64 1)))⟩, ⟨2, (some 3), none, .mv (.s 13)⟩] [] (some [3, 1]))))
/-- kerbstone/kerbstoneref03.checkNext -/
abbrev f_kerbstoneref03_checkNext : Nat := 141
def c_kerbstoneref03_checkNext : CFn := { frz := true, rnd := none, nargs := 1, ntmps := 56, res := [(.slot 2)], code :=
  (.seq (.region 1 [⟨0, (some 1), none, .box 0 5 (.s 0)⟩, ⟨1, (some 2), none, .mv (.k (.c (.int .i64 0)))⟩] [] (some [1]))
  (.seq (.seq (.region 0 [⟨0, (some 3), none, .mv (.k (.c (.int .i64 0)))⟩] [] (some [3, 1]))
  (.block 0 (.loop (some [3, 1]) c_kerbstoneref03_checkNext_l2)))
  (.seq (.region 0 [⟨0, (some 2), none, .mv (.k (.c (.int .i64 0)))⟩] [] (some [2]))
  .ret))) }
def c_kerbstoneref03_checkSignal_l1 : CC := (.seq (.seq (.region 0 [⟨0, (some 19), none, .mv (.s 6)⟩, ⟨1, (some 20), none, .faddr 1 (.s 3)⟩, ⟨2, (some 21), none, .load false 1 (.s 20)⟩, ⟨3, (some 22), none, .len (.s 21)⟩, ⟨4, (some 23), none, .bin .lss (.s 19) (.s 22)⟩] [] (some [23, 5, 6, 2, 3]))
  (.cond (.s 23) .skip
  (.exit 0)))
  (.seq (.block 1 (.region 0 [⟨0, (some 26), none, .mv (.s 5)⟩, ⟨1, (some 27), none, .mv (.s 26)⟩, ⟨2, (some 28), (some (27, true)), .faddr 1 (.s 3)⟩, ⟨3, (some 29), (some (27, true)), .load false 1 (.s 28)⟩, ⟨4, (some 30), (some (27, true)), .mv (.s 6)⟩, ⟨5, (some 31), (some (27, true)), .iaddr 2 (.s 29) (.s 30)⟩, ⟨6, (some 32), (some (27, true)), .faddr 0 (.s 31)⟩, ⟨7, (some 33), (some (27, true)), .load false 1 (.s 32)⟩, ⟨8, (some 34), (some (27, true)), .call ⟨true⟩ (.k (.c (.fn 139 [] []))) [(.s 33), (.k (.c (.int .i64 1))), (.k (.c (.int .i64 10000)))]⟩, ⟨9, (some 35), none, .pick (.s 27) (.s 34) (.k (.c (.bool false)))⟩, ⟨10, (some 5), none, .mv (.s 35)⟩] [] (some [6, 5, 2, 3])))
  (.region 0 [⟨0, (some 24), none, .mv (.s 6)⟩, ⟨1, (some 25), none, .bin .add (.s 24) (.k (.c (.int .i64 1)))⟩, ⟨2, (some 6), none, .mv (.s 25)⟩] [] (some [5, 6, 2, 3]))))
def c_kerbstoneref03_checkSignal_l2 : CC := (.seq (.seq (.region 0 [⟨0, (some 38), none, .mv (.s 7)⟩, ⟨1, (some 39), none, .faddr 1 (.s 3)⟩, ⟨2, (some 40), none, .load false 1 (.s 39)⟩, ⟨3, (some 41), none, .len (.s 40)⟩, ⟨4, (some 42), none, .bin .lss (.s 38) (.s 41)⟩] [] (some [42, 2, 3, 7]))
  (.cond (.s 42) .skip
  (.exit 2)))
  (.seq (.block 3 (.seq (.region 0 [⟨0, (some 45), none, .faddr 1 (.s 3)⟩, ⟨2, (some 47), none, .mv (.s 7)⟩, ⟨6, (some 51), none, .faddr 1 (.s 2)⟩, ⟨1, (some 46), none, .load false 1 (.s 45)⟩, ⟨3, (some 48), none, .iaddr 2 (.s 46) (.s 47)⟩, ⟨4, (some 49), none, .faddr 1 (.s 48)⟩, ⟨5, (some 50), none, .load false 1 (.s 49)⟩, ⟨7, (some 52), none, .load false 1 (.s 51)⟩, ⟨8, (some 53), none, .len (.s 52)⟩, ⟨9, (some 54), none, .call ⟨true⟩ (.k (.c (.fn 196 [] []))) [(.s 50), (.k (.c (.int .i64 0))), (.s 53)]⟩, ⟨10, (some 55), none, .un .not (.s 54)⟩] [] (some [55, 2, 3, 7]))
  (.cond (.s 55) (.seq (.region 0 [⟨0, (some 4), none, .mv (.k (.c (.int .i64 11)))⟩] [] (some [4]))
  .ret)
  .skip)))
  (.region 0 [⟨0, (some 43), none, .mv (.s 7)⟩, ⟨1, (some 44), none, .bin .add (.s 43) (.k (.c (.int .i64 1)))⟩, ⟨2, (some 7), none, .mv (.s 44)⟩] [] (some [3, 2, 7]))))
/-- kerbstone/kerbstoneref03.checkSignal -/
abbrev f_kerbstoneref03_checkSignal : Nat := 142
def c_kerbstoneref03_checkSignal : CFn := { frz := true, rnd := none, nargs := 2, ntmps := 56, res := [(.slot 4)], code :=
  (.seq (.region 2 [⟨0, (some 2), none, .box 0 5 (.s 0)⟩, ⟨1, (some 3), none, .box 1 2 (.s 1)⟩, ⟨2, (some 4), none, .mv (.k (.c (.int .i64 0)))⟩] [] (some [2, 3]))
  (.seq (.seq (.region 0 [⟨0, (some 8), none, .faddr 1 (.s 3)⟩, ⟨1, (some 9), none, .load false 1 (.s 8)⟩, ⟨2, (some 10), none, .len (.s 9)⟩, ⟨3, (some 11), none, .bin .eql (.s 10) (.k (.c (.int .i64 0)))⟩] [] (some [11, 2, 3]))
  (.cond (.s 11) (.seq (.region 0 [⟨0, (some 4), none, .mv (.k (.c (.int .i64 6)))⟩] [] (some [4]))
  .ret)
  .skip))
  (.seq (.seq (.region 0 [⟨0, (some 12), none, .faddr 1 (.s 3)⟩, ⟨1, (some 13), none, .load false 1 (.s 12)⟩, ⟨2, (some 14), none, .len (.s 13)⟩, ⟨3, (some 15), none, .bin .gtr (.s 14) (.k (.c (.int .i64 6)))⟩] [] (some [15, 3, 2]))
  (.cond (.s 15) (.seq (.region 0 [⟨0, (some 4), none, .mv (.k (.c (.int .i64 8)))⟩] [] (some [4]))
  .ret)
  .skip))
  (.seq (.region 0 [⟨0, (some 16), none, .faddr 0 (.s 3)⟩, ⟨1, (some 17), none, .load false 1 (.s 16)⟩, ⟨2, (some 18), none, .call ⟨true⟩ (.k (.c (.fn 139 [] []))) [(.s 17), (.k (.c (.int .i64 0))), (.k (.c (.int .i64 1099511627776)))]⟩, ⟨3, (some 5), none, .mv (.s 18)⟩] [] (some [5, 2, 3]))
  (.seq (.seq (.region 0 [⟨0, (some 6), none, .mv (.k (.c (.int .i64 0)))⟩] [] (some [5, 6, 2, 3]))
  (.block 0 (.loop (some [5, 6, 2, 3]) c_kerbstoneref03_checkSignal_l1)))
  (.seq (.seq (.region 0 [⟨0, (some 36), none, .mv (.s 5)⟩, ⟨1, (some 37), none, .un .not (.s 36)⟩] [] (some [37, 2, 3]))
  (.cond (.s 37) (.seq (.region 0 [⟨0, (some 4), none, .mv (.k (.c (.int .i64 2)))⟩] [] (some [4]))
  .ret)
  .skip))
  (.seq (.seq (.region 0 [⟨0, (some 7), none, .mv (.k (.c (.int .i64 0)))⟩] [] (some [3, 2, 7]))
  (.block 2 (.loop (some [3, 2, 7]) c_kerbstoneref03_checkSignal_l2)))
  (.seq (.region 0 [⟨0, (some 4), none, .mv (.k (.c (.int .i64 0)))⟩] [] (some [4]))
  .ret)))))))) }
def c_kerbstoneref03_checkZone_l1 : CC := (.seq (.seq (.region 0 [⟨0, (some 28), none, .mv (.s 6)⟩, ⟨1, (some 29), none, .faddr 0 (.s 3)⟩, ⟨2, (some 30), none, .load false 1 (.s 29)⟩, ⟨3, (some 31), none, .len (.s 30)⟩, ⟨4, (some 32), none, .bin .lss (.s 28) (.s 31)⟩] [] (some [32, 5, 6, 2, 3]))
  (.cond (.s 32) .skip
  (.exit 0)))
  (.seq (.block 1 (.region 1 [⟨0, (some 35), none, .mv (.s 5)⟩, ⟨1, (some 36), none, .faddr 0 (.s 3)⟩, ⟨2, (some 37), none, .load false 1 (.s 36)⟩, ⟨3, (some 38), none, .mv (.s 6)⟩, ⟨4, (some 39), none, .iaddr 4 (.s 37) (.s 38)⟩, ⟨5, (some 40), none, .faddr 0 (.s 39)⟩, ⟨6, (some 41), none, .load false 1 (.s 40)⟩, ⟨7, (some 42), none, .lit 0 1 [[(.int .i64 0)]] [(0, (.s 41))]⟩, ⟨8, (some 43), none, .append 1 8 (.s 35) (.s 42)⟩, ⟨9, (some 5), none, .mv (.s 43)⟩] [] (some [6, 5, 2, 3])))
  (.region 0 [⟨0, (some 33), none, .mv (.s 6)⟩, ⟨1, (some 34), none, .bin .add (.s 33) (.k (.c (.int .i64 1)))⟩, ⟨2, (some 6), none, .mv (.s 34)⟩] [] (some [5, 6, 2, 3]))))
def c_kerbstoneref03_checkZone_l2 : CC := (.seq (.seq (.region 0 [⟨0, (some 50), none, .mv (.s 7)⟩, ⟨1, (some 51), none, .faddr 0 (.s 3)⟩, ⟨2, (some 52), none, .load false 1 (.s 51)⟩, ⟨3, (some 53), none, .len (.s 52)⟩, ⟨4, (some 54), none, .bin .lss (.s 50) (.s 53)⟩] [] (some [54, 2, 3, 7]))
  (.cond (.s 54) .skip
  (.exit 2)))
  (.seq (.block 3 (.seq (.region 1 [⟨0, (some 57), none, .faddr 0 (.s 3)⟩, ⟨1, (some 58), none, .load false 1 (.s 57)⟩, ⟨2, (some 59), none, .mv (.s 7)⟩, ⟨3, (some 60), none, .iaddr 4 (.s 58) (.s 59)⟩, ⟨4, (some 61), none, .load true 4 (.s 60)⟩, ⟨5, (some 8), none, .box 0 4 (.k (.a [(.int .i64 0), (.int .i64 0), (.int .i64 0), (.int .i64 0)]))⟩, ⟨6, none, none, .store 4 (.s 8) (.s 61)⟩] [] (some [8, 2, 3, 7]))
  (.seq (.region 0 [⟨0, (some 62), none, .faddr 1 (.s 8)⟩, ⟨1, (some 63), none, .load false 1 (.s 62)⟩, ⟨2, (some 64), none, .bin .lss (.s 63) (.k (.c (.int .i64 0)))⟩, ⟨3, (some 65), none, .mv (.s 64)⟩, ⟨4, (some 66), (some (65, false)), .faddr 1 (.s 8)⟩, ⟨6, (some 68), (some (65, false)), .faddr 2 (.s 8)⟩, ⟨5, (some 67), (some (65, false)), .load false 1 (.s 66)⟩, ⟨7, (some 69), (some (65, false)), .load false 1 (.s 68)⟩, ⟨8, (some 70), (some (65, false)), .bin .geq (.s 67) (.s 69)⟩, ⟨9, (some 71), none, .pick (.s 65) (.k (.c (.bool true))) (.s 70)⟩, ⟨10, (some 72), none, .mv (.s 71)⟩, ⟨11, (some 73), (some (72, false)), .faddr 2 (.s 8)⟩, ⟨13, (some 75), (some (72, false)), .faddr 1 (.s 2)⟩, ⟨15, (some 77), (some (72, false)), .faddr 0 (.s 8)⟩, ⟨12, (some 74), (some (72, false)), .load false 1 (.s 73)⟩, ⟨14, (some 76), (some (72, false)), .load false 1 (.s 75)⟩, ⟨16, (some 78), (some (72, false)), .load false 1 (.s 77)⟩, ⟨17, (some 79), (some (72, false)), .iaddr 5 (.s 76) (.s 78)⟩, ⟨18, (some 80), (some (72, false)), .faddr 1 (.s 79)⟩, ⟨19, (some 81), (some (72, false)), .load true 1 (.s 80)⟩, ⟨20, (some 82), (some (72, false)), .call ⟨true⟩ (.k (.c (.fn 116 [] []))) [(.s 81)]⟩, ⟨21, (some 83), (some (72, false)), .bin .gtr (.s 74) (.s 82)⟩, ⟨22, (some 84), none, .pick (.s 72) (.k (.c (.bool true))) (.s 83)⟩, ⟨23, (some 85), none, .mv (.s 84)⟩, ⟨24, (some 86), (some (85, false)), .faddr 3 (.s 8)⟩, ⟨25, (some 87), (some (85, false)), .load false 1 (.s 86)⟩, ⟨26, (some 88), (some (85, false)), .bin .lss (.s 87) (.k (.c (.int .i64 0)))⟩, ⟨27, (some 89), none, .pick (.s 85) (.k (.c (.bool true))) (.s 88)⟩, ⟨28, (some 90), none, .mv (.s 89)⟩, ⟨29, (some 91), (some (90, false)), .faddr 3 (.s 8)⟩, ⟨30, (some 92), (some (90, false)), .load false 1 (.s 91)⟩, ⟨31, (some 93), (some (90, false)), .bin .gtr (.s 92) (.k (.c (.int .i64 100)))⟩, ⟨32, (some 94), none, .pick (.s 90) (.k (.c (.bool true))) (.s 93)⟩] [(14, 20)] (some [94, 2, 3, 7]))
  (.cond (.s 94) (.seq (.region 0 [⟨0, (some 4), none, .mv (.k (.c (.int .i64 2)))⟩] [] (some [4]))
  .ret)
  .skip))))
  (.region 0 [⟨0, (some 55), none, .mv (.s 7)⟩, ⟨1, (some 56), none, .bin .add (.s 55) (.k (.c (.int .i64 1)))⟩, ⟨2, (some 7), none, .mv (.s 56)⟩] [] (some [3, 2, 7]))))
/-- kerbstone/kerbstoneref03.checkZone -/
abbrev f_kerbstoneref03_checkZone : Nat := 143
def c_kerbstoneref03_checkZone : CFn := { frz := true, rnd := none, nargs := 2, ntmps := 95, res := [(.slot 4)], code :=
  (.seq (.region 2 [⟨0, (some 2), none, .box 0 5 (.s 0)⟩, ⟨1, (some 3), none, .box 1 2 (.s 1)⟩, ⟨2, (some 4), none, .mv (.k (.c (.int .i64 0)))⟩] [] (some [3, 2]))
  (.seq (.seq (.region 0 [⟨0, (some 9), none, .faddr 0 (.s 3)⟩, ⟨1, (some 10), none, .load false 1 (.s 9)⟩, ⟨2, (some 11), none, .len (.s 10)⟩, ⟨3, (some 12), none, .bin .lss (.s 11) (.k (.c (.int .i64 2)))⟩] [] (some [12, 3, 2]))
  (.cond (.s 12) (.seq (.region 0 [⟨0, (some 4), none, .mv (.k (.c (.int .i64 6)))⟩] [] (some [4]))
  .ret)
  .skip))
  (.seq (.seq (.region 0 [⟨0, (some 13), none, .faddr 0 (.s 3)⟩, ⟨1, (some 14), none, .load false 1 (.s 13)⟩, ⟨2, (some 15), none, .len (.s 14)⟩, ⟨3, (some 16), none, .bin .gtr (.s 15) (.k (.c (.int .i64 6)))⟩] [] (some [16, 2, 3]))
  (.cond (.s 16) (.seq (.region 0 [⟨0, (some 4), none, .mv (.k (.c (.int .i64 8)))⟩] [] (some [4]))
  .ret)
  .skip))
  (.seq (.seq (.region 0 [⟨0, (some 17), none, .faddr 1 (.s 3)⟩, ⟨1, (some 18), none, .load false 1 (.s 17)⟩, ⟨2, (some 19), none, .bin .lss (.s 18) (.k (.c (.int .i64 0)))⟩, ⟨3, (some 20), none, .mv (.s 19)⟩, ⟨4, (some 21), (some (20, false)), .faddr 1 (.s 3)⟩, ⟨5, (some 22), (some (20, false)), .load false 1 (.s 21)⟩, ⟨6, (some 23), (some (20, false)), .faddr 3 (.s 2)⟩, ⟨7, (some 24), (some (20, false)), .load false 1 (.s 23)⟩, ⟨8, (some 25), (some (20, false)), .len (.s 24)⟩, ⟨9, (some 26), (some (20, false)), .bin .gtr (.s 22) (.s 25)⟩, ⟨10, (some 27), none, .pick (.s 20) (.k (.c (.bool true))) (.s 26)⟩] [] (some [27, 3, 2]))
  (.cond (.s 27) (.seq (.region 0 [⟨0, (some 4), none, .mv (.k (.c (.int .i64 2)))⟩] [] (some [4]))
  .ret)
  .skip))
  (.seq (.region 1 [⟨0, (some 5), none, .newsl 0 1⟩] [] (some [5, 2, 3]))
  (.seq (.seq (.region 0 [⟨0, (some 6), none, .mv (.k (.c (.int .i64 0)))⟩] [] (some [5, 6, 2, 3]))
  (.block 0 (.loop (some [5, 6, 2, 3]) c_kerbstoneref03_checkZone_l1)))
  (.seq (.seq (.region 0 [⟨0, (some 44), none, .mv (.s 5)⟩, ⟨1, (some 45), none, .faddr 1 (.s 2)⟩, ⟨2, (some 46), none, .load false 1 (.s 45)⟩, ⟨3, (some 47), none, .len (.s 46)⟩, ⟨4, (some 48), none, .call ⟨true⟩ (.k (.c (.fn 196 [] []))) [(.s 44), (.k (.c (.int .i64 0))), (.s 47)]⟩, ⟨5, (some 49), none, .un .not (.s 48)⟩] [] (some [49, 2, 3]))
  (.cond (.s 49) (.seq (.region 0 [⟨0, (some 4), none, .mv (.k (.c (.int .i64 11)))⟩] [] (some [4]))
  .ret)
  .skip))
  (.seq (.seq (.region 0 [⟨0, (some 7), none, .mv (.k (.c (.int .i64 0)))⟩] [] (some [3, 2, 7]))
  (.block 2 (.loop (some [3, 2, 7]) c_kerbstoneref03_checkZone_l2)))
  (.seq (.region 0 [⟨0, (some 4), none, .mv (.k (.c (.int .i64 0)))⟩] [] (some [4]))
  .ret))))))))) }
/-- kerbstone/kerbstoneref03.checkWork -/
abbrev f_kerbstoneref03_checkWork : Nat := 144
def c_kerbstoneref03_checkWork : CFn := { frz := true, rnd := none, nargs := 2, ntmps := 75, res := [(.slot 4)], code :=
  (.seq (.region 2 [⟨0, (some 2), none, .box 0 5 (.s 0)⟩, ⟨1, (some 3), none, .box 1 6 (.s 1)⟩, ⟨2, (some 4), none, .mv (.k (.c (.int .i64 0)))⟩] [] (some [3, 2]))
  (.seq (.seq (.region 0 [⟨0, (some 9), none, .faddr 0 (.s 3)⟩, ⟨1, (some 10), none, .load false 1 (.s 9)⟩, ⟨2, (some 11), none, .bin .lss (.s 10) (.k (.c (.int .i64 0)))⟩, ⟨3, (some 12), none, .mv (.s 11)⟩, ⟨4, (some 13), (some (12, false)), .faddr 0 (.s 3)⟩, ⟨5, (some 14), (some (12, false)), .load false 1 (.s 13)⟩, ⟨6, (some 15), (some (12, false)), .faddr 1 (.s 2)⟩, ⟨7, (some 16), (some (12, false)), .load false 1 (.s 15)⟩, ⟨8, (some 17), (some (12, false)), .len (.s 16)⟩, ⟨9, (some 18), (some (12, false)), .bin .geq (.s 14) (.s 17)⟩, ⟨10, (some 19), none, .pick (.s 12) (.k (.c (.bool true))) (.s 18)⟩] [] (some [19, 3, 2]))
  (.cond (.s 19) (.seq (.region 0 [⟨0, (some 4), none, .mv (.k (.c (.int .i64 7)))⟩] [] (some [4]))
  .ret)
  .skip))
  (.seq (.region 1 [⟨0, (some 20), none, .faddr 1 (.s 2)⟩, ⟨1, (some 21), none, .load false 1 (.s 20)⟩, ⟨2, (some 22), none, .faddr 0 (.s 3)⟩, ⟨3, (some 23), none, .load false 1 (.s 22)⟩, ⟨4, (some 24), none, .iaddr 5 (.s 21) (.s 23)⟩, ⟨5, (some 25), none, .load true 5 (.s 24)⟩, ⟨6, (some 5), none, .box 0 5 (.k (.a [(.int .i64 0), .nilslice, (.int .i64 0), (.int .i64 0), .nilslice]))⟩, ⟨7, none, none, .store 5 (.s 5) (.s 25)⟩] [] (some [5, 3]))
  (.seq (.region 0 [⟨0, (some 27), none, .faddr 0 (.s 5)⟩, ⟨1, (some 28), none, .load false 1 (.s 27)⟩, ⟨2, (some 29), none, .call ⟨true⟩ (.k (.c (.fn 57 [] []))) [(.s 28)]⟩, ⟨3, (some 26), none, .mv (.s 29)⟩, ⟨4, (some 30), none, .extract 26 0⟩, ⟨5, (some 31), none, .extract 26 1⟩, ⟨6, (some 32), none, .extract 26 2⟩, ⟨7, (some 6), none, .mv (.s 30)⟩, ⟨8, (some 7), none, .mv (.s 31)⟩, ⟨9, (some 8), none, .mv (.s 32)⟩] [] (some [5, 3, 6]))
  (.seq (.seq (.region 0 [⟨0, (some 33), none, .faddr 1 (.s 3)⟩, ⟨1, (some 34), none, .load false 1 (.s 33)⟩, ⟨2, (some 35), none, .bin .lss (.s 34) (.k (.c (.int .i64 0)))⟩, ⟨3, (some 36), none, .mv (.s 35)⟩, ⟨4, (some 37), (some (36, false)), .faddr 1 (.s 3)⟩, ⟨6, (some 39), (some (36, false)), .faddr 2 (.s 3)⟩, ⟨5, (some 38), (some (36, false)), .load false 1 (.s 37)⟩, ⟨7, (some 40), (some (36, false)), .load false 1 (.s 39)⟩, ⟨8, (some 41), (some (36, false)), .bin .gtr (.s 38) (.s 40)⟩, ⟨9, (some 42), none, .pick (.s 36) (.k (.c (.bool true))) (.s 41)⟩, ⟨10, (some 43), none, .mv (.s 42)⟩, ⟨11, (some 44), (some (43, false)), .faddr 2 (.s 3)⟩, ⟨13, (some 46), (some (43, false)), .faddr 1 (.s 5)⟩, ⟨12, (some 45), (some (43, false)), .load false 1 (.s 44)⟩, ⟨14, (some 47), (some (43, false)), .load true 1 (.s 46)⟩, ⟨15, (some 48), (some (43, false)), .call ⟨true⟩ (.k (.c (.fn 116 [] []))) [(.s 47)]⟩, ⟨16, (some 49), (some (43, false)), .bin .gtr (.s 45) (.s 48)⟩, ⟨17, (some 50), none, .pick (.s 43) (.k (.c (.bool true))) (.s 49)⟩, ⟨18, (some 51), none, .mv (.s 50)⟩, ⟨19, (some 52), (some (51, false)), .faddr 3 (.s 3)⟩, ⟨20, (some 53), (some (51, false)), .load false 1 (.s 52)⟩, ⟨21, (some 54), (some (51, false)), .bin .lss (.s 53) (.k (.c (.int .i64 0)))⟩, ⟨22, (some 55), none, .pick (.s 51) (.k (.c (.bool true))) (.s 54)⟩, ⟨23, (some 56), none, .mv (.s 55)⟩, ⟨24, (some 57), (some (56, false)), .faddr 3 (.s 3)⟩, ⟨26, (some 59), (some (56, false)), .faddr 4 (.s 3)⟩, ⟨25, (some 58), (some (56, false)), .load false 1 (.s 57)⟩, ⟨27, (some 60), (some (56, false)), .load false 1 (.s 59)⟩, ⟨28, (some 61), (some (56, false)), .bin .geq (.s 58) (.s 60)⟩, ⟨29, (some 62), none, .pick (.s 56) (.k (.c (.bool true))) (.s 61)⟩, ⟨30, (some 63), none, .mv (.s 62)⟩, ⟨31, (some 64), (some (63, false)), .faddr 4 (.s 3)⟩, ⟨32, (some 65), (some (63, false)), .load false 1 (.s 64)⟩, ⟨33, (some 66), (some (63, false)), .bin .gtr (.s 65) (.k (.c (.int .i64 1099511627776)))⟩, ⟨34, (some 67), none, .pick (.s 63) (.k (.c (.bool true))) (.s 66)⟩, ⟨35, (some 68), none, .mv (.s 67)⟩, ⟨36, (some 69), (some (68, false)), .faddr 5 (.s 3)⟩, ⟨38, (some 71), (some (68, false)), .mv (.s 6)⟩, ⟨37, (some 70), (some (68, false)), .load false 1 (.s 69)⟩, ⟨39, (some 72), (some (68, false)), .call ⟨true⟩ (.k (.c (.fn 139 [] []))) [(.s 70), (.k (.c (.int .i64 0))), (.s 71)]⟩, ⟨40, (some 73), (some (68, false)), .un .not (.s 72)⟩, ⟨41, (some 74), none, .pick (.s 68) (.k (.c (.bool true))) (.s 73)⟩] [(13, 15)] (some [74]))
  (.cond (.s 74) (.seq (.region 0 [⟨0, (some 4), none, .mv (.k (.c (.int .i64 2)))⟩] [] (some [4]))
  .ret)
  .skip))
  (.seq (.region 0 [⟨0, (some 4), none, .mv (.k (.c (.int .i64 0)))⟩] [] (some [4]))
  .ret)))))) }
/-- kerbstone/kerbstoneref03.Long -/
abbrev f_kerbstoneref03_Long : Nat := 145
def c_kerbstoneref03_Long : CFn := { frz := true, rnd := none, nargs := 2, ntmps := 8, res := [(.slot 4)], code :=
  (.seq (.region 1 [⟨0, (some 2), none, .box 0 5 (.s 0)⟩, ⟨1, (some 4), none, .mv (.k (.c (.int .i64 0)))⟩] [] (some [2, 1]))
  (.seq (.region 0 [⟨0, (some 5), none, .load true 5 (.s 2)⟩, ⟨1, (some 6), none, .mv (.s 1)⟩, ⟨2, (some 7), none, .call ⟨true⟩ (.k (.c (.fn 62 [] []))) [(.s 5), (.s 6)]⟩, ⟨3, (some 4), none, .mv (.s 7)⟩] [] (some [4]))
  .ret)) }
/-- kerbstone/motion.ends[kerbstone/api.Blob] -/
abbrev f_motion_ends_Blob : Nat := 147
def c_motion_ends_Blob : CFn := { frz := true, rnd := none, nargs := 1, ntmps := 35, res := [(.slot 2), (.slot 3), (.slot 4)], code :=
  (.seq (.region 0 [⟨0, (some 2), none, .mv (.k (.c (.int .i64 0)))⟩, ⟨1, (some 3), none, .mv (.k (.c .nilptr))⟩, ⟨2, (some 4), none, .mv (.k (.c .nilptr))⟩] [] (some [0]))
  (.seq (.seq (.region 0 [⟨0, (some 7), none, .mv (.s 0)⟩, ⟨1, (some 8), none, .p1 (.mkif 143) (.s 7)⟩] [] (some [8]))
  (.block 0 (.seq (.region 0 [⟨0, (some 9), none, .p1 (.tass true 143 (.c .nilptr)) (.s 8)⟩, ⟨1, (some 10), none, .extract 9 1⟩, ⟨2, (some 11), none, .extract 9 0⟩] [] (some [10, 8, 11]))
  (.cond (.s 10) (.seq (.region 0 [⟨0, (some 5), none, .mv (.s 11)⟩] [] (some [5]))
  (.seq (.region 0 [⟨0, (some 12), none, .mv (.s 5)⟩, ⟨1, (some 13), none, .nilck (.s 12)⟩, ⟨2, (some 14), none, .faddr 0 (.s 13)⟩, ⟨4, (some 16), none, .mv (.s 5)⟩, ⟨5, (some 17), none, .nilck (.s 16)⟩, ⟨6, (some 18), none, .faddr 1 (.s 17)⟩, ⟨7, (some 19), none, .mv (.s 5)⟩, ⟨8, (some 20), none, .nilck (.s 19)⟩, ⟨9, (some 21), none, .faddr 2 (.s 20)⟩, ⟨3, (some 15), none, .load false 1 (.s 14)⟩, ⟨10, (some 2), none, .mv (.s 15)⟩, ⟨11, (some 3), none, .mv (.s 18)⟩, ⟨12, (some 4), none, .mv (.s 21)⟩] [] (some [2, 3, 4]))
  .ret))
  (.seq (.region 0 [⟨0, (some 22), none, .p1 (.tass true 168 (.c .nilptr)) (.s 8)⟩, ⟨1, (some 23), none, .extract 22 1⟩, ⟨2, (some 24), none, .extract 22 0⟩] [] (some [23, 24]))
  (.cond (.s 23) (.seq (.region 0 [⟨0, (some 6), none, .mv (.s 24)⟩] [] (some [6]))
  (.seq (.region 0 [⟨0, (some 25), none, .mv (.s 6)⟩, ⟨1, (some 26), none, .nilck (.s 25)⟩, ⟨2, (some 27), none, .faddr 0 (.s 26)⟩, ⟨4, (some 29), none, .mv (.s 6)⟩, ⟨5, (some 30), none, .nilck (.s 29)⟩, ⟨6, (some 31), none, .faddr 1 (.s 30)⟩, ⟨7, (some 32), none, .mv (.s 6)⟩, ⟨8, (some 33), none, .nilck (.s 32)⟩, ⟨9, (some 34), none, .faddr 2 (.s 33)⟩, ⟨3, (some 28), none, .load false 1 (.s 27)⟩, ⟨10, (some 2), none, .mv (.s 28)⟩, ⟨11, (some 3), none, .mv (.s 31)⟩, ⟨12, (some 4), none, .mv (.s 34)⟩] [] (some [2, 3, 4]))
  .ret))
  .skip))))))
  (.seq (.region 0 [⟨0, (some 2), none, .mv (.k (.c (.int .i64 0)))⟩, ⟨1, (some 3), none, .mv (.k (.c .nilptr))⟩, ⟨2, (some 4), none, .mv (.k (.c .nilptr))⟩] [] (some [2, 3, 4]))
  .ret))) }
def c_slices_DeleteFunc_Blob_l1 : CC := (.seq (.seq (.region 0 [⟨0, (some 16), none, .mv (.s 6)⟩, ⟨1, (some 17), none, .mv (.s 0)⟩, ⟨2, (some 18), none, .len (.s 17)⟩, ⟨3, (some 19), none, .bin .lss (.s 16) (.s 18)⟩] [] (some [19, 5, 6, 1, 0]))
  (.cond (.s 19) .skip
  (.exit 0)))
  (.seq (.block 1 (.seq (.region 1 [⟨0, (some 22), none, .mv (.s 0)⟩, ⟨1, (some 23), none, .mv (.s 6)⟩, ⟨2, (some 24), none, .iaddr 6 (.s 22) (.s 23)⟩, ⟨3, (some 25), none, .load true 6 (.s 24)⟩, ⟨4, (some 7), none, .box 0 6 (.k (.a [(.int .i64 0), (.int .i64 0), (.int .i64 0), (.int .i64 0), (.int .i64 0), (.int .i64 0)]))⟩, ⟨5, none, none, .store 6 (.s 7) (.s 25)⟩] [] (some [7, 5, 6, 1, 0]))
  (.seq (.region 0 [⟨0, (some 26), none, .mv (.s 1)⟩, ⟨1, (some 27), none, .load true 6 (.s 7)⟩, ⟨2, (some 28), none, .call ⟨true⟩ (.s 26) [(.s 27)]⟩, ⟨3, (some 29), none, .un .not (.s 28)⟩] [] (some [29, 7, 5, 6, 1, 0]))
  (.cond (.s 29) (.seq (.region 0 [⟨0, (some 30), none, .mv (.s 0)⟩, ⟨1, (some 31), none, .mv (.s 5)⟩, ⟨2, (some 32), none, .load true 6 (.s 7)⟩, ⟨3, (some 33), none, .iaddr 6 (.s 30) (.s 31)⟩, ⟨4, none, none, .store 6 (.s 33) (.s 32)⟩] [] (some [5, 6, 1, 0]))
  (.region 0 [⟨0, (some 34), none, .mv (.s 5)⟩, ⟨1, (some 35), none, .bin .add (.s 34) (.k (.c (.int .i64 1)))⟩, ⟨2, (some 5), none, .mv (.s 35)⟩] [] (some [6, 5, 1, 0])))
  .skip))))
  (.region 0 [⟨0, (some 20), none, .mv (.s 6)⟩, ⟨1, (some 21), none, .bin .add (.s 20) (.k (.c (.int .i64 1)))⟩, ⟨2, (some 6), none, .mv (.s 21)⟩] [] (some [5, 6, 1, 0]))))
/-- slices.DeleteFunc[[]kerbstone/api.Blob,kerbstone/api.Blob] -/
abbrev f_slices_DeleteFunc_Blob : Nat := 153
def c_slices_DeleteFunc_Blob : CFn := { frz := false, rnd := none, nargs := 2, ntmps := 42, res := [(.slot 4)], code :=
  (.seq (.region 1 [⟨0, (some 4), none, .newsl 0 6⟩] [] (some [1, 0]))
  (.seq (.region 0 [⟨0, (some 8), none, .mv (.s 0)⟩, ⟨1, (some 9), none, .mv (.s 1)⟩, ⟨2, (some 10), none, .call ⟨true⟩ (.k (.c (.fn 131 [] []))) [(.s 8), (.s 9)]⟩, ⟨3, (some 5), none, .mv (.s 10)⟩] [] (some [1, 5, 0]))
  (.seq (.seq (.region 0 [⟨0, (some 11), none, .mv (.s 5)⟩, ⟨1, (some 12), none, .bin .eql (.s 11) (.k (.c (.int .i64 (-1))))⟩] [] (some [12, 1, 5, 0]))
  (.cond (.s 12) (.seq (.region 0 [⟨0, (some 13), none, .mv (.s 0)⟩, ⟨1, (some 4), none, .mv (.s 13)⟩] [] (some [4]))
  .ret)
  .skip))
  (.seq (.seq (.region 0 [⟨0, (some 14), none, .mv (.s 5)⟩, ⟨1, (some 15), none, .bin .add (.s 14) (.k (.c (.int .i64 1)))⟩, ⟨2, (some 6), none, .mv (.s 15)⟩] [] (some [5, 6, 1, 0]))
  (.block 0 (.loop (some [5, 6, 1, 0]) c_slices_DeleteFunc_Blob_l1)))
  (.seq (.region 0 [⟨0, (some 36), none, .mv (.s 0)⟩, ⟨1, (some 37), none, .mv (.s 5)⟩, ⟨2, (some 38), none, .slice 6 (.s 36) (some (.s 37)) none none⟩, ⟨3, none, none, .clear [(.int .i64 0), (.int .i64 0), (.int .i64 0), (.int .i64 0), (.int .i64 0), (.int .i64 0)] (.s 38)⟩] [] (some [0, 5]))
  (.seq (.region 0 [⟨0, (some 39), none, .mv (.s 0)⟩, ⟨1, (some 40), none, .mv (.s 5)⟩, ⟨2, (some 41), none, .slice 6 (.s 39) none (some (.s 40)) none⟩, ⟨3, (some 4), none, .mv (.s 41)⟩] [] (some [4]))
  .ret)))))) }
/-- kerbstone/motion.Join$1 -/
abbrev f_motion_Join_1 : Nat := 154
def c_motion_Join_1 : CFn := { frz := true, rnd := none, nargs := 1, ntmps := 8, res := [(.slot 2)], code :=
  (.seq (.region 1 [⟨0, (some 1), none, .box 0 6 (.s 0)⟩, ⟨1, (some 2), none, .mv (.k (.c (.bool false)))⟩] [] (some [1]))
  (.seq (.region 0 [⟨0, (some 3), none, .faddr 1 (.s 1)⟩, ⟨1, (some 4), none, .load false 1 (.s 3)⟩, ⟨2, (some 5), none, .faddr 2 (.s 1)⟩, ⟨3, (some 6), none, .load false 1 (.s 5)⟩, ⟨4, (some 7), none, .bin .gtr (.s 4) (.s 6)⟩, ⟨5, (some 2), none, .mv (.s 7)⟩] [] (some [2]))
  .ret)) }
/-- slices.SortStableFunc[[]kerbstone/api.Blob,kerbstone/api.Blob] -/
abbrev f_slices_SortStableFunc_Blob : Nat := 155
def c_slices_SortStableFunc_Blob : CFn := { frz := true, rnd := none, nargs := 2, ntmps := 9, res := [], code :=
  (.region 0 [⟨0, (some 4), none, .mv (.s 0)⟩, ⟨1, (some 5), none, .mv (.s 0)⟩, ⟨2, (some 6), none, .len (.s 5)⟩, ⟨3, (some 7), none, .mv (.s 1)⟩, ⟨4, (some 8), none, .call ⟨false⟩ (.k (.c (.fn 202 [] []))) [(.s 4), (.s 6), (.s 7)]⟩] [] (some [])) }
/-- kerbstone/motion.Join$2 -/
abbrev f_motion_Join_2 : Nat := 156
def c_motion_Join_2 : CFn := { frz := true, rnd := none, nargs := 2, ntmps := 17, res := [(.slot 4)], code :=
  (.seq (.region 2 [⟨0, (some 2), none, .box 0 6 (.s 0)⟩, ⟨1, (some 3), none, .box 1 6 (.s 1)⟩, ⟨2, (some 4), none, .mv (.k (.c (.int .i64 0)))⟩] [] (some [2, 3]))
  (.seq (.region 1 [⟨0, (some 5), none, .faddr 0 (.s 2)⟩, ⟨2, (some 7), none, .faddr 0 (.s 3)⟩, ⟨5, (some 10), none, .faddr 1 (.s 2)⟩, ⟨7, (some 12), none, .faddr 1 (.s 3)⟩, ⟨1, (some 6), none, .load false 1 (.s 5)⟩, ⟨3, (some 8), none, .load false 1 (.s 7)⟩, ⟨6, (some 11), none, .load false 1 (.s 10)⟩, ⟨8, (some 13), none, .load false 1 (.s 12)⟩, ⟨4, (some 9), none, .call ⟨true⟩ (.k (.c (.fn 158 [] []))) [(.s 6), (.s 8)]⟩, ⟨9, (some 14), none, .call ⟨true⟩ (.k (.c (.fn 83 [] []))) [(.s 11), (.s 13)]⟩, ⟨10, (some 15), none, .lit 0 1 [[(.int .i64 0)], [(.int .i64 0)]] [(0, (.s 9)), (1, (.s 14))]⟩, ⟨11, (some 16), none, .call ⟨true⟩ (.k (.c (.fn 157 [] []))) [(.s 15)]⟩, ⟨12, (some 4), none, .mv (.s 16)⟩] [(6, 8), (7, 8)] (some [4]))
  .ret)) }
def c_cmp_Or_int_l1 : CC := (.seq (.region 0 [⟨0, (some 9), none, .bin .lss (.s 8) (.s 7)⟩] [] (some [9, 3, 6, 7, 8]))
  (.seq (.cond (.s 9) .skip
  (.exit 0))
  (.seq (.block 1 (.seq (.region 0 [⟨0, (some 10), none, .iaddr 1 (.s 6) (.s 8)⟩, ⟨1, (some 11), none, .load false 1 (.s 10)⟩, ⟨2, (some 5), none, .mv (.s 11)⟩] [] (some [3, 6, 7, 8, 5]))
  (.seq (.region 0 [⟨0, (some 12), none, .mv (.s 5)⟩, ⟨1, (some 13), none, .mv (.s 3)⟩, ⟨2, (some 14), none, .bin .neq (.s 12) (.s 13)⟩] [] (some [14, 3, 6, 7, 8, 5]))
  (.cond (.s 14) (.seq (.region 0 [⟨0, (some 15), none, .mv (.s 5)⟩, ⟨1, (some 2), none, .mv (.s 15)⟩] [] (some [2]))
  .ret)
  .skip))))
  (.region 0 [⟨0, (some 16), none, .bin .add (.s 8) (.k (.c (.int .i64 1)))⟩, ⟨1, (some 8), none, .mv (.s 16)⟩] [] (some [7, 6, 3, 8])))))
/-- cmp.Or[int] -/
abbrev f_cmp_Or_int : Nat := 157
def c_cmp_Or_int : CFn := { frz := true, rnd := none, nargs := 1, ntmps := 18, res := [(.slot 2)], code :=
  (.seq (.region 0 [⟨0, (some 2), none, .mv (.k (.c (.int .i64 0)))⟩] [] (some [0]))
  (.seq (.region 0 [⟨0, (some 3), none, .mv (.k (.c (.int .i64 0)))⟩] [] (some [0, 3]))
  (.seq (.seq (.region 0 [⟨0, (some 6), none, .mv (.s 0)⟩, ⟨1, (some 7), none, .len (.s 6)⟩, ⟨2, (some 8), none, .mv (.k (.c (.int .i64 0)))⟩] [] (some [7, 6, 3, 8]))
  (.block 0 (.loop (some [7, 6, 3, 8]) c_cmp_Or_int_l1)))
  (.seq (.region 0 [⟨0, (some 17), none, .mv (.s 3)⟩, ⟨1, (some 2), none, .mv (.s 17)⟩] [] (some [2]))
  .ret)))) }
/-- cmp.Compare[int] -/
abbrev f_cmp_Compare_int : Nat := 158
def c_cmp_Compare_int : CFn := { frz := true, rnd := none, nargs := 2, ntmps := 20, res := [(.slot 4)], code :=
  (.seq (.region 0 [⟨0, (some 4), none, .mv (.k (.c (.int .i64 0)))⟩] [] (some [1, 0]))
  (.seq (.region 0 [⟨0, (some 7), none, .mv (.s 0)⟩, ⟨1, (some 8), none, .call ⟨true⟩ (.k (.c (.fn 203 [] []))) [(.s 7)]⟩, ⟨2, (some 5), none, .mv (.s 8)⟩] [] (some [5, 1, 0]))
  (.seq (.region 0 [⟨0, (some 9), none, .mv (.s 1)⟩, ⟨1, (some 10), none, .call ⟨true⟩ (.k (.c (.fn 203 [] []))) [(.s 9)]⟩, ⟨2, (some 6), none, .mv (.s 10)⟩] [] (some [5, 1, 0, 6]))
  (.seq (.seq (.region 0 [⟨0, (some 11), none, .mv (.s 5)⟩] [] (some [11, 1, 0, 6]))
  (.cond (.s 11) (.seq (.seq (.region 0 [⟨0, (some 12), none, .mv (.s 6)⟩] [] (some [12]))
  (.cond (.s 12) (.seq (.region 0 [⟨0, (some 4), none, .mv (.k (.c (.int .i64 0)))⟩] [] (some [4]))
  .ret)
  .skip))
  (.seq (.region 0 [⟨0, (some 4), none, .mv (.k (.c (.int .i64 (-1))))⟩] [] (some [4]))
  .ret))
  .skip))
  (.seq (.seq (.region 0 [⟨0, (some 13), none, .mv (.s 6)⟩] [] (some [13, 0, 1]))
  (.cond (.s 13) (.seq (.region 0 [⟨0, (some 4), none, .mv (.k (.c (.int .i64 1)))⟩] [] (some [4]))
  .ret)
  .skip))
  (.seq (.seq (.region 0 [⟨0, (some 14), none, .mv (.s 0)⟩, ⟨1, (some 15), none, .mv (.s 1)⟩, ⟨2, (some 16), none, .bin .lss (.s 14) (.s 15)⟩] [] (some [16, 1, 0]))
  (.cond (.s 16) (.seq (.region 0 [⟨0, (some 4), none, .mv (.k (.c (.int .i64 (-1))))⟩] [] (some [4]))
  .ret)
  .skip))
  (.seq (.seq (.region 0 [⟨0, (some 17), none, .mv (.s 0)⟩, ⟨1, (some 18), none, .mv (.s 1)⟩, ⟨2, (some 19), none, .bin .gtr (.s 17) (.s 18)⟩] [] (some [19]))
  (.cond (.s 19) (.seq (.region 0 [⟨0, (some 4), none, .mv (.k (.c (.int .i64 1)))⟩] [] (some [4]))
  .ret)
  .skip))
  (.seq (.region 0 [⟨0, (some 4), none, .mv (.k (.c (.int .i64 0)))⟩] [] (some [4]))
  .ret)))))))) }
/-- kerbstone/motion.hull -/
abbrev f_motion_hull : Nat := 159
def c_motion_hull : CFn := { frz := true, rnd := none, nargs := 2, ntmps := 48, res := [(.cell 4 true 6)], code :=
  (.seq (.region 3 [⟨0, (some 2), none, .box 0 6 (.s 0)⟩, ⟨1, (some 3), none, .box 1 6 (.s 1)⟩, ⟨2, (some 4), none, .box 2 6 (.k (.a [(.int .i64 0), (.int .i64 0), (.int .i64 0), (.int .i64 0), (.int .i64 0), (.int .i64 0)]))⟩] [] (some [3, 2, 4]))
  (.seq (.region 0 [⟨0, (some 5), none, .faddr 1 (.s 2)⟩, ⟨2, (some 7), none, .faddr 1 (.s 3)⟩, ⟨5, (some 10), none, .faddr 2 (.s 2)⟩, ⟨7, (some 12), none, .faddr 2 (.s 3)⟩, ⟨10, (some 15), none, .faddr 3 (.s 2)⟩, ⟨12, (some 17), none, .faddr 3 (.s 3)⟩, ⟨15, (some 20), none, .faddr 4 (.s 2)⟩, ⟨17, (some 22), none, .faddr 4 (.s 3)⟩, ⟨1, (some 6), none, .load false 1 (.s 5)⟩, ⟨3, (some 8), none, .load false 1 (.s 7)⟩, ⟨6, (some 11), none, .load false 1 (.s 10)⟩, ⟨8, (some 13), none, .load false 1 (.s 12)⟩, ⟨11, (some 16), none, .load false 1 (.s 15)⟩, ⟨13, (some 18), none, .load false 1 (.s 17)⟩, ⟨16, (some 21), none, .load false 1 (.s 20)⟩, ⟨18, (some 23), none, .load false 1 (.s 22)⟩, ⟨4, (some 9), none, .minmax false [(.s 6), (.s 8)]⟩, ⟨20, (some 25), none, .faddr 1 (.s 2)⟩, ⟨9, (some 14), none, .minmax true [(.s 11), (.s 13)]⟩, ⟨14, (some 19), none, .minmax false [(.s 16), (.s 18)]⟩, ⟨19, (some 24), none, .minmax true [(.s 21), (.s 23)]⟩, ⟨21, none, none, .store 1 (.s 25) (.s 9)⟩, ⟨22, (some 26), none, .faddr 2 (.s 2)⟩, ⟨23, none, none, .store 1 (.s 26) (.s 14)⟩, ⟨24, (some 27), none, .faddr 3 (.s 2)⟩, ⟨25, none, none, .store 1 (.s 27) (.s 19)⟩, ⟨26, (some 28), none, .faddr 4 (.s 2)⟩, ⟨27, none, none, .store 1 (.s 28) (.s 24)⟩] [(11, 21), (13, 21), (13, 23), (15, 21), (15, 23), (15, 25)] (some [3, 2, 4]))
  (.seq (.seq (.region 0 [⟨0, (some 29), none, .faddr 5 (.s 2)⟩, ⟨1, (some 30), none, .load false 1 (.s 29)⟩, ⟨2, (some 31), none, .bin .eql (.s 30) (.k (.c (.int .i64 0)))⟩, ⟨3, (some 32), none, .mv (.s 31)⟩, ⟨4, (some 33), (some (32, false)), .faddr 5 (.s 3)⟩, ⟨5, (some 34), (some (32, false)), .load false 1 (.s 33)⟩, ⟨6, (some 35), (some (32, false)), .bin .eql (.s 34) (.k (.c (.int .i64 0)))⟩, ⟨7, (some 36), none, .pick (.s 32) (.k (.c (.bool true))) (.s 35)⟩] [] (some [36, 3, 2, 4]))
  (.cond (.s 36) (.region 0 [⟨0, (some 37), none, .faddr 5 (.s 2)⟩, ⟨1, none, none, .store 1 (.s 37) (.k (.c (.int .i64 0)))⟩] [] (some [3, 2, 4]))
  .skip))
  (.seq (.seq (.region 0 [⟨0, (some 38), none, .faddr 5 (.s 2)⟩, ⟨1, (some 39), none, .load false 1 (.s 38)⟩, ⟨2, (some 40), none, .bin .neq (.s 39) (.k (.c (.int .i64 0)))⟩] [] (some [40, 3, 2, 4]))
  (.cond (.s 40) (.region 0 [⟨0, (some 41), none, .faddr 5 (.s 2)⟩, ⟨1, (some 42), none, .load false 1 (.s 41)⟩, ⟨2, (some 43), none, .faddr 5 (.s 3)⟩, ⟨3, (some 44), none, .load false 1 (.s 43)⟩, ⟨4, (some 45), none, .minmax true [(.s 42), (.s 44)]⟩, ⟨5, (some 46), none, .faddr 5 (.s 2)⟩, ⟨6, none, none, .store 1 (.s 46) (.s 45)⟩] [] (some [2, 4]))
  .skip))
  (.seq (.region 0 [⟨0, (some 47), none, .load true 6 (.s 2)⟩, ⟨1, none, none, .store 6 (.s 4) (.s 47)⟩] [] (some [4]))
  .ret))))) }
def c_slices_Index_int_l1 : CC := (.seq (.region 0 [⟨0, (some 9), none, .bin .lss (.s 8) (.s 7)⟩] [] (some [9, 0, 1, 7, 8]))
  (.seq (.cond (.s 9) .skip
  (.exit 0))
  (.seq (.block 1 (.seq (.region 0 [⟨0, (some 10), none, .mv (.s 8)⟩, ⟨1, (some 5), none, .mv (.s 10)⟩] [] (some [0, 1, 7, 8, 5]))
  (.seq (.region 0 [⟨0, (some 11), none, .mv (.s 1)⟩, ⟨1, (some 12), none, .mv (.s 0)⟩, ⟨2, (some 13), none, .mv (.s 5)⟩, ⟨3, (some 14), none, .iaddr 1 (.s 12) (.s 13)⟩, ⟨4, (some 15), none, .load false 1 (.s 14)⟩, ⟨5, (some 16), none, .bin .eql (.s 11) (.s 15)⟩] [] (some [16, 0, 1, 7, 8, 5]))
  (.cond (.s 16) (.seq (.region 0 [⟨0, (some 17), none, .mv (.s 5)⟩, ⟨1, (some 4), none, .mv (.s 17)⟩] [] (some [4]))
  .ret)
  .skip))))
  (.region 0 [⟨0, (some 18), none, .bin .add (.s 8) (.k (.c (.int .i64 1)))⟩, ⟨1, (some 8), none, .mv (.s 18)⟩] [] (some [7, 1, 0, 8])))))
/-- slices.Index[[]int,int] -/
abbrev f_slices_Index_int : Nat := 160
def c_slices_Index_int : CFn := { frz := true, rnd := none, nargs := 2, ntmps := 19, res := [(.slot 4)], code :=
  (.seq (.region 0 [⟨0, (some 4), none, .mv (.k (.c (.int .i64 0)))⟩] [] (some [1, 0]))
  (.seq (.seq (.region 0 [⟨0, (some 6), none, .mv (.s 0)⟩, ⟨1, (some 7), none, .len (.s 6)⟩, ⟨2, (some 8), none, .mv (.k (.c (.int .i64 0)))⟩] [] (some [7, 1, 0, 8]))
  (.block 0 (.loop (some [7, 1, 0, 8]) c_slices_Index_int_l1)))
  (.seq (.region 0 [⟨0, (some 4), none, .mv (.k (.c (.int .i64 (-1))))⟩] [] (some [4]))
  .ret))) }
def c_roads_follow_l1 : CC := (.seq (.region 0 [⟨0, (some 19), none, .bin .lss (.s 18) (.s 17)⟩] [] (some [19, 18, 17, 4, 16, 2, 5]))
  (.seq (.cond (.s 19) .skip
  (.exit 0))
  (.seq (.block 1 (.seq (.region 0 [⟨0, (some 20), none, .iaddr 1 (.s 16) (.s 18)⟩, ⟨1, (some 21), none, .load false 1 (.s 20)⟩, ⟨2, (some 7), none, .mv (.s 21)⟩] [] (some [7, 18, 17, 4, 16, 2, 5]))
  (.seq (.region 1 [⟨0, (some 22), none, .faddr 6 (.s 5)⟩, ⟨1, (some 23), none, .load false 1 (.s 22)⟩, ⟨2, (some 24), none, .faddr 7 (.s 5)⟩, ⟨3, (some 25), none, .load false 1 (.s 24)⟩, ⟨4, (some 26), none, .lit 0 1 [[(.int .i64 0)]] [(0, (.s 25))]⟩, ⟨5, (some 27), none, .append 1 8 (.s 23) (.s 26)⟩, ⟨6, (some 28), none, .faddr 6 (.s 5)⟩, ⟨7, none, none, .store 1 (.s 28) (.s 27)⟩] [] (some [7, 18, 17, 4, 16, 2, 5]))
  (.region 0 [⟨0, (some 29), none, .faddr 7 (.s 5)⟩, ⟨3, (some 32), none, .mv (.s 7)⟩, ⟨1, (some 30), none, .load false 1 (.s 29)⟩, ⟨2, (some 31), none, .load true 5 (.s 2)⟩, ⟨4, (some 33), none, .call ⟨true⟩ (.k (.c (.fn 114 [] []))) [(.s 31), (.s 32)]⟩, ⟨5, (some 34), none, .bin .add (.s 30) (.s 33)⟩, ⟨6, (some 35), none, .faddr 7 (.s 5)⟩, ⟨7, none, none, .store 1 (.s 35) (.s 34)⟩] [(2, 4)] (some [18, 17, 4, 16, 2, 5])))))
  (.region 0 [⟨0, (some 36), none, .bin .add (.s 18) (.k (.c (.int .i64 1)))⟩, ⟨1, (some 18), none, .mv (.s 36)⟩] [] (some [18, 17, 4, 16, 2, 5])))))
/-- kerbstone/roads.follow -/
abbrev f_roads_follow : Nat := 161
def c_roads_follow : CFn := { frz := true, rnd := none, nargs := 2, ntmps := 38, res := [(.cell 4 true 8)], code :=
  (.seq (.region 2 [⟨0, (some 2), none, .box 0 5 (.s 0)⟩, ⟨1, (some 4), none, .box 1 8 (.k (.a [(.int .i64 0), .nilslice, .nilslice, .nilslice, .nilslice, .nilslice, .nilslice, (.int .i64 0)]))⟩] [] (some [2, 1, 4]))
  (.seq (.seq (.region 0 [⟨0, (some 8), none, .load true 5 (.s 2)⟩, ⟨1, (some 9), none, .mv (.s 1)⟩, ⟨2, (some 10), none, .call ⟨true⟩ (.k (.c (.fn 44 [] []))) [(.s 8), (.s 9)]⟩, ⟨3, (some 11), none, .bin .neq (.s 10) (.k (.c (.int .i64 0)))⟩] [] (some [11, 2, 1, 4]))
  (.cond (.s 11) (.seq (.region 0 [⟨0, (some 12), none, .build [(.int .i64 0), .nilslice, .nilslice, .nilslice, .nilslice, .nilslice, .nilslice, (.int .i64 0)] []⟩, ⟨1, none, none, .store 8 (.s 4) (.s 12)⟩] [] (some [4]))
  .ret)
  .skip))
  (.seq (.region 1 [⟨0, (some 13), none, .load true 5 (.s 2)⟩, ⟨1, (some 14), none, .mv (.s 1)⟩, ⟨2, (some 15), none, .build [(.int .i64 0), .nilslice, .nilslice, .nilslice, .nilslice, .nilslice, .nilslice, (.int .i64 0)] [(0, 5, (.s 13)), (5, 1, (.s 14))]⟩, ⟨3, (some 5), none, .box 0 8 (.k (.a [(.int .i64 0), .nilslice, .nilslice, .nilslice, .nilslice, .nilslice, .nilslice, (.int .i64 0)]))⟩, ⟨4, none, none, .store 8 (.s 5) (.s 15)⟩] [] (some [1, 4, 2, 5]))
  (.seq (.seq (.region 0 [⟨0, (some 16), none, .mv (.s 1)⟩, ⟨1, (some 17), none, .len (.s 16)⟩, ⟨2, (some 18), none, .mv (.k (.c (.int .i64 0)))⟩] [] (some [18, 17, 4, 16, 2, 5]))
  (.block 0 (.loop (some [18, 17, 4, 16, 2, 5]) c_roads_follow_l1)))
  (.seq (.region 0 [⟨0, (some 37), none, .load true 8 (.s 5)⟩, ⟨1, none, none, .store 8 (.s 4) (.s 37)⟩] [] (some [4]))
  .ret))))) }
/-- kerbstone/roads.within -/
abbrev f_roads_within : Nat := 162
def c_roads_within : CFn := { frz := true, rnd := none, nargs := 3, ntmps := 15, res := [(.slot 6)], code :=
  (.seq (.region 0 [⟨0, (some 6), none, .mv (.k (.c (.bool false)))⟩] [] (some [1, 0, 2]))
  (.seq (.region 0 [⟨0, (some 7), none, .mv (.s 1)⟩, ⟨1, (some 8), none, .mv (.s 0)⟩, ⟨2, (some 9), none, .bin .leq (.s 7) (.s 8)⟩, ⟨3, (some 10), none, .mv (.s 9)⟩, ⟨4, (some 11), (some (10, true)), .mv (.s 0)⟩, ⟨5, (some 12), (some (10, true)), .mv (.s 2)⟩, ⟨6, (some 13), (some (10, true)), .bin .leq (.s 11) (.s 12)⟩, ⟨7, (some 14), none, .pick (.s 10) (.s 13) (.k (.c (.bool false)))⟩, ⟨8, (some 6), none, .mv (.s 14)⟩] [] (some [6]))
  .ret)) }
def c_curve_Check_l1 : CC := (.seq (.region 0 [⟨0, (some 28), none, .bin .lss (.s 27) (.s 26)⟩] [] (some [28, 3, 1, 26, 27]))
  (.seq (.cond (.s 28) .skip
  (.exit 1))
  (.seq (.block 2 (.seq (.region 0 [⟨0, (some 29), none, .mv (.s 27)⟩, ⟨1, (some 4), none, .mv (.s 29)⟩] [] (some [4, 3, 1, 26, 27]))
  (.seq (.region 1 [⟨0, (some 30), none, .faddr 0 (.s 1)⟩, ⟨2, (some 32), none, .mv (.s 4)⟩, ⟨5, (some 35), none, .faddr 0 (.s 1)⟩, ⟨7, (some 37), none, .mv (.s 4)⟩, ⟨8, (some 38), none, .bin .add (.s 37) (.k (.c (.int .i64 1)))⟩, ⟨1, (some 31), none, .load false 1 (.s 30)⟩, ⟨3, (some 33), none, .iaddr 2 (.s 31) (.s 32)⟩, ⟨4, (some 34), none, .load true 2 (.s 33)⟩, ⟨6, (some 36), none, .load false 1 (.s 35)⟩, ⟨9, (some 39), none, .iaddr 2 (.s 36) (.s 38)⟩, ⟨10, (some 40), none, .load true 2 (.s 39)⟩, ⟨11, (some 41), none, .call ⟨true⟩ (.k (.c (.fn 180 [] []))) [(.s 34), (.s 40)]⟩, ⟨12, (some 5), none, .box 0 2 (.k (.a [(.int .i64 0), (.int .i64 0)]))⟩, ⟨13, none, none, .store 2 (.s 5) (.s 41)⟩] [(5, 12), (7, 12), (8, 12), (10, 12), (11, 12)] (some [4, 3, 1, 26, 27, 5]))
  (.seq (.region 0 [⟨0, (some 43), none, .load true 2 (.s 5)⟩, ⟨1, (some 44), none, .load true 2 (.s 5)⟩, ⟨2, (some 45), none, .call ⟨true⟩ (.k (.c (.fn 181 [] []))) [(.s 43), (.s 44)]⟩, ⟨3, (some 46), none, .call ⟨true⟩ (.k (.c (.fn 204 [] []))) [(.s 45)]⟩, ⟨4, (some 42), none, .mv (.s 46)⟩, ⟨5, (some 47), none, .extract 42 0⟩, ⟨6, (some 48), none, .extract 42 1⟩, ⟨7, (some 6), none, .mv (.s 47)⟩, ⟨8, (some 7), none, .mv (.s 48)⟩] [] (some [7, 4, 3, 1, 26, 27, 5, 6]))
  (.seq (.block 3 (.seq (.region 0 [⟨0, (some 50), none, .mv (.s 7)⟩, ⟨1, (some 51), none, .un .not (.s 50)⟩, ⟨2, (some 49), none, .mv (.s 51)⟩] [] (some [49, 4, 3, 1, 26, 27, 5, 6]))
  (.cond (.s 49) (.seq (.region 0 [⟨0, (some 2), none, .mv (.k (.c (.int .i64 3)))⟩] [] (some [2]))
  .ret)
  (.seq (.region 0 [⟨0, (some 53), none, .mv (.s 6)⟩, ⟨1, (some 54), none, .bin .lss (.s 53) (.k (.c (.int .i64 1000)))⟩, ⟨2, (some 55), none, .mv (.s 54)⟩, ⟨3, (some 56), (some (55, false)), .mv (.s 6)⟩, ⟨4, (some 57), (some (55, false)), .bin .gtr (.s 56) (.k (.c (.int .i64 1048576)))⟩, ⟨5, (some 58), none, .pick (.s 55) (.k (.c (.bool true))) (.s 57)⟩, ⟨6, (some 52), none, .mv (.s 58)⟩] [] (some [52, 5, 27, 26, 1, 3, 4]))
  (.cond (.s 52) (.seq (.region 0 [⟨0, (some 2), none, .mv (.k (.c (.int .i64 2)))⟩] [] (some [2]))
  .ret)
  (.seq (.region 0 [⟨0, (some 60), none, .mv (.s 4)⟩, ⟨1, (some 61), none, .bin .gtr (.s 60) (.k (.c (.int .i64 0)))⟩, ⟨2, (some 62), none, .mv (.s 61)⟩, ⟨3, (some 63), (some (62, true)), .load true 2 (.s 3)⟩, ⟨4, (some 64), (some (62, true)), .load true 2 (.s 5)⟩, ⟨5, (some 65), (some (62, true)), .call ⟨true⟩ (.k (.c (.fn 181 [] []))) [(.s 63), (.s 64)]⟩, ⟨6, (some 66), (some (62, true)), .bin .leq (.s 65) (.k (.c (.int .i64 0)))⟩, ⟨7, (some 67), none, .pick (.s 62) (.s 66) (.k (.c (.bool false)))⟩, ⟨8, (some 59), none, .mv (.s 67)⟩] [] (some [59, 3, 1, 26, 27, 5]))
  (.cond (.s 59) (.seq (.region 0 [⟨0, (some 2), none, .mv (.k (.c (.int .i64 12)))⟩] [] (some [2]))
  .ret)
  .skip)))))))
  (.region 0 [⟨0, (some 68), none, .load true 2 (.s 5)⟩, ⟨1, none, none, .store 2 (.s 3) (.s 68)⟩] [] (some [27, 26, 1, 3])))))))
  (.region 0 [⟨0, (some 69), none, .bin .add (.s 27) (.k (.c (.int .i64 1)))⟩, ⟨1, (some 27), none, .mv (.s 69)⟩] [] (some [26, 1, 3, 27])))))
/-- kerbstone/curve.Check -/
abbrev f_curve_Check : Nat := 163
def c_curve_Check : CFn := { frz := true, rnd := none, nargs := 1, ntmps := 70, res := [(.slot 2)], code :=
  (.seq (.region 1 [⟨0, (some 1), none, .box 0 1 (.s 0)⟩, ⟨1, (some 2), none, .mv (.k (.c (.int .i64 0)))⟩] [] (some [1]))
  (.seq (.block 0 (.seq (.region 0 [⟨0, (some 9), none, .faddr 0 (.s 1)⟩, ⟨1, (some 10), none, .load false 1 (.s 9)⟩, ⟨2, (some 11), none, .len (.s 10)⟩, ⟨3, (some 12), none, .bin .lss (.s 11) (.k (.c (.int .i64 2)))⟩, ⟨4, (some 8), none, .mv (.s 12)⟩] [] (some [8, 1]))
  (.cond (.s 8) (.seq (.region 0 [⟨0, (some 2), none, .mv (.k (.c (.int .i64 6)))⟩] [] (some [2]))
  .ret)
  (.seq (.region 0 [⟨0, (some 14), none, .faddr 0 (.s 1)⟩, ⟨1, (some 15), none, .load false 1 (.s 14)⟩, ⟨2, (some 16), none, .len (.s 15)⟩, ⟨3, (some 17), none, .bin .gtr (.s 16) (.k (.c (.int .i64 16)))⟩, ⟨4, (some 13), none, .mv (.s 17)⟩] [] (some [13, 1]))
  (.cond (.s 13) (.seq (.region 0 [⟨0, (some 2), none, .mv (.k (.c (.int .i64 5)))⟩] [] (some [2]))
  .ret)
  (.seq (.region 0 [⟨0, (some 19), none, .faddr 0 (.s 1)⟩, ⟨1, (some 20), none, .load false 1 (.s 19)⟩, ⟨2, (some 21), none, .call ⟨true⟩ (.k (.c (.fn 178 [] []))) [(.s 20)]⟩, ⟨3, (some 22), none, .un .not (.s 21)⟩, ⟨4, (some 18), none, .mv (.s 22)⟩] [] (some [18, 1]))
  (.cond (.s 18) (.seq (.region 0 [⟨0, (some 2), none, .mv (.k (.c (.int .i64 2)))⟩] [] (some [2]))
  .ret)
  .skip)))))))
  (.seq (.region 1 [⟨0, (some 3), none, .box 0 2 (.k (.a [(.int .i64 0), (.int .i64 0)]))⟩] [] (some [1, 3]))
  (.seq (.seq (.region 0 [⟨0, (some 23), none, .faddr 0 (.s 1)⟩, ⟨1, (some 24), none, .load false 1 (.s 23)⟩, ⟨2, (some 25), none, .len (.s 24)⟩, ⟨3, (some 26), none, .bin .sub (.s 25) (.k (.c (.int .i64 1)))⟩, ⟨4, (some 27), none, .mv (.k (.c (.int .i64 0)))⟩] [] (some [26, 1, 3, 27]))
  (.block 1 (.loop (some [26, 1, 3, 27]) c_curve_Check_l1)))
  (.seq (.region 0 [⟨0, (some 2), none, .mv (.k (.c (.int .i64 0)))⟩] [] (some [2]))
  .ret))))) }
def c_roads_rising_l1 : CC := (.seq (.region 0 [⟨0, (some 12), none, .bin .lss (.s 11) (.s 10)⟩] [] (some [12, 1, 2, 9, 10, 11]))
  (.seq (.cond (.s 12) .skip
  (.exit 0))
  (.seq (.block 1 (.seq (.region 0 [⟨0, (some 13), none, .iaddr 1 (.s 9) (.s 11)⟩, ⟨1, (some 14), none, .load false 1 (.s 13)⟩, ⟨2, (some 8), none, .mv (.s 14)⟩] [] (some [1, 2, 9, 10, 11, 8]))
  (.seq (.seq (.region 0 [⟨0, (some 15), none, .mv (.s 8)⟩, ⟨1, (some 16), none, .mv (.s 1)⟩, ⟨2, (some 17), none, .bin .lss (.s 15) (.s 16)⟩, ⟨3, (some 18), none, .mv (.s 17)⟩, ⟨4, (some 19), (some (18, false)), .mv (.s 8)⟩, ⟨5, (some 20), (some (18, false)), .mv (.s 2)⟩, ⟨6, (some 21), (some (18, false)), .bin .geq (.s 19) (.s 20)⟩, ⟨7, (some 22), none, .pick (.s 18) (.k (.c (.bool true))) (.s 21)⟩] [] (some [22, 2, 9, 10, 11, 8]))
  (.cond (.s 22) (.seq (.region 0 [⟨0, (some 6), none, .mv (.k (.c (.bool false)))⟩] [] (some [6]))
  .ret)
  .skip))
  (.region 0 [⟨0, (some 23), none, .mv (.s 8)⟩, ⟨1, (some 24), none, .bin .add (.s 23) (.k (.c (.int .i64 1)))⟩, ⟨2, (some 1), none, .mv (.s 24)⟩] [] (some [11, 1, 10, 9, 2])))))
  (.region 0 [⟨0, (some 25), none, .bin .add (.s 11) (.k (.c (.int .i64 1)))⟩, ⟨1, (some 11), none, .mv (.s 25)⟩] [] (some [1, 10, 9, 2, 11])))))
/-- kerbstone/roads.rising -/
abbrev f_roads_rising : Nat := 164
def c_roads_rising : CFn := { frz := true, rnd := none, nargs := 3, ntmps := 26, res := [(.slot 6)], code :=
  (.seq (.region 0 [⟨0, (some 6), none, .mv (.k (.c (.bool false)))⟩] [] (some [0, 1, 2]))
  (.seq (.seq (.region 0 [⟨0, (some 9), none, .mv (.s 0)⟩, ⟨1, (some 10), none, .len (.s 9)⟩, ⟨2, (some 11), none, .mv (.k (.c (.int .i64 0)))⟩] [] (some [1, 10, 9, 2, 11]))
  (.block 0 (.loop (some [1, 10, 9, 2, 11]) c_roads_rising_l1)))
  (.seq (.region 0 [⟨0, (some 6), none, .mv (.k (.c (.bool true)))⟩] [] (some [6]))
  .ret))) }
/-- slices.ContainsFunc[[]kerbstone/api.Phase,kerbstone/api.Phase] -/
abbrev f_slices_ContainsFunc_Phase : Nat := 165
def c_slices_ContainsFunc_Phase : CFn := { frz := true, rnd := none, nargs := 2, ntmps := 9, res := [(.slot 4)], code :=
  (.seq (.region 0 [⟨0, (some 4), none, .mv (.k (.c (.bool false)))⟩] [] (some [0, 1]))
  (.seq (.region 0 [⟨0, (some 5), none, .mv (.s 0)⟩, ⟨1, (some 6), none, .mv (.s 1)⟩, ⟨2, (some 7), none, .call ⟨true⟩ (.k (.c (.fn 205 [] []))) [(.s 5), (.s 6)]⟩, ⟨3, (some 8), none, .bin .geq (.s 7) (.k (.c (.int .i64 0)))⟩, ⟨4, (some 4), none, .mv (.s 8)⟩] [] (some [4]))
  .ret)) }
/-- (kerbstone/roads.check).signals$1 -/
abbrev f_roads_check_signals_1 : Nat := 166
def c_roads_check_signals_1 : CFn := { frz := true, rnd := none, nargs := 1, ntmps := 7, res := [(.slot 2)], code :=
  (.seq (.region 1 [⟨0, (some 1), none, .box 0 2 (.s 0)⟩, ⟨1, (some 2), none, .mv (.k (.c (.bool false)))⟩] [] (some [1]))
  (.seq (.region 0 [⟨0, (some 3), none, .faddr 0 (.s 1)⟩, ⟨1, (some 4), none, .load false 1 (.s 3)⟩, ⟨2, (some 5), none, .call ⟨true⟩ (.k (.c (.fn 162 [] []))) [(.s 4), (.k (.c (.int .i64 1))), (.k (.c (.int .i64 10000)))]⟩, ⟨3, (some 6), none, .un .not (.s 5)⟩, ⟨4, (some 2), none, .mv (.s 6)⟩] [] (some [2]))
  .ret)) }
/-- (kerbstone/roads.check).signals$2 -/
abbrev f_roads_check_signals_2 : Nat := 167
def c_roads_check_signals_2 : CFn := { frz := true, rnd := none, nargs := 2, ntmps := 12, res := [(.slot 3)], code :=
  (.seq (.region 1 [⟨0, (some 2), none, .box 0 2 (.s 0)⟩, ⟨1, (some 3), none, .mv (.k (.c (.bool false)))⟩] [] (some [2, 1]))
  (.seq (.region 0 [⟨0, (some 4), none, .faddr 1 (.s 2)⟩, ⟨1, (some 5), none, .load false 1 (.s 4)⟩, ⟨2, (some 6), none, .faddr 0 (.s 1)⟩, ⟨3, (some 7), none, .faddr 1 (.s 6)⟩, ⟨4, (some 8), none, .load false 1 (.s 7)⟩, ⟨5, (some 9), none, .len (.s 8)⟩, ⟨6, (some 10), none, .call ⟨true⟩ (.k (.c (.fn 164 [] []))) [(.s 5), (.k (.c (.int .i64 0))), (.s 9)]⟩, ⟨7, (some 11), none, .un .not (.s 10)⟩, ⟨8, (some 3), none, .mv (.s 11)⟩] [] (some [3]))
  .ret)) }
def c_curve_Length_l1 : CC := (.seq (.region 0 [⟨0, (some 10), none, .bin .lss (.s 9) (.s 8)⟩] [] (some [10, 3, 9, 8, 7]))
  (.seq (.cond (.s 10) .skip
  (.exit 0))
  (.seq (.block 1 (.seq (.region 0 [⟨0, (some 11), none, .iaddr 1 (.s 7) (.s 9)⟩, ⟨1, (some 12), none, .load false 1 (.s 11)⟩, ⟨2, (some 5), none, .mv (.s 12)⟩] [] (some [3, 5, 9, 8, 7]))
  (.region 0 [⟨0, (some 13), none, .mv (.s 3)⟩, ⟨1, (some 14), none, .mv (.s 5)⟩, ⟨2, (some 15), none, .bin .add (.s 13) (.s 14)⟩, ⟨3, (some 3), none, .mv (.s 15)⟩] [] (some [9, 3, 8, 7]))))
  (.region 0 [⟨0, (some 16), none, .bin .add (.s 9) (.k (.c (.int .i64 1)))⟩, ⟨1, (some 9), none, .mv (.s 16)⟩] [] (some [3, 9, 8, 7])))))
/-- kerbstone/curve.Length -/
abbrev f_curve_Length : Nat := 168
def c_curve_Length : CFn := { frz := true, rnd := none, nargs := 1, ntmps := 18, res := [(.slot 2)], code :=
  (.seq (.region 1 [⟨0, (some 1), none, .box 0 1 (.s 0)⟩, ⟨1, (some 2), none, .mv (.k (.c (.int .i64 0)))⟩] [] (some [1]))
  (.seq (.region 0 [⟨0, (some 3), none, .mv (.k (.c (.int .i64 0)))⟩] [] (some [1, 3]))
  (.seq (.seq (.region 0 [⟨0, (some 6), none, .load true 1 (.s 1)⟩, ⟨1, (some 7), none, .call ⟨true⟩ (.k (.c (.fn 206 [] []))) [(.s 6)]⟩, ⟨2, (some 8), none, .len (.s 7)⟩, ⟨3, (some 9), none, .mv (.k (.c (.int .i64 0)))⟩] [] (some [3, 9, 8, 7]))
  (.block 0 (.loop (some [3, 9, 8, 7]) c_curve_Length_l1)))
  (.seq (.region 0 [⟨0, (some 17), none, .mv (.s 3)⟩, ⟨1, (some 2), none, .mv (.s 17)⟩] [] (some [2]))
  .ret)))) }
def c_kerbstoneref01_Pieces_l1 : CC := (.seq (.seq (.region 0 [⟨0, (some 9), none, .mv (.s 4)⟩, ⟨1, (some 10), none, .bin .add (.s 9) (.k (.c (.int .i64 1)))⟩, ⟨2, (some 11), none, .faddr 0 (.s 1)⟩, ⟨3, (some 12), none, .load false 1 (.s 11)⟩, ⟨4, (some 13), none, .len (.s 12)⟩, ⟨5, (some 14), none, .bin .lss (.s 10) (.s 13)⟩] [] (some [14, 3, 4, 1]))
  (.cond (.s 14) .skip
  (.exit 0)))
  (.seq (.block 1 (.seq (.region 1 [⟨0, (some 17), none, .faddr 0 (.s 1)⟩, ⟨2, (some 19), none, .mv (.s 4)⟩, ⟨3, (some 20), none, .bin .add (.s 19) (.k (.c (.int .i64 1)))⟩, ⟨6, (some 23), none, .faddr 0 (.s 1)⟩, ⟨8, (some 25), none, .mv (.s 4)⟩, ⟨1, (some 18), none, .load false 1 (.s 17)⟩, ⟨4, (some 21), none, .iaddr 2 (.s 18) (.s 20)⟩, ⟨5, (some 22), none, .load true 2 (.s 21)⟩, ⟨7, (some 24), none, .load false 1 (.s 23)⟩, ⟨9, (some 26), none, .iaddr 2 (.s 24) (.s 25)⟩, ⟨10, (some 27), none, .load true 2 (.s 26)⟩, ⟨11, (some 28), none, .call ⟨true⟩ (.k (.c (.fn 198 [] []))) [(.s 22), (.s 27)]⟩, ⟨12, (some 5), none, .box 0 2 (.k (.a [(.int .i64 0), (.int .i64 0)]))⟩, ⟨13, none, none, .store 2 (.s 5) (.s 28)⟩] [(5, 12), (7, 12), (8, 12), (10, 12), (11, 12)] (some [3, 5, 4, 1]))
  (.region 1 [⟨0, (some 29), none, .mv (.s 3)⟩, ⟨1, (some 30), none, .load true 2 (.s 5)⟩, ⟨2, (some 31), none, .load true 2 (.s 5)⟩, ⟨3, (some 32), none, .call ⟨true⟩ (.k (.c (.fn 199 [] []))) [(.s 30), (.s 31)]⟩, ⟨4, (some 33), none, .call ⟨true⟩ (.k (.c (.fn 207 [] []))) [(.s 32)]⟩, ⟨5, (some 34), none, .lit 0 1 [[(.int .i64 0)]] [(0, (.s 33))]⟩, ⟨6, (some 35), none, .append 1 8 (.s 29) (.s 34)⟩, ⟨7, (some 3), none, .mv (.s 35)⟩] [] (some [4, 3, 1]))))
  (.region 0 [⟨0, (some 15), none, .mv (.s 4)⟩, ⟨1, (some 16), none, .bin .add (.s 15) (.k (.c (.int .i64 1)))⟩, ⟨2, (some 4), none, .mv (.s 16)⟩] [] (some [3, 4, 1]))))
/-- kerbstone/kerbstoneref01.Pieces -/
abbrev f_kerbstoneref01_Pieces : Nat := 169
def c_kerbstoneref01_Pieces : CFn := { frz := true, rnd := none, nargs := 1, ntmps := 37, res := [(.slot 2)], code :=
  (.seq (.region 2 [⟨0, (some 1), none, .box 0 1 (.s 0)⟩, ⟨1, (some 2), none, .newsl 1 1⟩] [] (some [1]))
  (.seq (.seq (.region 0 [⟨0, (some 6), none, .load true 1 (.s 1)⟩, ⟨1, (some 7), none, .call ⟨true⟩ (.k (.c (.fn 195 [] []))) [(.s 6)]⟩, ⟨2, (some 8), none, .bin .neq (.s 7) (.k (.c (.int .i64 0)))⟩] [] (some [8, 1]))
  (.cond (.s 8) (.seq (.region 1 [⟨0, (some 2), none, .newsl 0 1⟩] [] (some [2]))
  .ret)
  .skip))
  (.seq (.region 1 [⟨0, (some 3), none, .newsl 0 1⟩] [] (some [3, 1]))
  (.seq (.seq (.region 0 [⟨0, (some 4), none, .mv (.k (.c (.int .i64 0)))⟩] [] (some [3, 4, 1]))
  (.block 0 (.loop (some [3, 4, 1]) c_kerbstoneref01_Pieces_l1)))
  (.seq (.region 0 [⟨0, (some 36), none, .mv (.s 3)⟩, ⟨1, (some 2), none, .mv (.s 36)⟩] [] (some [2]))
  .ret))))) }
def c_curve_fair_l1 : CC := (.seq (.region 0 [⟨0, (some 8), none, .bin .lss (.s 7) (.s 6)⟩] [] (some [8, 5, 6, 7]))
  (.seq (.cond (.s 8) .skip
  (.exit 0))
  (.seq (.block 1 (.seq (.region 1 [⟨0, (some 9), none, .iaddr 2 (.s 5) (.s 7)⟩, ⟨1, (some 10), none, .load true 2 (.s 9)⟩, ⟨2, (some 4), none, .box 0 2 (.k (.a [(.int .i64 0), (.int .i64 0)]))⟩, ⟨3, none, none, .store 2 (.s 4) (.s 10)⟩] [] (some [4, 5, 6, 7]))
  (.seq (.region 0 [⟨0, (some 11), none, .faddr 0 (.s 4)⟩, ⟨1, (some 12), none, .load false 1 (.s 11)⟩, ⟨2, (some 13), none, .faddr 1 (.s 4)⟩, ⟨3, (some 14), none, .load false 1 (.s 13)⟩, ⟨4, (some 15), none, .minmax false [(.s 12), (.s 14)]⟩, ⟨5, (some 16), none, .bin .lss (.s 15) (.k (.c (.int .i64 (-16777216))))⟩, ⟨6, (some 17), none, .mv (.s 16)⟩, ⟨7, (some 18), (some (17, false)), .faddr 0 (.s 4)⟩, ⟨8, (some 19), (some (17, false)), .load false 1 (.s 18)⟩, ⟨9, (some 20), (some (17, false)), .faddr 1 (.s 4)⟩, ⟨10, (some 21), (some (17, false)), .load false 1 (.s 20)⟩, ⟨11, (some 22), (some (17, false)), .minmax true [(.s 19), (.s 21)]⟩, ⟨12, (some 23), (some (17, false)), .bin .gtr (.s 22) (.k (.c (.int .i64 16777216)))⟩, ⟨13, (some 24), none, .pick (.s 17) (.k (.c (.bool true))) (.s 23)⟩] [] (some [24, 5, 6, 7]))
  (.cond (.s 24) (.seq (.region 0 [⟨0, (some 2), none, .mv (.k (.c (.bool false)))⟩] [] (some [2]))
  .ret)
  .skip))))
  (.region 0 [⟨0, (some 25), none, .bin .add (.s 7) (.k (.c (.int .i64 1)))⟩, ⟨1, (some 7), none, .mv (.s 25)⟩] [] (some [6, 5, 7])))))
/-- kerbstone/curve.fair -/
abbrev f_curve_fair : Nat := 178
def c_curve_fair : CFn := { frz := true, rnd := none, nargs := 1, ntmps := 26, res := [(.slot 2)], code :=
  (.seq (.region 0 [⟨0, (some 2), none, .mv (.k (.c (.bool false)))⟩] [] (some [0]))
  (.seq (.seq (.region 0 [⟨0, (some 5), none, .mv (.s 0)⟩, ⟨1, (some 6), none, .len (.s 5)⟩, ⟨2, (some 7), none, .mv (.k (.c (.int .i64 0)))⟩] [] (some [6, 5, 7]))
  (.block 0 (.loop (some [6, 5, 7]) c_curve_fair_l1)))
  (.seq (.region 0 [⟨0, (some 2), none, .mv (.k (.c (.bool true)))⟩] [] (some [2]))
  .ret))) }
/-- kerbstone/curve.pieces -/
abbrev f_curve_pieces : Nat := 179
def c_curve_pieces : CFn := { frz := true, rnd := none, nargs := 1, ntmps := 4, res := [(.slot 2)], code :=
  (.seq (.region 1 [⟨0, (some 1), none, .box 0 1 (.s 0)⟩, ⟨1, (some 2), none, .mv (.k (.c .nilfn))⟩] [] (some [1]))
  (.seq (.region 0 [⟨0, (some 3), none, .mkfn 210 [] [(.s 1)]⟩, ⟨1, (some 2), none, .mv (.s 3)⟩] [] (some [2]))
  .ret)) }
/-- kerbstone/curve.from -/
abbrev f_curve_from : Nat := 180
def c_curve_from : CFn := { frz := true, rnd := none, nargs := 2, ntmps := 16, res := [(.cell 4 true 2)], code :=
  (.seq (.region 3 [⟨0, (some 2), none, .box 0 2 (.s 0)⟩, ⟨1, (some 3), none, .box 1 2 (.s 1)⟩, ⟨2, (some 4), none, .box 2 2 (.k (.a [(.int .i64 0), (.int .i64 0)]))⟩] [] (some [3, 2, 4]))
  (.seq (.region 0 [⟨0, (some 5), none, .faddr 0 (.s 3)⟩, ⟨1, (some 6), none, .load false 1 (.s 5)⟩, ⟨2, (some 7), none, .faddr 0 (.s 2)⟩, ⟨3, (some 8), none, .load false 1 (.s 7)⟩, ⟨4, (some 9), none, .bin .sub (.s 6) (.s 8)⟩, ⟨5, (some 10), none, .faddr 1 (.s 3)⟩, ⟨6, (some 11), none, .load false 1 (.s 10)⟩, ⟨7, (some 12), none, .faddr 1 (.s 2)⟩, ⟨8, (some 13), none, .load false 1 (.s 12)⟩, ⟨9, (some 14), none, .bin .sub (.s 11) (.s 13)⟩, ⟨10, (some 15), none, .build [(.int .i64 0), (.int .i64 0)] [(0, 1, (.s 9)), (1, 1, (.s 14))]⟩, ⟨11, none, none, .store 2 (.s 4) (.s 15)⟩] [] (some [4]))
  .ret)) }
/-- (kerbstone/curve.vector).dot -/
abbrev f_curve_vector_dot : Nat := 181
def c_curve_vector_dot : CFn := { frz := true, rnd := none, nargs := 2, ntmps := 16, res := [(.slot 4)], code :=
  (.seq (.region 2 [⟨0, (some 2), none, .box 0 2 (.s 0)⟩, ⟨1, (some 3), none, .box 1 2 (.s 1)⟩, ⟨2, (some 4), none, .mv (.k (.c (.int .i64 0)))⟩] [] (some [2, 3]))
  (.seq (.region 0 [⟨0, (some 5), none, .faddr 0 (.s 2)⟩, ⟨1, (some 6), none, .load false 1 (.s 5)⟩, ⟨2, (some 7), none, .faddr 0 (.s 3)⟩, ⟨3, (some 8), none, .load false 1 (.s 7)⟩, ⟨4, (some 9), none, .bin .mul (.s 6) (.s 8)⟩, ⟨5, (some 10), none, .faddr 1 (.s 2)⟩, ⟨6, (some 11), none, .load false 1 (.s 10)⟩, ⟨7, (some 12), none, .faddr 1 (.s 3)⟩, ⟨8, (some 13), none, .load false 1 (.s 12)⟩, ⟨9, (some 14), none, .bin .mul (.s 11) (.s 13)⟩, ⟨10, (some 15), none, .bin .add (.s 9) (.s 14)⟩, ⟨11, (some 4), none, .mv (.s 15)⟩] [] (some [4]))
  .ret)) }
def c_kerbstoneref01_Check_l1 : CC := (.seq (.seq (.region 0 [⟨0, (some 15), none, .mv (.s 3)⟩, ⟨1, (some 16), none, .faddr 0 (.s 1)⟩, ⟨2, (some 17), none, .load false 1 (.s 16)⟩, ⟨3, (some 18), none, .len (.s 17)⟩, ⟨4, (some 19), none, .bin .lss (.s 15) (.s 18)⟩] [] (some [19, 1, 3]))
  (.cond (.s 19) .skip
  (.exit 0)))
  (.seq (.block 1 (.seq (.region 0 [⟨0, (some 22), none, .faddr 0 (.s 1)⟩, ⟨1, (some 23), none, .load false 1 (.s 22)⟩, ⟨2, (some 24), none, .mv (.s 3)⟩, ⟨3, (some 25), none, .iaddr 2 (.s 23) (.s 24)⟩, ⟨4, (some 26), none, .load true 2 (.s 25)⟩, ⟨5, (some 27), none, .call ⟨true⟩ (.k (.c (.fn 197 [] []))) [(.s 26)]⟩, ⟨6, (some 28), none, .un .not (.s 27)⟩] [] (some [28, 1, 3]))
  (.cond (.s 28) (.seq (.region 0 [⟨0, (some 2), none, .mv (.k (.c (.int .i64 2)))⟩] [] (some [2]))
  .ret)
  .skip)))
  (.region 0 [⟨0, (some 20), none, .mv (.s 3)⟩, ⟨1, (some 21), none, .bin .add (.s 20) (.k (.c (.int .i64 1)))⟩, ⟨2, (some 3), none, .mv (.s 21)⟩] [] (some [1, 3]))))
def c_kerbstoneref01_Check_l2 : CC := (.seq (.seq (.region 0 [⟨0, (some 29), none, .mv (.s 4)⟩, ⟨1, (some 30), none, .bin .add (.s 29) (.k (.c (.int .i64 1)))⟩, ⟨2, (some 31), none, .faddr 0 (.s 1)⟩, ⟨3, (some 32), none, .load false 1 (.s 31)⟩, ⟨4, (some 33), none, .len (.s 32)⟩, ⟨5, (some 34), none, .bin .lss (.s 30) (.s 33)⟩] [] (some [34, 1, 4]))
  (.cond (.s 34) .skip
  (.exit 2)))
  (.seq (.block 3 (.seq (.region 1 [⟨0, (some 37), none, .faddr 0 (.s 1)⟩, ⟨2, (some 39), none, .mv (.s 4)⟩, ⟨3, (some 40), none, .bin .add (.s 39) (.k (.c (.int .i64 1)))⟩, ⟨6, (some 43), none, .faddr 0 (.s 1)⟩, ⟨8, (some 45), none, .mv (.s 4)⟩, ⟨1, (some 38), none, .load false 1 (.s 37)⟩, ⟨4, (some 41), none, .iaddr 2 (.s 38) (.s 40)⟩, ⟨5, (some 42), none, .load true 2 (.s 41)⟩, ⟨7, (some 44), none, .load false 1 (.s 43)⟩, ⟨9, (some 46), none, .iaddr 2 (.s 44) (.s 45)⟩, ⟨10, (some 47), none, .load true 2 (.s 46)⟩, ⟨11, (some 48), none, .call ⟨true⟩ (.k (.c (.fn 198 [] []))) [(.s 42), (.s 47)]⟩, ⟨12, (some 5), none, .box 0 2 (.k (.a [(.int .i64 0), (.int .i64 0)]))⟩, ⟨13, none, none, .store 2 (.s 5) (.s 48)⟩] [(5, 12), (7, 12), (8, 12), (10, 12), (11, 12)] (some [5, 1, 4]))
  (.seq (.region 0 [⟨0, (some 49), none, .load true 2 (.s 5)⟩, ⟨1, (some 50), none, .load true 2 (.s 5)⟩, ⟨2, (some 51), none, .call ⟨true⟩ (.k (.c (.fn 199 [] []))) [(.s 49), (.s 50)]⟩, ⟨3, (some 52), none, .call ⟨true⟩ (.k (.c (.fn 207 [] []))) [(.s 51)]⟩, ⟨4, (some 6), none, .mv (.s 52)⟩] [] (some [5, 1, 4, 6]))
  (.seq (.seq (.region 0 [⟨0, (some 53), none, .mv (.s 6)⟩, ⟨1, (some 54), none, .mv (.s 6)⟩, ⟨2, (some 55), none, .bin .mul (.s 53) (.s 54)⟩, ⟨3, (some 56), none, .load true 2 (.s 5)⟩, ⟨4, (some 57), none, .load true 2 (.s 5)⟩, ⟨5, (some 58), none, .call ⟨true⟩ (.k (.c (.fn 199 [] []))) [(.s 56), (.s 57)]⟩, ⟨6, (some 59), none, .bin .neq (.s 55) (.s 58)⟩] [] (some [59, 5, 1, 4, 6]))
  (.cond (.s 59) (.seq (.region 0 [⟨0, (some 2), none, .mv (.k (.c (.int .i64 3)))⟩] [] (some [2]))
  .ret)
  .skip))
  (.seq (.seq (.region 0 [⟨0, (some 60), none, .mv (.s 6)⟩, ⟨1, (some 61), none, .bin .lss (.s 60) (.k (.c (.int .i64 1000)))⟩, ⟨2, (some 62), none, .mv (.s 61)⟩, ⟨3, (some 63), (some (62, false)), .mv (.s 6)⟩, ⟨4, (some 64), (some (62, false)), .bin .gtr (.s 63) (.k (.c (.int .i64 1048576)))⟩, ⟨5, (some 65), none, .pick (.s 62) (.k (.c (.bool true))) (.s 64)⟩] [] (some [65, 4, 1, 5]))
  (.cond (.s 65) (.seq (.region 0 [⟨0, (some 2), none, .mv (.k (.c (.int .i64 2)))⟩] [] (some [2]))
  .ret)
  .skip))
  (.seq (.region 0 [⟨0, (some 66), none, .mv (.s 4)⟩, ⟨1, (some 67), none, .bin .gtr (.s 66) (.k (.c (.int .i64 0)))⟩, ⟨2, (some 68), none, .mv (.s 67)⟩, ⟨4, (some 70), (some (68, true)), .faddr 0 (.s 1)⟩, ⟨6, (some 72), (some (68, true)), .mv (.s 4)⟩, ⟨9, (some 75), (some (68, true)), .faddr 0 (.s 1)⟩, ⟨11, (some 77), (some (68, true)), .mv (.s 4)⟩, ⟨12, (some 78), (some (68, true)), .bin .sub (.s 77) (.k (.c (.int .i64 1)))⟩, ⟨3, (some 69), (some (68, true)), .load true 2 (.s 5)⟩, ⟨5, (some 71), (some (68, true)), .load false 1 (.s 70)⟩, ⟨7, (some 73), (some (68, true)), .iaddr 2 (.s 71) (.s 72)⟩, ⟨8, (some 74), (some (68, true)), .load true 2 (.s 73)⟩, ⟨10, (some 76), (some (68, true)), .load false 1 (.s 75)⟩, ⟨13, (some 79), (some (68, true)), .iaddr 2 (.s 76) (.s 78)⟩, ⟨14, (some 80), (some (68, true)), .load true 2 (.s 79)⟩, ⟨15, (some 81), (some (68, true)), .call ⟨true⟩ (.k (.c (.fn 198 [] []))) [(.s 74), (.s 80)]⟩, ⟨16, (some 82), (some (68, true)), .call ⟨true⟩ (.k (.c (.fn 199 [] []))) [(.s 69), (.s 81)]⟩, ⟨17, (some 83), (some (68, true)), .bin .leq (.s 82) (.k (.c (.int .i64 0)))⟩, ⟨18, (some 84), none, .pick (.s 68) (.s 83) (.k (.c (.bool false)))⟩] [(8, 15)] (some [84, 1, 4]))
  (.cond (.s 84) (.seq (.region 0 [⟨0, (some 2), none, .mv (.k (.c (.int .i64 12)))⟩] [] (some [2]))
  .ret)
  .skip)))))))
  (.region 0 [⟨0, (some 35), none, .mv (.s 4)⟩, ⟨1, (some 36), none, .bin .add (.s 35) (.k (.c (.int .i64 1)))⟩, ⟨2, (some 4), none, .mv (.s 36)⟩] [] (some [1, 4]))))
/-- kerbstone/kerbstoneref01.Check -/
abbrev f_kerbstoneref01_Check : Nat := 195
def c_kerbstoneref01_Check : CFn := { frz := true, rnd := none, nargs := 1, ntmps := 85, res := [(.slot 2)], code :=
  (.seq (.region 1 [⟨0, (some 1), none, .box 0 1 (.s 0)⟩, ⟨1, (some 2), none, .mv (.k (.c (.int .i64 0)))⟩] [] (some [1]))
  (.seq (.seq (.region 0 [⟨0, (some 7), none, .faddr 0 (.s 1)⟩, ⟨1, (some 8), none, .load false 1 (.s 7)⟩, ⟨2, (some 9), none, .len (.s 8)⟩, ⟨3, (some 10), none, .bin .lss (.s 9) (.k (.c (.int .i64 2)))⟩] [] (some [10, 1]))
  (.cond (.s 10) (.seq (.region 0 [⟨0, (some 2), none, .mv (.k (.c (.int .i64 6)))⟩] [] (some [2]))
  .ret)
  .skip))
  (.seq (.seq (.region 0 [⟨0, (some 11), none, .faddr 0 (.s 1)⟩, ⟨1, (some 12), none, .load false 1 (.s 11)⟩, ⟨2, (some 13), none, .len (.s 12)⟩, ⟨3, (some 14), none, .bin .gtr (.s 13) (.k (.c (.int .i64 16)))⟩] [] (some [14, 1]))
  (.cond (.s 14) (.seq (.region 0 [⟨0, (some 2), none, .mv (.k (.c (.int .i64 5)))⟩] [] (some [2]))
  .ret)
  .skip))
  (.seq (.seq (.region 0 [⟨0, (some 3), none, .mv (.k (.c (.int .i64 0)))⟩] [] (some [1, 3]))
  (.block 0 (.loop (some [1, 3]) c_kerbstoneref01_Check_l1)))
  (.seq (.seq (.region 0 [⟨0, (some 4), none, .mv (.k (.c (.int .i64 0)))⟩] [] (some [1, 4]))
  (.block 2 (.loop (some [1, 4]) c_kerbstoneref01_Check_l2)))
  (.seq (.region 0 [⟨0, (some 2), none, .mv (.k (.c (.int .i64 0)))⟩] [] (some [2]))
  .ret)))))) }
def c_kerbstoneref03_ordered_l1 : CC := (.seq (.seq (.region 0 [⟨0, (some 8), none, .mv (.s 7)⟩, ⟨1, (some 9), none, .mv (.s 0)⟩, ⟨2, (some 10), none, .len (.s 9)⟩, ⟨3, (some 11), none, .bin .lss (.s 8) (.s 10)⟩] [] (some [11, 0, 2, 1, 7]))
  (.cond (.s 11) .skip
  (.exit 0)))
  (.seq (.block 1 (.seq (.region 0 [⟨0, (some 14), none, .mv (.s 0)⟩, ⟨1, (some 15), none, .mv (.s 7)⟩, ⟨2, (some 16), none, .iaddr 1 (.s 14) (.s 15)⟩, ⟨4, (some 18), none, .mv (.s 1)⟩, ⟨3, (some 17), none, .load false 1 (.s 16)⟩, ⟨5, (some 19), none, .bin .lss (.s 17) (.s 18)⟩, ⟨6, (some 20), none, .mv (.s 19)⟩, ⟨7, (some 21), (some (20, false)), .mv (.s 0)⟩, ⟨8, (some 22), (some (20, false)), .mv (.s 7)⟩, ⟨9, (some 23), (some (20, false)), .iaddr 1 (.s 21) (.s 22)⟩, ⟨11, (some 25), (some (20, false)), .mv (.s 2)⟩, ⟨10, (some 24), (some (20, false)), .load false 1 (.s 23)⟩, ⟨12, (some 26), (some (20, false)), .bin .geq (.s 24) (.s 25)⟩, ⟨13, (some 27), none, .pick (.s 20) (.k (.c (.bool true))) (.s 26)⟩, ⟨14, (some 28), none, .mv (.s 27)⟩, ⟨15, (some 29), (some (28, false)), .mv (.s 7)⟩, ⟨16, (some 30), (some (28, false)), .bin .gtr (.s 29) (.k (.c (.int .i64 0)))⟩, ⟨17, (some 31), (some (28, false)), .mv (.s 30)⟩, ⟨18, (some 32), (some (31, true)), .mv (.s 0)⟩, ⟨19, (some 33), (some (31, true)), .mv (.s 7)⟩, ⟨20, (some 34), (some (31, true)), .iaddr 1 (.s 32) (.s 33)⟩, ⟨22, (some 36), (some (31, true)), .mv (.s 0)⟩, ⟨23, (some 37), (some (31, true)), .mv (.s 7)⟩, ⟨24, (some 38), (some (31, true)), .bin .sub (.s 37) (.k (.c (.int .i64 1)))⟩, ⟨25, (some 39), (some (31, true)), .iaddr 1 (.s 36) (.s 38)⟩, ⟨21, (some 35), (some (31, true)), .load false 1 (.s 34)⟩, ⟨26, (some 40), (some (31, true)), .load false 1 (.s 39)⟩, ⟨27, (some 41), (some (31, true)), .bin .leq (.s 35) (.s 40)⟩, ⟨28, (some 42), (some (28, false)), .pick (.s 31) (.s 41) (.k (.c (.bool false)))⟩, ⟨29, (some 43), none, .pick (.s 28) (.k (.c (.bool true))) (.s 42)⟩] [] (some [43, 0, 2, 1, 7]))
  (.cond (.s 43) (.seq (.region 0 [⟨0, (some 6), none, .mv (.k (.c (.bool false)))⟩] [] (some [6]))
  .ret)
  .skip)))
  (.region 0 [⟨0, (some 12), none, .mv (.s 7)⟩, ⟨1, (some 13), none, .bin .add (.s 12) (.k (.c (.int .i64 1)))⟩, ⟨2, (some 7), none, .mv (.s 13)⟩] [] (some [1, 2, 0, 7]))))
/-- kerbstone/kerbstoneref03.ordered -/
abbrev f_kerbstoneref03_ordered : Nat := 196
def c_kerbstoneref03_ordered : CFn := { frz := true, rnd := none, nargs := 3, ntmps := 44, res := [(.slot 6)], code :=
  (.seq (.region 0 [⟨0, (some 6), none, .mv (.k (.c (.bool false)))⟩] [] (some [1, 2, 0]))
  (.seq (.seq (.region 0 [⟨0, (some 7), none, .mv (.k (.c (.int .i64 0)))⟩] [] (some [1, 2, 0, 7]))
  (.block 0 (.loop (some [1, 2, 0, 7]) c_kerbstoneref03_ordered_l1)))
  (.seq (.region 0 [⟨0, (some 6), none, .mv (.k (.c (.bool true)))⟩] [] (some [6]))
  .ret))) }
/-- kerbstone/kerbstoneref01.Valid -/
abbrev f_kerbstoneref01_Valid : Nat := 197
def c_kerbstoneref01_Valid : CFn := { frz := true, rnd := none, nargs := 1, ntmps := 21, res := [(.slot 2)], code :=
  (.seq (.region 1 [⟨0, (some 1), none, .box 0 2 (.s 0)⟩, ⟨1, (some 2), none, .mv (.k (.c (.bool false)))⟩] [] (some [1]))
  (.seq (.region 0 [⟨0, (some 3), none, .faddr 0 (.s 1)⟩, ⟨1, (some 4), none, .load false 1 (.s 3)⟩, ⟨2, (some 5), none, .bin .geq (.s 4) (.k (.c (.int .i64 (-16777216))))⟩, ⟨3, (some 6), none, .mv (.s 5)⟩, ⟨4, (some 7), (some (6, true)), .faddr 0 (.s 1)⟩, ⟨5, (some 8), (some (6, true)), .load false 1 (.s 7)⟩, ⟨6, (some 9), (some (6, true)), .bin .leq (.s 8) (.k (.c (.int .i64 16777216)))⟩, ⟨7, (some 10), none, .pick (.s 6) (.s 9) (.k (.c (.bool false)))⟩, ⟨8, (some 11), none, .mv (.s 10)⟩, ⟨9, (some 12), (some (11, true)), .faddr 1 (.s 1)⟩, ⟨10, (some 13), (some (11, true)), .load false 1 (.s 12)⟩, ⟨11, (some 14), (some (11, true)), .bin .geq (.s 13) (.k (.c (.int .i64 (-16777216))))⟩, ⟨12, (some 15), none, .pick (.s 11) (.s 14) (.k (.c (.bool false)))⟩, ⟨13, (some 16), none, .mv (.s 15)⟩, ⟨14, (some 17), (some (16, true)), .faddr 1 (.s 1)⟩, ⟨15, (some 18), (some (16, true)), .load false 1 (.s 17)⟩, ⟨16, (some 19), (some (16, true)), .bin .leq (.s 18) (.k (.c (.int .i64 16777216)))⟩, ⟨17, (some 20), none, .pick (.s 16) (.s 19) (.k (.c (.bool false)))⟩, ⟨18, (some 2), none, .mv (.s 20)⟩] [] (some [2]))
  .ret)) }
/-- kerbstone/kerbstoneref01.Minus -/
abbrev f_kerbstoneref01_Minus : Nat := 198
def c_kerbstoneref01_Minus : CFn := { frz := true, rnd := none, nargs := 2, ntmps := 16, res := [(.cell 4 true 2)], code :=
  (.seq (.region 3 [⟨0, (some 2), none, .box 0 2 (.s 0)⟩, ⟨1, (some 3), none, .box 1 2 (.s 1)⟩, ⟨2, (some 4), none, .box 2 2 (.k (.a [(.int .i64 0), (.int .i64 0)]))⟩] [] (some [2, 3, 4]))
  (.seq (.region 0 [⟨0, (some 5), none, .faddr 0 (.s 2)⟩, ⟨1, (some 6), none, .load false 1 (.s 5)⟩, ⟨2, (some 7), none, .faddr 0 (.s 3)⟩, ⟨3, (some 8), none, .load false 1 (.s 7)⟩, ⟨4, (some 9), none, .bin .sub (.s 6) (.s 8)⟩, ⟨5, (some 10), none, .faddr 1 (.s 2)⟩, ⟨6, (some 11), none, .load false 1 (.s 10)⟩, ⟨7, (some 12), none, .faddr 1 (.s 3)⟩, ⟨8, (some 13), none, .load false 1 (.s 12)⟩, ⟨9, (some 14), none, .bin .sub (.s 11) (.s 13)⟩, ⟨10, (some 15), none, .build [(.int .i64 0), (.int .i64 0)] [(0, 1, (.s 9)), (1, 1, (.s 14))]⟩, ⟨11, none, none, .store 2 (.s 4) (.s 15)⟩] [] (some [4]))
  .ret)) }
/-- kerbstone/kerbstoneref01.Dot -/
abbrev f_kerbstoneref01_Dot : Nat := 199
def c_kerbstoneref01_Dot : CFn := { frz := true, rnd := none, nargs := 2, ntmps := 16, res := [(.slot 4)], code :=
  (.seq (.region 2 [⟨0, (some 2), none, .box 0 2 (.s 0)⟩, ⟨1, (some 3), none, .box 1 2 (.s 1)⟩, ⟨2, (some 4), none, .mv (.k (.c (.int .i64 0)))⟩] [] (some [2, 3]))
  (.seq (.region 0 [⟨0, (some 5), none, .faddr 0 (.s 2)⟩, ⟨1, (some 6), none, .load false 1 (.s 5)⟩, ⟨2, (some 7), none, .faddr 0 (.s 3)⟩, ⟨3, (some 8), none, .load false 1 (.s 7)⟩, ⟨4, (some 9), none, .bin .mul (.s 6) (.s 8)⟩, ⟨5, (some 10), none, .faddr 1 (.s 2)⟩, ⟨6, (some 11), none, .load false 1 (.s 10)⟩, ⟨7, (some 12), none, .faddr 1 (.s 3)⟩, ⟨8, (some 13), none, .load false 1 (.s 12)⟩, ⟨9, (some 14), none, .bin .mul (.s 11) (.s 13)⟩, ⟨10, (some 15), none, .bin .add (.s 9) (.s 14)⟩, ⟨11, (some 4), none, .mv (.s 15)⟩] [] (some [4]))
  .ret)) }
def c_slices_stableCmpFunc_Blob_l1 : CC := (.seq (.seq (.region 0 [⟨0, (some 11), none, .mv (.s 8)⟩, ⟨1, (some 12), none, .mv (.s 1)⟩, ⟨2, (some 13), none, .bin .leq (.s 11) (.s 12)⟩] [] (some [13, 7, 8, 1, 0, 2, 6]))
  (.cond (.s 13) .skip
  (.exit 0)))
  (.block 1 (.seq (.region 0 [⟨0, (some 14), none, .mv (.s 0)⟩, ⟨1, (some 15), none, .mv (.s 7)⟩, ⟨2, (some 16), none, .mv (.s 8)⟩, ⟨3, (some 17), none, .mv (.s 2)⟩, ⟨4, (some 18), none, .call ⟨false⟩ (.k (.c (.fn 216 [] []))) [(.s 14), (.s 15), (.s 16), (.s 17)]⟩] [] (some [8, 1, 0, 2, 6]))
  (.seq (.region 0 [⟨0, (some 19), none, .mv (.s 8)⟩, ⟨1, (some 7), none, .mv (.s 19)⟩] [] (some [8, 7, 1, 0, 2, 6]))
  (.region 0 [⟨0, (some 20), none, .mv (.s 8)⟩, ⟨1, (some 21), none, .mv (.s 6)⟩, ⟨2, (some 22), none, .bin .add (.s 20) (.s 21)⟩, ⟨3, (some 8), none, .mv (.s 22)⟩] [] (some [7, 8, 1, 0, 2, 6]))))))
def c_slices_stableCmpFunc_Blob_l2 : CC := (.seq (.seq (.region 0 [⟨0, (some 33), none, .mv (.s 8)⟩, ⟨1, (some 34), none, .mv (.s 1)⟩, ⟨2, (some 35), none, .bin .leq (.s 33) (.s 34)⟩] [] (some [35, 7, 8, 1, 0, 2, 6]))
  (.cond (.s 35) .skip
  (.exit 4)))
  (.block 5 (.seq (.region 0 [⟨0, (some 36), none, .mv (.s 0)⟩, ⟨1, (some 37), none, .mv (.s 7)⟩, ⟨2, (some 38), none, .mv (.s 7)⟩, ⟨3, (some 39), none, .mv (.s 6)⟩, ⟨4, (some 40), none, .bin .add (.s 38) (.s 39)⟩, ⟨5, (some 41), none, .mv (.s 8)⟩, ⟨6, (some 42), none, .mv (.s 2)⟩, ⟨7, (some 43), none, .call ⟨false⟩ (.k (.c (.fn 217 [] []))) [(.s 36), (.s 37), (.s 40), (.s 41), (.s 42)]⟩] [] (some [8, 1, 0, 2, 6]))
  (.seq (.region 0 [⟨0, (some 44), none, .mv (.s 8)⟩, ⟨1, (some 7), none, .mv (.s 44)⟩] [] (some [8, 7, 1, 0, 2, 6]))
  (.region 0 [⟨0, (some 45), none, .mv (.s 8)⟩, ⟨1, (some 46), none, .mv (.s 6)⟩, ⟨2, (some 47), none, .bin .mul (.k (.c (.int .i64 2))) (.s 46)⟩, ⟨3, (some 48), none, .bin .add (.s 45) (.s 47)⟩, ⟨4, (some 8), none, .mv (.s 48)⟩] [] (some [7, 8, 1, 0, 2, 6]))))))
def c_slices_stableCmpFunc_Blob_l3 : CC := (.seq (.seq (.region 0 [⟨0, (some 28), none, .mv (.s 6)⟩, ⟨1, (some 29), none, .mv (.s 1)⟩, ⟨2, (some 30), none, .bin .lss (.s 28) (.s 29)⟩] [] (some [30, 1, 0, 2, 6]))
  (.cond (.s 30) .skip
  (.exit 2)))
  (.block 3 (.seq (.region 0 [⟨0, (some 31), none, .mv (.s 6)⟩, ⟨1, (some 32), none, .bin .mul (.k (.c (.int .i64 2))) (.s 31)⟩, ⟨2, (some 7), none, .mv (.k (.c (.int .i64 0)))⟩, ⟨3, (some 8), none, .mv (.s 32)⟩] [] (some [7, 8, 1, 0, 2, 6]))
  (.seq (.block 4 (.loop (some [7, 8, 1, 0, 2, 6]) c_slices_stableCmpFunc_Blob_l2))
  (.seq (.seq (.region 0 [⟨0, (some 49), none, .mv (.s 7)⟩, ⟨1, (some 50), none, .mv (.s 6)⟩, ⟨2, (some 51), none, .bin .add (.s 49) (.s 50)⟩, ⟨3, (some 9), none, .mv (.s 51)⟩] [] (some [7, 9, 6, 1, 0, 2]))
  (.seq (.region 0 [⟨0, (some 52), none, .mv (.s 9)⟩, ⟨1, (some 53), none, .mv (.s 1)⟩, ⟨2, (some 54), none, .bin .lss (.s 52) (.s 53)⟩] [] (some [54, 7, 9, 6, 1, 0, 2]))
  (.cond (.s 54) (.region 0 [⟨0, (some 55), none, .mv (.s 0)⟩, ⟨1, (some 56), none, .mv (.s 7)⟩, ⟨2, (some 57), none, .mv (.s 9)⟩, ⟨3, (some 58), none, .mv (.s 1)⟩, ⟨4, (some 59), none, .mv (.s 2)⟩, ⟨5, (some 60), none, .call ⟨false⟩ (.k (.c (.fn 217 [] []))) [(.s 55), (.s 56), (.s 57), (.s 58), (.s 59)]⟩] [] (some [6, 1, 0, 2]))
  .skip)))
  (.region 0 [⟨0, (some 61), none, .mv (.s 6)⟩, ⟨1, (some 62), none, .bin .mul (.s 61) (.k (.c (.int .i64 2)))⟩, ⟨2, (some 6), none, .mv (.s 62)⟩] [] (some [1, 0, 2, 6])))))))
/-- slices.stableCmpFunc[kerbstone/api.Blob] -/
abbrev f_slices_stableCmpFunc_Blob : Nat := 202
def c_slices_stableCmpFunc_Blob : CFn := { frz := true, rnd := none, nargs := 3, ntmps := 63, res := [], code :=
  (.seq (.region 0 [⟨0, (some 6), none, .mv (.k (.c (.int .i64 20)))⟩] [] (some [1, 0, 2, 6]))
  (.seq (.region 0 [⟨0, (some 10), none, .mv (.s 6)⟩, ⟨1, (some 7), none, .mv (.k (.c (.int .i64 0)))⟩, ⟨2, (some 8), none, .mv (.s 10)⟩] [] (some [7, 8, 1, 0, 2, 6]))
  (.seq (.block 0 (.loop (some [7, 8, 1, 0, 2, 6]) c_slices_stableCmpFunc_Blob_l1))
  (.seq (.region 0 [⟨0, (some 23), none, .mv (.s 0)⟩, ⟨1, (some 24), none, .mv (.s 7)⟩, ⟨2, (some 25), none, .mv (.s 1)⟩, ⟨3, (some 26), none, .mv (.s 2)⟩, ⟨4, (some 27), none, .call ⟨false⟩ (.k (.c (.fn 216 [] []))) [(.s 23), (.s 24), (.s 25), (.s 26)]⟩] [] (some [1, 0, 2, 6]))
  (.block 2 (.loop (some [1, 0, 2, 6]) c_slices_stableCmpFunc_Blob_l3)))))) }
/-- cmp.isNaN[int] -/
abbrev f_cmp_isNaN_int : Nat := 203
def c_cmp_isNaN_int : CFn := { frz := true, rnd := none, nargs := 1, ntmps := 6, res := [(.slot 2)], code :=
  (.seq (.region 0 [⟨0, (some 2), none, .mv (.k (.c (.bool false)))⟩] [] (some [0]))
  (.seq (.region 0 [⟨0, (some 3), none, .mv (.s 0)⟩, ⟨1, (some 4), none, .mv (.s 0)⟩, ⟨2, (some 5), none, .bin .neq (.s 3) (.s 4)⟩, ⟨3, (some 2), none, .mv (.s 5)⟩] [] (some [2]))
  .ret)) }
def c_curve_root_l1 : CC := (.seq (.seq (.region 0 [⟨0, (some 7), none, .mv (.s 4)⟩, ⟨1, (some 8), none, .mv (.s 5)⟩, ⟨2, (some 9), none, .bin .lss (.s 7) (.s 8)⟩] [] (some [9, 4, 5, 0]))
  (.cond (.s 9) .skip
  (.exit 0)))
  (.block 1 (.seq (.region 0 [⟨0, (some 10), none, .mv (.s 4)⟩, ⟨1, (some 11), none, .mv (.s 5)⟩, ⟨2, (some 12), none, .bin .add (.s 10) (.s 11)⟩, ⟨3, (some 13), none, .bin .quo (.s 12) (.k (.c (.int .i64 2)))⟩, ⟨4, (some 6), none, .mv (.s 13)⟩] [] (some [4, 6, 5, 0]))
  (.seq (.region 0 [⟨0, (some 14), none, .mv (.s 6)⟩, ⟨1, (some 15), none, .mv (.s 6)⟩, ⟨2, (some 16), none, .bin .mul (.s 14) (.s 15)⟩, ⟨3, (some 17), none, .mv (.s 0)⟩, ⟨4, (some 18), none, .bin .lss (.s 16) (.s 17)⟩] [] (some [18, 4, 6, 5, 0]))
  (.cond (.s 18) (.region 0 [⟨0, (some 19), none, .mv (.s 6)⟩, ⟨1, (some 20), none, .bin .add (.s 19) (.k (.c (.int .i64 1)))⟩, ⟨2, (some 4), none, .mv (.s 20)⟩] [] (some [4, 5, 0]))
  (.region 0 [⟨0, (some 21), none, .mv (.s 6)⟩, ⟨1, (some 5), none, .mv (.s 21)⟩] [] (some [4, 5, 0])))))))
/-- kerbstone/curve.root -/
abbrev f_curve_root : Nat := 204
def c_curve_root : CFn := { frz := true, rnd := none, nargs := 1, ntmps := 28, res := [(.slot 2), (.slot 3)], code :=
  (.seq (.region 0 [⟨0, (some 2), none, .mv (.k (.c (.int .i64 0)))⟩, ⟨1, (some 3), none, .mv (.k (.c (.bool false)))⟩] [] (some [0]))
  (.seq (.region 0 [⟨0, (some 4), none, .mv (.k (.c (.int .i64 0)))⟩, ⟨1, (some 5), none, .mv (.k (.c (.int .i64 67108864)))⟩] [] (some [4, 5, 0]))
  (.seq (.block 0 (.loop (some [4, 5, 0]) c_curve_root_l1))
  (.seq (.region 0 [⟨0, (some 22), none, .mv (.s 4)⟩, ⟨1, (some 23), none, .mv (.s 4)⟩, ⟨2, (some 24), none, .mv (.s 4)⟩, ⟨3, (some 25), none, .bin .mul (.s 23) (.s 24)⟩, ⟨4, (some 26), none, .mv (.s 0)⟩, ⟨5, (some 27), none, .bin .eql (.s 25) (.s 26)⟩, ⟨6, (some 2), none, .mv (.s 22)⟩, ⟨7, (some 3), none, .mv (.s 27)⟩] [] (some [2, 3]))
  .ret)))) }
def c_slices_IndexFunc_Phase_l1 : CC := (.seq (.region 0 [⟨0, (some 9), none, .bin .lss (.s 8) (.s 7)⟩] [] (some [9, 0, 1, 7, 8]))
  (.seq (.cond (.s 9) .skip
  (.exit 0))
  (.seq (.block 1 (.seq (.region 0 [⟨0, (some 10), none, .mv (.s 8)⟩, ⟨1, (some 5), none, .mv (.s 10)⟩] [] (some [0, 1, 7, 8, 5]))
  (.seq (.region 0 [⟨0, (some 11), none, .mv (.s 1)⟩, ⟨1, (some 12), none, .mv (.s 0)⟩, ⟨2, (some 13), none, .mv (.s 5)⟩, ⟨3, (some 14), none, .iaddr 2 (.s 12) (.s 13)⟩, ⟨4, (some 15), none, .load true 2 (.s 14)⟩, ⟨5, (some 16), none, .call ⟨true⟩ (.s 11) [(.s 15)]⟩] [] (some [16, 0, 1, 7, 8, 5]))
  (.cond (.s 16) (.seq (.region 0 [⟨0, (some 17), none, .mv (.s 5)⟩, ⟨1, (some 4), none, .mv (.s 17)⟩] [] (some [4]))
  .ret)
  .skip))))
  (.region 0 [⟨0, (some 18), none, .bin .add (.s 8) (.k (.c (.int .i64 1)))⟩, ⟨1, (some 8), none, .mv (.s 18)⟩] [] (some [7, 1, 0, 8])))))
/-- slices.IndexFunc[[]kerbstone/api.Phase,kerbstone/api.Phase] -/
abbrev f_slices_IndexFunc_Phase : Nat := 205
def c_slices_IndexFunc_Phase : CFn := { frz := true, rnd := none, nargs := 2, ntmps := 19, res := [(.slot 4)], code :=
  (.seq (.region 0 [⟨0, (some 4), none, .mv (.k (.c (.int .i64 0)))⟩] [] (some [1, 0]))
  (.seq (.seq (.region 0 [⟨0, (some 6), none, .mv (.s 0)⟩, ⟨1, (some 7), none, .len (.s 6)⟩, ⟨2, (some 8), none, .mv (.k (.c (.int .i64 0)))⟩] [] (some [7, 1, 0, 8]))
  (.block 0 (.loop (some [7, 1, 0, 8]) c_slices_IndexFunc_Phase_l1)))
  (.seq (.region 0 [⟨0, (some 4), none, .mv (.k (.c (.int .i64 (-1))))⟩] [] (some [4]))
  .ret))) }
/-- kerbstone/curve.Pieces -/
abbrev f_curve_Pieces : Nat := 206
def c_curve_Pieces : CFn := { frz := true, rnd := none, nargs := 1, ntmps := 19, res := [(.slot 2)], code :=
  (.seq (.region 2 [⟨0, (some 1), none, .box 0 1 (.s 0)⟩, ⟨1, (some 2), none, .newsl 1 1⟩] [] (some [2, 1]))
  (.seq (.seq (.region 0 [⟨0, (some 6), none, .load true 1 (.s 1)⟩, ⟨1, (some 7), none, .call ⟨true⟩ (.k (.c (.fn 163 [] []))) [(.s 6)]⟩, ⟨2, (some 8), none, .bin .neq (.s 7) (.k (.c (.int .i64 0)))⟩] [] (some [8, 2, 1]))
  (.cond (.s 8) (.seq (.region 1 [⟨0, (some 2), none, .newsl 0 1⟩] [] (some [2]))
  .ret)
  .skip))
  (.seq (.region 1 [⟨0, (some 3), none, .box 0 1 (.k (.a [.nilslice]))⟩] [] (some [1, 2, 3]))
  (.seq (.seq (.region 0 [⟨0, (some 9), none, .load true 1 (.s 1)⟩, ⟨1, (some 10), none, .call ⟨true⟩ (.k (.c (.fn 179 [] []))) [(.s 9)]⟩] [] (some [2, 10, 3]))
  (.block 0 (.rng (.s 10) 3535 [3])))
  (.seq (.region 0 [⟨0, (some 18), none, .load false 1 (.s 3)⟩, ⟨1, (some 2), none, .mv (.s 18)⟩] [] (some [2]))
  .ret))))) }
/-- rounds of kerbstone/curve.Pieces -/
abbrev f_curve_Pieces_r1 : Nat := 3535
def c_curve_Pieces_r1 : CFn := { frz := false, rnd := (some ([11, 12], (.region 1 [⟨0, (some 5), none, .box 0 6 (.k (.a [(.int .i64 0), (.int .i64 0), (.int .i64 0), (.int .i64 0), (.int .i64 0), (.int .i64 0)]))⟩, ⟨1, none, none, .store 6 (.s 5) (.s 12)⟩] [] (some [5, 3])))), nargs := 3, ntmps := 19, res := [], code :=
  (.block 1 (.region 1 [⟨0, (some 13), none, .load false 1 (.s 3)⟩, ⟨1, (some 14), none, .faddr 4 (.s 5)⟩, ⟨2, (some 15), none, .load false 1 (.s 14)⟩, ⟨3, (some 16), none, .lit 0 1 [[(.int .i64 0)]] [(0, (.s 15))]⟩, ⟨4, (some 17), none, .append 1 8 (.s 13) (.s 16)⟩, ⟨5, none, none, .store 1 (.s 3) (.s 17)⟩] [] (some []))) }
end Go.TrRun
