/- This text lists functions of this seat's program, compiled for the evaluator; no condition. -/
import Derived.Test.YtdfglfljpkogoaaGreatEvl3
import Derived.KernelRfl
set_option linter.unusedVariables false
namespace Go.TkRun
open Go Go.Eng
def an : Ann := anOf [52, 101, 104, 106, 134, 158, 162, 164, 174, 175, 176, 177, 178, 179, 180, 181, 203, 212, 224, 225, 226, 227, 228, 229, 230, 231, 232, 235, 237, 240, 241, 254, 268, 274, 275, 276, 277, 278, 279, 281, 282, 290, 291, 292, 293, 294, 295, 297, 298, 300, 301, 303, 307, 308, 309, 311, 312, 314] [70, 81, 104, 117, 134, 137, 138, 139, 140, 162, 211, 224, 243, 244, 267, 302]
abbrev f_kerbstonelaw05_TrackKnown : Nat := 3
def c_kerbstonelaw05_TrackKnown : CFn := { frz := true, rnd := none, nargs := 0, ntmps := 180, res := [(.slot 0)], code :=
  (.seq (.region 0 [⟨0, (some 0), none, .mv (.k (.c (.bool false)))⟩] [] (some []))
  (.seq (.region 1 [⟨0, (some 17), none, .call ⟨true⟩ (.k (.c (.fn 6 [] []))) []⟩, ⟨1, (some 1), none, .box 0 5 (.k (.a [(.int .i64 0), .nilslice, .nilslice, .nilslice, .nilslice]))⟩, ⟨2, none, none, .store 5 (.s 1) (.s 17)⟩] [] (some [1]))
  (.seq (.region 2 [⟨0, (some 18), none, .load true 5 (.s 1)⟩, ⟨2, (some 20), none, .load true 5 (.s 1)⟩, ⟨3, (some 21), none, .call ⟨true⟩ (.k (.c (.fn 9 [] []))) []⟩, ⟨4, (some 22), none, .call ⟨true⟩ (.k (.c (.fn 8 [] []))) [(.s 20), (.k (.c (.int .i64 0))), (.s 21)]⟩, ⟨1, (some 19), none, .lit 0 1 [[(.int .i64 0)]] [(0, (.k (.c (.int .i64 0))))]⟩, ⟨5, (some 23), none, .call ⟨true⟩ (.k (.c (.fn 7 [] []))) [(.s 18), (.s 19), (.k (.c (.int .i64 4000))), (.s 22)]⟩, ⟨6, (some 2), none, .box 1 6 (.k (.a [(.int .i64 0), .nilslice, (.int .i64 0), (.int .i64 0), (.int .i64 0), (.int .i64 0)]))⟩, ⟨7, none, none, .store 6 (.s 2) (.s 23)⟩] [(0, 2), (0, 3), (0, 4), (0, 6), (1, 2), (1, 4), (1, 6), (2, 4), (2, 6), (3, 4), (3, 6), (4, 6), (5, 6)] (some [2, 1]))
  (.seq (.region 2 [⟨0, (some 25), none, .load true 5 (.s 1)⟩, ⟨1, (some 26), none, .lit 0 1 [[(.int .i64 0)]] [(0, (.k (.c (.int .i64 0))))]⟩, ⟨2, (some 27), none, .load true 6 (.s 2)⟩, ⟨3, (some 28), none, .call ⟨true⟩ (.k (.c (.fn 10 [] []))) [(.s 25), (.s 26), (.k (.c (.int .i64 4000))), (.s 27), (.k (.c (.int .i64 0))), (.k (.c (.bool true)))]⟩, ⟨4, (some 24), none, .mv (.s 28)⟩, ⟨5, (some 29), none, .extract 24 0⟩, ⟨6, (some 30), none, .extract 24 1⟩, ⟨7, (some 31), none, .extract 24 2⟩, ⟨8, (some 3), none, .box 1 6 (.k (.a [(.int .i64 0), .nilslice, (.int .i64 0), (.int .i64 0), (.int .i64 0), (.int .i64 0)]))⟩, ⟨9, none, none, .store 6 (.s 3) (.s 29)⟩, ⟨10, (some 4), none, .mv (.s 30)⟩, ⟨11, (some 5), none, .mv (.s 31)⟩] [] (some [5, 1, 3]))
  (.seq (.seq (.region 0 [⟨0, (some 32), none, .mv (.s 5)⟩, ⟨1, (some 33), none, .bin .neq (.s 32) (.k (.c (.int .i64 0)))⟩, ⟨2, (some 34), none, .mv (.s 33)⟩, ⟨3, (some 35), (some (34, false)), .faddr 1 (.s 3)⟩, ⟨4, (some 36), (some (34, false)), .load false 1 (.s 35)⟩, ⟨5, (some 37), (some (34, false)), .len (.s 36)⟩, ⟨6, (some 38), (some (34, false)), .bin .neq (.s 37) (.k (.c (.int .i64 3)))⟩, ⟨7, (some 39), none, .pick (.s 34) (.k (.c (.bool true))) (.s 38)⟩, ⟨8, (some 40), none, .mv (.s 39)⟩, ⟨9, (some 41), (some (40, false)), .faddr 1 (.s 3)⟩, ⟨10, (some 42), (some (40, false)), .load false 1 (.s 41)⟩, ⟨11, (some 43), (some (40, false)), .iaddr 6 (.s 42) (.k (.c (.int .i64 0)))⟩, ⟨12, (some 44), (some (40, false)), .load true 6 (.s 43)⟩, ⟨13, (some 45), (some (40, false)), .build [(.int .i64 0), (.int .i64 0), (.int .i64 0), (.int .i64 0), (.int .i64 0), (.int .i64 0)] [(2, 1, (.k (.c (.int .i64 6009)))), (4, 1, (.k (.c (.int .i64 2000))))]⟩, ⟨14, (some 46), (some (40, false)), .eqa true [false, false, false, false, false, false] (.s 44) (.s 45)⟩, ⟨15, (some 47), none, .pick (.s 40) (.k (.c (.bool true))) (.s 46)⟩, ⟨16, (some 48), none, .mv (.s 47)⟩, ⟨17, (some 49), (some (48, false)), .faddr 1 (.s 3)⟩, ⟨18, (some 50), (some (48, false)), .load false 1 (.s 49)⟩, ⟨19, (some 51), (some (48, false)), .iaddr 6 (.s 50) (.k (.c (.int .i64 1)))⟩, ⟨20, (some 52), (some (48, false)), .load true 6 (.s 51)⟩, ⟨21, (some 53), (some (48, false)), .build [(.int .i64 0), (.int .i64 0), (.int .i64 0), (.int .i64 0), (.int .i64 0), (.int .i64 0)] [(1, 1, (.k (.c (.int .i64 10001)))), (2, 1, (.k (.c (.int .i64 100000)))), (4, 1, (.k (.c (.int .i64 2000))))]⟩, ⟨22, (some 54), (some (48, false)), .eqa true [false, false, false, false, false, false] (.s 52) (.s 53)⟩, ⟨23, (some 55), none, .pick (.s 48) (.k (.c (.bool true))) (.s 54)⟩] [] (some [55, 1, 3]))
  (.cond (.s 55) (.seq (.region 0 [⟨0, (some 0), none, .mv (.k (.c (.bool false)))⟩] [] (some [0]))
  .ret)
  .skip))
  (.seq (.region 2 [⟨0, (some 56), none, .build [(.int .i64 0), (.int .i64 0), (.int .i64 0), (.int .i64 0), (.int .i64 0), (.int .i64 0)] [(0, 1, (.k (.c (.int .i64 1)))), (1, 1, (.k (.c (.int .i64 100)))), (2, 1, (.k (.c (.int .i64 200)))), (3, 1, (.k (.c (.int .i64 50)))), (4, 1, (.k (.c (.int .i64 100))))]⟩, ⟨1, (some 57), none, .lit 0 6 [[(.int .i64 0), (.int .i64 0), (.int .i64 0), (.int .i64 0), (.int .i64 0), (.int .i64 0)]] [(0, (.s 56))]⟩, ⟨2, (some 58), none, .call ⟨true⟩ (.k (.c (.fn 9 [] []))) []⟩, ⟨3, (some 59), none, .build [(.int .i64 0), .nilslice, (.int .i64 0), (.int .i64 0), (.int .i64 0), (.int .i64 0)] [(1, 1, (.s 57)), (2, 4, (.s 58))]⟩, ⟨4, (some 6), none, .box 1 6 (.k (.a [(.int .i64 0), .nilslice, (.int .i64 0), (.int .i64 0), (.int .i64 0), (.int .i64 0)]))⟩, ⟨5, none, none, .store 6 (.s 6) (.s 59)⟩] [] (some [6, 3, 1]))
  (.seq (.region 1 [⟨0, (some 61), none, .load true 5 (.s 1)⟩, ⟨1, (some 62), none, .lit 0 1 [[(.int .i64 0)]] [(0, (.k (.c (.int .i64 0))))]⟩, ⟨2, (some 63), none, .load true 6 (.s 6)⟩, ⟨3, (some 64), none, .call ⟨true⟩ (.k (.c (.fn 10 [] []))) [(.s 61), (.s 62), (.k (.c (.int .i64 4000))), (.s 63), (.k (.c (.int .i64 0))), (.k (.c (.bool true)))]⟩, ⟨4, (some 60), none, .mv (.s 64)⟩, ⟨5, (some 65), none, .extract 60 0⟩, ⟨6, (some 66), none, .extract 60 1⟩, ⟨7, (some 67), none, .extract 60 2⟩, ⟨8, none, none, .store 6 (.s 3) (.s 65)⟩, ⟨9, (some 5), none, .mv (.s 67)⟩] [] (some [5, 3, 1]))
  (.seq (.seq (.region 0 [⟨0, (some 68), none, .mv (.s 5)⟩, ⟨1, (some 69), none, .bin .neq (.s 68) (.k (.c (.int .i64 0)))⟩, ⟨2, (some 70), none, .mv (.s 69)⟩, ⟨3, (some 71), (some (70, false)), .faddr 1 (.s 3)⟩, ⟨4, (some 72), (some (70, false)), .load false 1 (.s 71)⟩, ⟨5, (some 73), (some (70, false)), .len (.s 72)⟩, ⟨6, (some 74), (some (70, false)), .bin .neq (.s 73) (.k (.c (.int .i64 3)))⟩, ⟨7, (some 75), none, .pick (.s 70) (.k (.c (.bool true))) (.s 74)⟩, ⟨8, (some 76), none, .mv (.s 75)⟩, ⟨9, (some 77), (some (76, false)), .faddr 1 (.s 3)⟩, ⟨10, (some 78), (some (76, false)), .load false 1 (.s 77)⟩, ⟨11, (some 79), (some (76, false)), .iaddr 6 (.s 78) (.k (.c (.int .i64 1)))⟩, ⟨12, (some 80), (some (76, false)), .load true 6 (.s 79)⟩, ⟨13, (some 81), (some (76, false)), .build [(.int .i64 0), (.int .i64 0), (.int .i64 0), (.int .i64 0), (.int .i64 0), (.int .i64 0)] [(0, 1, (.k (.c (.int .i64 1)))), (4, 1, (.k (.c (.int .i64 2000))))]⟩, ⟨14, (some 82), (some (76, false)), .eqa true [false, false, false, false, false, false] (.s 80) (.s 81)⟩, ⟨15, (some 83), none, .pick (.s 76) (.k (.c (.bool true))) (.s 82)⟩, ⟨16, (some 84), none, .mv (.s 83)⟩, ⟨17, (some 85), (some (84, false)), .faddr 1 (.s 3)⟩, ⟨18, (some 86), (some (84, false)), .load false 1 (.s 85)⟩, ⟨19, (some 87), (some (84, false)), .iaddr 6 (.s 86) (.k (.c (.int .i64 2)))⟩, ⟨20, (some 88), (some (84, false)), .load true 6 (.s 87)⟩, ⟨21, (some 89), (some (84, false)), .build [(.int .i64 0), (.int .i64 0), (.int .i64 0), (.int .i64 0), (.int .i64 0), (.int .i64 0)] [(0, 1, (.k (.c (.int .i64 1)))), (1, 1, (.k (.c (.int .i64 100)))), (2, 1, (.k (.c (.int .i64 330)))), (4, 1, (.k (.c (.int .i64 130))))]⟩, ⟨22, (some 90), (some (84, false)), .eqa true [false, false, false, false, false, false] (.s 88) (.s 89)⟩, ⟨23, (some 91), none, .pick (.s 84) (.k (.c (.bool true))) (.s 90)⟩] [] (some [91, 1]))
  (.cond (.s 91) (.seq (.region 0 [⟨0, (some 0), none, .mv (.k (.c (.bool false)))⟩] [] (some [0]))
  .ret)
  .skip))
  (.seq (.region 1 [⟨0, (some 92), none, .build [(.int .i64 0), (.int .i64 0), (.int .i64 0)] [(0, 1, (.k (.c (.int .i64 20000)))), (2, 1, (.k (.c (.int .i64 10))))]⟩, ⟨1, (some 93), none, .build [(.int .i64 0), (.int .i64 0), (.int .i64 0)] [(0, 1, (.k (.c (.int .i64 20400)))), (1, 1, (.k (.c (.int .i64 50)))), (2, 1, (.k (.c (.int .i64 12))))]⟩, ⟨2, (some 94), none, .lit 0 3 [[(.int .i64 0), (.int .i64 0), (.int .i64 0)], [(.int .i64 0), (.int .i64 0), (.int .i64 0)]] [(0, (.s 92)), (1, (.s 93))]⟩, ⟨3, (some 7), none, .mv (.s 94)⟩] [] (some [1, 7]))
  (.seq (.region 0 [⟨0, (some 95), none, .load true 5 (.s 1)⟩, ⟨1, (some 96), none, .mv (.s 7)⟩, ⟨2, (some 97), none, .call ⟨true⟩ (.k (.c (.fn 11 [] []))) [(.s 95), (.s 96)]⟩, ⟨3, (some 8), none, .mv (.s 97)⟩] [] (some [8, 1, 7]))
  (.seq (.region 1 [⟨0, (some 98), none, .build [(.int .i64 0), (.int .i64 0), (.int .i64 0)] [(2, 1, (.k (.c (.int .i64 30000))))]⟩, ⟨1, (some 99), none, .lit 0 3 [[(.int .i64 0), (.int .i64 0), (.int .i64 0)]] [(0, (.s 98))]⟩, ⟨2, (some 9), none, .mv (.s 99)⟩] [] (some [8, 1, 7, 9]))
  (.seq (.region 0 [⟨0, (some 100), none, .load true 5 (.s 1)⟩, ⟨1, (some 101), none, .mv (.s 9)⟩, ⟨2, (some 102), none, .mv (.s 8)⟩, ⟨3, (some 103), none, .call ⟨true⟩ (.k (.c (.fn 12 [] []))) [(.s 100), (.s 101), (.s 102)]⟩, ⟨4, (some 10), none, .mv (.s 103)⟩] [] (some [8, 10, 1, 7, 9]))
  (.seq (.seq (.region 2 [⟨0, (some 104), none, .mv (.s 8)⟩, ⟨1, (some 105), none, .build [(.int .i64 0), (.int .i64 0), (.int .i64 0), (.int .i64 0), (.int .i64 0)] [(1, 1, (.k (.c (.int .i64 19900)))), (2, 1, (.k (.c (.int .i64 20500)))), (3, 1, (.k (.c (.int .i64 5)))), (4, 1, (.k (.c (.int .i64 17))))]⟩, ⟨2, (some 106), none, .lit 0 5 [[(.int .i64 0), (.int .i64 0), (.int .i64 0), (.int .i64 0), (.int .i64 0)]] [(0, (.s 105))]⟩, ⟨3, (some 107), none, .call ⟨true⟩ (.k (.c (.fn 13 [] []))) [(.s 104), (.s 106)]⟩, ⟨4, (some 108), none, .un .not (.s 107)⟩, ⟨5, (some 109), none, .mv (.s 108)⟩, ⟨6, (some 110), (some (109, false)), .mv (.s 10)⟩, ⟨7, (some 111), (some (109, false)), .build [(.int .i64 0), (.int .i64 0), (.int .i64 0)] [(2, 1, (.k (.c (.int .i64 19899))))]⟩, ⟨8, (some 112), (some (109, false)), .build [(.int .i64 0), (.int .i64 0), (.int .i64 0)] [(1, 1, (.k (.c (.int .i64 20501)))), (2, 1, (.k (.c (.int .i64 30000))))]⟩, ⟨9, (some 113), (some (109, false)), .lit 1 3 [[(.int .i64 0), (.int .i64 0), (.int .i64 0)], [(.int .i64 0), (.int .i64 0), (.int .i64 0)]] [(0, (.s 111)), (1, (.s 112))]⟩, ⟨10, (some 114), (some (109, false)), .call ⟨true⟩ (.k (.c (.fn 14 [] []))) [(.s 110), (.s 113)]⟩, ⟨11, (some 115), (some (109, false)), .un .not (.s 114)⟩, ⟨12, (some 116), none, .pick (.s 109) (.k (.c (.bool true))) (.s 115)⟩] [] (some [116, 1, 7, 9]))
  (.cond (.s 116) (.seq (.region 0 [⟨0, (some 0), none, .mv (.k (.c (.bool false)))⟩] [] (some [0]))
  .ret)
  .skip))
  (.seq (.region 1 [⟨4, (some 121), none, .mv (.s 9)⟩, ⟨5, (some 122), none, .mv (.s 7)⟩, ⟨6, (some 123), none, .build [(.int .i64 0), .nilslice, .nilslice] [(1, 1, (.s 121)), (2, 1, (.s 122))]⟩, ⟨0, (some 117), none, .load true 5 (.s 1)⟩, ⟨1, (some 118), none, .load true 5 (.s 1)⟩, ⟨2, (some 119), none, .call ⟨true⟩ (.k (.c (.fn 9 [] []))) []⟩, ⟨3, (some 120), none, .call ⟨true⟩ (.k (.c (.fn 8 [] []))) [(.s 118), (.k (.c (.int .i64 0))), (.s 119)]⟩, ⟨7, (some 124), none, .call ⟨true⟩ (.k (.c (.fn 15 [] []))) [(.s 117), (.s 120), (.s 123)]⟩, ⟨8, (some 11), none, .box 0 6 (.k (.a [(.int .i64 0), .nilslice, (.int .i64 0), (.int .i64 0), (.int .i64 0), (.int .i64 0)]))⟩, ⟨9, none, none, .store 6 (.s 11) (.s 124)⟩] [(3, 5), (3, 6), (3, 8), (4, 5), (4, 8), (5, 8), (6, 8), (7, 8)] (some [11]))
  (.seq (.seq (.region 0 [⟨0, (some 125), none, .faddr 1 (.s 11)⟩, ⟨1, (some 126), none, .load false 1 (.s 125)⟩, ⟨2, (some 127), none, .len (.s 126)⟩, ⟨3, (some 128), none, .bin .neq (.s 127) (.k (.c (.int .i64 3)))⟩, ⟨4, (some 129), none, .mv (.s 128)⟩, ⟨5, (some 130), (some (129, false)), .faddr 1 (.s 11)⟩, ⟨6, (some 131), (some (129, false)), .load false 1 (.s 130)⟩, ⟨7, (some 132), (some (129, false)), .iaddr 6 (.s 131) (.k (.c (.int .i64 0)))⟩, ⟨8, (some 133), (some (129, false)), .load true 6 (.s 132)⟩, ⟨9, (some 134), (some (129, false)), .build [(.int .i64 0), (.int .i64 0), (.int .i64 0), (.int .i64 0), (.int .i64 0), (.int .i64 0)] [(1, 1, (.k (.c (.int .i64 19900)))), (2, 1, (.k (.c (.int .i64 20500)))), (3, 1, (.k (.c (.int .i64 5)))), (4, 1, (.k (.c (.int .i64 17))))]⟩, ⟨10, (some 135), (some (129, false)), .eqa true [false, false, false, false, false, false] (.s 133) (.s 134)⟩, ⟨11, (some 136), none, .pick (.s 129) (.k (.c (.bool true))) (.s 135)⟩, ⟨12, (some 137), none, .mv (.s 136)⟩, ⟨13, (some 138), (some (137, false)), .faddr 1 (.s 11)⟩, ⟨14, (some 139), (some (137, false)), .load false 1 (.s 138)⟩, ⟨15, (some 140), (some (137, false)), .iaddr 6 (.s 139) (.k (.c (.int .i64 1)))⟩, ⟨16, (some 141), (some (137, false)), .load true 6 (.s 140)⟩, ⟨17, (some 142), (some (137, false)), .build [(.int .i64 0), (.int .i64 0), (.int .i64 0), (.int .i64 0), (.int .i64 0), (.int .i64 0)] [(1, 1, (.k (.c (.int .i64 30001)))), (2, 1, (.k (.c (.int .i64 100000)))), (4, 1, (.k (.c (.int .i64 2000))))]⟩, ⟨18, (some 143), (some (137, false)), .eqa true [false, false, false, false, false, false] (.s 141) (.s 142)⟩, ⟨19, (some 144), none, .pick (.s 137) (.k (.c (.bool true))) (.s 143)⟩] [] (some [144]))
  (.cond (.s 144) (.seq (.region 0 [⟨0, (some 0), none, .mv (.k (.c (.bool false)))⟩] [] (some [0]))
  .ret)
  .skip))
  (.seq (.region 1 [⟨0, (some 145), none, .build [(.int .i64 0), (.int .i64 0), (.int .i64 0), (.int .i64 0)] [(3, 1, (.k (.c (.int .i64 10))))]⟩, ⟨1, (some 146), none, .build [(.int .i64 0), .nilslice, (.int .i64 0), (.int .i64 0), (.int .i64 0), (.int .i64 0)] [(2, 4, (.s 145))]⟩, ⟨2, (some 12), none, .box 0 6 (.k (.a [(.int .i64 0), .nilslice, (.int .i64 0), (.int .i64 0), (.int .i64 0), (.int .i64 0)]))⟩, ⟨3, none, none, .store 6 (.s 12) (.s 146)⟩] [] (some [12]))
  (.seq (.region 1 [⟨0, (some 148), none, .load true 6 (.s 12)⟩, ⟨1, (some 149), none, .build [(.int .i64 0), (.int .i64 0), (.int .i64 0)] [(1, 1, (.k (.c (.int .i64 4)))), (2, 1, (.k (.c (.int .i64 20))))]⟩, ⟨2, (some 150), none, .call ⟨true⟩ (.k (.c (.fn 16 [] []))) [(.s 148), (.s 149)]⟩, ⟨3, (some 147), none, .mv (.s 150)⟩, ⟨4, (some 151), none, .extract 147 0⟩, ⟨5, (some 152), none, .extract 147 1⟩, ⟨6, (some 13), none, .box 0 6 (.k (.a [(.int .i64 0), .nilslice, (.int .i64 0), (.int .i64 0), (.int .i64 0), (.int .i64 0)]))⟩, ⟨7, none, none, .store 6 (.s 13) (.s 151)⟩, ⟨8, (some 14), none, .mv (.s 152)⟩] [] (some [14, 13, 12]))
  (.seq (.region 1 [⟨0, (some 154), none, .load true 6 (.s 12)⟩, ⟨1, (some 155), none, .build [(.int .i64 0), (.int .i64 0), (.int .i64 0)] [(1, 1, (.k (.c (.int .i64 11)))), (2, 1, (.k (.c (.int .i64 20))))]⟩, ⟨2, (some 156), none, .call ⟨true⟩ (.k (.c (.fn 16 [] []))) [(.s 154), (.s 155)]⟩, ⟨3, (some 153), none, .mv (.s 156)⟩, ⟨4, (some 157), none, .extract 153 0⟩, ⟨5, (some 158), none, .extract 153 1⟩, ⟨6, (some 15), none, .box 0 6 (.k (.a [(.int .i64 0), .nilslice, (.int .i64 0), (.int .i64 0), (.int .i64 0), (.int .i64 0)]))⟩, ⟨7, none, none, .store 6 (.s 15) (.s 157)⟩, ⟨8, (some 16), none, .mv (.s 158)⟩] [] (some [14, 13, 16, 15, 12]))
  (.seq (.region 0 [⟨0, (some 159), none, .mv (.s 14)⟩, ⟨1, (some 160), none, .mv (.s 159)⟩, ⟨2, (some 161), (some (160, true)), .faddr 2 (.s 13)⟩, ⟨3, (some 162), (some (160, true)), .load true 4 (.s 161)⟩, ⟨4, (some 163), (some (160, true)), .build [(.int .i64 0), (.int .i64 0), (.int .i64 0), (.int .i64 0)] [(2, 1, (.k (.c (.int .i64 4)))), (3, 1, (.k (.c (.int .i64 10))))]⟩, ⟨5, (some 164), (some (160, true)), .eqa false [false, false, false, false] (.s 162) (.s 163)⟩, ⟨6, (some 165), none, .pick (.s 160) (.s 164) (.k (.c (.bool false)))⟩, ⟨7, (some 166), none, .mv (.s 165)⟩, ⟨8, (some 167), (some (166, true)), .mv (.s 16)⟩, ⟨9, (some 168), (some (166, true)), .un .not (.s 167)⟩, ⟨10, (some 169), none, .pick (.s 166) (.s 168) (.k (.c (.bool false)))⟩, ⟨11, (some 170), none, .mv (.s 169)⟩, ⟨12, (some 171), (some (170, true)), .faddr 2 (.s 15)⟩, ⟨13, (some 172), (some (170, true)), .load true 4 (.s 171)⟩, ⟨14, (some 173), (some (170, true)), .faddr 2 (.s 12)⟩, ⟨15, (some 174), (some (170, true)), .load true 4 (.s 173)⟩, ⟨16, (some 175), (some (170, true)), .eqa false [false, false, false, false] (.s 172) (.s 174)⟩, ⟨17, (some 176), none, .pick (.s 170) (.s 175) (.k (.c (.bool false)))⟩, ⟨18, (some 177), none, .mv (.s 176)⟩, ⟨19, (some 178), (some (177, true)), .call ⟨true⟩ (.k (.c (.fn 17 [] []))) []⟩, ⟨20, (some 179), none, .pick (.s 177) (.s 178) (.k (.c (.bool false)))⟩, ⟨21, (some 0), none, .mv (.s 179)⟩] [] (some [0]))
  .ret))))))))))))))))))) }
abbrev f_kerbstonekit_Cross : Nat := 6
def c_kerbstonekit_Cross : CFn := { frz := true, rnd := none, nargs := 0, ntmps := 12, res := [(.cell 0 true 5)], code :=
  (.seq (.region 1 [⟨0, (some 0), none, .box 0 5 (.k (.a [(.int .i64 0), .nilslice, .nilslice, .nilslice, .nilslice]))⟩] [] (some [0]))
  (.seq (.region 5 [⟨0, (some 1), none, .lit 0 1 [[(.int .i64 0)], [(.int .i64 0)], [(.int .i64 0)], [(.int .i64 0)]] [(0, (.k (.c (.int .i64 0)))), (1, (.k (.c (.int .i64 0)))), (2, (.k (.c (.int .i64 100000)))), (3, (.k (.c (.int .i64 0))))]⟩, ⟨1, (some 2), none, .call ⟨true⟩ (.k (.c (.fn 38 [] []))) [(.k (.c (.int .i64 1))), (.k (.c (.int .i64 1500))), (.k (.c .nilslice)), (.s 1)]⟩, ⟨2, (some 3), none, .lit 1 1 [[(.int .i64 0)], [(.int .i64 0)], [(.int .i64 0)], [(.int .i64 0)]] [(0, (.k (.c (.int .i64 50000)))), (1, (.k (.c (.int .i64 (-50000))))), (2, (.k (.c (.int .i64 50000)))), (3, (.k (.c (.int .i64 50000))))]⟩, ⟨3, (some 4), none, .call ⟨true⟩ (.k (.c (.fn 38 [] []))) [(.k (.c (.int .i64 1))), (.k (.c (.int .i64 1500))), (.k (.c .nilslice)), (.s 3)]⟩, ⟨4, (some 5), none, .lit 2 5 [[(.int .i64 0), .nilslice, (.int .i64 0), (.int .i64 0), .nilslice], [(.int .i64 0), .nilslice, (.int .i64 0), (.int .i64 0), .nilslice]] [(0, (.s 2)), (1, (.s 4))]⟩, ⟨5, (some 6), none, .build [(.int .i64 0), (.int .i64 0), (.int .i64 0), (.int .i64 0)] [(0, 1, (.k (.c (.int .i64 0)))), (1, 1, (.k (.c (.int .i64 48000)))), (2, 1, (.k (.c (.int .i64 52000)))), (3, 1, (.k (.c (.int .i64 1))))]⟩, ⟨6, (some 7), none, .build [(.int .i64 0), (.int .i64 0), (.int .i64 0), (.int .i64 0)] [(0, 1, (.k (.c (.int .i64 1)))), (1, 1, (.k (.c (.int .i64 48000)))), (2, 1, (.k (.c (.int .i64 52000))))]⟩, ⟨7, (some 8), none, .lit 3 4 [[(.int .i64 0), (.int .i64 0), (.int .i64 0), (.int .i64 0)], [(.int .i64 0), (.int .i64 0), (.int .i64 0), (.int .i64 0)]] [(0, (.s 6)), (1, (.s 7))]⟩, ⟨8, (some 9), none, .build [.nilslice, (.int .i64 0)] [(0, 1, (.s 8))]⟩, ⟨9, (some 10), none, .lit 4 2 [[.nilslice, (.int .i64 0)]] [(0, (.s 9))]⟩, ⟨10, (some 11), none, .build [(.int .i64 0), .nilslice, .nilslice, .nilslice, .nilslice] [(1, 1, (.s 5)), (2, 1, (.s 10))]⟩, ⟨11, none, none, .store 5 (.s 0) (.s 11)⟩] [] (some [0]))
  .ret)) }
abbrev f_track_Own : Nat := 7
def c_track_Own : CFn := { frz := true, rnd := none, nargs := 4, ntmps := 36, res := [(.cell 8 true 6)], code :=
  (.seq (.region 3 [⟨0, (some 4), none, .box 0 5 (.s 0)⟩, ⟨1, (some 7), none, .box 1 6 (.s 3)⟩, ⟨2, (some 8), none, .box 2 6 (.k (.a [(.int .i64 0), .nilslice, (.int .i64 0), (.int .i64 0), (.int .i64 0), (.int .i64 0)]))⟩] [] (some [1, 2, 4, 7, 8]))
  (.seq (.region 0 [⟨0, (some 9), none, .load true 6 (.s 7)⟩, ⟨1, (some 10), none, .call ⟨true⟩ (.k (.c (.fn 39 [] []))) [(.s 9)]⟩, ⟨2, none, none, .store 6 (.s 7) (.s 10)⟩] [] (some [1, 2, 4, 7, 8]))
  (.seq (.seq (.region 0 [⟨0, (some 11), none, .load true 5 (.s 4)⟩, ⟨1, (some 12), none, .load true 6 (.s 7)⟩, ⟨2, (some 13), none, .call ⟨true⟩ (.k (.c (.fn 40 [] []))) [(.s 11), (.s 12)]⟩, ⟨3, (some 14), none, .bin .eql (.s 13) (.k (.c (.int .i64 0)))⟩, ⟨4, (some 15), none, .mv (.s 14)⟩, ⟨5, (some 16), (some (15, true)), .load true 5 (.s 4)⟩, ⟨6, (some 17), (some (15, true)), .mv (.s 1)⟩, ⟨7, (some 18), (some (15, true)), .call ⟨true⟩ (.k (.c (.fn 41 [] []))) [(.s 16), (.s 17)]⟩, ⟨8, (some 19), (some (15, true)), .bin .eql (.s 18) (.k (.c (.int .i64 0)))⟩, ⟨9, (some 20), none, .pick (.s 15) (.s 19) (.k (.c (.bool false)))⟩, ⟨10, (some 21), none, .mv (.s 20)⟩, ⟨11, (some 22), (some (21, true)), .mv (.s 2)⟩, ⟨12, (some 23), (some (21, true)), .call ⟨true⟩ (.k (.c (.fn 42 [] []))) [(.s 22)]⟩, ⟨13, (some 24), none, .pick (.s 21) (.s 23) (.k (.c (.bool false)))⟩] [] (some [24, 1, 2, 4, 7, 8]))
  (.cond (.s 24) (.region 0 [⟨1, (some 26), none, .mv (.s 1)⟩, ⟨2, (some 27), none, .mv (.s 2)⟩, ⟨4, (some 29), none, .faddr 1 (.s 7)⟩, ⟨6, (some 31), none, .faddr 2 (.s 7)⟩, ⟨0, (some 25), none, .load true 5 (.s 4)⟩, ⟨5, (some 30), none, .load false 1 (.s 29)⟩, ⟨7, (some 32), none, .load true 4 (.s 31)⟩, ⟨3, (some 28), none, .call ⟨true⟩ (.k (.c (.fn 43 [] []))) [(.s 25), (.s 26), (.s 27)]⟩, ⟨8, (some 33), none, .call ⟨true⟩ (.k (.c (.fn 44 [] []))) [(.s 28), (.s 30), (.s 32)]⟩, ⟨9, (some 34), none, .faddr 1 (.s 7)⟩, ⟨10, none, none, .store 1 (.s 34) (.s 33)⟩] [(5, 7), (6, 7)] (some [7, 8]))
  .skip))
  (.seq (.region 0 [⟨0, (some 35), none, .load true 6 (.s 7)⟩, ⟨1, none, none, .store 6 (.s 8) (.s 35)⟩] [] (some [8]))
  .ret)))) }
def c_track_All_l1 : CC := (.seq (.region 0 [⟨0, (some 24), none, .bin .lss (.s 23) (.s 22)⟩] [] (some [24, 23, 22, 6, 21, 3, 7]))
  (.seq (.cond (.s 24) .skip
  (.exit 0))
  (.seq (.block 1 (.seq (.region 1 [⟨0, (some 25), none, .mv (.s 23)⟩, ⟨1, (some 26), none, .iaddr 5 (.s 21) (.s 23)⟩, ⟨2, (some 27), none, .load true 5 (.s 26)⟩, ⟨3, (some 9), none, .box 0 5 (.k (.a [(.int .i64 0), .nilslice, (.int .i64 0), (.int .i64 0), .nilslice]))⟩, ⟨4, (some 8), none, .mv (.s 25)⟩, ⟨5, none, none, .store 5 (.s 9) (.s 27)⟩] [] (some [9, 8, 23, 22, 6, 21, 3, 7]))
  (.seq (.region 0 [⟨0, (some 29), none, .faddr 0 (.s 9)⟩, ⟨1, (some 30), none, .load false 1 (.s 29)⟩, ⟨2, (some 31), none, .call ⟨true⟩ (.k (.c (.fn 46 [] []))) [(.s 30)]⟩, ⟨3, (some 28), none, .mv (.s 31)⟩, ⟨4, (some 32), none, .extract 28 0⟩, ⟨5, (some 33), none, .extract 28 1⟩, ⟨6, (some 34), none, .extract 28 2⟩, ⟨7, (some 10), none, .mv (.s 32)⟩, ⟨8, (some 11), none, .mv (.s 33)⟩, ⟨9, (some 12), none, .mv (.s 34)⟩] [] (some [8, 10, 23, 22, 6, 21, 3, 7]))
  (.region 1 [⟨0, (some 35), none, .faddr 1 (.s 7)⟩, ⟨2, (some 37), none, .mv (.s 8)⟩, ⟨4, (some 39), none, .mv (.s 8)⟩, ⟨6, (some 41), none, .mv (.s 10)⟩, ⟨1, (some 36), none, .load false 1 (.s 35)⟩, ⟨3, (some 38), none, .load true 5 (.s 3)⟩, ⟨5, (some 40), none, .call ⟨true⟩ (.k (.c (.fn 47 [] []))) [(.s 38), (.s 39)]⟩, ⟨7, (some 42), none, .build [(.int .i64 0), (.int .i64 0), (.int .i64 0), (.int .i64 0), (.int .i64 0), (.int .i64 0)] [(0, 1, (.s 37)), (2, 1, (.s 40)), (4, 1, (.s 41))]⟩, ⟨8, (some 43), none, .lit 0 6 [[(.int .i64 0), (.int .i64 0), (.int .i64 0), (.int .i64 0), (.int .i64 0), (.int .i64 0)]] [(0, (.s 42))]⟩, ⟨9, (some 44), none, .append 6 48 (.s 36) (.s 43)⟩, ⟨10, (some 45), none, .faddr 1 (.s 7)⟩, ⟨11, none, none, .store 1 (.s 45) (.s 44)⟩] [(4, 6), (4, 8)] (some [23, 22, 6, 21, 3, 7])))))
  (.region 0 [⟨0, (some 46), none, .bin .add (.s 23) (.k (.c (.int .i64 1)))⟩, ⟨1, (some 23), none, .mv (.s 46)⟩] [] (some [23, 22, 6, 21, 3, 7])))))
abbrev f_track_All : Nat := 8
def c_track_All : CFn := { frz := true, rnd := none, nargs := 3, ntmps := 48, res := [(.cell 6 true 6)], code :=
  (.seq (.region 3 [⟨0, (some 3), none, .box 0 5 (.s 0)⟩, ⟨1, (some 5), none, .box 1 4 (.s 2)⟩, ⟨2, (some 6), none, .box 2 6 (.k (.a [(.int .i64 0), .nilslice, (.int .i64 0), (.int .i64 0), (.int .i64 0), (.int .i64 0)]))⟩] [] (some [1, 5, 3, 6]))
  (.seq (.region 1 [⟨0, (some 13), none, .mv (.s 1)⟩, ⟨1, (some 14), none, .load true 4 (.s 5)⟩, ⟨2, (some 15), none, .build [(.int .i64 0), .nilslice, (.int .i64 0), (.int .i64 0), (.int .i64 0), (.int .i64 0)] [(0, 1, (.s 13)), (2, 4, (.s 14))]⟩, ⟨3, (some 7), none, .box 0 6 (.k (.a [(.int .i64 0), .nilslice, (.int .i64 0), (.int .i64 0), (.int .i64 0), (.int .i64 0)]))⟩, ⟨4, none, none, .store 6 (.s 7) (.s 15)⟩] [] (some [3, 7, 6]))
  (.seq (.seq (.region 0 [⟨0, (some 16), none, .load true 5 (.s 3)⟩, ⟨1, (some 17), none, .call ⟨true⟩ (.k (.c (.fn 45 [] []))) [(.s 16)]⟩, ⟨2, (some 18), none, .bin .neq (.s 17) (.k (.c (.int .i64 0)))⟩] [] (some [18, 3, 7, 6]))
  (.cond (.s 18) (.seq (.region 0 [⟨0, (some 19), none, .load true 6 (.s 7)⟩, ⟨1, none, none, .store 6 (.s 6) (.s 19)⟩] [] (some [6]))
  .ret)
  .skip))
  (.seq (.seq (.region 0 [⟨0, (some 20), none, .faddr 1 (.s 3)⟩, ⟨1, (some 21), none, .load false 1 (.s 20)⟩, ⟨2, (some 22), none, .len (.s 21)⟩, ⟨3, (some 23), none, .mv (.k (.c (.int .i64 0)))⟩] [] (some [23, 22, 6, 21, 3, 7]))
  (.block 0 (.loop (some [23, 22, 6, 21, 3, 7]) c_track_All_l1)))
  (.seq (.region 0 [⟨0, (some 47), none, .load true 6 (.s 7)⟩, ⟨1, none, none, .store 6 (.s 6) (.s 47)⟩] [] (some [6]))
  .ret))))) }
abbrev f_kerbstonelaw05_start : Nat := 9
def c_kerbstonelaw05_start : CFn := { frz := true, rnd := none, nargs := 0, ntmps := 2, res := [(.cell 0 true 4)], code :=
  (.seq (.region 1 [⟨0, (some 0), none, .box 0 4 (.k (.a [(.int .i64 0), (.int .i64 0), (.int .i64 0), (.int .i64 0)]))⟩] [] (some [0]))
  (.seq (.region 0 [⟨0, (some 1), none, .build [(.int .i64 0), (.int .i64 0), (.int .i64 0), (.int .i64 0)] [(0, 1, (.k (.c (.int .i64 10000)))), (1, 1, (.k (.c (.int .i64 10010))))]⟩, ⟨1, none, none, .store 4 (.s 0) (.s 1)⟩] [] (some [0]))
  .ret)) }
abbrev f_track_Step : Nat := 10
def c_track_Step : CFn := { frz := true, rnd := none, nargs := 6, ntmps := 63, res := [(.cell 12 true 6), (.slot 13), (.slot 14)], code :=
  (.seq (.region 4 [⟨0, (some 6), none, .box 0 5 (.s 0)⟩, ⟨1, (some 9), none, .box 1 6 (.s 3)⟩, ⟨2, (some 12), none, .box 2 6 (.k (.a [(.int .i64 0), .nilslice, (.int .i64 0), (.int .i64 0), (.int .i64 0), (.int .i64 0)]))⟩, ⟨3, (some 13), none, .newsl 3 4⟩, ⟨4, (some 14), none, .mv (.k (.c (.int .i64 0)))⟩] [] (some [6, 1, 2, 5, 4, 9, 12]))
  (.seq (.seq (.region 0 [⟨0, (some 19), none, .load true 5 (.s 6)⟩, ⟨1, (some 20), none, .load true 6 (.s 9)⟩, ⟨2, (some 21), none, .call ⟨true⟩ (.k (.c (.fn 40 [] []))) [(.s 19), (.s 20)]⟩, ⟨3, (some 15), none, .mv (.s 21)⟩] [] (some [6, 1, 2, 5, 4, 9, 15, 12]))
  (.seq (.region 0 [⟨0, (some 22), none, .mv (.s 15)⟩, ⟨1, (some 23), none, .bin .neq (.s 22) (.k (.c (.int .i64 0)))⟩] [] (some [23, 6, 1, 2, 5, 4, 9, 15, 12]))
  (.cond (.s 23) (.seq (.region 1 [⟨0, (some 24), none, .build [(.int .i64 0), .nilslice, (.int .i64 0), (.int .i64 0), (.int .i64 0), (.int .i64 0)] []⟩, ⟨1, (some 25), none, .mv (.s 15)⟩, ⟨2, none, none, .store 6 (.s 12) (.s 24)⟩, ⟨3, (some 13), none, .newsl 0 4⟩, ⟨4, (some 14), none, .mv (.s 25)⟩] [] (some [12, 13, 14]))
  .ret)
  .skip)))
  (.seq (.seq (.region 0 [⟨0, (some 26), none, .load true 5 (.s 6)⟩, ⟨1, (some 27), none, .mv (.s 1)⟩, ⟨2, (some 28), none, .call ⟨true⟩ (.k (.c (.fn 41 [] []))) [(.s 26), (.s 27)]⟩, ⟨3, (some 29), none, .bin .neq (.s 28) (.k (.c (.int .i64 0)))⟩] [] (some [29, 9, 4, 5, 2, 1, 6, 12]))
  (.cond (.s 29) (.seq (.region 1 [⟨0, (some 30), none, .build [(.int .i64 0), .nilslice, (.int .i64 0), (.int .i64 0), (.int .i64 0), (.int .i64 0)] []⟩, ⟨1, none, none, .store 6 (.s 12) (.s 30)⟩, ⟨2, (some 13), none, .newsl 0 4⟩, ⟨3, (some 14), none, .mv (.k (.c (.int .i64 13)))⟩] [] (some [12, 13, 14]))
  .ret)
  .skip))
  (.seq (.region 1 [⟨0, (some 31), none, .load true 5 (.s 6)⟩, ⟨1, (some 32), none, .mv (.s 1)⟩, ⟨2, (some 33), none, .mv (.s 2)⟩, ⟨3, (some 34), none, .call ⟨true⟩ (.k (.c (.fn 43 [] []))) [(.s 31), (.s 32), (.s 33)]⟩, ⟨4, (some 16), none, .box 0 11 (.k (.a [(.int .i64 0), .nilslice, .nilslice, .nilslice, .nilslice, .nilslice, .nilslice, (.int .i64 0), (.int .i64 0), .nilslice, .nilslice]))⟩, ⟨5, none, none, .store 11 (.s 16) (.s 34)⟩] [] (some [2, 5, 4, 9, 16, 12]))
  (.seq (.seq (.region 0 [⟨0, (some 35), none, .mv (.s 2)⟩, ⟨1, (some 36), none, .call ⟨true⟩ (.k (.c (.fn 42 [] []))) [(.s 35)]⟩, ⟨2, (some 37), none, .un .not (.s 36)⟩, ⟨3, (some 38), none, .mv (.s 37)⟩, ⟨4, (some 39), (some (38, false)), .faddr 0 (.s 9)⟩, ⟨5, (some 40), (some (38, false)), .load false 1 (.s 39)⟩, ⟨6, (some 41), (some (38, false)), .bin .eql (.s 40) (.k (.c (.int .i64 1099511627776)))⟩, ⟨7, (some 42), none, .pick (.s 38) (.k (.c (.bool true))) (.s 41)⟩, ⟨8, (some 43), none, .mv (.s 42)⟩, ⟨9, (some 44), (some (43, false)), .load true 11 (.s 16)⟩, ⟨10, (some 45), (some (43, false)), .faddr 2 (.s 9)⟩, ⟨11, (some 46), (some (43, false)), .load true 4 (.s 45)⟩, ⟨12, (some 47), (some (43, false)), .mv (.s 4)⟩, ⟨13, (some 48), (some (43, false)), .call ⟨true⟩ (.k (.c (.fn 48 [] []))) [(.s 44), (.s 46), (.s 47)]⟩, ⟨14, (some 49), (some (43, false)), .field false 1 1 (.s 48)⟩, ⟨15, (some 50), (some (43, false)), .bin .gtr (.s 49) (.k (.c (.int .i64 1099511627776)))⟩, ⟨16, (some 51), none, .pick (.s 43) (.k (.c (.bool true))) (.s 50)⟩] [] (some [51, 5, 4, 9, 16, 12]))
  (.cond (.s 51) (.seq (.region 1 [⟨0, (some 52), none, .build [(.int .i64 0), .nilslice, (.int .i64 0), (.int .i64 0), (.int .i64 0), (.int .i64 0)] []⟩, ⟨1, none, none, .store 6 (.s 12) (.s 52)⟩, ⟨2, (some 13), none, .newsl 0 4⟩, ⟨3, (some 14), none, .mv (.k (.c (.int .i64 2)))⟩] [] (some [12, 13, 14]))
  .ret)
  .skip))
  (.seq (.region 1 [⟨0, (some 54), none, .load true 11 (.s 16)⟩, ⟨1, (some 55), none, .load true 6 (.s 9)⟩, ⟨2, (some 56), none, .mv (.s 4)⟩, ⟨3, (some 57), none, .mv (.s 5)⟩, ⟨4, (some 58), none, .call ⟨true⟩ (.k (.c (.fn 49 [] []))) [(.s 54), (.s 55), (.s 56), (.s 57)]⟩, ⟨5, (some 53), none, .mv (.s 58)⟩, ⟨6, (some 59), none, .extract 53 0⟩, ⟨7, (some 60), none, .extract 53 1⟩, ⟨8, (some 17), none, .box 0 6 (.k (.a [(.int .i64 0), .nilslice, (.int .i64 0), (.int .i64 0), (.int .i64 0), (.int .i64 0)]))⟩, ⟨9, none, none, .store 6 (.s 17) (.s 59)⟩, ⟨10, (some 18), none, .mv (.s 60)⟩] [] (some [17, 18, 12]))
  (.seq (.region 0 [⟨0, (some 61), none, .load true 6 (.s 17)⟩, ⟨1, (some 62), none, .mv (.s 18)⟩, ⟨2, none, none, .store 6 (.s 12) (.s 61)⟩, ⟨3, (some 13), none, .mv (.s 62)⟩, ⟨4, (some 14), none, .mv (.k (.c (.int .i64 0)))⟩] [] (some [12, 13, 14]))
  .ret))))))) }
def c_track_Found_l1 : CC := (.seq (.region 0 [⟨0, (some 28), none, .bin .lss (.s 27) (.s 26)⟩] [] (some [28, 7, 27, 26, 5, 21, 20, 1, 25, 2, 6]))
  (.seq (.cond (.s 28) .skip
  (.exit 2))
  (.seq (.block 3 (.seq (.region 1 [⟨0, (some 29), none, .iaddr 3 (.s 25) (.s 27)⟩, ⟨1, (some 30), none, .load true 3 (.s 29)⟩, ⟨2, (some 9), none, .box 0 3 (.k (.a [(.int .i64 0), (.int .i64 0), (.int .i64 0)]))⟩, ⟨3, none, none, .store 3 (.s 9) (.s 30)⟩] [] (some [7, 9, 27, 26, 5, 21, 20, 1, 25, 2, 6]))
  (.region 0 [⟨0, (some 31), none, .mv (.s 7)⟩, ⟨1, (some 32), none, .load true 5 (.s 2)⟩, ⟨2, (some 33), none, .mv (.s 6)⟩, ⟨3, (some 34), none, .load true 3 (.s 9)⟩, ⟨4, (some 35), none, .call ⟨true⟩ (.k (.c (.fn 51 [] []))) [(.s 32), (.s 33), (.s 34)]⟩, ⟨5, (some 36), none, .append 5 40 (.s 31) (.s 35)⟩, ⟨6, (some 7), none, .mv (.s 36)⟩] [] (some [27, 7, 26, 5, 21, 20, 1, 25, 2, 6]))))
  (.region 0 [⟨0, (some 37), none, .bin .add (.s 27) (.k (.c (.int .i64 1)))⟩, ⟨1, (some 27), none, .mv (.s 37)⟩] [] (some [7, 27, 26, 5, 21, 20, 1, 25, 2, 6])))))
def c_track_Found_l2 : CC := (.seq (.region 0 [⟨0, (some 45), none, .bin .lss (.s 44) (.s 43)⟩] [] (some [45, 44, 43, 2, 1, 20, 21, 42, 10, 5]))
  (.seq (.cond (.s 45) .skip
  (.exit 4))
  (.seq (.block 5 (.seq (.region 1 [⟨0, (some 46), none, .iaddr 5 (.s 42) (.s 44)⟩, ⟨1, (some 47), none, .load true 5 (.s 46)⟩, ⟨2, (some 12), none, .box 0 5 (.k (.a [(.int .i64 0), (.int .i64 0), (.int .i64 0), (.int .i64 0), (.int .i64 0)]))⟩, ⟨3, none, none, .store 5 (.s 12) (.s 47)⟩] [] (some [12, 44, 43, 2, 1, 20, 21, 42, 10, 5]))
  (.seq (.seq (.region 0 [⟨0, (some 48), none, .mv (.s 5)⟩, ⟨1, (some 49), none, .len (.s 48)⟩, ⟨2, (some 50), none, .bin .sub (.s 49) (.k (.c (.int .i64 1)))⟩, ⟨3, (some 13), none, .mv (.s 50)⟩] [] (some [13, 12, 44, 43, 2, 1, 20, 21, 42, 10, 5]))
  (.seq (.region 0 [⟨0, (some 51), none, .mv (.s 13)⟩, ⟨1, (some 52), none, .mv (.s 10)⟩, ⟨2, (some 53), none, .bin .geq (.s 51) (.s 52)⟩, ⟨3, (some 54), none, .mv (.s 53)⟩, ⟨4, (some 55), (some (54, true)), .faddr 1 (.s 12)⟩, ⟨6, (some 57), (some (54, true)), .mv (.s 5)⟩, ⟨7, (some 58), (some (54, true)), .mv (.s 13)⟩, ⟨8, (some 59), (some (54, true)), .iaddr 5 (.s 57) (.s 58)⟩, ⟨9, (some 60), (some (54, true)), .faddr 2 (.s 59)⟩, ⟨5, (some 56), (some (54, true)), .load false 1 (.s 55)⟩, ⟨10, (some 61), (some (54, true)), .load false 1 (.s 60)⟩, ⟨11, (some 62), (some (54, true)), .bin .sub (.s 56) (.s 61)⟩, ⟨12, (some 63), (some (54, true)), .bin .leq (.s 62) (.k (.c (.int .i64 500)))⟩, ⟨13, (some 64), none, .pick (.s 54) (.s 63) (.k (.c (.bool false)))⟩] [] (some [64, 13, 12, 44, 43, 2, 1, 20, 21, 42, 10, 5]))
  (.cond (.s 64) (.seq (.region 0 [⟨0, (some 65), none, .mv (.s 5)⟩, ⟨1, (some 66), none, .mv (.s 13)⟩, ⟨2, (some 67), none, .iaddr 5 (.s 65) (.s 66)⟩, ⟨3, (some 14), none, .mv (.s 67)⟩] [] (some [14, 12, 44, 43, 2, 1, 20, 21, 42, 10, 5]))
  (.seq (.region 0 [⟨0, (some 68), none, .mv (.s 14)⟩, ⟨1, (some 69), none, .mv (.s 14)⟩, ⟨2, (some 70), none, .mv (.s 14)⟩, ⟨3, (some 71), none, .mv (.s 14)⟩, ⟨4, (some 72), none, .nilck (.s 71)⟩, ⟨5, (some 73), none, .faddr 2 (.s 72)⟩, ⟨7, (some 75), none, .faddr 2 (.s 12)⟩, ⟨10, (some 78), none, .mv (.s 14)⟩, ⟨11, (some 79), none, .nilck (.s 78)⟩, ⟨12, (some 80), none, .faddr 3 (.s 79)⟩, ⟨14, (some 82), none, .faddr 3 (.s 12)⟩, ⟨17, (some 85), none, .mv (.s 14)⟩, ⟨18, (some 86), none, .nilck (.s 85)⟩, ⟨19, (some 87), none, .faddr 4 (.s 86)⟩, ⟨21, (some 89), none, .faddr 4 (.s 12)⟩, ⟨6, (some 74), none, .load false 1 (.s 73)⟩, ⟨8, (some 76), none, .load false 1 (.s 75)⟩, ⟨13, (some 81), none, .load false 1 (.s 80)⟩, ⟨15, (some 83), none, .load false 1 (.s 82)⟩, ⟨20, (some 88), none, .load false 1 (.s 87)⟩, ⟨22, (some 90), none, .load false 1 (.s 89)⟩, ⟨9, (some 77), none, .minmax true [(.s 74), (.s 76)]⟩, ⟨24, (some 92), none, .nilck (.s 68)⟩, ⟨25, (some 93), none, .faddr 2 (.s 92)⟩, ⟨16, (some 84), none, .minmax false [(.s 81), (.s 83)]⟩, ⟨23, (some 91), none, .minmax true [(.s 88), (.s 90)]⟩, ⟨26, none, none, .store 1 (.s 93) (.s 77)⟩, ⟨27, (some 94), none, .nilck (.s 69)⟩, ⟨28, (some 95), none, .faddr 3 (.s 94)⟩, ⟨29, none, none, .store 1 (.s 95) (.s 84)⟩, ⟨30, (some 96), none, .nilck (.s 70)⟩, ⟨31, (some 97), none, .faddr 4 (.s 96)⟩, ⟨32, none, none, .store 1 (.s 97) (.s 91)⟩] [(18, 26), (20, 26), (20, 29)] (some [44, 43, 2, 1, 20, 21, 42, 10, 5]))
  (.exit 5)))
  .skip)))
  (.region 1 [⟨0, (some 98), none, .mv (.s 5)⟩, ⟨1, (some 99), none, .load true 5 (.s 12)⟩, ⟨2, (some 100), none, .lit 0 5 [[(.int .i64 0), (.int .i64 0), (.int .i64 0), (.int .i64 0), (.int .i64 0)]] [(0, (.s 99))]⟩, ⟨3, (some 101), none, .append 5 40 (.s 98) (.s 100)⟩, ⟨4, (some 5), none, .mv (.s 101)⟩] [] (some [44, 43, 2, 1, 20, 21, 42, 10, 5])))))
  (.region 0 [⟨0, (some 102), none, .bin .add (.s 44) (.k (.c (.int .i64 1)))⟩, ⟨1, (some 44), none, .mv (.s 102)⟩] [] (some [44, 43, 2, 1, 20, 21, 42, 10, 5])))))
def c_track_Found_l3 : CC := (.seq (.region 0 [⟨0, (some 22), none, .bin .lss (.s 21) (.s 20)⟩] [] (some [22, 5, 21, 20, 1, 2]))
  (.seq (.cond (.s 22) .skip
  (.exit 0))
  (.seq (.block 1 (.seq (.region 0 [⟨0, (some 23), none, .mv (.s 21)⟩, ⟨1, (some 6), none, .mv (.s 23)⟩] [] (some [5, 21, 20, 1, 2, 6]))
  (.seq (.region 1 [⟨0, (some 7), none, .newsl 0 5⟩] [] (some [7, 5, 21, 20, 1, 2, 6]))
  (.seq (.seq (.region 0 [⟨0, (some 24), none, .mv (.s 1)⟩, ⟨1, (some 25), none, .call ⟨true⟩ (.k (.c (.fn 50 [] []))) [(.s 24)]⟩, ⟨2, (some 26), none, .len (.s 25)⟩, ⟨3, (some 27), none, .mv (.k (.c (.int .i64 0)))⟩] [] (some [7, 27, 26, 5, 21, 20, 1, 25, 2, 6]))
  (.block 2 (.loop (some [7, 27, 26, 5, 21, 20, 1, 25, 2, 6]) c_track_Found_l1)))
  (.seq (.region 0 [⟨0, (some 38), none, .mv (.s 7)⟩, ⟨1, (some 39), none, .call ⟨false⟩ (.k (.c (.fn 52 [] []))) [(.s 38), (.k (.c (.fn 53 [] [])))]⟩] [] (some [7, 2, 1, 20, 21, 5]))
  (.seq (.region 0 [⟨0, (some 40), none, .mv (.s 5)⟩, ⟨1, (some 41), none, .len (.s 40)⟩, ⟨2, (some 10), none, .mv (.s 41)⟩] [] (some [7, 2, 1, 20, 21, 10, 5]))
  (.seq (.region 0 [⟨0, (some 42), none, .mv (.s 7)⟩, ⟨1, (some 43), none, .len (.s 42)⟩, ⟨2, (some 44), none, .mv (.k (.c (.int .i64 0)))⟩] [] (some [44, 43, 2, 1, 20, 21, 42, 10, 5]))
  (.block 4 (.loop (some [44, 43, 2, 1, 20, 21, 42, 10, 5]) c_track_Found_l2)))))))))
  (.region 0 [⟨0, (some 103), none, .bin .add (.s 21) (.k (.c (.int .i64 1)))⟩, ⟨1, (some 21), none, .mv (.s 103)⟩] [] (some [5, 21, 20, 1, 2])))))
abbrev f_track_Found : Nat := 11
def c_track_Found : CFn := { frz := true, rnd := none, nargs := 2, ntmps := 105, res := [(.slot 4)], code :=
  (.seq (.region 2 [⟨0, (some 2), none, .box 0 5 (.s 0)⟩, ⟨1, (some 4), none, .newsl 1 5⟩] [] (some [2, 1]))
  (.seq (.seq (.region 0 [⟨0, (some 15), none, .load true 5 (.s 2)⟩, ⟨1, (some 16), none, .call ⟨true⟩ (.k (.c (.fn 45 [] []))) [(.s 15)]⟩, ⟨2, (some 17), none, .bin .neq (.s 16) (.k (.c (.int .i64 0)))⟩] [] (some [17, 2, 1]))
  (.cond (.s 17) (.seq (.region 1 [⟨0, (some 4), none, .newsl 0 5⟩] [] (some [4]))
  .ret)
  .skip))
  (.seq (.region 1 [⟨0, (some 5), none, .newsl 0 5⟩] [] (some [5, 1, 2]))
  (.seq (.seq (.region 0 [⟨0, (some 18), none, .faddr 1 (.s 2)⟩, ⟨1, (some 19), none, .load false 1 (.s 18)⟩, ⟨2, (some 20), none, .len (.s 19)⟩, ⟨3, (some 21), none, .mv (.k (.c (.int .i64 0)))⟩] [] (some [5, 21, 20, 1, 2]))
  (.block 0 (.loop (some [5, 21, 20, 1, 2]) c_track_Found_l3)))
  (.seq (.region 0 [⟨0, (some 104), none, .mv (.s 5)⟩, ⟨1, (some 4), none, .mv (.s 104)⟩] [] (some [4]))
  .ret))))) }
def c_track_Free_l1 : CC := (.seq (.region 0 [⟨0, (some 20), none, .bin .lss (.s 19) (.s 18)⟩] [] (some [20, 7, 19, 18, 17, 3]))
  (.seq (.cond (.s 20) .skip
  (.exit 0))
  (.seq (.block 1 (.seq (.region 1 [⟨0, (some 21), none, .iaddr 5 (.s 17) (.s 19)⟩, ⟨1, (some 22), none, .load true 5 (.s 21)⟩, ⟨2, (some 9), none, .box 0 5 (.k (.a [(.int .i64 0), (.int .i64 0), (.int .i64 0), (.int .i64 0), (.int .i64 0)]))⟩, ⟨3, none, none, .store 5 (.s 9) (.s 22)⟩] [] (some [9, 7, 19, 18, 17, 3]))
  (.seq (.region 1 [⟨0, (some 23), none, .faddr 0 (.s 9)⟩, ⟨1, (some 24), none, .load false 1 (.s 23)⟩, ⟨2, (some 25), none, .faddr 1 (.s 9)⟩, ⟨3, (some 26), none, .load false 1 (.s 25)⟩, ⟨4, (some 27), none, .faddr 2 (.s 9)⟩, ⟨5, (some 28), none, .load false 1 (.s 27)⟩, ⟨6, (some 29), none, .build [(.int .i64 0), (.int .i64 0), (.int .i64 0)] [(0, 1, (.s 24)), (1, 1, (.s 26)), (2, 1, (.s 28))]⟩, ⟨7, (some 10), none, .box 0 3 (.k (.a [(.int .i64 0), (.int .i64 0), (.int .i64 0)]))⟩, ⟨8, none, none, .store 3 (.s 10) (.s 29)⟩] [] (some [7, 10, 19, 18, 17, 3]))
  (.seq (.region 0 [⟨0, (some 30), none, .load true 5 (.s 3)⟩, ⟨1, (some 31), none, .load true 3 (.s 10)⟩, ⟨2, (some 32), none, .call ⟨true⟩ (.k (.c (.fn 56 [] []))) [(.s 30), (.s 31)]⟩] [] (some [32, 7, 10, 19, 18, 17, 3]))
  (.cond (.s 32) (.region 0 [⟨0, (some 33), none, .mv (.s 7)⟩, ⟨1, (some 34), none, .load true 3 (.s 10)⟩, ⟨2, (some 35), none, .call ⟨true⟩ (.k (.c (.fn 57 [] []))) [(.s 33), (.s 34)]⟩, ⟨3, (some 7), none, .mv (.s 35)⟩] [] (some [19, 7, 18, 17, 3]))
  .skip)))))
  (.region 0 [⟨0, (some 36), none, .bin .add (.s 19) (.k (.c (.int .i64 1)))⟩, ⟨1, (some 19), none, .mv (.s 36)⟩] [] (some [7, 19, 18, 17, 3])))))
abbrev f_track_Free : Nat := 12
def c_track_Free : CFn := { frz := true, rnd := none, nargs := 3, ntmps := 38, res := [(.slot 6)], code :=
  (.seq (.region 2 [⟨0, (some 3), none, .box 0 5 (.s 0)⟩, ⟨1, (some 6), none, .newsl 1 3⟩] [] (some [3, 2, 1]))
  (.seq (.seq (.region 0 [⟨0, (some 11), none, .load true 5 (.s 3)⟩, ⟨1, (some 12), none, .call ⟨true⟩ (.k (.c (.fn 45 [] []))) [(.s 11)]⟩, ⟨2, (some 13), none, .bin .neq (.s 12) (.k (.c (.int .i64 0)))⟩] [] (some [13, 3, 2, 1]))
  (.cond (.s 13) (.seq (.region 1 [⟨0, (some 6), none, .newsl 0 3⟩] [] (some [6]))
  .ret)
  .skip))
  (.seq (.region 0 [⟨0, (some 14), none, .load true 5 (.s 3)⟩, ⟨1, (some 15), none, .mv (.s 1)⟩, ⟨2, (some 16), none, .call ⟨true⟩ (.k (.c (.fn 55 [] []))) [(.s 14), (.s 15)]⟩, ⟨3, (some 7), none, .mv (.s 16)⟩] [] (some [2, 7, 3]))
  (.seq (.seq (.region 0 [⟨0, (some 17), none, .mv (.s 2)⟩, ⟨1, (some 18), none, .len (.s 17)⟩, ⟨2, (some 19), none, .mv (.k (.c (.int .i64 0)))⟩] [] (some [7, 19, 18, 17, 3]))
  (.block 0 (.loop (some [7, 19, 18, 17, 3]) c_track_Free_l1)))
  (.seq (.region 0 [⟨0, (some 37), none, .mv (.s 7)⟩, ⟨1, (some 6), none, .mv (.s 37)⟩] [] (some [6]))
  .ret))))) }
def c_kerbstonekit_SameFound_l1 : CC := (.seq (.seq (.region 0 [⟨0, (some 6), none, .mv (.s 5)⟩, ⟨1, (some 7), none, .mv (.s 0)⟩, ⟨2, (some 8), none, .len (.s 7)⟩, ⟨3, (some 9), none, .bin .lss (.s 6) (.s 8)⟩, ⟨4, (some 10), none, .mv (.s 9)⟩, ⟨5, (some 11), (some (10, true)), .mv (.s 5)⟩, ⟨6, (some 12), (some (10, true)), .mv (.s 1)⟩, ⟨7, (some 13), (some (10, true)), .len (.s 12)⟩, ⟨8, (some 14), (some (10, true)), .bin .lss (.s 11) (.s 13)⟩, ⟨9, (some 15), none, .pick (.s 10) (.s 14) (.k (.c (.bool false)))⟩] [] (some [15, 1, 0, 5]))
  (.cond (.s 15) .skip
  (.exit 0)))
  (.seq (.block 1 (.seq (.region 0 [⟨0, (some 18), none, .mv (.s 0)⟩, ⟨1, (some 19), none, .mv (.s 5)⟩, ⟨2, (some 20), none, .iaddr 5 (.s 18) (.s 19)⟩, ⟨4, (some 22), none, .mv (.s 1)⟩, ⟨5, (some 23), none, .mv (.s 5)⟩, ⟨6, (some 24), none, .iaddr 5 (.s 22) (.s 23)⟩, ⟨3, (some 21), none, .load true 5 (.s 20)⟩, ⟨7, (some 25), none, .load true 5 (.s 24)⟩, ⟨8, (some 26), none, .eqa true [false, false, false, false, false] (.s 21) (.s 25)⟩] [] (some [26, 1, 0, 5]))
  (.cond (.s 26) (.seq (.region 0 [⟨0, (some 4), none, .mv (.k (.c (.bool false)))⟩] [] (some [4]))
  .ret)
  .skip)))
  (.region 0 [⟨0, (some 16), none, .mv (.s 5)⟩, ⟨1, (some 17), none, .bin .add (.s 16) (.k (.c (.int .i64 1)))⟩, ⟨2, (some 5), none, .mv (.s 17)⟩] [] (some [0, 1, 5]))))
abbrev f_kerbstonekit_SameFound : Nat := 13
def c_kerbstonekit_SameFound : CFn := { frz := true, rnd := none, nargs := 2, ntmps := 32, res := [(.slot 4)], code :=
  (.seq (.region 0 [⟨0, (some 4), none, .mv (.k (.c (.bool false)))⟩] [] (some [0, 1]))
  (.seq (.seq (.region 0 [⟨0, (some 5), none, .mv (.k (.c (.int .i64 0)))⟩] [] (some [0, 1, 5]))
  (.block 0 (.loop (some [0, 1, 5]) c_kerbstonekit_SameFound_l1)))
  (.seq (.region 0 [⟨0, (some 27), none, .mv (.s 0)⟩, ⟨1, (some 28), none, .len (.s 27)⟩, ⟨2, (some 29), none, .mv (.s 1)⟩, ⟨3, (some 30), none, .len (.s 29)⟩, ⟨4, (some 31), none, .bin .eql (.s 28) (.s 30)⟩, ⟨5, (some 4), none, .mv (.s 31)⟩] [] (some [4]))
  .ret))) }
def c_kerbstonekit_SameSpans_l1 : CC := (.seq (.seq (.region 0 [⟨0, (some 6), none, .mv (.s 5)⟩, ⟨1, (some 7), none, .mv (.s 0)⟩, ⟨2, (some 8), none, .len (.s 7)⟩, ⟨3, (some 9), none, .bin .lss (.s 6) (.s 8)⟩, ⟨4, (some 10), none, .mv (.s 9)⟩, ⟨5, (some 11), (some (10, true)), .mv (.s 5)⟩, ⟨6, (some 12), (some (10, true)), .mv (.s 1)⟩, ⟨7, (some 13), (some (10, true)), .len (.s 12)⟩, ⟨8, (some 14), (some (10, true)), .bin .lss (.s 11) (.s 13)⟩, ⟨9, (some 15), none, .pick (.s 10) (.s 14) (.k (.c (.bool false)))⟩] [] (some [15, 1, 0, 5]))
  (.cond (.s 15) .skip
  (.exit 0)))
  (.seq (.block 1 (.seq (.region 0 [⟨0, (some 18), none, .mv (.s 0)⟩, ⟨1, (some 19), none, .mv (.s 5)⟩, ⟨2, (some 20), none, .iaddr 3 (.s 18) (.s 19)⟩, ⟨4, (some 22), none, .mv (.s 1)⟩, ⟨5, (some 23), none, .mv (.s 5)⟩, ⟨6, (some 24), none, .iaddr 3 (.s 22) (.s 23)⟩, ⟨3, (some 21), none, .load true 3 (.s 20)⟩, ⟨7, (some 25), none, .load true 3 (.s 24)⟩, ⟨8, (some 26), none, .eqa true [false, false, false] (.s 21) (.s 25)⟩] [] (some [26, 1, 0, 5]))
  (.cond (.s 26) (.seq (.region 0 [⟨0, (some 4), none, .mv (.k (.c (.bool false)))⟩] [] (some [4]))
  .ret)
  .skip)))
  (.region 0 [⟨0, (some 16), none, .mv (.s 5)⟩, ⟨1, (some 17), none, .bin .add (.s 16) (.k (.c (.int .i64 1)))⟩, ⟨2, (some 5), none, .mv (.s 17)⟩] [] (some [0, 1, 5]))))
abbrev f_kerbstonekit_SameSpans : Nat := 14
def c_kerbstonekit_SameSpans : CFn := { frz := true, rnd := none, nargs := 2, ntmps := 32, res := [(.slot 4)], code :=
  (.seq (.region 0 [⟨0, (some 4), none, .mv (.k (.c (.bool false)))⟩] [] (some [0, 1]))
  (.seq (.seq (.region 0 [⟨0, (some 5), none, .mv (.k (.c (.int .i64 0)))⟩] [] (some [0, 1, 5]))
  (.block 0 (.loop (some [0, 1, 5]) c_kerbstonekit_SameSpans_l1)))
  (.seq (.region 0 [⟨0, (some 27), none, .mv (.s 0)⟩, ⟨1, (some 28), none, .len (.s 27)⟩, ⟨2, (some 29), none, .mv (.s 1)⟩, ⟨3, (some 30), none, .len (.s 29)⟩, ⟨4, (some 31), none, .bin .eql (.s 28) (.s 30)⟩, ⟨5, (some 4), none, .mv (.s 31)⟩] [] (some [4]))
  .ret))) }
def c_track_Update_l1 : CC := (.seq (.region 0 [⟨0, (some 44), none, .bin .lss (.s 43) (.s 42)⟩] [] (some [44, 43, 42, 7, 8, 6, 41, 4]))
  (.seq (.cond (.s 44) .skip
  (.exit 0))
  (.seq (.block 1 (.seq (.region 1 [⟨0, (some 45), none, .iaddr 3 (.s 41) (.s 43)⟩, ⟨1, (some 46), none, .load true 3 (.s 45)⟩, ⟨2, (some 10), none, .box 0 3 (.k (.a [(.int .i64 0), (.int .i64 0), (.int .i64 0)]))⟩, ⟨3, none, none, .store 3 (.s 10) (.s 46)⟩] [] (some [10, 43, 42, 7, 8, 6, 41, 4]))
  (.region 0 [⟨0, (some 47), none, .faddr 1 (.s 4)⟩, ⟨1, (some 48), none, .load false 1 (.s 47)⟩, ⟨2, (some 49), none, .load true 3 (.s 10)⟩, ⟨3, (some 50), none, .call ⟨true⟩ (.k (.c (.fn 58 [] []))) [(.s 48), (.s 49)]⟩, ⟨4, (some 51), none, .faddr 1 (.s 4)⟩, ⟨5, none, none, .store 1 (.s 51) (.s 50)⟩] [] (some [43, 42, 7, 8, 6, 41, 4]))))
  (.region 0 [⟨0, (some 52), none, .bin .add (.s 43) (.k (.c (.int .i64 1)))⟩, ⟨1, (some 43), none, .mv (.s 52)⟩] [] (some [43, 42, 7, 8, 6, 41, 4])))))
def c_track_Update_l2 : CC := (.seq (.region 0 [⟨0, (some 57), none, .bin .lss (.s 56) (.s 55)⟩] [] (some [57, 11, 56, 55, 6, 4, 54, 8, 7]))
  (.seq (.cond (.s 57) .skip
  (.exit 2))
  (.seq (.block 3 (.seq (.region 1 [⟨0, (some 58), none, .iaddr 6 (.s 54) (.s 56)⟩, ⟨1, (some 59), none, .load true 6 (.s 58)⟩, ⟨2, (some 13), none, .box 0 6 (.k (.a [(.int .i64 0), (.int .i64 0), (.int .i64 0), (.int .i64 0), (.int .i64 0), (.int .i64 0)]))⟩, ⟨3, none, none, .store 6 (.s 13) (.s 59)⟩] [] (some [11, 13, 56, 55, 6, 4, 54, 8, 7]))
  (.seq (.region 0 [⟨0, (some 14), none, .mv (.k (.c (.bool true)))⟩] [] (some [14, 11, 13, 56, 55, 6, 4, 54, 8, 7]))
  (.seq (.seq (.region 0 [⟨0, (some 60), none, .mv (.s 8)⟩, ⟨1, (some 61), none, .mkfn 60 [] [(.s 13)]⟩, ⟨2, (some 62), none, .call ⟨true⟩ (.k (.c (.fn 59 [] []))) [(.s 60), (.s 61)]⟩] [] (some [62, 14, 11, 13, 56, 55, 6, 4, 54, 8, 7]))
  (.cond (.s 62) (.region 0 [⟨0, (some 64), none, .load true 6 (.s 13)⟩, ⟨1, (some 65), none, .mv (.s 7)⟩, ⟨2, (some 66), none, .call ⟨true⟩ (.k (.c (.fn 61 [] []))) [(.s 64), (.s 65)]⟩, ⟨3, (some 63), none, .mv (.s 66)⟩, ⟨4, (some 67), none, .extract 63 0⟩, ⟨5, (some 68), none, .extract 63 1⟩, ⟨6, none, none, .store 6 (.s 13) (.s 67)⟩, ⟨7, (some 14), none, .mv (.s 68)⟩] [] (some [14, 11, 13, 56, 55, 6, 4, 54, 8, 7]))
  .skip))
  (.seq (.region 0 [⟨0, (some 69), none, .mv (.s 14)⟩] [] (some [69, 11, 13, 56, 55, 6, 4, 54, 8, 7]))
  (.cond (.s 69) (.region 1 [⟨0, (some 70), none, .mv (.s 11)⟩, ⟨1, (some 71), none, .load true 6 (.s 13)⟩, ⟨2, (some 72), none, .lit 0 6 [[(.int .i64 0), (.int .i64 0), (.int .i64 0), (.int .i64 0), (.int .i64 0), (.int .i64 0)]] [(0, (.s 71))]⟩, ⟨3, (some 73), none, .append 6 48 (.s 70) (.s 72)⟩, ⟨4, (some 11), none, .mv (.s 73)⟩] [] (some [56, 11, 55, 6, 4, 54, 8, 7]))
  .skip))))))
  (.region 0 [⟨0, (some 74), none, .bin .add (.s 56) (.k (.c (.int .i64 1)))⟩, ⟨1, (some 56), none, .mv (.s 74)⟩] [] (some [11, 56, 55, 6, 4, 54, 8, 7])))))
abbrev f_track_Update : Nat := 15
def c_track_Update : CFn := { frz := true, rnd := none, nargs := 3, ntmps := 78, res := [(.cell 6 true 6)], code :=
  (.seq (.region 4 [⟨0, (some 3), none, .box 0 5 (.s 0)⟩, ⟨1, (some 4), none, .box 1 6 (.s 1)⟩, ⟨2, (some 5), none, .box 2 3 (.s 2)⟩, ⟨3, (some 6), none, .box 3 6 (.k (.a [(.int .i64 0), .nilslice, (.int .i64 0), (.int .i64 0), (.int .i64 0), (.int .i64 0)]))⟩] [] (some [5, 3, 4, 6]))
  (.seq (.region 0 [⟨0, (some 15), none, .load true 6 (.s 4)⟩, ⟨1, (some 16), none, .call ⟨true⟩ (.k (.c (.fn 39 [] []))) [(.s 15)]⟩, ⟨2, none, none, .store 6 (.s 4) (.s 16)⟩] [] (some [5, 3, 4, 6]))
  (.seq (.seq (.region 0 [⟨0, (some 17), none, .load true 5 (.s 3)⟩, ⟨1, (some 18), none, .load true 6 (.s 4)⟩, ⟨2, (some 19), none, .call ⟨true⟩ (.k (.c (.fn 40 [] []))) [(.s 17), (.s 18)]⟩, ⟨3, (some 20), none, .bin .neq (.s 19) (.k (.c (.int .i64 0)))⟩, ⟨4, (some 21), none, .mv (.s 20)⟩, ⟨5, (some 22), (some (21, false)), .faddr 0 (.s 5)⟩, ⟨6, (some 23), (some (21, false)), .load false 1 (.s 22)⟩, ⟨7, (some 24), (some (21, false)), .faddr 0 (.s 4)⟩, ⟨8, (some 25), (some (21, false)), .load false 1 (.s 24)⟩, ⟨9, (some 26), (some (21, false)), .bin .neq (.s 23) (.s 25)⟩, ⟨10, (some 27), none, .pick (.s 21) (.k (.c (.bool true))) (.s 26)⟩] [] (some [27, 5, 3, 4, 6]))
  (.cond (.s 27) (.seq (.region 0 [⟨0, (some 28), none, .load true 6 (.s 4)⟩, ⟨1, none, none, .store 6 (.s 6) (.s 28)⟩] [] (some [6]))
  .ret)
  .skip))
  (.seq (.region 0 [⟨1, (some 30), none, .faddr 2 (.s 5)⟩, ⟨5, (some 34), none, .faddr 1 (.s 5)⟩, ⟨0, (some 29), none, .load true 5 (.s 3)⟩, ⟨2, (some 31), none, .load false 1 (.s 30)⟩, ⟨4, (some 33), none, .load true 5 (.s 3)⟩, ⟨6, (some 35), none, .load false 1 (.s 34)⟩, ⟨3, (some 32), none, .call ⟨true⟩ (.k (.c (.fn 11 [] []))) [(.s 29), (.s 31)]⟩, ⟨7, (some 36), none, .call ⟨true⟩ (.k (.c (.fn 55 [] []))) [(.s 33), (.s 35)]⟩, ⟨8, (some 7), none, .mv (.s 32)⟩, ⟨9, (some 8), none, .mv (.s 36)⟩] [(4, 6), (5, 6)] (some [3, 5, 7, 8, 6, 4]))
  (.seq (.seq (.region 0 [⟨0, (some 37), none, .load true 5 (.s 3)⟩, ⟨1, (some 38), none, .faddr 1 (.s 5)⟩, ⟨2, (some 39), none, .load false 1 (.s 38)⟩, ⟨3, (some 40), none, .mv (.s 7)⟩, ⟨4, (some 41), none, .call ⟨true⟩ (.k (.c (.fn 12 [] []))) [(.s 37), (.s 39), (.s 40)]⟩, ⟨5, (some 42), none, .len (.s 41)⟩, ⟨6, (some 43), none, .mv (.k (.c (.int .i64 0)))⟩] [] (some [43, 42, 7, 8, 6, 41, 4]))
  (.block 0 (.loop (some [43, 42, 7, 8, 6, 41, 4]) c_track_Update_l1)))
  (.seq (.region 1 [⟨0, (some 11), none, .newsl 0 6⟩] [] (some [11, 6, 4, 8, 7]))
  (.seq (.seq (.region 0 [⟨0, (some 53), none, .faddr 1 (.s 4)⟩, ⟨1, (some 54), none, .load false 1 (.s 53)⟩, ⟨2, (some 55), none, .len (.s 54)⟩, ⟨3, (some 56), none, .mv (.k (.c (.int .i64 0)))⟩] [] (some [11, 56, 55, 6, 4, 54, 8, 7]))
  (.block 2 (.loop (some [11, 56, 55, 6, 4, 54, 8, 7]) c_track_Update_l2)))
  (.seq (.region 0 [⟨0, (some 75), none, .mv (.s 11)⟩, ⟨1, (some 76), none, .faddr 1 (.s 4)⟩, ⟨2, none, none, .store 1 (.s 76) (.s 75)⟩] [] (some [4, 6]))
  (.seq (.region 0 [⟨0, (some 77), none, .load true 6 (.s 4)⟩, ⟨1, none, none, .store 6 (.s 6) (.s 77)⟩] [] (some [6]))
  .ret))))))))) }
abbrev f_track_Speed : Nat := 16
def c_track_Speed : CFn := { frz := true, rnd := none, nargs := 2, ntmps := 41, res := [(.cell 4 true 6), (.slot 5)], code :=
  (.seq (.region 3 [⟨0, (some 2), none, .box 0 6 (.s 0)⟩, ⟨1, (some 3), none, .box 1 3 (.s 1)⟩, ⟨2, (some 4), none, .box 2 6 (.k (.a [(.int .i64 0), .nilslice, (.int .i64 0), (.int .i64 0), (.int .i64 0), (.int .i64 0)]))⟩, ⟨3, (some 5), none, .mv (.k (.c (.bool false)))⟩] [] (some [2, 3, 4]))
  (.seq (.region 1 [⟨0, (some 7), none, .load true 6 (.s 2)⟩, ⟨1, (some 8), none, .call ⟨true⟩ (.k (.c (.fn 39 [] []))) [(.s 7)]⟩, ⟨2, (some 6), none, .box 0 6 (.k (.a [(.int .i64 0), .nilslice, (.int .i64 0), (.int .i64 0), (.int .i64 0), (.int .i64 0)]))⟩, ⟨3, none, none, .store 6 (.s 6) (.s 8)⟩] [] (some [2, 3, 6, 4]))
  (.seq (.seq (.region 0 [⟨0, (some 9), none, .faddr 0 (.s 3)⟩, ⟨1, (some 10), none, .load false 1 (.s 9)⟩, ⟨2, (some 11), none, .faddr 0 (.s 2)⟩, ⟨3, (some 12), none, .load false 1 (.s 11)⟩, ⟨4, (some 13), none, .bin .neq (.s 10) (.s 12)⟩] [] (some [13, 2, 3, 6, 4]))
  (.cond (.s 13) (.seq (.region 0 [⟨0, (some 14), none, .load true 6 (.s 6)⟩, ⟨1, none, none, .store 6 (.s 4) (.s 14)⟩, ⟨2, (some 5), none, .mv (.k (.c (.bool true)))⟩] [] (some [4, 5]))
  .ret)
  .skip))
  (.seq (.region 0 [⟨0, (some 15), none, .faddr 2 (.s 2)⟩, ⟨1, (some 16), none, .faddr 2 (.s 15)⟩, ⟨3, (some 18), none, .faddr 1 (.s 3)⟩, ⟨6, (some 21), none, .faddr 2 (.s 2)⟩, ⟨7, (some 22), none, .faddr 3 (.s 21)⟩, ⟨9, (some 24), none, .faddr 2 (.s 3)⟩, ⟨2, (some 17), none, .load false 1 (.s 16)⟩, ⟨4, (some 19), none, .load false 1 (.s 18)⟩, ⟨8, (some 23), none, .load false 1 (.s 22)⟩, ⟨10, (some 25), none, .load false 1 (.s 24)⟩, ⟨5, (some 20), none, .minmax true [(.s 17), (.s 19)]⟩, ⟨12, (some 27), none, .faddr 2 (.s 6)⟩, ⟨13, (some 28), none, .faddr 2 (.s 27)⟩, ⟨11, (some 26), none, .minmax false [(.s 23), (.s 25)]⟩, ⟨14, none, none, .store 1 (.s 28) (.s 20)⟩, ⟨15, (some 29), none, .faddr 2 (.s 6)⟩, ⟨16, (some 30), none, .faddr 3 (.s 29)⟩, ⟨17, none, none, .store 1 (.s 30) (.s 26)⟩] [(8, 14), (9, 14)] (some [6, 2, 4]))
  (.seq (.seq (.region 0 [⟨0, (some 31), none, .faddr 2 (.s 6)⟩, ⟨1, (some 32), none, .faddr 2 (.s 31)⟩, ⟨2, (some 33), none, .load false 1 (.s 32)⟩, ⟨3, (some 34), none, .faddr 2 (.s 6)⟩, ⟨4, (some 35), none, .faddr 3 (.s 34)⟩, ⟨5, (some 36), none, .load false 1 (.s 35)⟩, ⟨6, (some 37), none, .bin .gtr (.s 33) (.s 36)⟩] [] (some [37, 6, 2, 4]))
  (.cond (.s 37) (.seq (.region 0 [⟨0, (some 38), none, .load true 6 (.s 2)⟩, ⟨1, (some 39), none, .call ⟨true⟩ (.k (.c (.fn 39 [] []))) [(.s 38)]⟩, ⟨2, none, none, .store 6 (.s 4) (.s 39)⟩, ⟨3, (some 5), none, .mv (.k (.c (.bool false)))⟩] [] (some [4, 5]))
  .ret)
  .skip))
  (.seq (.region 0 [⟨0, (some 40), none, .load true 6 (.s 6)⟩, ⟨1, none, none, .store 6 (.s 4) (.s 40)⟩, ⟨2, (some 5), none, .mv (.k (.c (.bool true)))⟩] [] (some [4, 5]))
  .ret)))))) }
abbrev f_kerbstonelaw05_awake : Nat := 17
def c_kerbstonelaw05_awake : CFn := { frz := true, rnd := none, nargs := 0, ntmps := 31, res := [(.slot 0)], code :=
  (.seq (.region 0 [⟨0, (some 0), none, .mv (.k (.c (.bool false)))⟩] [] (some []))
  (.seq (.region 1 [⟨0, (some 4), none, .build [(.int .i64 0), (.int .i64 0), (.int .i64 0), (.int .i64 0), (.int .i64 0), (.int .i64 0)] [(1, 1, (.k (.c (.int .i64 5)))), (2, 1, (.k (.c (.int .i64 9))))]⟩, ⟨1, (some 5), none, .build [(.int .i64 0), (.int .i64 0), (.int .i64 0), (.int .i64 0), (.int .i64 0), (.int .i64 0)] [(2, 1, (.k (.c (.int .i64 4))))]⟩, ⟨2, (some 6), none, .build [(.int .i64 0), (.int .i64 0), (.int .i64 0), (.int .i64 0), (.int .i64 0), (.int .i64 0)] [(1, 1, (.k (.c (.int .i64 11)))), (2, 1, (.k (.c (.int .i64 12))))]⟩, ⟨3, (some 7), none, .build [(.int .i64 0), (.int .i64 0), (.int .i64 0), (.int .i64 0), (.int .i64 0), (.int .i64 0)] [(1, 1, (.k (.c (.int .i64 20)))), (2, 1, (.k (.c (.int .i64 19))))]⟩, ⟨4, (some 8), none, .lit 0 6 [[(.int .i64 0), (.int .i64 0), (.int .i64 0), (.int .i64 0), (.int .i64 0), (.int .i64 0)], [(.int .i64 0), (.int .i64 0), (.int .i64 0), (.int .i64 0), (.int .i64 0), (.int .i64 0)], [(.int .i64 0), (.int .i64 0), (.int .i64 0), (.int .i64 0), (.int .i64 0), (.int .i64 0)], [(.int .i64 0), (.int .i64 0), (.int .i64 0), (.int .i64 0), (.int .i64 0), (.int .i64 0)]] [(0, (.s 4)), (1, (.s 5)), (2, (.s 6)), (3, (.s 7))]⟩, ⟨5, (some 9), none, .call ⟨true⟩ (.k (.c (.fn 62 [] []))) [(.s 8)]⟩, ⟨6, (some 1), none, .mv (.s 9)⟩] [] (some [1]))
  (.seq (.region 1 [⟨0, (some 10), none, .call ⟨true⟩ (.k (.c (.fn 6 [] []))) []⟩, ⟨1, (some 2), none, .box 0 5 (.k (.a [(.int .i64 0), .nilslice, .nilslice, .nilslice, .nilslice]))⟩, ⟨2, none, none, .store 5 (.s 2) (.s 10)⟩] [] (some [2, 1]))
  (.seq (.region 2 [⟨0, (some 11), none, .load true 5 (.s 2)⟩, ⟨2, (some 13), none, .load true 5 (.s 2)⟩, ⟨3, (some 14), none, .call ⟨true⟩ (.k (.c (.fn 9 [] []))) []⟩, ⟨4, (some 15), none, .call ⟨true⟩ (.k (.c (.fn 8 [] []))) [(.s 13), (.k (.c (.int .i64 0))), (.s 14)]⟩, ⟨1, (some 12), none, .lit 0 1 [[(.int .i64 0)]] [(0, (.k (.c (.int .i64 0))))]⟩, ⟨5, (some 16), none, .call ⟨true⟩ (.k (.c (.fn 7 [] []))) [(.s 11), (.s 12), (.k (.c (.int .i64 4000))), (.s 15)]⟩, ⟨6, (some 3), none, .box 1 6 (.k (.a [(.int .i64 0), .nilslice, (.int .i64 0), (.int .i64 0), (.int .i64 0), (.int .i64 0)]))⟩, ⟨7, none, none, .store 6 (.s 3) (.s 16)⟩] [(0, 2), (0, 3), (0, 4), (0, 6), (1, 2), (1, 4), (1, 6), (2, 4), (2, 6), (3, 4), (3, 6), (4, 6), (5, 6)] (some [1, 3]))
  (.seq (.region 2 [⟨0, (some 17), none, .mv (.s 1)⟩, ⟨1, (some 18), none, .build [(.int .i64 0), (.int .i64 0), (.int .i64 0), (.int .i64 0), (.int .i64 0), (.int .i64 0)] [(2, 1, (.k (.c (.int .i64 9))))]⟩, ⟨2, (some 19), none, .build [(.int .i64 0), (.int .i64 0), (.int .i64 0), (.int .i64 0), (.int .i64 0), (.int .i64 0)] [(1, 1, (.k (.c (.int .i64 11)))), (2, 1, (.k (.c (.int .i64 12))))]⟩, ⟨3, (some 20), none, .lit 0 6 [[(.int .i64 0), (.int .i64 0), (.int .i64 0), (.int .i64 0), (.int .i64 0), (.int .i64 0)], [(.int .i64 0), (.int .i64 0), (.int .i64 0), (.int .i64 0), (.int .i64 0), (.int .i64 0)]] [(0, (.s 18)), (1, (.s 19))]⟩, ⟨4, (some 21), none, .call ⟨true⟩ (.k (.c (.fn 63 [] []))) [(.s 17), (.s 20)]⟩, ⟨5, (some 22), none, .mv (.s 21)⟩, ⟨6, (some 23), (some (22, true)), .faddr 1 (.s 3)⟩, ⟨7, (some 24), (some (22, true)), .load false 1 (.s 23)⟩, ⟨8, (some 25), (some (22, true)), .build [(.int .i64 0), (.int .i64 0), (.int .i64 0), (.int .i64 0), (.int .i64 0), (.int .i64 0)] [(2, 1, (.k (.c (.int .i64 6009)))), (4, 1, (.k (.c (.int .i64 2000))))]⟩, ⟨9, (some 26), (some (22, true)), .build [(.int .i64 0), (.int .i64 0), (.int .i64 0), (.int .i64 0), (.int .i64 0), (.int .i64 0)] [(1, 1, (.k (.c (.int .i64 10001)))), (2, 1, (.k (.c (.int .i64 100000)))), (4, 1, (.k (.c (.int .i64 2000))))]⟩, ⟨10, (some 27), (some (22, true)), .build [(.int .i64 0), (.int .i64 0), (.int .i64 0), (.int .i64 0), (.int .i64 0), (.int .i64 0)] [(0, 1, (.k (.c (.int .i64 1)))), (2, 1, (.k (.c (.int .i64 100000)))), (4, 1, (.k (.c (.int .i64 2000))))]⟩, ⟨11, (some 28), (some (22, true)), .lit 1 6 [[(.int .i64 0), (.int .i64 0), (.int .i64 0), (.int .i64 0), (.int .i64 0), (.int .i64 0)], [(.int .i64 0), (.int .i64 0), (.int .i64 0), (.int .i64 0), (.int .i64 0), (.int .i64 0)], [(.int .i64 0), (.int .i64 0), (.int .i64 0), (.int .i64 0), (.int .i64 0), (.int .i64 0)]] [(0, (.s 25)), (1, (.s 26)), (2, (.s 27))]⟩, ⟨12, (some 29), (some (22, true)), .call ⟨true⟩ (.k (.c (.fn 63 [] []))) [(.s 24), (.s 28)]⟩, ⟨13, (some 30), none, .pick (.s 22) (.s 29) (.k (.c (.bool false)))⟩, ⟨14, (some 0), none, .mv (.s 30)⟩] [] (some [0]))
  .ret))))) }
def c_kerbstonekit_road_l1 : CC := (.seq (.seq (.region 0 [⟨0, (some 15), none, .mv (.s 10)⟩, ⟨1, (some 16), none, .bin .add (.s 15) (.k (.c (.int .i64 1)))⟩, ⟨2, (some 17), none, .mv (.s 3)⟩, ⟨3, (some 18), none, .len (.s 17)⟩, ⟨4, (some 19), none, .bin .lss (.s 16) (.s 18)⟩] [] (some [19, 10, 8, 0, 3, 9]))
  (.cond (.s 19) .skip
  (.exit 0)))
  (.seq (.block 1 (.region 1 [⟨0, (some 22), none, .faddr 1 (.s 9)⟩, ⟨1, (some 23), none, .faddr 0 (.s 22)⟩, ⟨3, (some 25), none, .mv (.s 3)⟩, ⟨4, (some 26), none, .mv (.s 10)⟩, ⟨5, (some 27), none, .iaddr 1 (.s 25) (.s 26)⟩, ⟨7, (some 29), none, .mv (.s 3)⟩, ⟨8, (some 30), none, .mv (.s 10)⟩, ⟨9, (some 31), none, .bin .add (.s 30) (.k (.c (.int .i64 1)))⟩, ⟨10, (some 32), none, .iaddr 1 (.s 29) (.s 31)⟩, ⟨2, (some 24), none, .load false 1 (.s 23)⟩, ⟨6, (some 28), none, .load false 1 (.s 27)⟩, ⟨11, (some 33), none, .load false 1 (.s 32)⟩, ⟨12, (some 34), none, .build [(.int .i64 0), (.int .i64 0)] [(0, 1, (.s 28)), (1, 1, (.s 33))]⟩, ⟨13, (some 35), none, .lit 0 2 [[(.int .i64 0), (.int .i64 0)]] [(0, (.s 34))]⟩, ⟨14, (some 36), none, .append 2 16 (.s 24) (.s 35)⟩, ⟨15, (some 37), none, .faddr 1 (.s 9)⟩, ⟨16, (some 38), none, .faddr 0 (.s 37)⟩, ⟨17, none, none, .store 1 (.s 38) (.s 36)⟩] [(9, 13)] (some [10, 8, 0, 3, 9])))
  (.region 0 [⟨0, (some 20), none, .mv (.s 10)⟩, ⟨1, (some 21), none, .bin .add (.s 20) (.k (.c (.int .i64 2)))⟩, ⟨2, (some 10), none, .mv (.s 21)⟩] [] (some [10, 8, 0, 3, 9]))))
abbrev f_kerbstonekit_road : Nat := 38
def c_kerbstonekit_road : CFn := { frz := true, rnd := none, nargs := 4, ntmps := 43, res := [(.cell 8 true 5)], code :=
  (.seq (.region 1 [⟨0, (some 8), none, .box 0 5 (.k (.a [(.int .i64 0), .nilslice, (.int .i64 0), (.int .i64 0), .nilslice]))⟩] [] (some [1, 2, 8, 0, 3]))
  (.seq (.region 1 [⟨0, (some 11), none, .mv (.s 0)⟩, ⟨1, (some 12), none, .mv (.s 1)⟩, ⟨2, (some 13), none, .mv (.s 2)⟩, ⟨3, (some 14), none, .build [(.int .i64 0), .nilslice, (.int .i64 0), (.int .i64 0), .nilslice] [(0, 1, (.s 11)), (2, 1, (.k (.c (.int .i64 1500)))), (3, 1, (.s 12)), (4, 1, (.s 13))]⟩, ⟨4, (some 9), none, .box 0 5 (.k (.a [(.int .i64 0), .nilslice, (.int .i64 0), (.int .i64 0), .nilslice]))⟩, ⟨5, none, none, .store 5 (.s 9) (.s 14)⟩] [] (some [8, 0, 3, 9]))
  (.seq (.seq (.region 0 [⟨0, (some 10), none, .mv (.k (.c (.int .i64 0)))⟩] [] (some [10, 8, 0, 3, 9]))
  (.block 0 (.loop (some [10, 8, 0, 3, 9]) c_kerbstonekit_road_l1)))
  (.seq (.seq (.region 0 [⟨0, (some 39), none, .mv (.s 0)⟩, ⟨1, (some 40), none, .bin .eql (.s 39) (.k (.c (.int .i64 3)))⟩] [] (some [40, 9, 8]))
  (.cond (.s 40) (.region 0 [⟨0, (some 41), none, .faddr 2 (.s 9)⟩, ⟨1, none, none, .store 1 (.s 41) (.k (.c (.int .i64 500)))⟩] [] (some [9, 8]))
  .skip))
  (.seq (.region 0 [⟨0, (some 42), none, .load true 5 (.s 9)⟩, ⟨1, none, none, .store 5 (.s 8) (.s 42)⟩] [] (some [8]))
  .ret))))) }
abbrev f_track_Copy : Nat := 39
def c_track_Copy : CFn := { frz := true, rnd := none, nargs := 1, ntmps := 8, res := [(.cell 2 true 6)], code :=
  (.seq (.region 2 [⟨0, (some 1), none, .box 0 6 (.s 0)⟩, ⟨1, (some 2), none, .box 1 6 (.k (.a [(.int .i64 0), .nilslice, (.int .i64 0), (.int .i64 0), (.int .i64 0), (.int .i64 0)]))⟩] [] (some [1, 2]))
  (.seq (.region 0 [⟨0, (some 3), none, .faddr 1 (.s 1)⟩, ⟨1, (some 4), none, .load false 1 (.s 3)⟩, ⟨2, (some 5), none, .call ⟨true⟩ (.k (.c (.fn 81 [] []))) [(.s 4)]⟩, ⟨3, (some 6), none, .faddr 1 (.s 1)⟩, ⟨4, none, none, .store 1 (.s 6) (.s 5)⟩] [] (some [1, 2]))
  (.seq (.region 0 [⟨0, (some 7), none, .load true 6 (.s 1)⟩, ⟨1, none, none, .store 6 (.s 2) (.s 7)⟩] [] (some [2]))
  .ret))) }
def c_track_Check_l1 : CC := (.seq (.region 0 [⟨0, (some 64), none, .bin .lss (.s 63) (.s 62)⟩] [] (some [64, 2, 7, 61, 62, 63]))
  (.seq (.cond (.s 64) .skip
  (.exit 0))
  (.seq (.block 1 (.seq (.region 1 [⟨0, (some 65), none, .iaddr 6 (.s 61) (.s 63)⟩, ⟨1, (some 66), none, .load true 6 (.s 65)⟩, ⟨2, (some 9), none, .box 0 6 (.k (.a [(.int .i64 0), (.int .i64 0), (.int .i64 0), (.int .i64 0), (.int .i64 0), (.int .i64 0)]))⟩, ⟨3, none, none, .store 6 (.s 9) (.s 66)⟩] [] (some [2, 7, 61, 62, 63, 9]))
  (.seq (.seq (.region 0 [⟨0, (some 67), none, .faddr 0 (.s 9)⟩, ⟨1, (some 68), none, .load false 1 (.s 67)⟩, ⟨2, (some 69), none, .bin .lss (.s 68) (.k (.c (.int .i64 0)))⟩, ⟨3, (some 70), none, .mv (.s 69)⟩, ⟨4, (some 71), (some (70, false)), .faddr 0 (.s 9)⟩, ⟨5, (some 72), (some (70, false)), .load false 1 (.s 71)⟩, ⟨6, (some 73), (some (70, false)), .faddr 1 (.s 2)⟩, ⟨7, (some 74), (some (70, false)), .load false 1 (.s 73)⟩, ⟨8, (some 75), (some (70, false)), .len (.s 74)⟩, ⟨9, (some 76), (some (70, false)), .bin .geq (.s 72) (.s 75)⟩, ⟨10, (some 77), none, .pick (.s 70) (.k (.c (.bool true))) (.s 76)⟩] [] (some [77, 2, 7, 61, 62, 63, 9]))
  (.cond (.s 77) (.seq (.region 0 [⟨0, (some 4), none, .mv (.k (.c (.int .i64 7)))⟩] [] (some [4]))
  .ret)
  .skip))
  (.seq (.region 0 [⟨0, (some 78), none, .load true 5 (.s 2)⟩, ⟨1, (some 79), none, .faddr 0 (.s 9)⟩, ⟨2, (some 80), none, .load false 1 (.s 79)⟩, ⟨3, (some 81), none, .call ⟨true⟩ (.k (.c (.fn 47 [] []))) [(.s 78), (.s 80)]⟩, ⟨4, (some 10), none, .mv (.s 81)⟩] [] (some [10, 9, 63, 62, 61, 7, 2]))
  (.seq (.region 0 [⟨0, (some 83), none, .faddr 1 (.s 2)⟩, ⟨1, (some 84), none, .load false 1 (.s 83)⟩, ⟨2, (some 85), none, .faddr 0 (.s 9)⟩, ⟨3, (some 86), none, .load false 1 (.s 85)⟩, ⟨4, (some 87), none, .iaddr 5 (.s 84) (.s 86)⟩, ⟨5, (some 88), none, .faddr 0 (.s 87)⟩, ⟨6, (some 89), none, .load false 1 (.s 88)⟩, ⟨7, (some 90), none, .call ⟨true⟩ (.k (.c (.fn 46 [] []))) [(.s 89)]⟩, ⟨8, (some 82), none, .mv (.s 90)⟩, ⟨9, (some 91), none, .extract 82 0⟩, ⟨10, (some 92), none, .extract 82 1⟩, ⟨11, (some 93), none, .extract 82 2⟩, ⟨12, (some 11), none, .mv (.s 91)⟩, ⟨13, (some 12), none, .mv (.s 92)⟩, ⟨14, (some 13), none, .mv (.s 93)⟩] [] (some [11, 10, 9, 63, 62, 61, 7, 2]))
  (.seq (.seq (.region 0 [⟨0, (some 94), none, .faddr 1 (.s 9)⟩, ⟨1, (some 95), none, .load false 1 (.s 94)⟩, ⟨2, (some 96), none, .bin .lss (.s 95) (.k (.c (.int .i64 0)))⟩, ⟨3, (some 97), none, .mv (.s 96)⟩, ⟨4, (some 98), (some (97, false)), .faddr 1 (.s 9)⟩, ⟨5, (some 99), (some (97, false)), .load false 1 (.s 98)⟩, ⟨6, (some 100), (some (97, false)), .faddr 2 (.s 9)⟩, ⟨7, (some 101), (some (97, false)), .load false 1 (.s 100)⟩, ⟨8, (some 102), (some (97, false)), .bin .gtr (.s 99) (.s 101)⟩, ⟨9, (some 103), none, .pick (.s 97) (.k (.c (.bool true))) (.s 102)⟩, ⟨10, (some 104), none, .mv (.s 103)⟩, ⟨11, (some 105), (some (104, false)), .faddr 2 (.s 9)⟩, ⟨12, (some 106), (some (104, false)), .load false 1 (.s 105)⟩, ⟨13, (some 107), (some (104, false)), .mv (.s 10)⟩, ⟨14, (some 108), (some (104, false)), .bin .gtr (.s 106) (.s 107)⟩, ⟨15, (some 109), none, .pick (.s 104) (.k (.c (.bool true))) (.s 108)⟩, ⟨16, (some 110), none, .mv (.s 109)⟩, ⟨17, (some 111), (some (110, false)), .faddr 3 (.s 9)⟩, ⟨18, (some 112), (some (110, false)), .load false 1 (.s 111)⟩, ⟨19, (some 113), (some (110, false)), .bin .lss (.s 112) (.k (.c (.int .i64 0)))⟩, ⟨20, (some 114), none, .pick (.s 110) (.k (.c (.bool true))) (.s 113)⟩, ⟨21, (some 115), none, .mv (.s 114)⟩, ⟨22, (some 116), (some (115, false)), .faddr 3 (.s 9)⟩, ⟨23, (some 117), (some (115, false)), .load false 1 (.s 116)⟩, ⟨24, (some 118), (some (115, false)), .faddr 4 (.s 9)⟩, ⟨25, (some 119), (some (115, false)), .load false 1 (.s 118)⟩, ⟨26, (some 120), (some (115, false)), .bin .gtr (.s 117) (.s 119)⟩, ⟨27, (some 121), none, .pick (.s 115) (.k (.c (.bool true))) (.s 120)⟩, ⟨28, (some 122), none, .mv (.s 121)⟩, ⟨29, (some 123), (some (122, false)), .faddr 4 (.s 9)⟩, ⟨30, (some 124), (some (122, false)), .load false 1 (.s 123)⟩, ⟨31, (some 125), (some (122, false)), .mv (.s 11)⟩, ⟨32, (some 126), (some (122, false)), .bin .gtr (.s 124) (.s 125)⟩, ⟨33, (some 127), none, .pick (.s 122) (.k (.c (.bool true))) (.s 126)⟩, ⟨34, (some 128), none, .mv (.s 127)⟩, ⟨35, (some 129), (some (128, false)), .faddr 5 (.s 9)⟩, ⟨36, (some 130), (some (128, false)), .load false 1 (.s 129)⟩, ⟨37, (some 131), (some (128, false)), .mv (.s 10)⟩, ⟨38, (some 132), (some (128, false)), .call ⟨true⟩ (.k (.c (.fn 82 [] []))) [(.s 130), (.k (.c (.int .i64 0))), (.s 131)]⟩, ⟨39, (some 133), (some (128, false)), .un .not (.s 132)⟩, ⟨40, (some 134), none, .pick (.s 128) (.k (.c (.bool true))) (.s 133)⟩] [] (some [134, 9, 63, 62, 61, 7, 2]))
  (.cond (.s 134) (.seq (.region 0 [⟨0, (some 4), none, .mv (.k (.c (.int .i64 2)))⟩] [] (some [4]))
  .ret)
  .skip))
  (.seq (.seq (.region 0 [⟨0, (some 135), none, .faddr 0 (.s 9)⟩, ⟨1, (some 136), none, .load false 1 (.s 135)⟩, ⟨2, (some 137), none, .faddr 0 (.s 7)⟩, ⟨3, (some 138), none, .load false 1 (.s 137)⟩, ⟨4, (some 139), none, .bin .lss (.s 136) (.s 138)⟩, ⟨5, (some 140), none, .mv (.s 139)⟩, ⟨6, (some 141), (some (140, false)), .faddr 0 (.s 9)⟩, ⟨7, (some 142), (some (140, false)), .load false 1 (.s 141)⟩, ⟨8, (some 143), (some (140, false)), .faddr 0 (.s 7)⟩, ⟨9, (some 144), (some (140, false)), .load false 1 (.s 143)⟩, ⟨10, (some 145), (some (140, false)), .bin .eql (.s 142) (.s 144)⟩, ⟨11, (some 146), (some (140, false)), .mv (.s 145)⟩, ⟨12, (some 147), (some (146, true)), .faddr 1 (.s 9)⟩, ⟨13, (some 148), (some (146, true)), .load false 1 (.s 147)⟩, ⟨14, (some 149), (some (146, true)), .faddr 2 (.s 7)⟩, ⟨15, (some 150), (some (146, true)), .load false 1 (.s 149)⟩, ⟨16, (some 151), (some (146, true)), .bin .add (.s 150) (.k (.c (.int .i64 1)))⟩, ⟨17, (some 152), (some (146, true)), .bin .leq (.s 148) (.s 151)⟩, ⟨18, (some 153), (some (140, false)), .pick (.s 146) (.s 152) (.k (.c (.bool false)))⟩, ⟨19, (some 154), none, .pick (.s 140) (.k (.c (.bool true))) (.s 153)⟩] [] (some [154, 2, 7, 61, 62, 63, 9]))
  (.cond (.s 154) (.seq (.region 0 [⟨0, (some 4), none, .mv (.k (.c (.int .i64 11)))⟩] [] (some [4]))
  .ret)
  .skip))
  (.region 0 [⟨0, (some 155), none, .load true 6 (.s 9)⟩, ⟨1, none, none, .store 6 (.s 7) (.s 155)⟩] [] (some [63, 62, 61, 7, 2])))))))))
  (.region 0 [⟨0, (some 156), none, .bin .add (.s 63) (.k (.c (.int .i64 1)))⟩, ⟨1, (some 63), none, .mv (.s 156)⟩] [] (some [62, 61, 7, 2, 63])))))
abbrev f_track_Check : Nat := 40
def c_track_Check : CFn := { frz := true, rnd := none, nargs := 2, ntmps := 157, res := [(.slot 4)], code :=
  (.seq (.region 2 [⟨0, (some 2), none, .box 0 5 (.s 0)⟩, ⟨1, (some 3), none, .box 1 6 (.s 1)⟩, ⟨2, (some 4), none, .mv (.k (.c (.int .i64 0)))⟩] [] (some [3, 2]))
  (.seq (.seq (.region 0 [⟨0, (some 14), none, .load true 5 (.s 2)⟩, ⟨1, (some 15), none, .call ⟨true⟩ (.k (.c (.fn 45 [] []))) [(.s 14)]⟩, ⟨2, (some 5), none, .mv (.s 15)⟩] [] (some [3, 2, 5]))
  (.seq (.region 0 [⟨0, (some 16), none, .mv (.s 5)⟩, ⟨1, (some 17), none, .bin .neq (.s 16) (.k (.c (.int .i64 0)))⟩] [] (some [17, 3, 2, 5]))
  (.cond (.s 17) (.seq (.region 0 [⟨0, (some 18), none, .mv (.s 5)⟩, ⟨1, (some 4), none, .mv (.s 18)⟩] [] (some [4]))
  .ret)
  .skip)))
  (.seq (.region 1 [⟨0, (some 19), none, .faddr 2 (.s 3)⟩, ⟨1, (some 20), none, .load true 4 (.s 19)⟩, ⟨2, (some 6), none, .box 0 4 (.k (.a [(.int .i64 0), (.int .i64 0), (.int .i64 0), (.int .i64 0)]))⟩, ⟨3, none, none, .store 4 (.s 6) (.s 20)⟩] [] (some [6, 2, 3]))
  (.seq (.seq (.region 0 [⟨0, (some 21), none, .faddr 0 (.s 3)⟩, ⟨1, (some 22), none, .load false 1 (.s 21)⟩, ⟨2, (some 23), none, .call ⟨true⟩ (.k (.c (.fn 82 [] []))) [(.s 22), (.k (.c (.int .i64 0))), (.k (.c (.int .i64 1099511627776)))]⟩, ⟨3, (some 24), none, .un .not (.s 23)⟩, ⟨4, (some 25), none, .mv (.s 24)⟩, ⟨5, (some 26), (some (25, false)), .faddr 0 (.s 6)⟩, ⟨6, (some 27), (some (25, false)), .load false 1 (.s 26)⟩, ⟨7, (some 28), (some (25, false)), .bin .lss (.s 27) (.k (.c (.int .i64 0)))⟩, ⟨8, (some 29), none, .pick (.s 25) (.k (.c (.bool true))) (.s 28)⟩, ⟨9, (some 30), none, .mv (.s 29)⟩, ⟨10, (some 31), (some (30, false)), .faddr 0 (.s 6)⟩, ⟨11, (some 32), (some (30, false)), .load false 1 (.s 31)⟩, ⟨12, (some 33), (some (30, false)), .faddr 1 (.s 6)⟩, ⟨13, (some 34), (some (30, false)), .load false 1 (.s 33)⟩, ⟨14, (some 35), (some (30, false)), .bin .gtr (.s 32) (.s 34)⟩, ⟨15, (some 36), none, .pick (.s 30) (.k (.c (.bool true))) (.s 35)⟩, ⟨16, (some 37), none, .mv (.s 36)⟩, ⟨17, (some 38), (some (37, false)), .faddr 1 (.s 6)⟩, ⟨18, (some 39), (some (37, false)), .load false 1 (.s 38)⟩, ⟨19, (some 40), (some (37, false)), .bin .gtr (.s 39) (.k (.c (.int .i64 1099511627776)))⟩, ⟨20, (some 41), none, .pick (.s 37) (.k (.c (.bool true))) (.s 40)⟩, ⟨21, (some 42), none, .mv (.s 41)⟩, ⟨22, (some 43), (some (42, false)), .faddr 2 (.s 6)⟩, ⟨23, (some 44), (some (42, false)), .load false 1 (.s 43)⟩, ⟨24, (some 45), (some (42, false)), .bin .lss (.s 44) (.k (.c (.int .i64 0)))⟩, ⟨25, (some 46), none, .pick (.s 42) (.k (.c (.bool true))) (.s 45)⟩, ⟨26, (some 47), none, .mv (.s 46)⟩, ⟨27, (some 48), (some (47, false)), .faddr 2 (.s 6)⟩, ⟨28, (some 49), (some (47, false)), .load false 1 (.s 48)⟩, ⟨29, (some 50), (some (47, false)), .faddr 3 (.s 6)⟩, ⟨30, (some 51), (some (47, false)), .load false 1 (.s 50)⟩, ⟨31, (some 52), (some (47, false)), .bin .gtr (.s 49) (.s 51)⟩, ⟨32, (some 53), none, .pick (.s 47) (.k (.c (.bool true))) (.s 52)⟩, ⟨33, (some 54), none, .mv (.s 53)⟩, ⟨34, (some 55), (some (54, false)), .faddr 3 (.s 6)⟩, ⟨35, (some 56), (some (54, false)), .load false 1 (.s 55)⟩, ⟨36, (some 57), (some (54, false)), .bin .gtr (.s 56) (.k (.c (.int .i64 2000)))⟩, ⟨37, (some 58), none, .pick (.s 54) (.k (.c (.bool true))) (.s 57)⟩] [] (some [58, 2, 3]))
  (.cond (.s 58) (.seq (.region 0 [⟨0, (some 4), none, .mv (.k (.c (.int .i64 2)))⟩] [] (some [4]))
  .ret)
  .skip))
  (.seq (.region 1 [⟨0, (some 59), none, .build [(.int .i64 0), (.int .i64 0), (.int .i64 0), (.int .i64 0), (.int .i64 0), (.int .i64 0)] [(0, 1, (.k (.c (.int .i64 (-1)))))]⟩, ⟨1, (some 7), none, .box 0 6 (.k (.a [(.int .i64 0), (.int .i64 0), (.int .i64 0), (.int .i64 0), (.int .i64 0), (.int .i64 0)]))⟩, ⟨2, none, none, .store 6 (.s 7) (.s 59)⟩] [] (some [3, 7, 2]))
  (.seq (.seq (.region 0 [⟨0, (some 60), none, .faddr 1 (.s 3)⟩, ⟨1, (some 61), none, .load false 1 (.s 60)⟩, ⟨2, (some 62), none, .len (.s 61)⟩, ⟨3, (some 63), none, .mv (.k (.c (.int .i64 0)))⟩] [] (some [62, 61, 7, 2, 63]))
  (.block 0 (.loop (some [62, 61, 7, 2, 63]) c_track_Check_l1)))
  (.seq (.region 0 [⟨0, (some 4), none, .mv (.k (.c (.int .i64 0)))⟩] [] (some [4]))
  .ret))))))) }
def c_roads_CheckRoute_l1 : CC := (.seq (.region 0 [⟨0, (some 53), none, .bin .lss (.s 52) (.s 51)⟩] [] (some [53, 6, 2, 50, 51, 52]))
  (.seq (.cond (.s 53) .skip
  (.exit 0))
  (.seq (.block 1 (.seq (.region 0 [⟨0, (some 54), none, .iaddr 1 (.s 50) (.s 52)⟩, ⟨1, (some 55), none, .load false 1 (.s 54)⟩, ⟨2, (some 8), none, .mv (.s 55)⟩] [] (some [6, 2, 50, 51, 52, 8]))
  (.seq (.seq (.region 0 [⟨0, (some 56), none, .faddr 1 (.s 2)⟩, ⟨1, (some 57), none, .load false 1 (.s 56)⟩, ⟨2, (some 58), none, .mv (.s 6)⟩, ⟨3, (some 59), none, .iaddr 5 (.s 57) (.s 58)⟩, ⟨4, (some 60), none, .faddr 4 (.s 59)⟩, ⟨5, (some 61), none, .load false 1 (.s 60)⟩, ⟨6, (some 62), none, .mv (.s 8)⟩, ⟨7, (some 63), none, .call ⟨true⟩ (.k (.c (.fn 84 [] []))) [(.s 61), (.s 62)]⟩, ⟨8, (some 64), none, .un .not (.s 63)⟩] [] (some [64, 2, 50, 51, 52, 8]))
  (.cond (.s 64) (.seq (.region 0 [⟨0, (some 4), none, .mv (.k (.c (.int .i64 13)))⟩] [] (some [4]))
  .ret)
  .skip))
  (.region 0 [⟨0, (some 65), none, .mv (.s 8)⟩, ⟨1, (some 6), none, .mv (.s 65)⟩] [] (some [52, 6, 51, 50, 2])))))
  (.region 0 [⟨0, (some 66), none, .bin .add (.s 52) (.k (.c (.int .i64 1)))⟩, ⟨1, (some 52), none, .mv (.s 66)⟩] [] (some [6, 51, 50, 2, 52])))))
abbrev f_roads_CheckRoute : Nat := 41
def c_roads_CheckRoute : CFn := { frz := true, rnd := none, nargs := 2, ntmps := 67, res := [(.slot 4)], code :=
  (.seq (.region 1 [⟨0, (some 2), none, .box 0 5 (.s 0)⟩, ⟨1, (some 4), none, .mv (.k (.c (.int .i64 0)))⟩] [] (some [1, 2]))
  (.seq (.seq (.region 0 [⟨0, (some 9), none, .load true 5 (.s 2)⟩, ⟨1, (some 10), none, .call ⟨true⟩ (.k (.c (.fn 45 [] []))) [(.s 9)]⟩, ⟨2, (some 5), none, .mv (.s 10)⟩] [] (some [1, 2, 5]))
  (.seq (.region 0 [⟨0, (some 11), none, .mv (.s 5)⟩, ⟨1, (some 12), none, .bin .neq (.s 11) (.k (.c (.int .i64 0)))⟩] [] (some [12, 1, 2, 5]))
  (.cond (.s 12) (.seq (.region 0 [⟨0, (some 13), none, .mv (.s 5)⟩, ⟨1, (some 4), none, .mv (.s 13)⟩] [] (some [4]))
  .ret)
  .skip)))
  (.seq (.seq (.region 0 [⟨0, (some 14), none, .mv (.s 1)⟩, ⟨1, (some 15), none, .len (.s 14)⟩, ⟨2, (some 16), none, .bin .eql (.s 15) (.k (.c (.int .i64 0)))⟩, ⟨3, (some 17), none, .mv (.s 16)⟩, ⟨4, (some 18), (some (17, false)), .mv (.s 1)⟩, ⟨5, (some 19), (some (17, false)), .len (.s 18)⟩, ⟨6, (some 20), (some (17, false)), .bin .gtr (.s 19) (.k (.c (.int .i64 8)))⟩, ⟨7, (some 21), none, .pick (.s 17) (.k (.c (.bool true))) (.s 20)⟩, ⟨8, (some 22), none, .mv (.s 21)⟩, ⟨9, (some 23), (some (22, false)), .mv (.s 1)⟩, ⟨10, (some 24), (some (22, false)), .iaddr 1 (.s 23) (.k (.c (.int .i64 0)))⟩, ⟨11, (some 25), (some (22, false)), .load false 1 (.s 24)⟩, ⟨12, (some 26), (some (22, false)), .bin .lss (.s 25) (.k (.c (.int .i64 0)))⟩, ⟨13, (some 27), none, .pick (.s 22) (.k (.c (.bool true))) (.s 26)⟩, ⟨14, (some 28), none, .mv (.s 27)⟩, ⟨15, (some 29), (some (28, false)), .mv (.s 1)⟩, ⟨16, (some 30), (some (28, false)), .iaddr 1 (.s 29) (.k (.c (.int .i64 0)))⟩, ⟨18, (some 32), (some (28, false)), .faddr 1 (.s 2)⟩, ⟨17, (some 31), (some (28, false)), .load false 1 (.s 30)⟩, ⟨19, (some 33), (some (28, false)), .load false 1 (.s 32)⟩, ⟨20, (some 34), (some (28, false)), .len (.s 33)⟩, ⟨21, (some 35), (some (28, false)), .bin .geq (.s 31) (.s 34)⟩, ⟨22, (some 36), none, .pick (.s 28) (.k (.c (.bool true))) (.s 35)⟩, ⟨23, (some 37), none, .mv (.s 36)⟩, ⟨25, (some 39), (some (37, false)), .mv (.s 1)⟩, ⟨26, (some 40), (some (37, false)), .iaddr 1 (.s 39) (.k (.c (.int .i64 0)))⟩, ⟨24, (some 38), (some (37, false)), .load true 5 (.s 2)⟩, ⟨27, (some 41), (some (37, false)), .load false 1 (.s 40)⟩, ⟨28, (some 42), (some (37, false)), .call ⟨true⟩ (.k (.c (.fn 83 [] []))) [(.s 38), (.s 41)]⟩, ⟨29, (some 43), (some (37, false)), .len (.s 42)⟩, ⟨30, (some 44), (some (37, false)), .bin .gtr (.s 43) (.k (.c (.int .i64 0)))⟩, ⟨31, (some 45), none, .pick (.s 37) (.k (.c (.bool true))) (.s 44)⟩] [] (some [45, 2, 1]))
  (.cond (.s 45) (.seq (.region 0 [⟨0, (some 4), none, .mv (.k (.c (.int .i64 13)))⟩] [] (some [4]))
  .ret)
  .skip))
  (.seq (.region 0 [⟨0, (some 46), none, .mv (.s 1)⟩, ⟨1, (some 47), none, .iaddr 1 (.s 46) (.k (.c (.int .i64 0)))⟩, ⟨2, (some 48), none, .load false 1 (.s 47)⟩, ⟨3, (some 6), none, .mv (.s 48)⟩] [] (some [1, 6, 2]))
  (.seq (.seq (.region 0 [⟨0, (some 49), none, .mv (.s 1)⟩, ⟨1, (some 50), none, .slice 1 (.s 49) (some (.k (.c (.int .i64 1)))) none none⟩, ⟨2, (some 51), none, .len (.s 50)⟩, ⟨3, (some 52), none, .mv (.k (.c (.int .i64 0)))⟩] [] (some [6, 51, 50, 2, 52]))
  (.block 0 (.loop (some [6, 51, 50, 2, 52]) c_roads_CheckRoute_l1)))
  (.seq (.region 0 [⟨0, (some 4), none, .mv (.k (.c (.int .i64 0)))⟩] [] (some [4]))
  .ret)))))) }
abbrev f_track_able : Nat := 42
def c_track_able : CFn := { frz := true, rnd := none, nargs := 1, ntmps := 5, res := [(.slot 2)], code :=
  (.seq (.region 0 [⟨0, (some 2), none, .mv (.k (.c (.bool false)))⟩] [] (some [0]))
  (.seq (.region 0 [⟨0, (some 3), none, .mv (.s 0)⟩, ⟨1, (some 4), none, .call ⟨true⟩ (.k (.c (.fn 82 [] []))) [(.s 3), (.k (.c (.int .i64 300))), (.k (.c (.int .i64 20000)))]⟩, ⟨2, (some 2), none, .mv (.s 4)⟩] [] (some [2]))
  .ret)) }
def c_motion_Along_l1 : CC := (.seq (.region 0 [⟨0, (some 29), none, .bin .lss (.s 28) (.s 27)⟩] [] (some [29, 28, 27, 6, 3, 7]))
  (.seq (.cond (.s 29) .skip
  (.exit 0))
  (.seq (.block 1 (.seq (.region 0 [⟨0, (some 30), none, .mv (.s 28)⟩, ⟨1, (some 8), none, .mv (.s 30)⟩] [] (some [8, 28, 27, 6, 3, 7]))
  (.region 1 [⟨0, (some 31), none, .faddr 9 (.s 7)⟩, ⟨3, (some 34), none, .mv (.s 8)⟩, ⟨1, (some 32), none, .load false 1 (.s 31)⟩, ⟨2, (some 33), none, .load true 5 (.s 3)⟩, ⟨4, (some 35), none, .call ⟨true⟩ (.k (.c (.fn 47 [] []))) [(.s 33), (.s 34)]⟩, ⟨5, (some 36), none, .lit 0 1 [[(.int .i64 0)]] [(0, (.s 35))]⟩, ⟨6, (some 37), none, .append 1 8 (.s 32) (.s 36)⟩, ⟨7, (some 38), none, .faddr 9 (.s 7)⟩, ⟨8, none, none, .store 1 (.s 38) (.s 37)⟩] [(2, 4), (2, 5)] (some [28, 27, 6, 3, 7]))))
  (.region 0 [⟨0, (some 39), none, .bin .add (.s 28) (.k (.c (.int .i64 1)))⟩, ⟨1, (some 28), none, .mv (.s 39)⟩] [] (some [28, 27, 6, 3, 7])))))
def c_motion_Along_l2 : CC := (.seq (.region 0 [⟨0, (some 44), none, .bin .lss (.s 43) (.s 42)⟩] [] (some [44, 43, 42, 6, 41, 7]))
  (.seq (.cond (.s 44) .skip
  (.exit 2))
  (.seq (.block 3 (.seq (.region 0 [⟨0, (some 45), none, .iaddr 1 (.s 41) (.s 43)⟩, ⟨1, (some 46), none, .load false 1 (.s 45)⟩, ⟨2, (some 10), none, .mv (.s 46)⟩] [] (some [10, 43, 42, 6, 41, 7]))
  (.region 0 [⟨0, (some 47), none, .faddr 10 (.s 7)⟩, ⟨1, (some 48), none, .load false 1 (.s 47)⟩, ⟨2, (some 49), none, .mv (.s 10)⟩, ⟨3, (some 50), none, .iaddr 1 (.s 48) (.s 49)⟩, ⟨4, none, none, .store 1 (.s 50) (.k (.c (.bool true)))⟩] [] (some [43, 42, 6, 41, 7]))))
  (.region 0 [⟨0, (some 51), none, .bin .add (.s 43) (.k (.c (.int .i64 1)))⟩, ⟨1, (some 43), none, .mv (.s 51)⟩] [] (some [43, 42, 6, 41, 7])))))
abbrev f_motion_Along : Nat := 43
def c_motion_Along : CFn := { frz := true, rnd := none, nargs := 3, ntmps := 53, res := [(.cell 6 true 11)], code :=
  (.seq (.region 2 [⟨0, (some 3), none, .box 0 5 (.s 0)⟩, ⟨1, (some 6), none, .box 1 11 (.k (.a [(.int .i64 0), .nilslice, .nilslice, .nilslice, .nilslice, .nilslice, .nilslice, (.int .i64 0), (.int .i64 0), .nilslice, .nilslice]))⟩] [] (some [1, 2, 6, 3]))
  (.seq (.region 2 [⟨1, (some 12), none, .mv (.s 1)⟩, ⟨3, (some 14), none, .mv (.s 1)⟩, ⟨6, (some 17), none, .mv (.s 1)⟩, ⟨8, (some 19), none, .mv (.s 2)⟩, ⟨9, (some 20), none, .faddr 1 (.s 3)⟩, ⟨0, (some 11), none, .load true 5 (.s 3)⟩, ⟨2, (some 13), none, .load true 5 (.s 3)⟩, ⟨5, (some 16), none, .load true 5 (.s 3)⟩, ⟨10, (some 21), none, .load false 1 (.s 20)⟩, ⟨4, (some 15), none, .call ⟨true⟩ (.k (.c (.fn 85 [] []))) [(.s 13), (.s 14)]⟩, ⟨7, (some 18), none, .call ⟨true⟩ (.k (.c (.fn 86 [] []))) [(.s 16), (.s 17)]⟩, ⟨11, (some 22), none, .len (.s 21)⟩, ⟨12, (some 23), none, .mkslice 0 1 1 [(.bool false)] (.s 22) (.s 22)⟩, ⟨13, (some 24), none, .build [(.int .i64 0), .nilslice, .nilslice, .nilslice, .nilslice, .nilslice, .nilslice, (.int .i64 0), (.int .i64 0), .nilslice, .nilslice] [(0, 5, (.s 11)), (5, 1, (.s 12)), (6, 1, (.s 15)), (7, 1, (.s 18)), (8, 1, (.s 19)), (10, 1, (.s 23))]⟩, ⟨14, (some 7), none, .box 1 11 (.k (.a [(.int .i64 0), .nilslice, .nilslice, .nilslice, .nilslice, .nilslice, .nilslice, (.int .i64 0), (.int .i64 0), .nilslice, .nilslice]))⟩, ⟨15, none, none, .store 11 (.s 7) (.s 24)⟩] [(5, 9), (5, 10), (5, 12), (5, 14), (6, 12), (6, 14), (7, 9), (7, 12), (7, 14), (8, 9), (8, 10), (8, 14), (9, 12), (9, 14), (10, 12), (10, 14), (12, 14)] (some [6, 3, 7]))
  (.seq (.seq (.region 0 [⟨0, (some 25), none, .faddr 1 (.s 3)⟩, ⟨1, (some 26), none, .load false 1 (.s 25)⟩, ⟨2, (some 27), none, .len (.s 26)⟩, ⟨3, (some 28), none, .mv (.k (.c (.int .i64 0)))⟩] [] (some [28, 27, 6, 3, 7]))
  (.block 0 (.loop (some [28, 27, 6, 3, 7]) c_motion_Along_l1)))
  (.seq (.seq (.region 0 [⟨0, (some 40), none, .load true 5 (.s 3)⟩, ⟨1, (some 41), none, .call ⟨true⟩ (.k (.c (.fn 87 [] []))) [(.s 40)]⟩, ⟨2, (some 42), none, .len (.s 41)⟩, ⟨3, (some 43), none, .mv (.k (.c (.int .i64 0)))⟩] [] (some [43, 42, 6, 41, 7]))
  (.block 2 (.loop (some [43, 42, 6, 41, 7]) c_motion_Along_l2)))
  (.seq (.region 0 [⟨0, (some 52), none, .load true 11 (.s 7)⟩, ⟨1, none, none, .store 11 (.s 6) (.s 52)⟩] [] (some [6]))
  .ret))))) }
def c_motion_Course_Own_l1 : CC := (.seq (.region 0 [⟨0, (some 18), none, .bin .lss (.s 17) (.s 16)⟩] [] (some [18, 1, 17, 16, 15, 5, 3]))
  (.seq (.cond (.s 18) .skip
  (.exit 0))
  (.seq (.block 1 (.seq (.region 0 [⟨0, (some 19), none, .mv (.s 17)⟩, ⟨1, (some 20), none, .iaddr 1 (.s 15) (.s 17)⟩, ⟨2, (some 21), none, .load false 1 (.s 20)⟩, ⟨3, (some 7), none, .mv (.s 19)⟩, ⟨4, (some 8), none, .mv (.s 21)⟩] [] (some [1, 8, 7, 17, 16, 15, 5, 3]))
  (.region 0 [⟨0, (some 22), none, .mv (.s 1)⟩, ⟨1, (some 23), none, .mv (.s 8)⟩, ⟨2, (some 24), none, .faddr 1 (.s 5)⟩, ⟨4, (some 26), none, .faddr 8 (.s 3)⟩, ⟨7, (some 29), none, .faddr 6 (.s 3)⟩, ⟨9, (some 31), none, .mv (.s 7)⟩, ⟨13, (some 35), none, .faddr 0 (.s 5)⟩, ⟨15, (some 37), none, .faddr 6 (.s 3)⟩, ⟨17, (some 39), none, .mv (.s 7)⟩, ⟨3, (some 25), none, .load false 1 (.s 24)⟩, ⟨5, (some 27), none, .load false 1 (.s 26)⟩, ⟨6, (some 28), none, .bin .sub (.s 25) (.s 27)⟩, ⟨8, (some 30), none, .load false 1 (.s 29)⟩, ⟨10, (some 32), none, .iaddr 1 (.s 30) (.s 31)⟩, ⟨11, (some 33), none, .load false 1 (.s 32)⟩, ⟨12, (some 34), none, .bin .sub (.s 28) (.s 33)⟩, ⟨14, (some 36), none, .load false 1 (.s 35)⟩, ⟨16, (some 38), none, .load false 1 (.s 37)⟩, ⟨18, (some 40), none, .iaddr 1 (.s 38) (.s 39)⟩, ⟨19, (some 41), none, .load false 1 (.s 40)⟩, ⟨20, (some 42), none, .bin .sub (.s 36) (.s 41)⟩, ⟨21, (some 43), none, .build [(.int .i64 0), (.int .i64 0), (.int .i64 0)] [(0, 1, (.s 23)), (1, 1, (.s 34)), (2, 1, (.s 42))]⟩, ⟨22, (some 44), none, .call ⟨true⟩ (.k (.c (.fn 58 [] []))) [(.s 22), (.s 43)]⟩, ⟨23, (some 1), none, .mv (.s 44)⟩] [] (some [17, 1, 16, 15, 5, 3]))))
  (.region 0 [⟨0, (some 45), none, .bin .add (.s 17) (.k (.c (.int .i64 1)))⟩, ⟨1, (some 17), none, .mv (.s 45)⟩] [] (some [1, 17, 16, 15, 5, 3])))))
abbrev f_motion_Course_Own : Nat := 44
def c_motion_Course_Own : CFn := { frz := true, rnd := none, nargs := 3, ntmps := 47, res := [(.slot 6)], code :=
  (.seq (.region 3 [⟨0, (some 3), none, .box 0 11 (.s 0)⟩, ⟨1, (some 5), none, .box 1 4 (.s 2)⟩, ⟨2, (some 6), none, .newsl 2 6⟩] [] (some [3, 5, 1]))
  (.seq (.seq (.region 0 [⟨0, (some 9), none, .load true 11 (.s 3)⟩, ⟨1, (some 10), none, .load true 4 (.s 5)⟩, ⟨2, (some 11), none, .call ⟨true⟩ (.k (.c (.fn 88 [] []))) [(.s 9), (.s 10)]⟩, ⟨3, (some 12), none, .un .not (.s 11)⟩] [] (some [12, 3, 5, 1]))
  (.cond (.s 12) (.seq (.region 0 [⟨0, (some 13), none, .mv (.s 1)⟩, ⟨1, (some 6), none, .mv (.s 13)⟩] [] (some [6]))
  .ret)
  .skip))
  (.seq (.seq (.region 0 [⟨0, (some 14), none, .faddr 5 (.s 3)⟩, ⟨1, (some 15), none, .load false 1 (.s 14)⟩, ⟨2, (some 16), none, .len (.s 15)⟩, ⟨3, (some 17), none, .mv (.k (.c (.int .i64 0)))⟩] [] (some [1, 17, 16, 15, 5, 3]))
  (.block 0 (.loop (some [1, 17, 16, 15, 5, 3]) c_motion_Course_Own_l1)))
  (.seq (.region 0 [⟨0, (some 46), none, .mv (.s 1)⟩, ⟨1, (some 6), none, .mv (.s 46)⟩] [] (some [6]))
  .ret)))) }
def c_roads_Check_l1 : CC := (.seq (.region 0 [⟨0, (some 9), none, .bin .lss (.s 8) (.s 7)⟩] [] (some [9, 1, 6, 7, 8]))
  (.seq (.cond (.s 9) .skip
  (.exit 0))
  (.seq (.block 1 (.seq (.region 0 [⟨0, (some 10), none, .iaddr 1 (.s 6) (.s 8)⟩, ⟨1, (some 11), none, .load false 1 (.s 10)⟩, ⟨2, (some 4), none, .mv (.s 11)⟩] [] (some [4, 1, 6, 7, 8]))
  (.seq (.region 0 [⟨0, (some 12), none, .mv (.s 4)⟩, ⟨1, (some 13), none, .load true 5 (.s 1)⟩, ⟨2, (some 14), none, .build [(.int .i64 0), .nilslice, .nilslice, .nilslice, .nilslice] [(0, 5, (.s 13))]⟩, ⟨3, (some 15), none, .call ⟨true⟩ (.s 12) [(.s 14)]⟩, ⟨4, (some 5), none, .mv (.s 15)⟩] [] (some [1, 6, 7, 8, 5]))
  (.seq (.region 0 [⟨0, (some 16), none, .mv (.s 5)⟩, ⟨1, (some 17), none, .bin .neq (.s 16) (.k (.c (.int .i64 0)))⟩] [] (some [17, 1, 6, 7, 8, 5]))
  (.cond (.s 17) (.seq (.region 0 [⟨0, (some 18), none, .mv (.s 5)⟩, ⟨1, (some 2), none, .mv (.s 18)⟩] [] (some [2]))
  .ret)
  .skip)))))
  (.region 0 [⟨0, (some 19), none, .bin .add (.s 8) (.k (.c (.int .i64 1)))⟩, ⟨1, (some 8), none, .mv (.s 19)⟩] [] (some [7, 6, 1, 8])))))
abbrev f_roads_Check : Nat := 45
def c_roads_Check : CFn := { frz := true, rnd := none, nargs := 1, ntmps := 20, res := [(.slot 2)], code :=
  (.seq (.region 1 [⟨0, (some 1), none, .box 0 5 (.s 0)⟩, ⟨1, (some 2), none, .mv (.k (.c (.int .i64 0)))⟩] [] (some [1]))
  (.seq (.seq (.region 1 [⟨0, (some 6), none, .lit 0 1 [[.nilfn], [.nilfn], [.nilfn], [.nilfn], [.nilfn], [.nilfn]] [(0, (.k (.c (.fn 89 [] [])))), (1, (.k (.c (.fn 90 [] [])))), (2, (.k (.c (.fn 91 [] [])))), (3, (.k (.c (.fn 92 [] [])))), (4, (.k (.c (.fn 93 [] [])))), (5, (.k (.c (.fn 94 [] []))))]⟩, ⟨1, (some 7), none, .len (.s 6)⟩, ⟨2, (some 8), none, .mv (.k (.c (.int .i64 0)))⟩] [] (some [7, 6, 1, 8]))
  (.block 0 (.loop (some [7, 6, 1, 8]) c_roads_Check_l1)))
  (.seq (.region 0 [⟨0, (some 2), none, .mv (.k (.c (.int .i64 0)))⟩] [] (some [2]))
  .ret))) }
abbrev f_roads_Bounds : Nat := 46
def c_roads_Bounds : CFn := { frz := true, rnd := none, nargs := 1, ntmps := 26, res := [(.slot 2), (.slot 3), (.slot 4)], code :=
  (.seq (.region 0 [⟨0, (some 2), none, .mv (.k (.c (.int .i64 0)))⟩, ⟨1, (some 3), none, .mv (.k (.c (.int .i64 0)))⟩, ⟨2, (some 4), none, .mv (.k (.c (.int .i64 0)))⟩] [] (some [0]))
  (.seq (.region 1 [⟨0, (some 7), none, .build [(.int .i64 0), (.int .i64 0), (.int .i64 0)] [(0, 1, (.k (.c (.int .i64 2000)))), (1, 1, (.k (.c (.int .i64 30)))), (2, 1, (.k (.c (.int .i64 90))))]⟩, ⟨1, (some 8), none, .build [(.int .i64 0), (.int .i64 0), (.int .i64 0)] [(0, 1, (.k (.c (.int .i64 1000)))), (1, 1, (.k (.c (.int .i64 20)))), (2, 1, (.k (.c (.int .i64 60))))]⟩, ⟨2, (some 9), none, .build [(.int .i64 0), (.int .i64 0), (.int .i64 0)] [(0, 1, (.k (.c (.int .i64 300)))), (1, 1, (.k (.c (.int .i64 100)))), (2, 1, (.k (.c (.int .i64 300))))]⟩, ⟨3, (some 10), none, .build [(.int .i64 0), (.int .i64 0), (.int .i64 0), (.int .i64 0), (.int .i64 0), (.int .i64 0), (.int .i64 0), (.int .i64 0), (.int .i64 0), (.int .i64 0), (.int .i64 0), (.int .i64 0)] [(3, 3, (.s 7)), (6, 3, (.s 8)), (9, 3, (.s 9))]⟩, ⟨4, (some 5), none, .box 0 12 (.k (.a [(.int .i64 0), (.int .i64 0), (.int .i64 0), (.int .i64 0), (.int .i64 0), (.int .i64 0), (.int .i64 0), (.int .i64 0), (.int .i64 0), (.int .i64 0), (.int .i64 0), (.int .i64 0)]))⟩, ⟨5, none, none, .store 12 (.s 5) (.s 10)⟩] [] (some [5, 0]))
  (.seq (.seq (.region 0 [⟨0, (some 11), none, .mv (.s 0)⟩, ⟨1, (some 12), none, .bin .lss (.s 11) (.k (.c (.int .i64 0)))⟩, ⟨2, (some 13), none, .mv (.s 12)⟩, ⟨3, (some 14), (some (13, false)), .mv (.s 0)⟩, ⟨4, (some 15), (some (13, false)), .bin .geq (.s 14) (.k (.c (.int .i64 4)))⟩, ⟨5, (some 16), none, .pick (.s 13) (.k (.c (.bool true))) (.s 15)⟩] [] (some [16, 5, 0]))
  (.cond (.s 16) (.seq (.region 0 [⟨0, (some 2), none, .mv (.k (.c (.int .i64 0)))⟩, ⟨1, (some 3), none, .mv (.k (.c (.int .i64 0)))⟩, ⟨2, (some 4), none, .mv (.k (.c (.int .i64 0)))⟩] [] (some [2, 3, 4]))
  .ret)
  .skip))
  (.seq (.region 1 [⟨0, (some 17), none, .mv (.s 0)⟩, ⟨1, (some 18), none, .aaddr 4 3 (.s 5) (.s 17)⟩, ⟨2, (some 19), none, .load true 3 (.s 18)⟩, ⟨3, (some 6), none, .box 0 3 (.k (.a [(.int .i64 0), (.int .i64 0), (.int .i64 0)]))⟩, ⟨4, none, none, .store 3 (.s 6) (.s 19)⟩] [] (some [6]))
  (.seq (.region 0 [⟨0, (some 20), none, .aaddr 3 1 (.s 6) (.k (.c (.int .i64 0)))⟩, ⟨2, (some 22), none, .aaddr 3 1 (.s 6) (.k (.c (.int .i64 1)))⟩, ⟨4, (some 24), none, .aaddr 3 1 (.s 6) (.k (.c (.int .i64 2)))⟩, ⟨1, (some 21), none, .load false 1 (.s 20)⟩, ⟨6, (some 2), none, .mv (.s 21)⟩, ⟨3, (some 23), none, .load false 1 (.s 22)⟩, ⟨7, (some 3), none, .mv (.s 23)⟩, ⟨5, (some 25), none, .load false 1 (.s 24)⟩, ⟨8, (some 4), none, .mv (.s 25)⟩] [] (some [2, 3, 4]))
  .ret))))) }
abbrev f_roads_Length : Nat := 47
def c_roads_Length : CFn := { frz := true, rnd := none, nargs := 2, ntmps := 12, res := [(.slot 4)], code :=
  (.seq (.region 1 [⟨0, (some 2), none, .box 0 5 (.s 0)⟩, ⟨1, (some 4), none, .mv (.k (.c (.int .i64 0)))⟩] [] (some [1, 2]))
  (.seq (.seq (.region 0 [⟨0, (some 5), none, .load true 5 (.s 2)⟩, ⟨1, (some 6), none, .mv (.s 1)⟩, ⟨2, (some 7), none, .call ⟨true⟩ (.k (.c (.fn 95 [] []))) [(.s 5), (.s 6)]⟩, ⟨3, (some 8), none, .un .not (.s 7)⟩] [] (some [8, 1, 2]))
  (.cond (.s 8) (.seq (.region 0 [⟨0, (some 4), none, .mv (.k (.c (.int .i64 0)))⟩] [] (some [4]))
  .ret)
  .skip))
  (.seq (.region 0 [⟨0, (some 9), none, .load true 5 (.s 2)⟩, ⟨1, (some 10), none, .mv (.s 1)⟩, ⟨2, (some 11), none, .call ⟨true⟩ (.k (.c (.fn 96 [] []))) [(.s 9), (.s 10)]⟩, ⟨3, (some 4), none, .mv (.s 11)⟩] [] (some [4]))
  .ret))) }
abbrev f_motion_Course_Drive : Nat := 48
def c_motion_Course_Drive : CFn := { frz := true, rnd := none, nargs := 3, ntmps := 56, res := [(.cell 6 true 4)], code :=
  (.seq (.region 4 [⟨0, (some 3), none, .box 0 11 (.s 0)⟩, ⟨1, (some 4), none, .box 1 4 (.s 1)⟩, ⟨2, (some 5), none, .box 2 1 (.s 2)⟩, ⟨3, (some 6), none, .box 3 4 (.k (.a [(.int .i64 0), (.int .i64 0), (.int .i64 0), (.int .i64 0)]))⟩] [] (some [3, 5, 4, 6]))
  (.seq (.region 1 [⟨0, (some 12), none, .faddr 0 (.s 3)⟩, ⟨1, (some 13), none, .faddr 1 (.s 12)⟩, ⟨3, (some 15), none, .faddr 5 (.s 3)⟩, ⟨2, (some 14), none, .load false 1 (.s 13)⟩, ⟨4, (some 16), none, .load false 1 (.s 15)⟩, ⟨5, (some 17), none, .iaddr 1 (.s 16) (.k (.c (.int .i64 0)))⟩, ⟨6, (some 18), none, .load false 1 (.s 17)⟩, ⟨7, (some 19), none, .iaddr 5 (.s 14) (.s 18)⟩, ⟨8, (some 20), none, .faddr 0 (.s 19)⟩, ⟨9, (some 21), none, .load false 1 (.s 20)⟩, ⟨10, (some 22), none, .call ⟨true⟩ (.k (.c (.fn 46 [] []))) [(.s 21)]⟩, ⟨11, (some 11), none, .mv (.s 22)⟩, ⟨12, (some 23), none, .extract 11 0⟩, ⟨13, (some 24), none, .extract 11 1⟩, ⟨14, (some 25), none, .extract 11 2⟩, ⟨15, (some 7), none, .box 0 1 (.k (.a [(.int .i64 0)]))⟩, ⟨16, none, none, .store 1 (.s 7) (.s 23)⟩, ⟨17, (some 8), none, .mv (.s 24)⟩, ⟨18, (some 9), none, .mv (.s 25)⟩] [(3, 15), (4, 15), (6, 15), (9, 15), (10, 15)] (some [9, 8, 7, 5, 4, 6]))
  (.seq (.region 0 [⟨0, (some 26), none, .mv (.s 9)⟩, ⟨1, (some 27), none, .un .neg (.s 26)⟩, ⟨2, (some 28), none, .load false 1 (.s 5)⟩, ⟨3, (some 29), none, .mv (.s 8)⟩, ⟨4, (some 30), none, .minmax false [(.s 28), (.s 29)]⟩, ⟨5, (some 31), none, .minmax true [(.s 27), (.s 30)]⟩, ⟨6, none, none, .store 1 (.s 5) (.s 31)⟩] [] (some [7, 5, 4, 6]))
  (.seq (.region 0 [⟨0, (some 32), none, .mkfn 97 [] [(.s 5), (.s 7)]⟩, ⟨1, (some 10), none, .mv (.s 32)⟩] [] (some [10, 4, 6]))
  (.seq (.region 0 [⟨0, (some 33), none, .mv (.s 10)⟩, ⟨1, (some 34), none, .faddr 2 (.s 4)⟩, ⟨4, (some 37), none, .mv (.s 10)⟩, ⟨5, (some 38), none, .faddr 3 (.s 4)⟩, ⟨2, (some 35), none, .load false 1 (.s 34)⟩, ⟨6, (some 39), none, .load false 1 (.s 38)⟩, ⟨3, (some 36), none, .call ⟨true⟩ (.s 33) [(.s 35)]⟩, ⟨8, (some 41), none, .faddr 2 (.s 4)⟩, ⟨7, (some 40), none, .call ⟨true⟩ (.s 37) [(.s 39)]⟩, ⟨9, none, none, .store 1 (.s 41) (.s 36)⟩, ⟨10, (some 42), none, .faddr 3 (.s 4)⟩, ⟨11, none, none, .store 1 (.s 42) (.s 40)⟩] [(5, 6)] (some [4, 6]))
  (.seq (.region 0 [⟨0, (some 43), none, .faddr 0 (.s 4)⟩, ⟨1, (some 44), none, .load false 1 (.s 43)⟩, ⟨2, (some 45), none, .faddr 2 (.s 4)⟩, ⟨3, (some 46), none, .load false 1 (.s 45)⟩, ⟨4, (some 47), none, .bin .add (.s 44) (.s 46)⟩, ⟨5, (some 48), none, .faddr 1 (.s 4)⟩, ⟨6, (some 49), none, .load false 1 (.s 48)⟩, ⟨7, (some 50), none, .faddr 3 (.s 4)⟩, ⟨8, (some 51), none, .load false 1 (.s 50)⟩, ⟨9, (some 52), none, .bin .add (.s 49) (.s 51)⟩, ⟨10, (some 53), none, .faddr 0 (.s 4)⟩, ⟨11, none, none, .store 1 (.s 53) (.s 47)⟩, ⟨12, (some 54), none, .faddr 1 (.s 4)⟩, ⟨13, none, none, .store 1 (.s 54) (.s 52)⟩] [] (some [4, 6]))
  (.seq (.region 0 [⟨0, (some 55), none, .load true 4 (.s 4)⟩, ⟨1, none, none, .store 4 (.s 6) (.s 55)⟩] [] (some [6]))
  .ret))))))) }
def c_motion_Course_Step_l1 : CC := (.seq (.region 0 [⟨0, (some 105), none, .bin .lss (.s 104) (.s 103)⟩] [] (some [105, 12, 104, 103, 50, 49, 10, 8, 48, 3, 11, 4, 5, 13, 19, 16, 15, 102]))
  (.seq (.cond (.s 105) .skip
  (.exit 2))
  (.seq (.block 3 (.seq (.region 1 [⟨0, (some 106), none, .iaddr 7 (.s 102) (.s 104)⟩, ⟨1, (some 107), none, .load true 7 (.s 106)⟩, ⟨2, (some 21), none, .box 0 7 (.k (.a [(.int .i64 0), (.int .i64 0), (.int .i64 0), (.int .i64 0), (.int .i64 0), (.int .i64 0), (.bool false)]))⟩, ⟨3, none, none, .store 7 (.s 21) (.s 107)⟩] [] (some [12, 21, 104, 103, 50, 49, 10, 8, 48, 3, 11, 4, 5, 13, 19, 16, 15, 102]))
  (.region 1 [⟨0, (some 108), none, .mv (.s 12)⟩, ⟨1, (some 109), none, .faddr 0 (.s 21)⟩, ⟨2, (some 110), none, .load true 6 (.s 109)⟩, ⟨3, (some 111), none, .lit 0 6 [[(.int .i64 0), (.int .i64 0), (.int .i64 0), (.int .i64 0), (.int .i64 0), (.int .i64 0)]] [(0, (.s 110))]⟩, ⟨4, (some 112), none, .append 6 48 (.s 108) (.s 111)⟩, ⟨5, (some 12), none, .mv (.s 112)⟩] [] (some [104, 12, 103, 50, 49, 10, 8, 48, 3, 11, 4, 5, 13, 19, 16, 15, 102]))))
  (.region 0 [⟨0, (some 113), none, .bin .add (.s 104) (.k (.c (.int .i64 1)))⟩, ⟨1, (some 104), none, .mv (.s 113)⟩] [] (some [12, 104, 103, 50, 49, 10, 8, 48, 3, 11, 4, 5, 13, 19, 16, 15, 102])))))
def c_motion_Course_Step_l2 : CC := (.seq (.region 0 [⟨0, (some 124), none, .bin .lss (.s 123) (.s 122)⟩] [] (some [124, 13, 123, 122, 5, 4, 12, 11, 3, 48, 8, 10, 49, 50, 121]))
  (.seq (.cond (.s 124) .skip
  (.exit 4))
  (.seq (.block 5 (.seq (.region 1 [⟨0, (some 125), none, .iaddr 7 (.s 121) (.s 123)⟩, ⟨1, (some 126), none, .load true 7 (.s 125)⟩, ⟨2, (some 23), none, .box 0 7 (.k (.a [(.int .i64 0), (.int .i64 0), (.int .i64 0), (.int .i64 0), (.int .i64 0), (.int .i64 0), (.bool false)]))⟩, ⟨3, none, none, .store 7 (.s 23) (.s 126)⟩] [] (some [13, 23, 123, 122, 5, 4, 12, 11, 3, 48, 8, 10, 49, 50, 121]))
  (.region 1 [⟨0, (some 127), none, .mv (.s 13)⟩, ⟨1, (some 128), none, .faddr 0 (.s 23)⟩, ⟨2, (some 129), none, .faddr 0 (.s 128)⟩, ⟨3, (some 130), none, .load false 1 (.s 129)⟩, ⟨4, (some 131), none, .faddr 0 (.s 23)⟩, ⟨5, (some 132), none, .faddr 1 (.s 131)⟩, ⟨6, (some 133), none, .load false 1 (.s 132)⟩, ⟨7, (some 134), none, .faddr 0 (.s 23)⟩, ⟨8, (some 135), none, .faddr 2 (.s 134)⟩, ⟨9, (some 136), none, .load false 1 (.s 135)⟩, ⟨10, (some 137), none, .faddr 6 (.s 23)⟩, ⟨11, (some 138), none, .load false 1 (.s 137)⟩, ⟨12, (some 139), none, .build [(.int .i64 0), (.int .i64 0), (.int .i64 0), (.bool false)] [(0, 1, (.s 130)), (1, 1, (.s 133)), (2, 1, (.s 136)), (3, 1, (.s 138))]⟩, ⟨13, (some 140), none, .lit 0 4 [[(.int .i64 0), (.int .i64 0), (.int .i64 0), (.bool false)]] [(0, (.s 139))]⟩, ⟨14, (some 141), none, .append 4 32 (.s 127) (.s 140)⟩, ⟨15, (some 13), none, .mv (.s 141)⟩] [] (some [123, 13, 122, 5, 4, 12, 11, 3, 48, 8, 10, 49, 50, 121]))))
  (.region 0 [⟨0, (some 142), none, .bin .add (.s 123) (.k (.c (.int .i64 1)))⟩, ⟨1, (some 123), none, .mv (.s 142)⟩] [] (some [13, 123, 122, 5, 4, 12, 11, 3, 48, 8, 10, 49, 50, 121])))))
def c_motion_Course_Step_l3 : CC := (.seq (.region 0 [⟨0, (some 51), none, .bin .lss (.s 50) (.s 49)⟩] [] (some [51, 50, 49, 10, 8, 48, 3, 11, 13, 12, 4, 5]))
  (.seq (.cond (.s 51) .skip
  (.exit 0))
  (.seq (.block 1 (.seq (.region 1 [⟨0, (some 52), none, .iaddr 6 (.s 48) (.s 50)⟩, ⟨1, (some 53), none, .load true 6 (.s 52)⟩, ⟨2, (some 15), none, .box 0 6 (.k (.a [(.int .i64 0), (.int .i64 0), (.int .i64 0), (.int .i64 0), (.int .i64 0), (.int .i64 0)]))⟩, ⟨3, none, none, .store 6 (.s 15) (.s 53)⟩] [] (some [15, 50, 49, 10, 8, 48, 3, 11, 13, 12, 4, 5]))
  (.seq (.region 1 [⟨0, (some 55), none, .load true 11 (.s 4)⟩, ⟨1, (some 56), none, .load true 6 (.s 15)⟩, ⟨2, (some 57), none, .faddr 0 (.s 5)⟩, ⟨3, (some 58), none, .load false 1 (.s 57)⟩, ⟨4, (some 59), none, .mv (.s 3)⟩, ⟨5, (some 60), none, .call ⟨true⟩ (.k (.c (.fn 98 [] []))) [(.s 55), (.s 56), (.s 58), (.s 59)]⟩, ⟨6, (some 54), none, .mv (.s 60)⟩, ⟨7, (some 61), none, .extract 54 0⟩, ⟨8, (some 62), none, .extract 54 1⟩, ⟨9, (some 16), none, .box 0 6 (.k (.a [(.int .i64 0), (.int .i64 0), (.int .i64 0), (.int .i64 0), (.int .i64 0), (.int .i64 0)]))⟩, ⟨10, none, none, .store 6 (.s 16) (.s 61)⟩, ⟨11, (some 17), none, .mv (.s 62)⟩] [] (some [17, 15, 16, 50, 49, 10, 8, 48, 3, 11, 13, 12, 4, 5]))
  (.seq (.seq (.region 0 [⟨0, (some 63), none, .mv (.s 17)⟩, ⟨1, (some 64), none, .un .not (.s 63)⟩] [] (some [64, 15, 16, 50, 49, 10, 8, 48, 3, 11, 13, 12, 4, 5]))
  (.cond (.s 64) (.exit 1)
  .skip))
  (.seq (.region 0 [⟨0, (some 65), none, .faddr 5 (.s 4)⟩, ⟨1, (some 66), none, .load false 1 (.s 65)⟩, ⟨2, (some 67), none, .faddr 0 (.s 15)⟩, ⟨3, (some 68), none, .load false 1 (.s 67)⟩, ⟨4, (some 69), none, .call ⟨true⟩ (.k (.c (.fn 99 [] []))) [(.s 66), (.s 68)]⟩, ⟨5, (some 18), none, .mv (.s 69)⟩] [] (some [18, 12, 50, 49, 10, 8, 48, 3, 11, 4, 5, 13, 16, 15]))
  (.seq (.region 0 [⟨0, (some 70), none, .mv (.s 18)⟩, ⟨1, (some 71), none, .bin .geq (.s 70) (.k (.c (.int .i64 0)))⟩, ⟨2, (some 72), none, .mv (.s 71)⟩, ⟨4, (some 74), (some (72, true)), .faddr 2 (.s 5)⟩, ⟨3, (some 73), (some (72, true)), .load true 11 (.s 4)⟩, ⟨5, (some 75), (some (72, true)), .load true 4 (.s 74)⟩, ⟨6, (some 76), (some (72, true)), .call ⟨true⟩ (.k (.c (.fn 88 [] []))) [(.s 73), (.s 75)]⟩, ⟨7, (some 77), none, .pick (.s 72) (.s 76) (.k (.c (.bool false)))⟩, ⟨8, (some 78), none, .mv (.s 77)⟩, ⟨9, (some 79), (some (78, true)), .faddr 6 (.s 4)⟩, ⟨11, (some 81), (some (78, true)), .mv (.s 18)⟩, ⟨14, (some 84), (some (78, true)), .faddr 2 (.s 15)⟩, ⟨17, (some 87), (some (78, true)), .faddr 2 (.s 5)⟩, ⟨18, (some 88), (some (78, true)), .faddr 1 (.s 87)⟩, ⟨20, (some 90), (some (78, true)), .faddr 8 (.s 4)⟩, ⟨10, (some 80), (some (78, true)), .load false 1 (.s 79)⟩, ⟨12, (some 82), (some (78, true)), .iaddr 1 (.s 80) (.s 81)⟩, ⟨13, (some 83), (some (78, true)), .load false 1 (.s 82)⟩, ⟨15, (some 85), (some (78, true)), .load false 1 (.s 84)⟩, ⟨16, (some 86), (some (78, true)), .bin .add (.s 83) (.s 85)⟩, ⟨19, (some 89), (some (78, true)), .load false 1 (.s 88)⟩, ⟨21, (some 91), (some (78, true)), .load false 1 (.s 90)⟩, ⟨22, (some 92), (some (78, true)), .bin .sub (.s 89) (.s 91)⟩, ⟨23, (some 93), (some (78, true)), .bin .lss (.s 86) (.s 92)⟩, ⟨24, (some 94), none, .pick (.s 78) (.s 93) (.k (.c (.bool false)))⟩, ⟨25, (some 19), none, .mv (.s 94)⟩] [] (some [12, 50, 49, 10, 8, 48, 3, 11, 4, 5, 13, 19, 16, 15]))
  (.seq (.seq (.region 0 [⟨0, (some 95), none, .load true 16 (.s 11)⟩, ⟨1, (some 96), none, .load true 6 (.s 16)⟩, ⟨2, (some 97), none, .faddr 1 (.s 16)⟩, ⟨3, (some 98), none, .load false 1 (.s 97)⟩, ⟨4, (some 99), none, .faddr 2 (.s 16)⟩, ⟨5, (some 100), none, .load false 1 (.s 99)⟩, ⟨6, (some 101), none, .mv (.s 19)⟩, ⟨7, (some 102), none, .call ⟨true⟩ (.k (.c (.fn 100 [] []))) [(.s 95), (.s 96), (.s 98), (.s 100), (.s 101)]⟩, ⟨8, (some 103), none, .len (.s 102)⟩, ⟨9, (some 104), none, .mv (.k (.c (.int .i64 0)))⟩] [] (some [12, 104, 103, 50, 49, 10, 8, 48, 3, 11, 4, 5, 13, 19, 16, 15, 102]))
  (.block 2 (.loop (some [12, 104, 103, 50, 49, 10, 8, 48, 3, 11, 4, 5, 13, 19, 16, 15, 102]) c_motion_Course_Step_l1)))
  (.seq (.region 0 [⟨0, (some 114), none, .load true 16 (.s 11)⟩, ⟨1, (some 115), none, .load true 6 (.s 16)⟩, ⟨2, (some 116), none, .faddr 1 (.s 15)⟩, ⟨3, (some 117), none, .load false 1 (.s 116)⟩, ⟨4, (some 118), none, .faddr 2 (.s 16)⟩, ⟨5, (some 119), none, .load false 1 (.s 118)⟩, ⟨6, (some 120), none, .mv (.s 19)⟩, ⟨7, (some 121), none, .call ⟨true⟩ (.k (.c (.fn 100 [] []))) [(.s 114), (.s 115), (.s 117), (.s 119), (.s 120)]⟩, ⟨8, (some 122), none, .len (.s 121)⟩, ⟨9, (some 123), none, .mv (.k (.c (.int .i64 0)))⟩] [] (some [13, 123, 122, 5, 4, 12, 11, 3, 48, 8, 10, 49, 50, 121]))
  (.block 4 (.loop (some [13, 123, 122, 5, 4, 12, 11, 3, 48, 8, 10, 49, 50, 121]) c_motion_Course_Step_l2))))))))))
  (.region 0 [⟨0, (some 143), none, .bin .add (.s 50) (.k (.c (.int .i64 1)))⟩, ⟨1, (some 50), none, .mv (.s 143)⟩] [] (some [50, 49, 10, 8, 48, 3, 11, 13, 12, 4, 5])))))
def c_motion_Course_Step_l4 : CC := (.seq (.region 0 [⟨0, (some 148), none, .bin .lss (.s 147) (.s 146)⟩] [] (some [148, 12, 147, 146, 8, 10, 13, 5, 145, 11, 4]))
  (.seq (.cond (.s 148) .skip
  (.exit 6))
  (.seq (.block 7 (.seq (.region 0 [⟨0, (some 149), none, .mv (.s 147)⟩, ⟨1, (some 150), none, .iaddr 1 (.s 145) (.s 147)⟩, ⟨2, (some 151), none, .load false 1 (.s 150)⟩, ⟨3, (some 24), none, .mv (.s 149)⟩, ⟨4, (some 25), none, .mv (.s 151)⟩] [] (some [25, 12, 24, 147, 146, 8, 10, 13, 5, 145, 11, 4]))
  (.seq (.region 0 [⟨0, (some 152), none, .mv (.s 25)⟩, ⟨1, (some 153), none, .mv (.s 152)⟩, ⟨2, (some 154), (some (153, true)), .mv (.s 24)⟩, ⟨3, (some 155), (some (153, true)), .faddr 5 (.s 4)⟩, ⟨4, (some 156), (some (153, true)), .load false 1 (.s 155)⟩, ⟨5, (some 157), (some (153, true)), .iaddr 1 (.s 156) (.k (.c (.int .i64 0)))⟩, ⟨6, (some 158), (some (153, true)), .load false 1 (.s 157)⟩, ⟨7, (some 159), (some (153, true)), .bin .neq (.s 154) (.s 158)⟩, ⟨8, (some 160), (some (153, true)), .mv (.s 159)⟩, ⟨9, (some 161), (some (160, false)), .faddr 11 (.s 11)⟩, ⟨10, (some 162), (some (160, false)), .load false 1 (.s 161)⟩, ⟨11, (some 163), (some (160, false)), .bin .geq (.s 162) (.k (.c (.int .i64 0)))⟩, ⟨12, (some 164), (some (153, true)), .pick (.s 160) (.k (.c (.bool true))) (.s 163)⟩, ⟨13, (some 165), none, .pick (.s 153) (.s 164) (.k (.c (.bool false)))⟩] [] (some [165, 12, 24, 147, 146, 8, 10, 13, 5, 145, 11, 4]))
  (.cond (.s 165) (.seq (.region 0 [⟨0, (some 167), none, .faddr 0 (.s 4)⟩, ⟨1, (some 168), none, .faddr 1 (.s 167)⟩, ⟨2, (some 169), none, .load false 1 (.s 168)⟩, ⟨3, (some 170), none, .mv (.s 24)⟩, ⟨4, (some 171), none, .iaddr 5 (.s 169) (.s 170)⟩, ⟨5, (some 172), none, .faddr 0 (.s 171)⟩, ⟨6, (some 173), none, .load false 1 (.s 172)⟩, ⟨7, (some 174), none, .call ⟨true⟩ (.k (.c (.fn 46 [] []))) [(.s 173)]⟩, ⟨8, (some 166), none, .mv (.s 174)⟩, ⟨9, (some 175), none, .extract 166 0⟩, ⟨10, (some 176), none, .extract 166 1⟩, ⟨11, (some 177), none, .extract 166 2⟩, ⟨12, (some 26), none, .mv (.s 175)⟩, ⟨13, (some 27), none, .mv (.s 176)⟩, ⟨14, (some 28), none, .mv (.s 177)⟩] [] (some [12, 24, 26, 147, 146, 8, 10, 13, 5, 145, 11, 4]))
  (.region 1 [⟨0, (some 178), none, .mv (.s 12)⟩, ⟨1, (some 179), none, .mv (.s 24)⟩, ⟨2, (some 180), none, .mv (.s 26)⟩, ⟨3, (some 181), none, .build [(.int .i64 0), (.int .i64 0), (.int .i64 0), (.int .i64 0), (.int .i64 0), (.int .i64 0)] [(0, 1, (.s 179)), (4, 1, (.s 180))]⟩, ⟨4, (some 182), none, .lit 0 6 [[(.int .i64 0), (.int .i64 0), (.int .i64 0), (.int .i64 0), (.int .i64 0), (.int .i64 0)]] [(0, (.s 181))]⟩, ⟨5, (some 183), none, .append 6 48 (.s 178) (.s 182)⟩, ⟨6, (some 12), none, .mv (.s 183)⟩] [] (some [147, 12, 146, 8, 10, 13, 5, 145, 11, 4])))
  .skip))))
  (.region 0 [⟨0, (some 184), none, .bin .add (.s 147) (.k (.c (.int .i64 1)))⟩, ⟨1, (some 147), none, .mv (.s 184)⟩] [] (some [12, 147, 146, 8, 10, 13, 5, 145, 11, 4])))))
abbrev f_motion_Course_Step : Nat := 49
def c_motion_Course_Step : CFn := { frz := true, rnd := none, nargs := 4, ntmps := 199, res := [(.cell 8 true 6), (.slot 9)], code :=
  (.seq (.region 4 [⟨0, (some 4), none, .box 0 11 (.s 0)⟩, ⟨1, (some 5), none, .box 1 6 (.s 1)⟩, ⟨2, (some 8), none, .box 2 6 (.k (.a [(.int .i64 0), .nilslice, (.int .i64 0), (.int .i64 0), (.int .i64 0), (.int .i64 0)]))⟩, ⟨3, (some 9), none, .newsl 3 4⟩] [] (some [2, 8, 3, 4, 5]))
  (.seq (.region 1 [⟨0, (some 29), none, .load true 11 (.s 4)⟩, ⟨1, (some 30), none, .faddr 2 (.s 5)⟩, ⟨2, (some 31), none, .load true 4 (.s 30)⟩, ⟨3, (some 32), none, .mv (.s 2)⟩, ⟨4, (some 33), none, .call ⟨true⟩ (.k (.c (.fn 48 [] []))) [(.s 29), (.s 31), (.s 32)]⟩, ⟨5, (some 10), none, .box 0 4 (.k (.a [(.int .i64 0), (.int .i64 0), (.int .i64 0), (.int .i64 0)]))⟩, ⟨6, none, none, .store 4 (.s 10) (.s 33)⟩] [] (some [10, 8, 3, 4, 5]))
  (.seq (.region 1 [⟨0, (some 34), none, .load true 11 (.s 4)⟩, ⟨1, (some 35), none, .faddr 1 (.s 10)⟩, ⟨2, (some 36), none, .load false 1 (.s 35)⟩, ⟨3, (some 37), none, .faddr 8 (.s 4)⟩, ⟨4, (some 38), none, .load false 1 (.s 37)⟩, ⟨5, (some 39), none, .bin .sub (.s 36) (.s 38)⟩, ⟨6, (some 40), none, .bin .sub (.s 39) (.k (.c (.int .i64 1)))⟩, ⟨7, (some 41), none, .load true 4 (.s 10)⟩, ⟨8, (some 42), none, .build [(.int .i64 0), .nilslice, .nilslice, .nilslice, .nilslice, .nilslice, .nilslice, (.int .i64 0), (.int .i64 0), .nilslice, .nilslice, (.int .i64 0), (.int .i64 0), (.int .i64 0), (.int .i64 0), (.int .i64 0)] [(0, 11, (.s 34)), (11, 1, (.s 40)), (12, 4, (.s 41))]⟩, ⟨9, (some 11), none, .box 0 16 (.k (.a [(.int .i64 0), .nilslice, .nilslice, .nilslice, .nilslice, .nilslice, .nilslice, (.int .i64 0), (.int .i64 0), .nilslice, .nilslice, (.int .i64 0), (.int .i64 0), (.int .i64 0), (.int .i64 0), (.int .i64 0)]))⟩, ⟨10, none, none, .store 16 (.s 11) (.s 42)⟩] [] (some [10, 8, 3, 11, 4, 5]))
  (.seq (.region 1 [⟨0, (some 12), none, .newsl 0 6⟩] [] (some [10, 8, 3, 11, 12, 4, 5]))
  (.seq (.region 1 [⟨0, (some 13), none, .newsl 0 4⟩] [] (some [10, 8, 3, 11, 13, 12, 4, 5]))
  (.seq (.seq (.region 0 [⟨0, (some 43), none, .load true 11 (.s 4)⟩, ⟨1, (some 44), none, .faddr 1 (.s 5)⟩, ⟨2, (some 45), none, .load false 1 (.s 44)⟩, ⟨3, (some 46), none, .faddr 2 (.s 5)⟩, ⟨4, (some 47), none, .load true 4 (.s 46)⟩, ⟨5, (some 48), none, .call ⟨true⟩ (.k (.c (.fn 44 [] []))) [(.s 43), (.s 45), (.s 47)]⟩, ⟨6, (some 49), none, .len (.s 48)⟩, ⟨7, (some 50), none, .mv (.k (.c (.int .i64 0)))⟩] [] (some [50, 49, 10, 8, 48, 3, 11, 13, 12, 4, 5]))
  (.block 0 (.loop (some [50, 49, 10, 8, 48, 3, 11, 13, 12, 4, 5]) c_motion_Course_Step_l3)))
  (.seq (.seq (.region 0 [⟨0, (some 144), none, .faddr 10 (.s 4)⟩, ⟨1, (some 145), none, .load false 1 (.s 144)⟩, ⟨2, (some 146), none, .len (.s 145)⟩, ⟨3, (some 147), none, .mv (.k (.c (.int .i64 0)))⟩] [] (some [12, 147, 146, 8, 10, 13, 5, 145, 11, 4]))
  (.block 6 (.loop (some [12, 147, 146, 8, 10, 13, 5, 145, 11, 4]) c_motion_Course_Step_l4)))
  (.seq (.region 0 [⟨0, (some 185), none, .mv (.s 13)⟩, ⟨1, (some 186), none, .call ⟨false⟩ (.k (.c (.fn 101 [] []))) [(.s 185), (.k (.c (.fn 102 [] [])))]⟩] [] (some [5, 12, 13, 4, 10, 8]))
  (.seq (.region 0 [⟨0, (some 187), none, .faddr 0 (.s 5)⟩, ⟨5, (some 192), none, .mv (.s 12)⟩, ⟨10, (some 197), none, .mv (.s 13)⟩, ⟨1, (some 188), none, .load false 1 (.s 187)⟩, ⟨2, (some 189), none, .bin .add (.s 188) (.k (.c (.int .i64 1)))⟩, ⟨3, (some 190), none, .load true 4 (.s 10)⟩, ⟨4, (some 191), none, .load true 11 (.s 4)⟩, ⟨7, (some 194), none, .load true 4 (.s 10)⟩, ⟨6, (some 193), none, .call ⟨true⟩ (.k (.c (.fn 103 [] []))) [(.s 192)]⟩, ⟨8, (some 195), none, .call ⟨true⟩ (.k (.c (.fn 44 [] []))) [(.s 191), (.s 193), (.s 194)]⟩, ⟨9, (some 196), none, .build [(.int .i64 0), .nilslice, (.int .i64 0), (.int .i64 0), (.int .i64 0), (.int .i64 0)] [(0, 1, (.s 189)), (2, 4, (.s 190)), (1, 1, (.s 195))]⟩, ⟨11, (some 198), none, .call ⟨false⟩ (.k (.c (.fn 104 [] []))) [(.s 197)]⟩, ⟨12, none, none, .store 6 (.s 8) (.s 196)⟩, ⟨13, (some 9), none, .mv (.s 198)⟩] [(3, 8), (3, 9), (3, 11), (5, 8), (5, 9), (5, 11), (6, 8), (7, 8)] (some [8, 9]))
  .ret))))))))) }
def c_track_counted_l1 : CC := (.seq (.region 0 [⟨0, (some 13), none, .bin .lss (.s 12) (.s 11)⟩] [] (some [13, 3, 12, 11, 10]))
  (.seq (.cond (.s 13) .skip
  (.exit 0))
  (.seq (.block 1 (.seq (.region 1 [⟨0, (some 14), none, .iaddr 3 (.s 10) (.s 12)⟩, ⟨1, (some 15), none, .load true 3 (.s 14)⟩, ⟨2, (some 5), none, .box 0 3 (.k (.a [(.int .i64 0), (.int .i64 0), (.int .i64 0)]))⟩, ⟨3, none, none, .store 3 (.s 5) (.s 15)⟩] [] (some [3, 5, 12, 11, 10]))
  (.seq (.region 0 [⟨0, (some 16), none, .faddr 2 (.s 5)⟩, ⟨1, (some 17), none, .load false 1 (.s 16)⟩, ⟨2, (some 18), none, .call ⟨true⟩ (.k (.c (.fn 82 [] []))) [(.s 17), (.k (.c (.int .i64 (-5)))), (.k (.c (.int .i64 2005)))]⟩] [] (some [18, 3, 5, 12, 11, 10]))
  (.cond (.s 18) (.region 1 [⟨0, (some 19), none, .mv (.s 3)⟩, ⟨1, (some 20), none, .load true 3 (.s 5)⟩, ⟨2, (some 21), none, .lit 0 3 [[(.int .i64 0), (.int .i64 0), (.int .i64 0)]] [(0, (.s 20))]⟩, ⟨3, (some 22), none, .append 3 24 (.s 19) (.s 21)⟩, ⟨4, (some 3), none, .mv (.s 22)⟩] [] (some [12, 3, 11, 10]))
  .skip))))
  (.region 0 [⟨0, (some 23), none, .bin .add (.s 12) (.k (.c (.int .i64 1)))⟩, ⟨1, (some 12), none, .mv (.s 23)⟩] [] (some [3, 12, 11, 10])))))
abbrev f_track_counted : Nat := 50
def c_track_counted : CFn := { frz := true, rnd := none, nargs := 1, ntmps := 25, res := [(.slot 2)], code :=
  (.seq (.region 1 [⟨0, (some 2), none, .newsl 0 3⟩] [] (some [0]))
  (.seq (.region 1 [⟨0, (some 3), none, .newsl 0 3⟩] [] (some [0, 3]))
  (.seq (.seq (.region 0 [⟨0, (some 6), none, .mv (.s 0)⟩, ⟨1, (some 7), none, .mv (.s 0)⟩, ⟨2, (some 8), none, .len (.s 7)⟩, ⟨3, (some 9), none, .minmax false [(.s 8), (.k (.c (.int .i64 1000)))]⟩, ⟨4, (some 10), none, .slice 3 (.s 6) none (some (.s 9)) none⟩, ⟨5, (some 11), none, .len (.s 10)⟩, ⟨6, (some 12), none, .mv (.k (.c (.int .i64 0)))⟩] [] (some [3, 12, 11, 10]))
  (.block 0 (.loop (some [3, 12, 11, 10]) c_track_counted_l1)))
  (.seq (.region 0 [⟨0, (some 24), none, .mv (.s 3)⟩, ⟨1, (some 2), none, .mv (.s 24)⟩] [] (some [2]))
  .ret)))) }
def c_track_feet_l1 : CC := (.seq (.region 0 [⟨0, (some 24), none, .bin .lss (.s 23) (.s 22)⟩] [] (some [24, 7, 23, 22, 21, 1, 5, 3]))
  (.seq (.cond (.s 24) .skip
  (.exit 0))
  (.seq (.block 1 (.seq (.region 0 [⟨0, (some 25), none, .iaddr 1 (.s 21) (.s 23)⟩, ⟨1, (some 26), none, .load false 1 (.s 25)⟩, ⟨2, (some 9), none, .mv (.s 26)⟩] [] (some [7, 9, 23, 22, 21, 1, 5, 3]))
  (.region 1 [⟨0, (some 27), none, .mv (.s 7)⟩, ⟨1, (some 28), none, .mv (.s 1)⟩, ⟨2, (some 29), none, .mv (.s 9)⟩, ⟨3, (some 30), none, .bin .sub (.s 29) (.k (.c (.int .i64 100)))⟩, ⟨5, (some 32), none, .mv (.s 9)⟩, ⟨6, (some 33), none, .bin .add (.s 32) (.k (.c (.int .i64 100)))⟩, ⟨8, (some 35), none, .mv (.s 1)⟩, ⟨11, (some 38), none, .faddr 2 (.s 5)⟩, ⟨15, (some 42), none, .faddr 2 (.s 5)⟩, ⟨7, (some 34), none, .load true 5 (.s 3)⟩, ⟨12, (some 39), none, .load false 1 (.s 38)⟩, ⟨13, (some 40), none, .bin .sub (.s 39) (.k (.c (.int .i64 5)))⟩, ⟨16, (some 43), none, .load false 1 (.s 42)⟩, ⟨17, (some 44), none, .bin .add (.s 43) (.k (.c (.int .i64 5)))⟩, ⟨4, (some 31), none, .minmax true [(.k (.c (.int .i64 0))), (.s 30)]⟩, ⟨9, (some 36), none, .call ⟨true⟩ (.k (.c (.fn 47 [] []))) [(.s 34), (.s 35)]⟩, ⟨10, (some 37), none, .minmax false [(.s 33), (.s 36)]⟩, ⟨14, (some 41), none, .minmax true [(.k (.c (.int .i64 0))), (.s 40)]⟩, ⟨18, (some 45), none, .build [(.int .i64 0), (.int .i64 0), (.int .i64 0), (.int .i64 0), (.int .i64 0)] [(0, 1, (.s 28)), (1, 1, (.s 31)), (2, 1, (.s 37)), (3, 1, (.s 41)), (4, 1, (.s 44))]⟩, ⟨19, (some 46), none, .lit 0 5 [[(.int .i64 0), (.int .i64 0), (.int .i64 0), (.int .i64 0), (.int .i64 0)]] [(0, (.s 45))]⟩, ⟨20, (some 47), none, .append 5 40 (.s 27) (.s 46)⟩, ⟨21, (some 7), none, .mv (.s 47)⟩] [(10, 15), (12, 15)] (some [23, 7, 22, 21, 1, 5, 3]))))
  (.region 0 [⟨0, (some 48), none, .bin .add (.s 23) (.k (.c (.int .i64 1)))⟩, ⟨1, (some 23), none, .mv (.s 48)⟩] [] (some [7, 23, 22, 21, 1, 5, 3])))))
abbrev f_track_feet : Nat := 51
def c_track_feet : CFn := { frz := true, rnd := none, nargs := 3, ntmps := 50, res := [(.slot 6)], code :=
  (.seq (.region 3 [⟨0, (some 3), none, .box 0 5 (.s 0)⟩, ⟨1, (some 5), none, .box 1 3 (.s 2)⟩, ⟨2, (some 6), none, .newsl 2 5⟩] [] (some [1, 5, 3]))
  (.seq (.region 1 [⟨0, (some 7), none, .newsl 0 5⟩] [] (some [7, 1, 5, 3]))
  (.seq (.seq (.region 0 [⟨0, (some 10), none, .faddr 1 (.s 3)⟩, ⟨2, (some 12), none, .mv (.s 1)⟩, ⟨6, (some 16), none, .faddr 0 (.s 5)⟩, ⟨8, (some 18), none, .faddr 1 (.s 5)⟩, ⟨13, (some 23), none, .mv (.k (.c (.int .i64 0)))⟩, ⟨1, (some 11), none, .load false 1 (.s 10)⟩, ⟨3, (some 13), none, .iaddr 5 (.s 11) (.s 12)⟩, ⟨4, (some 14), none, .faddr 1 (.s 13)⟩, ⟨5, (some 15), none, .load true 1 (.s 14)⟩, ⟨7, (some 17), none, .load false 1 (.s 16)⟩, ⟨9, (some 19), none, .load false 1 (.s 18)⟩, ⟨10, (some 20), none, .build [(.int .i64 0), (.int .i64 0)] [(0, 1, (.s 17)), (1, 1, (.s 19))]⟩, ⟨11, (some 21), none, .call ⟨true⟩ (.k (.c (.fn 105 [] []))) [(.s 15), (.s 20), (.k (.c (.int .i64 100)))]⟩, ⟨12, (some 22), none, .len (.s 21)⟩] [] (some [7, 23, 22, 21, 1, 5, 3]))
  (.block 0 (.loop (some [7, 23, 22, 21, 1, 5, 3]) c_track_feet_l1)))
  (.seq (.region 0 [⟨0, (some 49), none, .mv (.s 7)⟩, ⟨1, (some 6), none, .mv (.s 49)⟩] [] (some [6]))
  .ret)))) }
abbrev f_slices_SortFunc_Found : Nat := 52
def c_slices_SortFunc_Found : CFn := { frz := true, rnd := none, nargs := 2, ntmps := 14, res := [], code :=
  (.seq (.region 0 [⟨0, (some 5), none, .mv (.s 0)⟩, ⟨1, (some 6), none, .len (.s 5)⟩, ⟨2, (some 4), none, .mv (.s 6)⟩] [] (some [0, 4, 1]))
  (.region 0 [⟨0, (some 7), none, .mv (.s 0)⟩, ⟨1, (some 8), none, .mv (.s 4)⟩, ⟨2, (some 9), none, .mv (.s 4)⟩, ⟨3, (some 10), none, .conv .u64 (.s 9)⟩, ⟨4, (some 11), none, .call ⟨true⟩ (.k (.c (.fn 107 [] []))) [(.s 10)]⟩, ⟨5, (some 12), none, .mv (.s 1)⟩, ⟨6, (some 13), none, .call ⟨false⟩ (.k (.c (.fn 106 [] []))) [(.s 7), (.k (.c (.int .i64 0))), (.s 8), (.s 11), (.s 12)]⟩] [] (some []))) }
abbrev f_track_Found_1 : Nat := 53
def c_track_Found_1 : CFn := { frz := true, rnd := none, nargs := 2, ntmps := 10, res := [(.slot 4)], code :=
  (.seq (.region 2 [⟨0, (some 2), none, .box 0 5 (.s 0)⟩, ⟨1, (some 3), none, .box 1 5 (.s 1)⟩, ⟨2, (some 4), none, .mv (.k (.c (.int .i64 0)))⟩] [] (some [2, 3]))
  (.seq (.region 0 [⟨0, (some 5), none, .faddr 1 (.s 2)⟩, ⟨1, (some 6), none, .load false 1 (.s 5)⟩, ⟨2, (some 7), none, .faddr 1 (.s 3)⟩, ⟨3, (some 8), none, .load false 1 (.s 7)⟩, ⟨4, (some 9), none, .call ⟨true⟩ (.k (.c (.fn 54 [] []))) [(.s 6), (.s 8)]⟩, ⟨5, (some 4), none, .mv (.s 9)⟩] [] (some [4]))
  .ret)) }
abbrev f_cmp_Compare_int64 : Nat := 54
def c_cmp_Compare_int64 : CFn := { frz := true, rnd := none, nargs := 2, ntmps := 20, res := [(.slot 4)], code :=
  (.seq (.region 0 [⟨0, (some 4), none, .mv (.k (.c (.int .i64 0)))⟩] [] (some [1, 0]))
  (.seq (.region 0 [⟨0, (some 7), none, .mv (.s 0)⟩, ⟨1, (some 8), none, .call ⟨true⟩ (.k (.c (.fn 108 [] []))) [(.s 7)]⟩, ⟨2, (some 5), none, .mv (.s 8)⟩] [] (some [5, 1, 0]))
  (.seq (.region 0 [⟨0, (some 9), none, .mv (.s 1)⟩, ⟨1, (some 10), none, .call ⟨true⟩ (.k (.c (.fn 108 [] []))) [(.s 9)]⟩, ⟨2, (some 6), none, .mv (.s 10)⟩] [] (some [5, 1, 0, 6]))
  (.seq (.seq (.region 0 [⟨0, (some 11), none, .mv (.s 5)⟩] [] (some [11, 1, 0, 6]))
  (.cond (.s 11) (.seq (.seq (.region 0 [⟨0, (some 12), none, .mv (.s 6)⟩] [] (some [12]))
  (.cond (.s 12) (.seq (.region 0 [⟨0, (some 4), none, .mv (.k (.c (.int .i64 0)))⟩] [] (some [4]))
  .ret)
  .skip))
  (.seq (.region 0 [⟨0, (some 4), none, .mv (.k (.c (.int .i64 (-1))))⟩] [] (some [4]))
  .ret))
  .skip))
  (.seq (.seq (.region 0 [⟨0, (some 13), none, .mv (.s 6)⟩] [] (some [13, 0, 1]))
  (.cond (.s 13) (.seq (.region 0 [⟨0, (some 4), none, .mv (.k (.c (.int .i64 1)))⟩] [] (some [4]))
  .ret)
  .skip))
  (.seq (.seq (.region 0 [⟨0, (some 14), none, .mv (.s 0)⟩, ⟨1, (some 15), none, .mv (.s 1)⟩, ⟨2, (some 16), none, .bin .lss (.s 14) (.s 15)⟩] [] (some [16, 1, 0]))
  (.cond (.s 16) (.seq (.region 0 [⟨0, (some 4), none, .mv (.k (.c (.int .i64 (-1))))⟩] [] (some [4]))
  .ret)
  .skip))
  (.seq (.seq (.region 0 [⟨0, (some 17), none, .mv (.s 0)⟩, ⟨1, (some 18), none, .mv (.s 1)⟩, ⟨2, (some 19), none, .bin .gtr (.s 17) (.s 18)⟩] [] (some [19]))
  (.cond (.s 19) (.seq (.region 0 [⟨0, (some 4), none, .mv (.k (.c (.int .i64 1)))⟩] [] (some [4]))
  .ret)
  .skip))
  (.seq (.region 0 [⟨0, (some 4), none, .mv (.k (.c (.int .i64 0)))⟩] [] (some [4]))
  .ret)))))))) }
def c_track_whole_l1 : CC := (.seq (.region 0 [⟨0, (some 14), none, .bin .lss (.s 13) (.s 12)⟩] [] (some [14, 5, 13, 12, 11, 2]))
  (.seq (.cond (.s 14) .skip
  (.exit 0))
  (.seq (.block 1 (.seq (.region 1 [⟨0, (some 15), none, .iaddr 3 (.s 11) (.s 13)⟩, ⟨1, (some 16), none, .load true 3 (.s 15)⟩, ⟨2, (some 7), none, .box 0 3 (.k (.a [(.int .i64 0), (.int .i64 0), (.int .i64 0)]))⟩, ⟨3, none, none, .store 3 (.s 7) (.s 16)⟩] [] (some [5, 7, 13, 12, 11, 2]))
  (.seq (.region 0 [⟨0, (some 17), none, .load true 5 (.s 2)⟩, ⟨1, (some 18), none, .load true 3 (.s 7)⟩, ⟨2, (some 19), none, .call ⟨true⟩ (.k (.c (.fn 56 [] []))) [(.s 17), (.s 18)]⟩] [] (some [19, 5, 7, 13, 12, 11, 2]))
  (.cond (.s 19) (.region 1 [⟨0, (some 20), none, .mv (.s 5)⟩, ⟨1, (some 21), none, .faddr 0 (.s 7)⟩, ⟨2, (some 22), none, .load false 1 (.s 21)⟩, ⟨3, (some 23), none, .faddr 1 (.s 7)⟩, ⟨4, (some 24), none, .load false 1 (.s 23)⟩, ⟨5, (some 25), none, .faddr 2 (.s 7)⟩, ⟨6, (some 26), none, .load false 1 (.s 25)⟩, ⟨7, (some 27), none, .build [(.int .i64 0), (.int .i64 0), (.int .i64 0), (.int .i64 0), (.int .i64 0), (.int .i64 0)] [(0, 1, (.s 22)), (1, 1, (.s 24)), (2, 1, (.s 26))]⟩, ⟨8, (some 28), none, .lit 0 6 [[(.int .i64 0), (.int .i64 0), (.int .i64 0), (.int .i64 0), (.int .i64 0), (.int .i64 0)]] [(0, (.s 27))]⟩, ⟨9, (some 29), none, .append 6 48 (.s 20) (.s 28)⟩, ⟨10, (some 5), none, .mv (.s 29)⟩] [] (some [13, 5, 12, 11, 2]))
  .skip))))
  (.region 0 [⟨0, (some 30), none, .bin .add (.s 13) (.k (.c (.int .i64 1)))⟩, ⟨1, (some 13), none, .mv (.s 30)⟩] [] (some [5, 13, 12, 11, 2])))))
def c_track_whole_l2 : CC := (.seq (.region 0 [⟨0, (some 35), none, .bin .lss (.s 34) (.s 33)⟩] [] (some [35, 8, 34, 33, 32]))
  (.seq (.cond (.s 35) .skip
  (.exit 2))
  (.seq (.block 3 (.seq (.region 1 [⟨0, (some 36), none, .iaddr 6 (.s 32) (.s 34)⟩, ⟨1, (some 37), none, .load true 6 (.s 36)⟩, ⟨2, (some 10), none, .box 0 6 (.k (.a [(.int .i64 0), (.int .i64 0), (.int .i64 0), (.int .i64 0), (.int .i64 0), (.int .i64 0)]))⟩, ⟨3, none, none, .store 6 (.s 10) (.s 37)⟩] [] (some [8, 10, 34, 33, 32]))
  (.region 1 [⟨0, (some 38), none, .mv (.s 8)⟩, ⟨1, (some 39), none, .faddr 0 (.s 10)⟩, ⟨2, (some 40), none, .load false 1 (.s 39)⟩, ⟨3, (some 41), none, .faddr 1 (.s 10)⟩, ⟨4, (some 42), none, .load false 1 (.s 41)⟩, ⟨5, (some 43), none, .faddr 2 (.s 10)⟩, ⟨6, (some 44), none, .load false 1 (.s 43)⟩, ⟨7, (some 45), none, .build [(.int .i64 0), (.int .i64 0), (.int .i64 0)] [(0, 1, (.s 40)), (1, 1, (.s 42)), (2, 1, (.s 44))]⟩, ⟨8, (some 46), none, .lit 0 3 [[(.int .i64 0), (.int .i64 0), (.int .i64 0)]] [(0, (.s 45))]⟩, ⟨9, (some 47), none, .append 3 24 (.s 38) (.s 46)⟩, ⟨10, (some 8), none, .mv (.s 47)⟩] [] (some [34, 8, 33, 32]))))
  (.region 0 [⟨0, (some 48), none, .bin .add (.s 34) (.k (.c (.int .i64 1)))⟩, ⟨1, (some 34), none, .mv (.s 48)⟩] [] (some [8, 34, 33, 32])))))
abbrev f_track_whole : Nat := 55
def c_track_whole : CFn := { frz := true, rnd := none, nargs := 2, ntmps := 50, res := [(.slot 4)], code :=
  (.seq (.region 2 [⟨0, (some 2), none, .box 0 5 (.s 0)⟩, ⟨1, (some 4), none, .newsl 1 3⟩] [] (some [1, 2]))
  (.seq (.region 1 [⟨0, (some 5), none, .newsl 0 6⟩] [] (some [1, 5, 2]))
  (.seq (.seq (.region 0 [⟨0, (some 11), none, .mv (.s 1)⟩, ⟨1, (some 12), none, .len (.s 11)⟩, ⟨2, (some 13), none, .mv (.k (.c (.int .i64 0)))⟩] [] (some [5, 13, 12, 11, 2]))
  (.block 0 (.loop (some [5, 13, 12, 11, 2]) c_track_whole_l1)))
  (.seq (.region 1 [⟨0, (some 8), none, .newsl 0 3⟩] [] (some [5, 8]))
  (.seq (.seq (.region 0 [⟨0, (some 31), none, .mv (.s 5)⟩, ⟨1, (some 32), none, .call ⟨true⟩ (.k (.c (.fn 62 [] []))) [(.s 31)]⟩, ⟨2, (some 33), none, .len (.s 32)⟩, ⟨3, (some 34), none, .mv (.k (.c (.int .i64 0)))⟩] [] (some [8, 34, 33, 32]))
  (.block 2 (.loop (some [8, 34, 33, 32]) c_track_whole_l2)))
  (.seq (.region 0 [⟨0, (some 49), none, .mv (.s 8)⟩, ⟨1, (some 4), none, .mv (.s 49)⟩] [] (some [4]))
  .ret)))))) }
abbrev f_track_on : Nat := 56
def c_track_on : CFn := { frz := true, rnd := none, nargs := 2, ntmps := 37, res := [(.slot 4)], code :=
  (.seq (.region 2 [⟨0, (some 2), none, .box 0 5 (.s 0)⟩, ⟨1, (some 3), none, .box 1 3 (.s 1)⟩, ⟨2, (some 4), none, .mv (.k (.c (.bool false)))⟩] [] (some [3, 2]))
  (.seq (.region 0 [⟨0, (some 5), none, .faddr 0 (.s 3)⟩, ⟨1, (some 6), none, .load false 1 (.s 5)⟩, ⟨2, (some 7), none, .bin .geq (.s 6) (.k (.c (.int .i64 0)))⟩, ⟨3, (some 8), none, .mv (.s 7)⟩, ⟨4, (some 9), (some (8, true)), .faddr 0 (.s 3)⟩, ⟨6, (some 11), (some (8, true)), .faddr 1 (.s 2)⟩, ⟨5, (some 10), (some (8, true)), .load false 1 (.s 9)⟩, ⟨7, (some 12), (some (8, true)), .load false 1 (.s 11)⟩, ⟨8, (some 13), (some (8, true)), .len (.s 12)⟩, ⟨9, (some 14), (some (8, true)), .bin .lss (.s 10) (.s 13)⟩, ⟨10, (some 15), none, .pick (.s 8) (.s 14) (.k (.c (.bool false)))⟩, ⟨11, (some 16), none, .mv (.s 15)⟩, ⟨12, (some 17), (some (16, true)), .faddr 1 (.s 3)⟩, ⟨13, (some 18), (some (16, true)), .load false 1 (.s 17)⟩, ⟨14, (some 19), (some (16, true)), .bin .leq (.k (.c (.int .i64 0))) (.s 18)⟩, ⟨15, (some 20), none, .pick (.s 16) (.s 19) (.k (.c (.bool false)))⟩, ⟨16, (some 21), none, .mv (.s 20)⟩, ⟨17, (some 22), (some (21, true)), .faddr 1 (.s 3)⟩, ⟨19, (some 24), (some (21, true)), .faddr 2 (.s 3)⟩, ⟨18, (some 23), (some (21, true)), .load false 1 (.s 22)⟩, ⟨20, (some 25), (some (21, true)), .load false 1 (.s 24)⟩, ⟨21, (some 26), (some (21, true)), .bin .leq (.s 23) (.s 25)⟩, ⟨22, (some 27), none, .pick (.s 21) (.s 26) (.k (.c (.bool false)))⟩, ⟨23, (some 28), none, .mv (.s 27)⟩, ⟨24, (some 29), (some (28, true)), .faddr 2 (.s 3)⟩, ⟨27, (some 32), (some (28, true)), .faddr 0 (.s 3)⟩, ⟨25, (some 30), (some (28, true)), .load false 1 (.s 29)⟩, ⟨26, (some 31), (some (28, true)), .load true 5 (.s 2)⟩, ⟨28, (some 33), (some (28, true)), .load false 1 (.s 32)⟩, ⟨29, (some 34), (some (28, true)), .call ⟨true⟩ (.k (.c (.fn 47 [] []))) [(.s 31), (.s 33)]⟩, ⟨30, (some 35), (some (28, true)), .bin .leq (.s 30) (.s 34)⟩, ⟨31, (some 36), none, .pick (.s 28) (.s 35) (.k (.c (.bool false)))⟩, ⟨32, (some 4), none, .mv (.s 36)⟩] [(26, 29)] (some [4]))
  .ret)) }
def c_motion_Cut_Span_l1 : CC := (.seq (.region 0 [⟨0, (some 22), none, .bin .lss (.s 21) (.s 20)⟩] [] (some [22, 5, 21, 20, 19, 3]))
  (.seq (.cond (.s 22) .skip
  (.exit 0))
  (.seq (.block 1 (.seq (.region 1 [⟨0, (some 23), none, .iaddr 3 (.s 19) (.s 21)⟩, ⟨1, (some 24), none, .load true 3 (.s 23)⟩, ⟨2, (some 7), none, .box 0 3 (.k (.a [(.int .i64 0), (.int .i64 0), (.int .i64 0)]))⟩, ⟨3, none, none, .store 3 (.s 7) (.s 24)⟩] [] (some [5, 7, 21, 20, 19, 3]))
  (.seq (.region 2 [⟨0, (some 25), none, .load true 3 (.s 7)⟩, ⟨1, (some 26), none, .load true 3 (.s 7)⟩, ⟨2, (some 8), none, .box 0 3 (.k (.a [(.int .i64 0), (.int .i64 0), (.int .i64 0)]))⟩, ⟨3, (some 9), none, .box 1 3 (.k (.a [(.int .i64 0), (.int .i64 0), (.int .i64 0)]))⟩, ⟨4, none, none, .store 3 (.s 8) (.s 25)⟩, ⟨5, none, none, .store 3 (.s 9) (.s 26)⟩] [] (some [9, 8, 5, 7, 21, 20, 19, 3]))
  (.seq (.region 0 [⟨0, (some 28), none, .call ⟨true⟩ (.k (.c (.fn 109 [] []))) [(.s 7)]⟩, ⟨1, (some 27), none, .mv (.s 28)⟩, ⟨2, (some 29), none, .extract 27 0⟩, ⟨3, (some 30), none, .extract 27 1⟩, ⟨4, (some 31), none, .extract 27 2⟩, ⟨5, (some 10), none, .mv (.s 29)⟩, ⟨6, (some 11), none, .mv (.s 30)⟩, ⟨7, (some 12), none, .mv (.s 31)⟩] [] (some [10, 9, 12, 8, 11, 5, 7, 21, 20, 19, 3]))
  (.seq (.seq (.region 0 [⟨0, (some 32), none, .mv (.s 10)⟩, ⟨1, (some 33), none, .faddr 0 (.s 3)⟩, ⟨2, (some 34), none, .load false 1 (.s 33)⟩, ⟨3, (some 35), none, .bin .neq (.s 32) (.s 34)⟩, ⟨4, (some 36), none, .mv (.s 35)⟩, ⟨5, (some 37), (some (36, false)), .faddr 1 (.s 3)⟩, ⟨7, (some 39), (some (36, false)), .faddr 2 (.s 3)⟩, ⟨6, (some 38), (some (36, false)), .load false 1 (.s 37)⟩, ⟨8, (some 40), (some (36, false)), .load false 1 (.s 39)⟩, ⟨9, (some 41), (some (36, false)), .bin .gtr (.s 38) (.s 40)⟩, ⟨10, (some 42), none, .pick (.s 36) (.k (.c (.bool true))) (.s 41)⟩, ⟨11, (some 43), none, .mv (.s 42)⟩, ⟨12, (some 44), (some (43, false)), .faddr 1 (.s 3)⟩, ⟨14, (some 46), (some (43, false)), .mv (.s 12)⟩, ⟨15, (some 47), (some (43, false)), .nilck (.s 46)⟩, ⟨13, (some 45), (some (43, false)), .load false 1 (.s 44)⟩, ⟨16, (some 48), (some (43, false)), .load false 1 (.s 47)⟩, ⟨17, (some 49), (some (43, false)), .bin .gtr (.s 45) (.s 48)⟩, ⟨18, (some 50), none, .pick (.s 43) (.k (.c (.bool true))) (.s 49)⟩, ⟨19, (some 51), none, .mv (.s 50)⟩, ⟨20, (some 52), (some (51, false)), .faddr 2 (.s 3)⟩, ⟨22, (some 54), (some (51, false)), .mv (.s 11)⟩, ⟨23, (some 55), (some (51, false)), .nilck (.s 54)⟩, ⟨21, (some 53), (some (51, false)), .load false 1 (.s 52)⟩, ⟨24, (some 56), (some (51, false)), .load false 1 (.s 55)⟩, ⟨25, (some 57), (some (51, false)), .bin .lss (.s 53) (.s 56)⟩, ⟨26, (some 58), none, .pick (.s 51) (.k (.c (.bool true))) (.s 57)⟩] [] (some [58, 9, 12, 8, 11, 5, 7, 21, 20, 19, 3]))
  (.cond (.s 58) (.seq (.region 1 [⟨0, (some 59), none, .mv (.s 5)⟩, ⟨1, (some 60), none, .load true 3 (.s 7)⟩, ⟨2, (some 61), none, .lit 0 3 [[(.int .i64 0), (.int .i64 0), (.int .i64 0)]] [(0, (.s 60))]⟩, ⟨3, (some 62), none, .append 3 24 (.s 59) (.s 61)⟩, ⟨4, (some 5), none, .mv (.s 62)⟩] [] (some [21, 5, 20, 19, 3]))
  (.exit 1))
  .skip))
  (.seq (.seq (.region 0 [⟨0, (some 63), none, .faddr 1 (.s 3)⟩, ⟨2, (some 65), none, .mv (.s 11)⟩, ⟨3, (some 66), none, .nilck (.s 65)⟩, ⟨1, (some 64), none, .load false 1 (.s 63)⟩, ⟨4, (some 67), none, .load false 1 (.s 66)⟩, ⟨5, (some 68), none, .bin .gtr (.s 64) (.s 67)⟩] [] (some [68, 5, 8, 12, 9, 21, 20, 19, 3]))
  (.cond (.s 68) (.seq (.region 0 [⟨0, (some 70), none, .call ⟨true⟩ (.k (.c (.fn 109 [] []))) [(.s 8)]⟩, ⟨1, (some 69), none, .mv (.s 70)⟩, ⟨2, (some 71), none, .extract 69 0⟩, ⟨3, (some 72), none, .extract 69 1⟩, ⟨4, (some 73), none, .extract 69 2⟩, ⟨5, (some 13), none, .mv (.s 71)⟩, ⟨6, (some 14), none, .mv (.s 72)⟩, ⟨7, (some 15), none, .mv (.s 73)⟩] [] (some [15, 5, 8, 12, 9, 21, 20, 19, 3]))
  (.seq (.region 0 [⟨0, (some 74), none, .mv (.s 15)⟩, ⟨1, (some 75), none, .faddr 1 (.s 3)⟩, ⟨2, (some 76), none, .load false 1 (.s 75)⟩, ⟨3, (some 77), none, .bin .sub (.s 76) (.k (.c (.int .i64 1)))⟩, ⟨4, (some 78), none, .nilck (.s 74)⟩, ⟨5, none, none, .store 1 (.s 78) (.s 77)⟩] [] (some [5, 8, 12, 9, 21, 20, 19, 3]))
  (.region 1 [⟨0, (some 79), none, .mv (.s 5)⟩, ⟨1, (some 80), none, .load true 3 (.s 8)⟩, ⟨2, (some 81), none, .lit 0 3 [[(.int .i64 0), (.int .i64 0), (.int .i64 0)]] [(0, (.s 80))]⟩, ⟨3, (some 82), none, .append 3 24 (.s 79) (.s 81)⟩, ⟨4, (some 5), none, .mv (.s 82)⟩] [] (some [12, 5, 9, 21, 20, 19, 3]))))
  .skip))
  (.seq (.region 0 [⟨0, (some 83), none, .faddr 2 (.s 3)⟩, ⟨2, (some 85), none, .mv (.s 12)⟩, ⟨3, (some 86), none, .nilck (.s 85)⟩, ⟨1, (some 84), none, .load false 1 (.s 83)⟩, ⟨4, (some 87), none, .load false 1 (.s 86)⟩, ⟨5, (some 88), none, .bin .lss (.s 84) (.s 87)⟩] [] (some [88, 5, 9, 21, 20, 19, 3]))
  (.cond (.s 88) (.seq (.region 0 [⟨0, (some 90), none, .call ⟨true⟩ (.k (.c (.fn 109 [] []))) [(.s 9)]⟩, ⟨1, (some 89), none, .mv (.s 90)⟩, ⟨2, (some 91), none, .extract 89 0⟩, ⟨3, (some 92), none, .extract 89 1⟩, ⟨4, (some 93), none, .extract 89 2⟩, ⟨5, (some 16), none, .mv (.s 91)⟩, ⟨6, (some 17), none, .mv (.s 92)⟩, ⟨7, (some 18), none, .mv (.s 93)⟩] [] (some [17, 5, 9, 21, 20, 19, 3]))
  (.seq (.region 0 [⟨0, (some 94), none, .mv (.s 17)⟩, ⟨1, (some 95), none, .faddr 2 (.s 3)⟩, ⟨2, (some 96), none, .load false 1 (.s 95)⟩, ⟨3, (some 97), none, .bin .add (.s 96) (.k (.c (.int .i64 1)))⟩, ⟨4, (some 98), none, .nilck (.s 94)⟩, ⟨5, none, none, .store 1 (.s 98) (.s 97)⟩] [] (some [5, 9, 21, 20, 19, 3]))
  (.region 1 [⟨0, (some 99), none, .mv (.s 5)⟩, ⟨1, (some 100), none, .load true 3 (.s 9)⟩, ⟨2, (some 101), none, .lit 0 3 [[(.int .i64 0), (.int .i64 0), (.int .i64 0)]] [(0, (.s 100))]⟩, ⟨3, (some 102), none, .append 3 24 (.s 99) (.s 101)⟩, ⟨4, (some 5), none, .mv (.s 102)⟩] [] (some [21, 5, 20, 19, 3]))))
  .skip))))))))
  (.region 0 [⟨0, (some 103), none, .bin .add (.s 21) (.k (.c (.int .i64 1)))⟩, ⟨1, (some 21), none, .mv (.s 103)⟩] [] (some [5, 21, 20, 19, 3])))))
abbrev f_motion_Cut_Span : Nat := 57
def c_motion_Cut_Span : CFn := { frz := true, rnd := none, nargs := 2, ntmps := 105, res := [(.slot 4)], code :=
  (.seq (.region 2 [⟨0, (some 3), none, .box 0 3 (.s 1)⟩, ⟨1, (some 4), none, .newsl 1 3⟩] [] (some [0, 3]))
  (.seq (.region 1 [⟨0, (some 5), none, .newsl 0 3⟩] [] (some [0, 5, 3]))
  (.seq (.seq (.region 0 [⟨0, (some 19), none, .mv (.s 0)⟩, ⟨1, (some 20), none, .len (.s 19)⟩, ⟨2, (some 21), none, .mv (.k (.c (.int .i64 0)))⟩] [] (some [5, 21, 20, 19, 3]))
  (.block 0 (.loop (some [5, 21, 20, 19, 3]) c_motion_Cut_Span_l1)))
  (.seq (.region 0 [⟨0, (some 104), none, .mv (.s 5)⟩, ⟨1, (some 4), none, .mv (.s 104)⟩] [] (some [4]))
  .ret)))) }
def c_motion_Cut_Blob_l1 : CC := (.seq (.region 0 [⟨0, (some 22), none, .bin .lss (.s 21) (.s 20)⟩] [] (some [22, 5, 21, 20, 19, 3]))
  (.seq (.cond (.s 22) .skip
  (.exit 0))
  (.seq (.block 1 (.seq (.region 1 [⟨0, (some 23), none, .iaddr 6 (.s 19) (.s 21)⟩, ⟨1, (some 24), none, .load true 6 (.s 23)⟩, ⟨2, (some 7), none, .box 0 6 (.k (.a [(.int .i64 0), (.int .i64 0), (.int .i64 0), (.int .i64 0), (.int .i64 0), (.int .i64 0)]))⟩, ⟨3, none, none, .store 6 (.s 7) (.s 24)⟩] [] (some [5, 7, 21, 20, 19, 3]))
  (.seq (.region 2 [⟨0, (some 25), none, .load true 6 (.s 7)⟩, ⟨1, (some 26), none, .load true 6 (.s 7)⟩, ⟨2, (some 8), none, .box 0 6 (.k (.a [(.int .i64 0), (.int .i64 0), (.int .i64 0), (.int .i64 0), (.int .i64 0), (.int .i64 0)]))⟩, ⟨3, (some 9), none, .box 1 6 (.k (.a [(.int .i64 0), (.int .i64 0), (.int .i64 0), (.int .i64 0), (.int .i64 0), (.int .i64 0)]))⟩, ⟨4, none, none, .store 6 (.s 8) (.s 25)⟩, ⟨5, none, none, .store 6 (.s 9) (.s 26)⟩] [] (some [9, 8, 5, 7, 21, 20, 19, 3]))
  (.seq (.region 0 [⟨0, (some 28), none, .call ⟨true⟩ (.k (.c (.fn 110 [] []))) [(.s 7)]⟩, ⟨1, (some 27), none, .mv (.s 28)⟩, ⟨2, (some 29), none, .extract 27 0⟩, ⟨3, (some 30), none, .extract 27 1⟩, ⟨4, (some 31), none, .extract 27 2⟩, ⟨5, (some 10), none, .mv (.s 29)⟩, ⟨6, (some 11), none, .mv (.s 30)⟩, ⟨7, (some 12), none, .mv (.s 31)⟩] [] (some [10, 9, 12, 8, 11, 5, 7, 21, 20, 19, 3]))
  (.seq (.seq (.region 0 [⟨0, (some 32), none, .mv (.s 10)⟩, ⟨1, (some 33), none, .faddr 0 (.s 3)⟩, ⟨2, (some 34), none, .load false 1 (.s 33)⟩, ⟨3, (some 35), none, .bin .neq (.s 32) (.s 34)⟩, ⟨4, (some 36), none, .mv (.s 35)⟩, ⟨5, (some 37), (some (36, false)), .faddr 1 (.s 3)⟩, ⟨7, (some 39), (some (36, false)), .faddr 2 (.s 3)⟩, ⟨6, (some 38), (some (36, false)), .load false 1 (.s 37)⟩, ⟨8, (some 40), (some (36, false)), .load false 1 (.s 39)⟩, ⟨9, (some 41), (some (36, false)), .bin .gtr (.s 38) (.s 40)⟩, ⟨10, (some 42), none, .pick (.s 36) (.k (.c (.bool true))) (.s 41)⟩, ⟨11, (some 43), none, .mv (.s 42)⟩, ⟨12, (some 44), (some (43, false)), .faddr 1 (.s 3)⟩, ⟨14, (some 46), (some (43, false)), .mv (.s 12)⟩, ⟨15, (some 47), (some (43, false)), .nilck (.s 46)⟩, ⟨13, (some 45), (some (43, false)), .load false 1 (.s 44)⟩, ⟨16, (some 48), (some (43, false)), .load false 1 (.s 47)⟩, ⟨17, (some 49), (some (43, false)), .bin .gtr (.s 45) (.s 48)⟩, ⟨18, (some 50), none, .pick (.s 43) (.k (.c (.bool true))) (.s 49)⟩, ⟨19, (some 51), none, .mv (.s 50)⟩, ⟨20, (some 52), (some (51, false)), .faddr 2 (.s 3)⟩, ⟨22, (some 54), (some (51, false)), .mv (.s 11)⟩, ⟨23, (some 55), (some (51, false)), .nilck (.s 54)⟩, ⟨21, (some 53), (some (51, false)), .load false 1 (.s 52)⟩, ⟨24, (some 56), (some (51, false)), .load false 1 (.s 55)⟩, ⟨25, (some 57), (some (51, false)), .bin .lss (.s 53) (.s 56)⟩, ⟨26, (some 58), none, .pick (.s 51) (.k (.c (.bool true))) (.s 57)⟩] [] (some [58, 9, 12, 8, 11, 5, 7, 21, 20, 19, 3]))
  (.cond (.s 58) (.seq (.region 1 [⟨0, (some 59), none, .mv (.s 5)⟩, ⟨1, (some 60), none, .load true 6 (.s 7)⟩, ⟨2, (some 61), none, .lit 0 6 [[(.int .i64 0), (.int .i64 0), (.int .i64 0), (.int .i64 0), (.int .i64 0), (.int .i64 0)]] [(0, (.s 60))]⟩, ⟨3, (some 62), none, .append 6 48 (.s 59) (.s 61)⟩, ⟨4, (some 5), none, .mv (.s 62)⟩] [] (some [21, 5, 20, 19, 3]))
  (.exit 1))
  .skip))
  (.seq (.seq (.region 0 [⟨0, (some 63), none, .faddr 1 (.s 3)⟩, ⟨2, (some 65), none, .mv (.s 11)⟩, ⟨3, (some 66), none, .nilck (.s 65)⟩, ⟨1, (some 64), none, .load false 1 (.s 63)⟩, ⟨4, (some 67), none, .load false 1 (.s 66)⟩, ⟨5, (some 68), none, .bin .gtr (.s 64) (.s 67)⟩] [] (some [68, 5, 8, 12, 9, 21, 20, 19, 3]))
  (.cond (.s 68) (.seq (.region 0 [⟨0, (some 70), none, .call ⟨true⟩ (.k (.c (.fn 110 [] []))) [(.s 8)]⟩, ⟨1, (some 69), none, .mv (.s 70)⟩, ⟨2, (some 71), none, .extract 69 0⟩, ⟨3, (some 72), none, .extract 69 1⟩, ⟨4, (some 73), none, .extract 69 2⟩, ⟨5, (some 13), none, .mv (.s 71)⟩, ⟨6, (some 14), none, .mv (.s 72)⟩, ⟨7, (some 15), none, .mv (.s 73)⟩] [] (some [15, 5, 8, 12, 9, 21, 20, 19, 3]))
  (.seq (.region 0 [⟨0, (some 74), none, .mv (.s 15)⟩, ⟨1, (some 75), none, .faddr 1 (.s 3)⟩, ⟨2, (some 76), none, .load false 1 (.s 75)⟩, ⟨3, (some 77), none, .bin .sub (.s 76) (.k (.c (.int .i64 1)))⟩, ⟨4, (some 78), none, .nilck (.s 74)⟩, ⟨5, none, none, .store 1 (.s 78) (.s 77)⟩] [] (some [5, 8, 12, 9, 21, 20, 19, 3]))
  (.region 1 [⟨0, (some 79), none, .mv (.s 5)⟩, ⟨1, (some 80), none, .load true 6 (.s 8)⟩, ⟨2, (some 81), none, .lit 0 6 [[(.int .i64 0), (.int .i64 0), (.int .i64 0), (.int .i64 0), (.int .i64 0), (.int .i64 0)]] [(0, (.s 80))]⟩, ⟨3, (some 82), none, .append 6 48 (.s 79) (.s 81)⟩, ⟨4, (some 5), none, .mv (.s 82)⟩] [] (some [12, 5, 9, 21, 20, 19, 3]))))
  .skip))
  (.seq (.region 0 [⟨0, (some 83), none, .faddr 2 (.s 3)⟩, ⟨2, (some 85), none, .mv (.s 12)⟩, ⟨3, (some 86), none, .nilck (.s 85)⟩, ⟨1, (some 84), none, .load false 1 (.s 83)⟩, ⟨4, (some 87), none, .load false 1 (.s 86)⟩, ⟨5, (some 88), none, .bin .lss (.s 84) (.s 87)⟩] [] (some [88, 5, 9, 21, 20, 19, 3]))
  (.cond (.s 88) (.seq (.region 0 [⟨0, (some 90), none, .call ⟨true⟩ (.k (.c (.fn 110 [] []))) [(.s 9)]⟩, ⟨1, (some 89), none, .mv (.s 90)⟩, ⟨2, (some 91), none, .extract 89 0⟩, ⟨3, (some 92), none, .extract 89 1⟩, ⟨4, (some 93), none, .extract 89 2⟩, ⟨5, (some 16), none, .mv (.s 91)⟩, ⟨6, (some 17), none, .mv (.s 92)⟩, ⟨7, (some 18), none, .mv (.s 93)⟩] [] (some [17, 5, 9, 21, 20, 19, 3]))
  (.seq (.region 0 [⟨0, (some 94), none, .mv (.s 17)⟩, ⟨1, (some 95), none, .faddr 2 (.s 3)⟩, ⟨2, (some 96), none, .load false 1 (.s 95)⟩, ⟨3, (some 97), none, .bin .add (.s 96) (.k (.c (.int .i64 1)))⟩, ⟨4, (some 98), none, .nilck (.s 94)⟩, ⟨5, none, none, .store 1 (.s 98) (.s 97)⟩] [] (some [5, 9, 21, 20, 19, 3]))
  (.region 1 [⟨0, (some 99), none, .mv (.s 5)⟩, ⟨1, (some 100), none, .load true 6 (.s 9)⟩, ⟨2, (some 101), none, .lit 0 6 [[(.int .i64 0), (.int .i64 0), (.int .i64 0), (.int .i64 0), (.int .i64 0), (.int .i64 0)]] [(0, (.s 100))]⟩, ⟨3, (some 102), none, .append 6 48 (.s 99) (.s 101)⟩, ⟨4, (some 5), none, .mv (.s 102)⟩] [] (some [21, 5, 20, 19, 3]))))
  .skip))))))))
  (.region 0 [⟨0, (some 103), none, .bin .add (.s 21) (.k (.c (.int .i64 1)))⟩, ⟨1, (some 21), none, .mv (.s 103)⟩] [] (some [5, 21, 20, 19, 3])))))
abbrev f_motion_Cut_Blob : Nat := 58
def c_motion_Cut_Blob : CFn := { frz := true, rnd := none, nargs := 2, ntmps := 105, res := [(.slot 4)], code :=
  (.seq (.region 2 [⟨0, (some 3), none, .box 0 3 (.s 1)⟩, ⟨1, (some 4), none, .newsl 1 6⟩] [] (some [0, 3]))
  (.seq (.region 1 [⟨0, (some 5), none, .newsl 0 6⟩] [] (some [0, 5, 3]))
  (.seq (.seq (.region 0 [⟨0, (some 19), none, .mv (.s 0)⟩, ⟨1, (some 20), none, .len (.s 19)⟩, ⟨2, (some 21), none, .mv (.k (.c (.int .i64 0)))⟩] [] (some [5, 21, 20, 19, 3]))
  (.block 0 (.loop (some [5, 21, 20, 19, 3]) c_motion_Cut_Blob_l1)))
  (.seq (.region 0 [⟨0, (some 104), none, .mv (.s 5)⟩, ⟨1, (some 4), none, .mv (.s 104)⟩] [] (some [4]))
  .ret)))) }
abbrev f_slices_ContainsFunc_Span : Nat := 59
def c_slices_ContainsFunc_Span : CFn := { frz := true, rnd := none, nargs := 2, ntmps := 9, res := [(.slot 4)], code :=
  (.seq (.region 0 [⟨0, (some 4), none, .mv (.k (.c (.bool false)))⟩] [] (some [0, 1]))
  (.seq (.region 0 [⟨0, (some 5), none, .mv (.s 0)⟩, ⟨1, (some 6), none, .mv (.s 1)⟩, ⟨2, (some 7), none, .call ⟨true⟩ (.k (.c (.fn 111 [] []))) [(.s 5), (.s 6)]⟩, ⟨3, (some 8), none, .bin .geq (.s 7) (.k (.c (.int .i64 0)))⟩, ⟨4, (some 4), none, .mv (.s 8)⟩] [] (some [4]))
  .ret)) }
abbrev f_track_Update_1 : Nat := 60
def c_track_Update_1 : CFn := { frz := true, rnd := none, nargs := 2, ntmps := 23, res := [(.slot 3)], code :=
  (.seq (.region 1 [⟨0, (some 2), none, .box 0 3 (.s 0)⟩, ⟨1, (some 3), none, .mv (.k (.c (.bool false)))⟩] [] (some [1, 2]))
  (.seq (.region 0 [⟨0, (some 4), none, .faddr 0 (.s 2)⟩, ⟨1, (some 5), none, .load false 1 (.s 4)⟩, ⟨2, (some 6), none, .faddr 0 (.s 1)⟩, ⟨3, (some 7), none, .load false 1 (.s 6)⟩, ⟨4, (some 8), none, .bin .eql (.s 5) (.s 7)⟩, ⟨5, (some 9), none, .mv (.s 8)⟩, ⟨6, (some 10), (some (9, true)), .faddr 1 (.s 2)⟩, ⟨7, (some 11), (some (9, true)), .load false 1 (.s 10)⟩, ⟨8, (some 12), (some (9, true)), .faddr 1 (.s 1)⟩, ⟨9, (some 13), (some (9, true)), .load false 1 (.s 12)⟩, ⟨10, (some 14), (some (9, true)), .bin .leq (.s 11) (.s 13)⟩, ⟨11, (some 15), none, .pick (.s 9) (.s 14) (.k (.c (.bool false)))⟩, ⟨12, (some 16), none, .mv (.s 15)⟩, ⟨13, (some 17), (some (16, true)), .faddr 2 (.s 1)⟩, ⟨14, (some 18), (some (16, true)), .load false 1 (.s 17)⟩, ⟨15, (some 19), (some (16, true)), .faddr 2 (.s 2)⟩, ⟨16, (some 20), (some (16, true)), .load false 1 (.s 19)⟩, ⟨17, (some 21), (some (16, true)), .bin .leq (.s 18) (.s 20)⟩, ⟨18, (some 22), none, .pick (.s 16) (.s 21) (.k (.c (.bool false)))⟩, ⟨19, (some 3), none, .mv (.s 22)⟩] [] (some [3]))
  .ret)) }
def c_track_narrow_l1 : CC := (.seq (.region 0 [⟨0, (some 14), none, .bin .lss (.s 13) (.s 12)⟩] [] (some [14, 6, 13, 12, 4, 11, 2]))
  (.seq (.cond (.s 14) .skip
  (.exit 0))
  (.seq (.block 1 (.seq (.region 1 [⟨0, (some 15), none, .iaddr 5 (.s 11) (.s 13)⟩, ⟨1, (some 16), none, .load true 5 (.s 15)⟩, ⟨2, (some 8), none, .box 0 5 (.k (.a [(.int .i64 0), (.int .i64 0), (.int .i64 0), (.int .i64 0), (.int .i64 0)]))⟩, ⟨3, none, none, .store 5 (.s 8) (.s 16)⟩] [] (some [6, 8, 13, 12, 4, 11, 2]))
  (.seq (.region 0 [⟨0, (some 17), none, .faddr 0 (.s 8)⟩, ⟨1, (some 18), none, .load false 1 (.s 17)⟩, ⟨2, (some 19), none, .faddr 0 (.s 2)⟩, ⟨3, (some 20), none, .load false 1 (.s 19)⟩, ⟨4, (some 21), none, .bin .eql (.s 18) (.s 20)⟩, ⟨5, (some 22), none, .mv (.s 21)⟩, ⟨6, (some 23), (some (22, true)), .faddr 1 (.s 8)⟩, ⟨7, (some 24), (some (22, true)), .load false 1 (.s 23)⟩, ⟨8, (some 25), (some (22, true)), .faddr 2 (.s 2)⟩, ⟨9, (some 26), (some (22, true)), .load false 1 (.s 25)⟩, ⟨10, (some 27), (some (22, true)), .bin .leq (.s 24) (.s 26)⟩, ⟨11, (some 28), none, .pick (.s 22) (.s 27) (.k (.c (.bool false)))⟩, ⟨12, (some 29), none, .mv (.s 28)⟩, ⟨13, (some 30), (some (29, true)), .faddr 1 (.s 2)⟩, ⟨14, (some 31), (some (29, true)), .load false 1 (.s 30)⟩, ⟨15, (some 32), (some (29, true)), .faddr 2 (.s 8)⟩, ⟨16, (some 33), (some (29, true)), .load false 1 (.s 32)⟩, ⟨17, (some 34), (some (29, true)), .bin .leq (.s 31) (.s 33)⟩, ⟨18, (some 35), none, .pick (.s 29) (.s 34) (.k (.c (.bool false)))⟩] [] (some [35, 6, 8, 13, 12, 4, 11, 2]))
  (.cond (.s 35) (.region 1 [⟨0, (some 36), none, .mv (.s 6)⟩, ⟨1, (some 37), none, .load true 5 (.s 8)⟩, ⟨2, (some 38), none, .lit 0 5 [[(.int .i64 0), (.int .i64 0), (.int .i64 0), (.int .i64 0), (.int .i64 0)]] [(0, (.s 37))]⟩, ⟨3, (some 39), none, .append 5 40 (.s 36) (.s 38)⟩, ⟨4, (some 6), none, .mv (.s 39)⟩] [] (some [13, 6, 12, 4, 11, 2]))
  .skip))))
  (.region 0 [⟨0, (some 40), none, .bin .add (.s 13) (.k (.c (.int .i64 1)))⟩, ⟨1, (some 13), none, .mv (.s 40)⟩] [] (some [6, 13, 12, 4, 11, 2])))))
abbrev f_track_narrow : Nat := 61
def c_track_narrow : CFn := { frz := true, rnd := none, nargs := 2, ntmps := 67, res := [(.cell 4 true 6), (.slot 5)], code :=
  (.seq (.region 2 [⟨0, (some 2), none, .box 0 6 (.s 0)⟩, ⟨1, (some 4), none, .box 1 6 (.k (.a [(.int .i64 0), (.int .i64 0), (.int .i64 0), (.int .i64 0), (.int .i64 0), (.int .i64 0)]))⟩, ⟨2, (some 5), none, .mv (.k (.c (.bool false)))⟩] [] (some [1, 4, 2]))
  (.seq (.region 1 [⟨0, (some 6), none, .newsl 0 5⟩] [] (some [1, 6, 4, 2]))
  (.seq (.seq (.region 0 [⟨0, (some 11), none, .mv (.s 1)⟩, ⟨1, (some 12), none, .len (.s 11)⟩, ⟨2, (some 13), none, .mv (.k (.c (.int .i64 0)))⟩] [] (some [6, 13, 12, 4, 11, 2]))
  (.block 0 (.loop (some [6, 13, 12, 4, 11, 2]) c_track_narrow_l1)))
  (.seq (.seq (.region 0 [⟨0, (some 41), none, .mv (.s 6)⟩, ⟨1, (some 42), none, .len (.s 41)⟩, ⟨2, (some 43), none, .bin .eql (.s 42) (.k (.c (.int .i64 0)))⟩] [] (some [43, 6, 2, 4]))
  (.cond (.s 43) (.seq (.region 0 [⟨0, (some 44), none, .load true 6 (.s 2)⟩, ⟨1, none, none, .store 6 (.s 4) (.s 44)⟩, ⟨2, (some 5), none, .mv (.k (.c (.bool true)))⟩] [] (some [4, 5]))
  .ret)
  .skip))
  (.seq (.region 1 [⟨0, (some 45), none, .mv (.s 6)⟩, ⟨1, (some 46), none, .call ⟨true⟩ (.k (.c (.fn 112 [] []))) [(.s 45), (.k (.c (.fn 113 [] [])))]⟩, ⟨2, (some 9), none, .box 0 5 (.k (.a [(.int .i64 0), (.int .i64 0), (.int .i64 0), (.int .i64 0), (.int .i64 0)]))⟩, ⟨3, none, none, .store 5 (.s 9) (.s 46)⟩] [] (some [6, 9, 2, 4]))
  (.seq (.region 1 [⟨0, (some 47), none, .mv (.s 6)⟩, ⟨1, (some 48), none, .call ⟨true⟩ (.k (.c (.fn 114 [] []))) [(.s 47), (.k (.c (.fn 115 [] [])))]⟩, ⟨2, (some 10), none, .box 0 5 (.k (.a [(.int .i64 0), (.int .i64 0), (.int .i64 0), (.int .i64 0), (.int .i64 0)]))⟩, ⟨3, none, none, .store 5 (.s 10) (.s 48)⟩] [] (some [9, 10, 2, 4]))
  (.seq (.region 0 [⟨0, (some 49), none, .faddr 3 (.s 2)⟩, ⟨2, (some 51), none, .faddr 3 (.s 9)⟩, ⟨5, (some 54), none, .faddr 4 (.s 2)⟩, ⟨7, (some 56), none, .faddr 4 (.s 10)⟩, ⟨1, (some 50), none, .load false 1 (.s 49)⟩, ⟨3, (some 52), none, .load false 1 (.s 51)⟩, ⟨6, (some 55), none, .load false 1 (.s 54)⟩, ⟨8, (some 57), none, .load false 1 (.s 56)⟩, ⟨4, (some 53), none, .minmax true [(.s 50), (.s 52)]⟩, ⟨10, (some 59), none, .faddr 3 (.s 2)⟩, ⟨9, (some 58), none, .minmax false [(.s 55), (.s 57)]⟩, ⟨11, none, none, .store 1 (.s 59) (.s 53)⟩, ⟨12, (some 60), none, .faddr 4 (.s 2)⟩, ⟨13, none, none, .store 1 (.s 60) (.s 58)⟩] [(7, 11)] (some [2, 4]))
  (.seq (.region 0 [⟨1, (some 62), none, .faddr 3 (.s 2)⟩, ⟨3, (some 64), none, .faddr 4 (.s 2)⟩, ⟨0, (some 61), none, .load true 6 (.s 2)⟩, ⟨2, (some 63), none, .load false 1 (.s 62)⟩, ⟨4, (some 65), none, .load false 1 (.s 64)⟩, ⟨5, (some 66), none, .bin .leq (.s 63) (.s 65)⟩, ⟨6, none, none, .store 6 (.s 4) (.s 61)⟩, ⟨7, (some 5), none, .mv (.s 66)⟩] [(3, 6), (4, 6)] (some [4, 5]))
  .ret)))))))) }
abbrev f_track_Join : Nat := 62
def c_track_Join : CFn := { frz := true, rnd := none, nargs := 1, ntmps := 5, res := [(.slot 2)], code :=
  (.seq (.region 1 [⟨0, (some 2), none, .newsl 0 6⟩] [] (some [0]))
  (.seq (.region 0 [⟨0, (some 3), none, .mv (.s 0)⟩, ⟨1, (some 4), none, .call ⟨true⟩ (.k (.c (.fn 103 [] []))) [(.s 3)]⟩, ⟨2, (some 2), none, .mv (.s 4)⟩] [] (some [2]))
  .ret)) }
def c_kerbstonekit_SameBlobs_l1 : CC := (.seq (.seq (.region 0 [⟨0, (some 6), none, .mv (.s 5)⟩, ⟨1, (some 7), none, .mv (.s 0)⟩, ⟨2, (some 8), none, .len (.s 7)⟩, ⟨3, (some 9), none, .bin .lss (.s 6) (.s 8)⟩, ⟨4, (some 10), none, .mv (.s 9)⟩, ⟨5, (some 11), (some (10, true)), .mv (.s 5)⟩, ⟨6, (some 12), (some (10, true)), .mv (.s 1)⟩, ⟨7, (some 13), (some (10, true)), .len (.s 12)⟩, ⟨8, (some 14), (some (10, true)), .bin .lss (.s 11) (.s 13)⟩, ⟨9, (some 15), none, .pick (.s 10) (.s 14) (.k (.c (.bool false)))⟩] [] (some [15, 1, 0, 5]))
  (.cond (.s 15) .skip
  (.exit 0)))
  (.seq (.block 1 (.seq (.region 0 [⟨0, (some 18), none, .mv (.s 0)⟩, ⟨1, (some 19), none, .mv (.s 5)⟩, ⟨2, (some 20), none, .iaddr 6 (.s 18) (.s 19)⟩, ⟨4, (some 22), none, .mv (.s 1)⟩, ⟨5, (some 23), none, .mv (.s 5)⟩, ⟨6, (some 24), none, .iaddr 6 (.s 22) (.s 23)⟩, ⟨3, (some 21), none, .load true 6 (.s 20)⟩, ⟨7, (some 25), none, .load true 6 (.s 24)⟩, ⟨8, (some 26), none, .eqa true [false, false, false, false, false, false] (.s 21) (.s 25)⟩] [] (some [26, 1, 0, 5]))
  (.cond (.s 26) (.seq (.region 0 [⟨0, (some 4), none, .mv (.k (.c (.bool false)))⟩] [] (some [4]))
  .ret)
  .skip)))
  (.region 0 [⟨0, (some 16), none, .mv (.s 5)⟩, ⟨1, (some 17), none, .bin .add (.s 16) (.k (.c (.int .i64 1)))⟩, ⟨2, (some 5), none, .mv (.s 17)⟩] [] (some [0, 1, 5]))))
abbrev f_kerbstonekit_SameBlobs : Nat := 63
def c_kerbstonekit_SameBlobs : CFn := { frz := true, rnd := none, nargs := 2, ntmps := 32, res := [(.slot 4)], code :=
  (.seq (.region 0 [⟨0, (some 4), none, .mv (.k (.c (.bool false)))⟩] [] (some [0, 1]))
  (.seq (.seq (.region 0 [⟨0, (some 5), none, .mv (.k (.c (.int .i64 0)))⟩] [] (some [0, 1, 5]))
  (.block 0 (.loop (some [0, 1, 5]) c_kerbstonekit_SameBlobs_l1)))
  (.seq (.region 0 [⟨0, (some 27), none, .mv (.s 0)⟩, ⟨1, (some 28), none, .len (.s 27)⟩, ⟨2, (some 29), none, .mv (.s 1)⟩, ⟨3, (some 30), none, .len (.s 29)⟩, ⟨4, (some 31), none, .bin .eql (.s 28) (.s 30)⟩, ⟨5, (some 4), none, .mv (.s 31)⟩] [] (some [4]))
  .ret))) }
abbrev f_slices_Clone_Blob : Nat := 81
abbrev f_track_within : Nat := 82
def c_track_within : CFn := { frz := true, rnd := none, nargs := 3, ntmps := 15, res := [(.slot 6)], code :=
  (.seq (.region 0 [⟨0, (some 6), none, .mv (.k (.c (.bool false)))⟩] [] (some [1, 0, 2]))
  (.seq (.region 0 [⟨0, (some 7), none, .mv (.s 1)⟩, ⟨1, (some 8), none, .mv (.s 0)⟩, ⟨2, (some 9), none, .bin .leq (.s 7) (.s 8)⟩, ⟨3, (some 10), none, .mv (.s 9)⟩, ⟨4, (some 11), (some (10, true)), .mv (.s 0)⟩, ⟨5, (some 12), (some (10, true)), .mv (.s 2)⟩, ⟨6, (some 13), (some (10, true)), .bin .leq (.s 11) (.s 12)⟩, ⟨7, (some 14), none, .pick (.s 10) (.s 13) (.k (.c (.bool false)))⟩, ⟨8, (some 6), none, .mv (.s 14)⟩] [] (some [6]))
  .ret)) }
def c_roads_before_l1 : CC := (.seq (.region 0 [⟨0, (some 12), none, .bin .lss (.s 11) (.s 10)⟩] [] (some [12, 5, 11, 10, 9, 1]))
  (.seq (.cond (.s 12) .skip
  (.exit 0))
  (.seq (.block 1 (.seq (.region 1 [⟨0, (some 13), none, .mv (.s 11)⟩, ⟨1, (some 14), none, .iaddr 5 (.s 9) (.s 11)⟩, ⟨2, (some 15), none, .load true 5 (.s 14)⟩, ⟨3, (some 7), none, .box 0 5 (.k (.a [(.int .i64 0), .nilslice, (.int .i64 0), (.int .i64 0), .nilslice]))⟩, ⟨4, (some 6), none, .mv (.s 13)⟩, ⟨5, none, none, .store 5 (.s 7) (.s 15)⟩] [] (some [7, 5, 6, 11, 10, 9, 1]))
  (.seq (.region 0 [⟨0, (some 16), none, .faddr 4 (.s 7)⟩, ⟨1, (some 17), none, .load false 1 (.s 16)⟩, ⟨2, (some 18), none, .mv (.s 1)⟩, ⟨3, (some 19), none, .call ⟨true⟩ (.k (.c (.fn 84 [] []))) [(.s 17), (.s 18)]⟩] [] (some [19, 5, 6, 11, 10, 9, 1]))
  (.cond (.s 19) (.region 1 [⟨0, (some 20), none, .mv (.s 5)⟩, ⟨1, (some 21), none, .mv (.s 6)⟩, ⟨2, (some 22), none, .lit 0 1 [[(.int .i64 0)]] [(0, (.s 21))]⟩, ⟨3, (some 23), none, .append 1 8 (.s 20) (.s 22)⟩, ⟨4, (some 5), none, .mv (.s 23)⟩] [] (some [11, 5, 10, 9, 1]))
  .skip))))
  (.region 0 [⟨0, (some 24), none, .bin .add (.s 11) (.k (.c (.int .i64 1)))⟩, ⟨1, (some 11), none, .mv (.s 24)⟩] [] (some [5, 11, 10, 9, 1])))))
abbrev f_roads_before : Nat := 83
def c_roads_before : CFn := { frz := true, rnd := none, nargs := 2, ntmps := 26, res := [(.slot 4)], code :=
  (.seq (.region 2 [⟨0, (some 2), none, .box 0 5 (.s 0)⟩, ⟨1, (some 4), none, .newsl 1 1⟩] [] (some [2, 1]))
  (.seq (.region 1 [⟨0, (some 5), none, .newsl 0 1⟩] [] (some [2, 5, 1]))
  (.seq (.seq (.region 0 [⟨0, (some 8), none, .faddr 1 (.s 2)⟩, ⟨1, (some 9), none, .load false 1 (.s 8)⟩, ⟨2, (some 10), none, .len (.s 9)⟩, ⟨3, (some 11), none, .mv (.k (.c (.int .i64 0)))⟩] [] (some [5, 11, 10, 9, 1]))
  (.block 0 (.loop (some [5, 11, 10, 9, 1]) c_roads_before_l1)))
  (.seq (.region 0 [⟨0, (some 25), none, .mv (.s 5)⟩, ⟨1, (some 4), none, .mv (.s 25)⟩] [] (some [4]))
  .ret)))) }
abbrev f_slices_Contains_int : Nat := 84
def c_slices_Contains_int : CFn := { frz := true, rnd := none, nargs := 2, ntmps := 9, res := [(.slot 4)], code :=
  (.seq (.region 0 [⟨0, (some 4), none, .mv (.k (.c (.bool false)))⟩] [] (some [0, 1]))
  (.seq (.region 0 [⟨0, (some 5), none, .mv (.s 0)⟩, ⟨1, (some 6), none, .mv (.s 1)⟩, ⟨2, (some 7), none, .call ⟨true⟩ (.k (.c (.fn 99 [] []))) [(.s 5), (.s 6)]⟩, ⟨3, (some 8), none, .bin .geq (.s 7) (.k (.c (.int .i64 0)))⟩, ⟨4, (some 4), none, .mv (.s 8)⟩] [] (some [4]))
  .ret)) }
abbrev f_roads_Starts : Nat := 85
def c_roads_Starts : CFn := { frz := true, rnd := none, nargs := 2, ntmps := 9, res := [(.slot 4)], code :=
  (.seq (.region 2 [⟨0, (some 2), none, .box 0 5 (.s 0)⟩, ⟨1, (some 4), none, .newsl 1 1⟩] [] (some [2, 1]))
  (.seq (.region 0 [⟨0, (some 5), none, .load true 5 (.s 2)⟩, ⟨1, (some 6), none, .mv (.s 1)⟩, ⟨2, (some 7), none, .call ⟨true⟩ (.k (.c (.fn 147 [] []))) [(.s 5), (.s 6)]⟩, ⟨3, (some 8), none, .field false 6 1 (.s 7)⟩, ⟨4, (some 4), none, .mv (.s 8)⟩] [] (some [4]))
  .ret)) }
abbrev f_roads_RouteLength : Nat := 86
def c_roads_RouteLength : CFn := { frz := true, rnd := none, nargs := 2, ntmps := 9, res := [(.slot 4)], code :=
  (.seq (.region 1 [⟨0, (some 2), none, .box 0 5 (.s 0)⟩, ⟨1, (some 4), none, .mv (.k (.c (.int .i64 0)))⟩] [] (some [2, 1]))
  (.seq (.region 0 [⟨0, (some 5), none, .load true 5 (.s 2)⟩, ⟨1, (some 6), none, .mv (.s 1)⟩, ⟨2, (some 7), none, .call ⟨true⟩ (.k (.c (.fn 147 [] []))) [(.s 5), (.s 6)]⟩, ⟨3, (some 8), none, .field false 7 1 (.s 7)⟩, ⟨4, (some 4), none, .mv (.s 8)⟩] [] (some [4]))
  .ret)) }
def c_roads_Sources_l1 : CC := (.seq (.region 0 [⟨0, (some 12), none, .bin .lss (.s 11) (.s 10)⟩] [] (some [12, 3, 11, 10, 1]))
  (.seq (.cond (.s 12) .skip
  (.exit 0))
  (.seq (.block 1 (.seq (.region 0 [⟨0, (some 13), none, .mv (.s 11)⟩, ⟨1, (some 4), none, .mv (.s 13)⟩] [] (some [3, 4, 11, 10, 1]))
  (.seq (.region 0 [⟨0, (some 14), none, .load true 5 (.s 1)⟩, ⟨1, (some 15), none, .mv (.s 4)⟩, ⟨2, (some 16), none, .call ⟨true⟩ (.k (.c (.fn 83 [] []))) [(.s 14), (.s 15)]⟩, ⟨3, (some 17), none, .len (.s 16)⟩, ⟨4, (some 18), none, .bin .eql (.s 17) (.k (.c (.int .i64 0)))⟩] [] (some [18, 3, 4, 11, 10, 1]))
  (.cond (.s 18) (.region 1 [⟨0, (some 19), none, .mv (.s 3)⟩, ⟨1, (some 20), none, .mv (.s 4)⟩, ⟨2, (some 21), none, .lit 0 1 [[(.int .i64 0)]] [(0, (.s 20))]⟩, ⟨3, (some 22), none, .append 1 8 (.s 19) (.s 21)⟩, ⟨4, (some 3), none, .mv (.s 22)⟩] [] (some [11, 3, 10, 1]))
  .skip))))
  (.region 0 [⟨0, (some 23), none, .bin .add (.s 11) (.k (.c (.int .i64 1)))⟩, ⟨1, (some 11), none, .mv (.s 23)⟩] [] (some [3, 11, 10, 1])))))
abbrev f_roads_Sources : Nat := 87
def c_roads_Sources : CFn := { frz := true, rnd := none, nargs := 1, ntmps := 25, res := [(.slot 2)], code :=
  (.seq (.region 2 [⟨0, (some 1), none, .box 0 5 (.s 0)⟩, ⟨1, (some 2), none, .newsl 1 1⟩] [] (some [1]))
  (.seq (.seq (.region 0 [⟨0, (some 5), none, .load true 5 (.s 1)⟩, ⟨1, (some 6), none, .call ⟨true⟩ (.k (.c (.fn 45 [] []))) [(.s 5)]⟩, ⟨2, (some 7), none, .bin .neq (.s 6) (.k (.c (.int .i64 0)))⟩] [] (some [7, 1]))
  (.cond (.s 7) (.seq (.region 1 [⟨0, (some 2), none, .newsl 0 1⟩] [] (some [2]))
  .ret)
  .skip))
  (.seq (.region 1 [⟨0, (some 3), none, .newsl 0 1⟩] [] (some [3, 1]))
  (.seq (.seq (.region 0 [⟨0, (some 8), none, .faddr 1 (.s 1)⟩, ⟨1, (some 9), none, .load false 1 (.s 8)⟩, ⟨2, (some 10), none, .len (.s 9)⟩, ⟨3, (some 11), none, .mv (.k (.c (.int .i64 0)))⟩] [] (some [3, 11, 10, 1]))
  (.block 0 (.loop (some [3, 11, 10, 1]) c_roads_Sources_l1)))
  (.seq (.region 0 [⟨0, (some 24), none, .mv (.s 3)⟩, ⟨1, (some 2), none, .mv (.s 24)⟩] [] (some [2]))
  .ret))))) }
abbrev f_motion_Course_gap : Nat := 88
def c_motion_Course_gap : CFn := { frz := true, rnd := none, nargs := 2, ntmps := 13, res := [(.slot 4)], code :=
  (.seq (.region 2 [⟨0, (some 2), none, .box 0 11 (.s 0)⟩, ⟨1, (some 3), none, .box 1 4 (.s 1)⟩, ⟨2, (some 4), none, .mv (.k (.c (.bool false)))⟩] [] (some [2, 3]))
  (.seq (.region 0 [⟨0, (some 5), none, .faddr 1 (.s 3)⟩, ⟨1, (some 6), none, .load false 1 (.s 5)⟩, ⟨2, (some 7), none, .faddr 8 (.s 2)⟩, ⟨3, (some 8), none, .load false 1 (.s 7)⟩, ⟨4, (some 9), none, .bin .sub (.s 6) (.s 8)⟩, ⟨5, (some 10), none, .faddr 0 (.s 3)⟩, ⟨6, (some 11), none, .load false 1 (.s 10)⟩, ⟨7, (some 12), none, .bin .leq (.s 9) (.s 11)⟩, ⟨8, (some 4), none, .mv (.s 12)⟩] [] (some [4]))
  .ret)) }
abbrev f_roads_check_numbers : Nat := 89
def c_roads_check_numbers : CFn := { frz := true, rnd := none, nargs := 1, ntmps := 42, res := [(.slot 2)], code :=
  (.seq (.region 1 [⟨0, (some 1), none, .box 0 5 (.s 0)⟩, ⟨1, (some 2), none, .mv (.k (.c (.int .i64 0)))⟩] [] (some [1]))
  (.seq (.block 0 (.seq (.region 0 [⟨0, (some 4), none, .faddr 0 (.s 1)⟩, ⟨1, (some 5), none, .faddr 0 (.s 4)⟩, ⟨2, (some 6), none, .load false 1 (.s 5)⟩, ⟨3, (some 7), none, .call ⟨true⟩ (.k (.c (.fn 148 [] []))) [(.s 6), (.k (.c (.int .i64 0))), (.k (.c (.int .i64 1099511627776)))]⟩, ⟨4, (some 8), none, .un .not (.s 7)⟩, ⟨5, (some 3), none, .mv (.s 8)⟩] [] (some [3, 1]))
  (.cond (.s 3) (.seq (.region 0 [⟨0, (some 2), none, .mv (.k (.c (.int .i64 2)))⟩] [] (some [2]))
  .ret)
  (.seq (.region 0 [⟨0, (some 10), none, .faddr 0 (.s 1)⟩, ⟨1, (some 11), none, .faddr 1 (.s 10)⟩, ⟨2, (some 12), none, .load false 1 (.s 11)⟩, ⟨3, (some 13), none, .len (.s 12)⟩, ⟨4, (some 14), none, .bin .eql (.s 13) (.k (.c (.int .i64 0)))⟩, ⟨5, (some 9), none, .mv (.s 14)⟩] [] (some [9, 1]))
  (.cond (.s 9) (.seq (.region 0 [⟨0, (some 2), none, .mv (.k (.c (.int .i64 6)))⟩] [] (some [2]))
  .ret)
  (.seq (.region 0 [⟨0, (some 16), none, .faddr 0 (.s 1)⟩, ⟨1, (some 17), none, .faddr 1 (.s 16)⟩, ⟨2, (some 18), none, .load false 1 (.s 17)⟩, ⟨3, (some 19), none, .len (.s 18)⟩, ⟨4, (some 20), none, .bin .gtr (.s 19) (.k (.c (.int .i64 12)))⟩, ⟨5, (some 21), none, .mv (.s 20)⟩, ⟨6, (some 22), (some (21, false)), .faddr 0 (.s 1)⟩, ⟨7, (some 23), (some (21, false)), .faddr 2 (.s 22)⟩, ⟨8, (some 24), (some (21, false)), .load false 1 (.s 23)⟩, ⟨9, (some 25), (some (21, false)), .len (.s 24)⟩, ⟨10, (some 26), (some (21, false)), .bin .gtr (.s 25) (.k (.c (.int .i64 12)))⟩, ⟨11, (some 27), none, .pick (.s 21) (.k (.c (.bool true))) (.s 26)⟩, ⟨12, (some 28), none, .mv (.s 27)⟩, ⟨13, (some 29), (some (28, false)), .faddr 0 (.s 1)⟩, ⟨14, (some 30), (some (28, false)), .faddr 3 (.s 29)⟩, ⟨15, (some 31), (some (28, false)), .load false 1 (.s 30)⟩, ⟨16, (some 32), (some (28, false)), .len (.s 31)⟩, ⟨17, (some 33), (some (28, false)), .bin .gtr (.s 32) (.k (.c (.int .i64 4)))⟩, ⟨18, (some 34), none, .pick (.s 28) (.k (.c (.bool true))) (.s 33)⟩, ⟨19, (some 35), none, .mv (.s 34)⟩, ⟨20, (some 36), (some (35, false)), .faddr 0 (.s 1)⟩, ⟨21, (some 37), (some (35, false)), .faddr 4 (.s 36)⟩, ⟨22, (some 38), (some (35, false)), .load false 1 (.s 37)⟩, ⟨23, (some 39), (some (35, false)), .len (.s 38)⟩, ⟨24, (some 40), (some (35, false)), .bin .gtr (.s 39) (.k (.c (.int .i64 8)))⟩, ⟨25, (some 41), none, .pick (.s 35) (.k (.c (.bool true))) (.s 40)⟩, ⟨26, (some 15), none, .mv (.s 41)⟩] [] (some [15]))
  (.cond (.s 15) (.seq (.region 0 [⟨0, (some 2), none, .mv (.k (.c (.int .i64 8)))⟩] [] (some [2]))
  .ret)
  .skip)))))))
  (.seq (.region 0 [⟨0, (some 2), none, .mv (.k (.c (.int .i64 0)))⟩] [] (some [2]))
  .ret))) }
def c_roads_check_lanes_l1 : CC := (.seq (.region 0 [⟨0, (some 14), none, .bin .lss (.s 13) (.s 12)⟩] [] (some [14, 1, 11, 12, 13]))
  (.seq (.cond (.s 14) .skip
  (.exit 0))
  (.seq (.block 1 (.seq (.region 1 [⟨0, (some 15), none, .mv (.s 13)⟩, ⟨1, (some 16), none, .iaddr 5 (.s 11) (.s 13)⟩, ⟨2, (some 17), none, .load true 5 (.s 16)⟩, ⟨3, (some 4), none, .box 0 5 (.k (.a [(.int .i64 0), .nilslice, (.int .i64 0), (.int .i64 0), .nilslice]))⟩, ⟨4, (some 3), none, .mv (.s 15)⟩, ⟨5, none, none, .store 5 (.s 4) (.s 17)⟩] [] (some [4, 3, 1, 11, 12, 13]))
  (.seq (.region 0 [⟨0, (some 19), none, .faddr 0 (.s 4)⟩, ⟨1, (some 20), none, .load false 1 (.s 19)⟩, ⟨2, (some 21), none, .call ⟨true⟩ (.k (.c (.fn 46 [] []))) [(.s 20)]⟩, ⟨3, (some 18), none, .mv (.s 21)⟩, ⟨4, (some 22), none, .extract 18 0⟩, ⟨5, (some 23), none, .extract 18 1⟩, ⟨6, (some 24), none, .extract 18 2⟩, ⟨7, (some 5), none, .mv (.s 22)⟩, ⟨8, (some 6), none, .mv (.s 23)⟩, ⟨9, (some 7), none, .mv (.s 24)⟩] [] (some [5, 4, 3, 1, 11, 12, 13]))
  (.seq (.seq (.region 0 [⟨0, (some 25), none, .mv (.s 5)⟩, ⟨1, (some 26), none, .bin .eql (.s 25) (.k (.c (.int .i64 0)))⟩] [] (some [26, 5, 4, 3, 1, 11, 12, 13]))
  (.cond (.s 26) (.seq (.region 0 [⟨0, (some 2), none, .mv (.k (.c (.int .i64 4)))⟩] [] (some [2]))
  .ret)
  .skip))
  (.seq (.seq (.region 0 [⟨0, (some 27), none, .faddr 1 (.s 4)⟩, ⟨1, (some 28), none, .load true 1 (.s 27)⟩, ⟨2, (some 29), none, .call ⟨true⟩ (.k (.c (.fn 149 [] []))) [(.s 28)]⟩, ⟨3, (some 8), none, .mv (.s 29)⟩] [] (some [13, 12, 11, 1, 3, 4, 5, 8]))
  (.seq (.region 0 [⟨0, (some 30), none, .mv (.s 8)⟩, ⟨1, (some 31), none, .bin .neq (.s 30) (.k (.c (.int .i64 0)))⟩] [] (some [31, 13, 12, 11, 1, 3, 4, 5, 8]))
  (.cond (.s 31) (.seq (.region 0 [⟨0, (some 32), none, .mv (.s 8)⟩, ⟨1, (some 2), none, .mv (.s 32)⟩] [] (some [2]))
  .ret)
  .skip)))
  (.block 2 (.seq (.region 0 [⟨0, (some 34), none, .faddr 2 (.s 4)⟩, ⟨1, (some 35), none, .load false 1 (.s 34)⟩, ⟨2, (some 36), none, .call ⟨true⟩ (.k (.c (.fn 148 [] []))) [(.s 35), (.k (.c (.int .i64 200))), (.k (.c (.int .i64 4000)))]⟩, ⟨3, (some 37), none, .un .not (.s 36)⟩, ⟨4, (some 38), none, .mv (.s 37)⟩, ⟨5, (some 39), (some (38, false)), .faddr 3 (.s 4)⟩, ⟨6, (some 40), (some (38, false)), .load false 1 (.s 39)⟩, ⟨7, (some 41), (some (38, false)), .mv (.s 5)⟩, ⟨8, (some 42), (some (38, false)), .call ⟨true⟩ (.k (.c (.fn 148 [] []))) [(.s 40), (.k (.c (.int .i64 1))), (.s 41)]⟩, ⟨9, (some 43), (some (38, false)), .un .not (.s 42)⟩, ⟨10, (some 44), none, .pick (.s 38) (.k (.c (.bool true))) (.s 43)⟩, ⟨11, (some 33), none, .mv (.s 44)⟩] [] (some [33, 4, 3, 1, 11, 12, 13]))
  (.cond (.s 33) (.seq (.region 0 [⟨0, (some 2), none, .mv (.k (.c (.int .i64 2)))⟩] [] (some [2]))
  .ret)
  (.seq (.region 0 [⟨0, (some 46), none, .faddr 4 (.s 4)⟩, ⟨1, (some 47), none, .load false 1 (.s 46)⟩, ⟨2, (some 48), none, .len (.s 47)⟩, ⟨3, (some 49), none, .bin .gtr (.s 48) (.k (.c (.int .i64 3)))⟩, ⟨4, (some 45), none, .mv (.s 49)⟩] [] (some [45, 13, 12, 11, 1, 3, 4]))
  (.cond (.s 45) (.seq (.region 0 [⟨0, (some 2), none, .mv (.k (.c (.int .i64 8)))⟩] [] (some [2]))
  .ret)
  (.seq (.region 0 [⟨0, (some 51), none, .faddr 4 (.s 4)⟩, ⟨1, (some 52), none, .load false 1 (.s 51)⟩, ⟨2, (some 53), none, .mv (.s 3)⟩, ⟨3, (some 54), none, .bin .add (.s 53) (.k (.c (.int .i64 1)))⟩, ⟨4, (some 55), none, .faddr 0 (.s 1)⟩, ⟨5, (some 56), none, .faddr 1 (.s 55)⟩, ⟨6, (some 57), none, .load false 1 (.s 56)⟩, ⟨7, (some 58), none, .len (.s 57)⟩, ⟨8, (some 59), none, .call ⟨true⟩ (.k (.c (.fn 150 [] []))) [(.s 52), (.s 54), (.s 58)]⟩, ⟨9, (some 60), none, .un .not (.s 59)⟩, ⟨10, (some 50), none, .mv (.s 60)⟩] [] (some [50, 1, 11, 12, 13]))
  (.cond (.s 50) (.seq (.region 0 [⟨0, (some 2), none, .mv (.k (.c (.int .i64 11)))⟩] [] (some [2]))
  .ret)
  .skip))))))))))))
  (.region 0 [⟨0, (some 61), none, .bin .add (.s 13) (.k (.c (.int .i64 1)))⟩, ⟨1, (some 13), none, .mv (.s 61)⟩] [] (some [12, 11, 1, 13])))))
abbrev f_roads_check_lanes : Nat := 90
def c_roads_check_lanes : CFn := { frz := true, rnd := none, nargs := 1, ntmps := 62, res := [(.slot 2)], code :=
  (.seq (.region 1 [⟨0, (some 1), none, .box 0 5 (.s 0)⟩, ⟨1, (some 2), none, .mv (.k (.c (.int .i64 0)))⟩] [] (some [1]))
  (.seq (.seq (.region 0 [⟨0, (some 9), none, .faddr 0 (.s 1)⟩, ⟨1, (some 10), none, .faddr 1 (.s 9)⟩, ⟨2, (some 11), none, .load false 1 (.s 10)⟩, ⟨3, (some 12), none, .len (.s 11)⟩, ⟨4, (some 13), none, .mv (.k (.c (.int .i64 0)))⟩] [] (some [12, 11, 1, 13]))
  (.block 0 (.loop (some [12, 11, 1, 13]) c_roads_check_lanes_l1)))
  (.seq (.region 0 [⟨0, (some 2), none, .mv (.k (.c (.int .i64 0)))⟩] [] (some [2]))
  .ret))) }
def c_roads_check_joints_l1 : CC := (.seq (.region 0 [⟨0, (some 30), none, .bin .lss (.s 29) (.s 28)⟩] [] (some [30, 29, 28, 10, 11, 12, 27, 4, 5, 1]))
  (.seq (.cond (.s 30) .skip
  (.exit 2))
  (.seq (.block 3 (.seq (.region 0 [⟨0, (some 31), none, .iaddr 1 (.s 27) (.s 29)⟩, ⟨1, (some 32), none, .load false 1 (.s 31)⟩, ⟨2, (some 7), none, .mv (.s 32)⟩] [] (some [29, 28, 10, 11, 12, 27, 4, 5, 1, 7]))
  (.seq (.seq (.region 0 [⟨0, (some 33), none, .faddr 0 (.s 1)⟩, ⟨1, (some 34), none, .faddr 1 (.s 33)⟩, ⟨3, (some 36), none, .mv (.s 7)⟩, ⟨7, (some 40), none, .faddr 0 (.s 4)⟩, ⟨2, (some 35), none, .load false 1 (.s 34)⟩, ⟨4, (some 37), none, .iaddr 5 (.s 35) (.s 36)⟩, ⟨5, (some 38), none, .faddr 0 (.s 37)⟩, ⟨6, (some 39), none, .load false 1 (.s 38)⟩, ⟨8, (some 41), none, .load false 1 (.s 40)⟩, ⟨9, (some 42), none, .bin .neq (.s 39) (.s 41)⟩] [] (some [42, 29, 28, 10, 11, 12, 27, 4, 5, 1, 7]))
  (.cond (.s 42) (.seq (.region 0 [⟨0, (some 2), none, .mv (.k (.c (.int .i64 4)))⟩] [] (some [2]))
  .ret)
  .skip))
  (.seq (.region 0 [⟨0, (some 43), none, .faddr 0 (.s 1)⟩, ⟨1, (some 44), none, .faddr 1 (.s 43)⟩, ⟨3, (some 46), none, .mv (.s 7)⟩, ⟨2, (some 45), none, .load false 1 (.s 44)⟩, ⟨4, (some 47), none, .iaddr 5 (.s 45) (.s 46)⟩, ⟨5, (some 48), none, .faddr 1 (.s 47)⟩, ⟨6, (some 49), none, .faddr 0 (.s 48)⟩, ⟨7, (some 50), none, .load false 1 (.s 49)⟩, ⟨8, (some 51), none, .iaddr 2 (.s 50) (.k (.c (.int .i64 0)))⟩, ⟨9, (some 52), none, .load true 2 (.s 51)⟩, ⟨10, (some 53), none, .load true 2 (.s 5)⟩, ⟨11, (some 54), none, .eqa true [false, false] (.s 52) (.s 53)⟩] [] (some [54, 1, 5, 4, 27, 12, 11, 10, 28, 29]))
  (.cond (.s 54) (.seq (.region 0 [⟨0, (some 2), none, .mv (.k (.c (.int .i64 3)))⟩] [] (some [2]))
  .ret)
  .skip)))))
  (.region 0 [⟨0, (some 55), none, .bin .add (.s 29) (.k (.c (.int .i64 1)))⟩, ⟨1, (some 29), none, .mv (.s 55)⟩] [] (some [29, 28, 10, 11, 12, 27, 4, 5, 1])))))
def c_roads_check_joints_l2 : CC := (.seq (.region 0 [⟨0, (some 13), none, .bin .lss (.s 12) (.s 11)⟩] [] (some [13, 10, 11, 12, 1]))
  (.seq (.cond (.s 13) .skip
  (.exit 0))
  (.seq (.block 1 (.seq (.region 1 [⟨0, (some 14), none, .iaddr 5 (.s 10) (.s 12)⟩, ⟨1, (some 15), none, .load true 5 (.s 14)⟩, ⟨2, (some 4), none, .box 0 5 (.k (.a [(.int .i64 0), .nilslice, (.int .i64 0), (.int .i64 0), .nilslice]))⟩, ⟨3, none, none, .store 5 (.s 4) (.s 15)⟩] [] (some [10, 11, 12, 4, 1]))
  (.seq (.region 1 [⟨0, (some 16), none, .faddr 1 (.s 4)⟩, ⟨1, (some 17), none, .faddr 0 (.s 16)⟩, ⟨2, (some 18), none, .load false 1 (.s 17)⟩, ⟨3, (some 19), none, .faddr 1 (.s 4)⟩, ⟨4, (some 20), none, .faddr 0 (.s 19)⟩, ⟨5, (some 21), none, .load false 1 (.s 20)⟩, ⟨6, (some 22), none, .len (.s 21)⟩, ⟨7, (some 23), none, .bin .sub (.s 22) (.k (.c (.int .i64 1)))⟩, ⟨8, (some 24), none, .iaddr 2 (.s 18) (.s 23)⟩, ⟨9, (some 25), none, .load true 2 (.s 24)⟩, ⟨10, (some 5), none, .box 0 2 (.k (.a [(.int .i64 0), (.int .i64 0)]))⟩, ⟨11, none, none, .store 2 (.s 5) (.s 25)⟩] [] (some [10, 11, 12, 4, 5, 1]))
  (.seq (.region 0 [⟨0, (some 26), none, .faddr 4 (.s 4)⟩, ⟨1, (some 27), none, .load false 1 (.s 26)⟩, ⟨2, (some 28), none, .len (.s 27)⟩, ⟨3, (some 29), none, .mv (.k (.c (.int .i64 0)))⟩] [] (some [29, 28, 10, 11, 12, 27, 4, 5, 1]))
  (.block 2 (.loop (some [29, 28, 10, 11, 12, 27, 4, 5, 1]) c_roads_check_joints_l1))))))
  (.region 0 [⟨0, (some 56), none, .bin .add (.s 12) (.k (.c (.int .i64 1)))⟩, ⟨1, (some 12), none, .mv (.s 56)⟩] [] (some [11, 10, 12, 1])))))
abbrev f_roads_check_joints : Nat := 91
def c_roads_check_joints : CFn := { frz := true, rnd := none, nargs := 1, ntmps := 57, res := [(.slot 2)], code :=
  (.seq (.region 1 [⟨0, (some 1), none, .box 0 5 (.s 0)⟩, ⟨1, (some 2), none, .mv (.k (.c (.int .i64 0)))⟩] [] (some [1]))
  (.seq (.seq (.region 0 [⟨0, (some 8), none, .faddr 0 (.s 1)⟩, ⟨1, (some 9), none, .faddr 1 (.s 8)⟩, ⟨2, (some 10), none, .load false 1 (.s 9)⟩, ⟨3, (some 11), none, .len (.s 10)⟩, ⟨4, (some 12), none, .mv (.k (.c (.int .i64 0)))⟩] [] (some [11, 10, 12, 1]))
  (.block 0 (.loop (some [11, 10, 12, 1]) c_roads_check_joints_l2)))
  (.seq (.region 0 [⟨0, (some 2), none, .mv (.k (.c (.int .i64 0)))⟩] [] (some [2]))
  .ret))) }
def c_roads_check_signals_l1 : CC := (.seq (.region 0 [⟨0, (some 11), none, .bin .lss (.s 10) (.s 9)⟩] [] (some [11, 1, 8, 9, 10]))
  (.seq (.cond (.s 11) .skip
  (.exit 0))
  (.seq (.block 1 (.seq (.region 1 [⟨0, (some 12), none, .iaddr 2 (.s 8) (.s 10)⟩, ⟨1, (some 13), none, .load true 2 (.s 12)⟩, ⟨2, (some 4), none, .box 0 2 (.k (.a [(.int .i64 0), .nilslice]))⟩, ⟨3, none, none, .store 2 (.s 4) (.s 13)⟩] [] (some [4, 1, 8, 9, 10]))
  (.seq (.region 0 [⟨0, (some 14), none, .faddr 1 (.s 4)⟩, ⟨1, (some 15), none, .load false 1 (.s 14)⟩, ⟨2, (some 16), none, .len (.s 15)⟩, ⟨3, (some 5), none, .mv (.s 16)⟩] [] (some [4, 1, 8, 9, 10, 5]))
  (.block 2 (.seq (.region 0 [⟨0, (some 18), none, .mv (.s 5)⟩, ⟨1, (some 19), none, .bin .eql (.s 18) (.k (.c (.int .i64 0)))⟩, ⟨2, (some 17), none, .mv (.s 19)⟩] [] (some [17, 4, 1, 8, 9, 10, 5]))
  (.cond (.s 17) (.seq (.region 0 [⟨0, (some 2), none, .mv (.k (.c (.int .i64 6)))⟩] [] (some [2]))
  .ret)
  (.seq (.region 0 [⟨0, (some 21), none, .mv (.s 5)⟩, ⟨1, (some 22), none, .bin .gtr (.s 21) (.k (.c (.int .i64 6)))⟩, ⟨2, (some 20), none, .mv (.s 22)⟩] [] (some [20, 10, 9, 8, 1, 4]))
  (.cond (.s 20) (.seq (.region 0 [⟨0, (some 2), none, .mv (.k (.c (.int .i64 8)))⟩] [] (some [2]))
  .ret)
  (.seq (.region 0 [⟨0, (some 24), none, .faddr 0 (.s 4)⟩, ⟨1, (some 25), none, .load false 1 (.s 24)⟩, ⟨2, (some 26), none, .call ⟨true⟩ (.k (.c (.fn 148 [] []))) [(.s 25), (.k (.c (.int .i64 0))), (.k (.c (.int .i64 1099511627776)))]⟩, ⟨3, (some 27), none, .un .not (.s 26)⟩, ⟨4, (some 23), none, .mv (.s 27)⟩] [] (some [23, 4, 1, 8, 9, 10]))
  (.cond (.s 23) (.seq (.region 0 [⟨0, (some 2), none, .mv (.k (.c (.int .i64 2)))⟩] [] (some [2]))
  .ret)
  (.seq (.region 0 [⟨0, (some 29), none, .faddr 1 (.s 4)⟩, ⟨1, (some 30), none, .load false 1 (.s 29)⟩, ⟨2, (some 31), none, .call ⟨true⟩ (.k (.c (.fn 151 [] []))) [(.s 30), (.k (.c (.fn 152 [] [])))]⟩, ⟨3, (some 28), none, .mv (.s 31)⟩] [] (some [28, 10, 9, 8, 1, 4]))
  (.cond (.s 28) (.seq (.region 0 [⟨0, (some 2), none, .mv (.k (.c (.int .i64 2)))⟩] [] (some [2]))
  .ret)
  (.seq (.region 0 [⟨0, (some 33), none, .faddr 1 (.s 4)⟩, ⟨1, (some 34), none, .load false 1 (.s 33)⟩, ⟨2, (some 35), none, .mkfn 153 [] [(.s 1)]⟩, ⟨3, (some 36), none, .call ⟨true⟩ (.k (.c (.fn 151 [] []))) [(.s 34), (.s 35)]⟩, ⟨4, (some 32), none, .mv (.s 36)⟩] [] (some [32, 1, 8, 9, 10]))
  (.cond (.s 32) (.seq (.region 0 [⟨0, (some 2), none, .mv (.k (.c (.int .i64 11)))⟩] [] (some [2]))
  .ret)
  .skip))))))))))))))
  (.region 0 [⟨0, (some 37), none, .bin .add (.s 10) (.k (.c (.int .i64 1)))⟩, ⟨1, (some 10), none, .mv (.s 37)⟩] [] (some [9, 8, 1, 10])))))
abbrev f_roads_check_signals : Nat := 92
def c_roads_check_signals : CFn := { frz := true, rnd := none, nargs := 1, ntmps := 38, res := [(.slot 2)], code :=
  (.seq (.region 1 [⟨0, (some 1), none, .box 0 5 (.s 0)⟩, ⟨1, (some 2), none, .mv (.k (.c (.int .i64 0)))⟩] [] (some [1]))
  (.seq (.seq (.region 0 [⟨0, (some 6), none, .faddr 0 (.s 1)⟩, ⟨1, (some 7), none, .faddr 3 (.s 6)⟩, ⟨2, (some 8), none, .load false 1 (.s 7)⟩, ⟨3, (some 9), none, .len (.s 8)⟩, ⟨4, (some 10), none, .mv (.k (.c (.int .i64 0)))⟩] [] (some [9, 8, 1, 10]))
  (.block 0 (.loop (some [9, 8, 1, 10]) c_roads_check_signals_l1)))
  (.seq (.region 0 [⟨0, (some 2), none, .mv (.k (.c (.int .i64 0)))⟩] [] (some [2]))
  .ret))) }
def c_roads_check_zones_l1 : CC := (.seq (.region 0 [⟨0, (some 45), none, .bin .lss (.s 44) (.s 43)⟩] [] (some [45, 6, 44, 43, 4, 13, 14, 15, 1, 42]))
  (.seq (.cond (.s 45) .skip
  (.exit 3))
  (.seq (.block 4 (.seq (.region 1 [⟨0, (some 46), none, .iaddr 4 (.s 42) (.s 44)⟩, ⟨1, (some 47), none, .load true 4 (.s 46)⟩, ⟨2, (some 8), none, .box 0 4 (.k (.a [(.int .i64 0), (.int .i64 0), (.int .i64 0), (.int .i64 0)]))⟩, ⟨3, none, none, .store 4 (.s 8) (.s 47)⟩] [] (some [6, 8, 44, 43, 4, 13, 14, 15, 1, 42]))
  (.region 1 [⟨0, (some 48), none, .mv (.s 6)⟩, ⟨1, (some 49), none, .faddr 0 (.s 8)⟩, ⟨2, (some 50), none, .load false 1 (.s 49)⟩, ⟨3, (some 51), none, .lit 0 1 [[(.int .i64 0)]] [(0, (.s 50))]⟩, ⟨4, (some 52), none, .append 1 8 (.s 48) (.s 51)⟩, ⟨5, (some 6), none, .mv (.s 52)⟩] [] (some [44, 6, 43, 4, 13, 14, 15, 1, 42]))))
  (.region 0 [⟨0, (some 53), none, .bin .add (.s 44) (.k (.c (.int .i64 1)))⟩, ⟨1, (some 44), none, .mv (.s 53)⟩] [] (some [6, 44, 43, 4, 13, 14, 15, 1, 42])))))
def c_roads_check_zones_l2 : CC := (.seq (.region 0 [⟨0, (some 65), none, .bin .lss (.s 64) (.s 63)⟩] [] (some [65, 1, 62, 15, 14, 13, 63, 64]))
  (.seq (.cond (.s 65) .skip
  (.exit 5))
  (.seq (.block 6 (.seq (.region 1 [⟨0, (some 66), none, .iaddr 4 (.s 62) (.s 64)⟩, ⟨1, (some 67), none, .load true 4 (.s 66)⟩, ⟨2, (some 10), none, .box 0 4 (.k (.a [(.int .i64 0), (.int .i64 0), (.int .i64 0), (.int .i64 0)]))⟩, ⟨3, none, none, .store 4 (.s 10) (.s 67)⟩] [] (some [10, 1, 62, 15, 14, 13, 63, 64]))
  (.seq (.region 0 [⟨0, (some 68), none, .faddr 1 (.s 10)⟩, ⟨1, (some 69), none, .load false 1 (.s 68)⟩, ⟨2, (some 70), none, .bin .lss (.s 69) (.k (.c (.int .i64 0)))⟩, ⟨3, (some 71), none, .mv (.s 70)⟩, ⟨4, (some 72), (some (71, false)), .faddr 1 (.s 10)⟩, ⟨6, (some 74), (some (71, false)), .faddr 2 (.s 10)⟩, ⟨5, (some 73), (some (71, false)), .load false 1 (.s 72)⟩, ⟨7, (some 75), (some (71, false)), .load false 1 (.s 74)⟩, ⟨8, (some 76), (some (71, false)), .bin .geq (.s 73) (.s 75)⟩, ⟨9, (some 77), none, .pick (.s 71) (.k (.c (.bool true))) (.s 76)⟩, ⟨10, (some 78), none, .mv (.s 77)⟩, ⟨11, (some 79), (some (78, false)), .faddr 2 (.s 10)⟩, ⟨13, (some 81), (some (78, false)), .faddr 0 (.s 1)⟩, ⟨15, (some 83), (some (78, false)), .faddr 0 (.s 10)⟩, ⟨12, (some 80), (some (78, false)), .load false 1 (.s 79)⟩, ⟨14, (some 82), (some (78, false)), .load true 5 (.s 81)⟩, ⟨16, (some 84), (some (78, false)), .load false 1 (.s 83)⟩, ⟨17, (some 85), (some (78, false)), .call ⟨true⟩ (.k (.c (.fn 96 [] []))) [(.s 82), (.s 84)]⟩, ⟨18, (some 86), (some (78, false)), .bin .gtr (.s 80) (.s 85)⟩, ⟨19, (some 87), none, .pick (.s 78) (.k (.c (.bool true))) (.s 86)⟩, ⟨20, (some 88), none, .mv (.s 87)⟩, ⟨21, (some 89), (some (88, false)), .faddr 3 (.s 10)⟩, ⟨22, (some 90), (some (88, false)), .load false 1 (.s 89)⟩, ⟨23, (some 91), (some (88, false)), .bin .lss (.s 90) (.k (.c (.int .i64 0)))⟩, ⟨24, (some 92), none, .pick (.s 88) (.k (.c (.bool true))) (.s 91)⟩, ⟨25, (some 93), none, .mv (.s 92)⟩, ⟨26, (some 94), (some (93, false)), .faddr 3 (.s 10)⟩, ⟨27, (some 95), (some (93, false)), .load false 1 (.s 94)⟩, ⟨28, (some 96), (some (93, false)), .bin .gtr (.s 95) (.k (.c (.int .i64 100)))⟩, ⟨29, (some 97), none, .pick (.s 93) (.k (.c (.bool true))) (.s 96)⟩] [(14, 17)] (some [97, 1, 62, 15, 14, 13, 63, 64]))
  (.cond (.s 97) (.seq (.region 0 [⟨0, (some 2), none, .mv (.k (.c (.int .i64 2)))⟩] [] (some [2]))
  .ret)
  .skip))))
  (.region 0 [⟨0, (some 98), none, .bin .add (.s 64) (.k (.c (.int .i64 1)))⟩, ⟨1, (some 64), none, .mv (.s 98)⟩] [] (some [63, 13, 14, 15, 62, 1, 64])))))
def c_roads_check_zones_l3 : CC := (.seq (.region 0 [⟨0, (some 16), none, .bin .lss (.s 15) (.s 14)⟩] [] (some [16, 1, 15, 14, 13]))
  (.seq (.cond (.s 16) .skip
  (.exit 0))
  (.seq (.block 1 (.seq (.region 1 [⟨0, (some 17), none, .iaddr 2 (.s 13) (.s 15)⟩, ⟨1, (some 18), none, .load true 2 (.s 17)⟩, ⟨2, (some 4), none, .box 0 2 (.k (.a [.nilslice, (.int .i64 0)]))⟩, ⟨3, none, none, .store 2 (.s 4) (.s 18)⟩] [] (some [1, 15, 14, 13, 4]))
  (.seq (.seq (.region 0 [⟨0, (some 19), none, .faddr 0 (.s 4)⟩, ⟨1, (some 20), none, .load false 1 (.s 19)⟩, ⟨2, (some 21), none, .len (.s 20)⟩, ⟨3, (some 5), none, .mv (.s 21)⟩] [] (some [1, 15, 14, 13, 4, 5]))
  (.block 2 (.seq (.region 0 [⟨0, (some 23), none, .mv (.s 5)⟩, ⟨1, (some 24), none, .bin .lss (.s 23) (.k (.c (.int .i64 2)))⟩, ⟨2, (some 22), none, .mv (.s 24)⟩] [] (some [22, 1, 15, 14, 13, 4, 5]))
  (.cond (.s 22) (.seq (.region 0 [⟨0, (some 2), none, .mv (.k (.c (.int .i64 6)))⟩] [] (some [2]))
  .ret)
  (.seq (.region 0 [⟨0, (some 26), none, .mv (.s 5)⟩, ⟨1, (some 27), none, .bin .gtr (.s 26) (.k (.c (.int .i64 6)))⟩, ⟨2, (some 25), none, .mv (.s 27)⟩] [] (some [25, 4, 13, 14, 15, 1]))
  (.cond (.s 25) (.seq (.region 0 [⟨0, (some 2), none, .mv (.k (.c (.int .i64 8)))⟩] [] (some [2]))
  .ret)
  (.seq (.region 0 [⟨0, (some 29), none, .faddr 1 (.s 4)⟩, ⟨1, (some 30), none, .load false 1 (.s 29)⟩, ⟨2, (some 31), none, .bin .lss (.s 30) (.k (.c (.int .i64 0)))⟩, ⟨3, (some 32), none, .mv (.s 31)⟩, ⟨4, (some 33), (some (32, false)), .faddr 1 (.s 4)⟩, ⟨5, (some 34), (some (32, false)), .load false 1 (.s 33)⟩, ⟨6, (some 35), (some (32, false)), .faddr 0 (.s 1)⟩, ⟨7, (some 36), (some (32, false)), .faddr 3 (.s 35)⟩, ⟨8, (some 37), (some (32, false)), .load false 1 (.s 36)⟩, ⟨9, (some 38), (some (32, false)), .len (.s 37)⟩, ⟨10, (some 39), (some (32, false)), .bin .gtr (.s 34) (.s 38)⟩, ⟨11, (some 40), none, .pick (.s 32) (.k (.c (.bool true))) (.s 39)⟩, ⟨12, (some 28), none, .mv (.s 40)⟩] [] (some [28, 1, 15, 14, 13, 4]))
  (.cond (.s 28) (.seq (.region 0 [⟨0, (some 2), none, .mv (.k (.c (.int .i64 2)))⟩] [] (some [2]))
  .ret)
  .skip))))))))
  (.seq (.region 1 [⟨0, (some 6), none, .newsl 0 1⟩] [] (some [6, 4, 13, 14, 15, 1]))
  (.seq (.seq (.region 0 [⟨0, (some 41), none, .faddr 0 (.s 4)⟩, ⟨1, (some 42), none, .load false 1 (.s 41)⟩, ⟨2, (some 43), none, .len (.s 42)⟩, ⟨3, (some 44), none, .mv (.k (.c (.int .i64 0)))⟩] [] (some [6, 44, 43, 4, 13, 14, 15, 1, 42]))
  (.block 3 (.loop (some [6, 44, 43, 4, 13, 14, 15, 1, 42]) c_roads_check_zones_l1)))
  (.seq (.seq (.region 0 [⟨0, (some 54), none, .mv (.s 6)⟩, ⟨1, (some 55), none, .faddr 0 (.s 1)⟩, ⟨2, (some 56), none, .faddr 1 (.s 55)⟩, ⟨3, (some 57), none, .load false 1 (.s 56)⟩, ⟨4, (some 58), none, .len (.s 57)⟩, ⟨5, (some 59), none, .call ⟨true⟩ (.k (.c (.fn 150 [] []))) [(.s 54), (.k (.c (.int .i64 0))), (.s 58)]⟩, ⟨6, (some 60), none, .un .not (.s 59)⟩] [] (some [60, 1, 15, 14, 13, 4]))
  (.cond (.s 60) (.seq (.region 0 [⟨0, (some 2), none, .mv (.k (.c (.int .i64 11)))⟩] [] (some [2]))
  .ret)
  .skip))
  (.seq (.region 0 [⟨0, (some 61), none, .faddr 0 (.s 4)⟩, ⟨1, (some 62), none, .load false 1 (.s 61)⟩, ⟨2, (some 63), none, .len (.s 62)⟩, ⟨3, (some 64), none, .mv (.k (.c (.int .i64 0)))⟩] [] (some [63, 13, 14, 15, 62, 1, 64]))
  (.block 5 (.loop (some [63, 13, 14, 15, 62, 1, 64]) c_roads_check_zones_l2)))))))))
  (.region 0 [⟨0, (some 99), none, .bin .add (.s 15) (.k (.c (.int .i64 1)))⟩, ⟨1, (some 15), none, .mv (.s 99)⟩] [] (some [1, 15, 14, 13])))))
abbrev f_roads_check_zones : Nat := 93
def c_roads_check_zones : CFn := { frz := true, rnd := none, nargs := 1, ntmps := 100, res := [(.slot 2)], code :=
  (.seq (.region 1 [⟨0, (some 1), none, .box 0 5 (.s 0)⟩, ⟨1, (some 2), none, .mv (.k (.c (.int .i64 0)))⟩] [] (some [1]))
  (.seq (.seq (.region 0 [⟨0, (some 11), none, .faddr 0 (.s 1)⟩, ⟨1, (some 12), none, .faddr 2 (.s 11)⟩, ⟨2, (some 13), none, .load false 1 (.s 12)⟩, ⟨3, (some 14), none, .len (.s 13)⟩, ⟨4, (some 15), none, .mv (.k (.c (.int .i64 0)))⟩] [] (some [1, 15, 14, 13]))
  (.block 0 (.loop (some [1, 15, 14, 13]) c_roads_check_zones_l3)))
  (.seq (.region 0 [⟨0, (some 2), none, .mv (.k (.c (.int .i64 0)))⟩] [] (some [2]))
  .ret))) }
def c_roads_check_works_l1 : CC := (.seq (.region 0 [⟨0, (some 13), none, .bin .lss (.s 12) (.s 11)⟩] [] (some [13, 12, 11, 10, 1]))
  (.seq (.cond (.s 13) .skip
  (.exit 0))
  (.seq (.block 1 (.seq (.region 1 [⟨0, (some 14), none, .iaddr 6 (.s 10) (.s 12)⟩, ⟨1, (some 15), none, .load true 6 (.s 14)⟩, ⟨2, (some 4), none, .box 0 6 (.k (.a [(.int .i64 0), (.int .i64 0), (.int .i64 0), (.int .i64 0), (.int .i64 0), (.int .i64 0)]))⟩, ⟨3, none, none, .store 6 (.s 4) (.s 15)⟩] [] (some [12, 11, 10, 1, 4]))
  (.seq (.seq (.region 0 [⟨0, (some 16), none, .faddr 0 (.s 4)⟩, ⟨1, (some 17), none, .load false 1 (.s 16)⟩, ⟨2, (some 18), none, .bin .lss (.s 17) (.k (.c (.int .i64 0)))⟩, ⟨3, (some 19), none, .mv (.s 18)⟩, ⟨4, (some 20), (some (19, false)), .faddr 0 (.s 4)⟩, ⟨5, (some 21), (some (19, false)), .load false 1 (.s 20)⟩, ⟨6, (some 22), (some (19, false)), .faddr 0 (.s 1)⟩, ⟨7, (some 23), (some (19, false)), .faddr 1 (.s 22)⟩, ⟨8, (some 24), (some (19, false)), .load false 1 (.s 23)⟩, ⟨9, (some 25), (some (19, false)), .len (.s 24)⟩, ⟨10, (some 26), (some (19, false)), .bin .geq (.s 21) (.s 25)⟩, ⟨11, (some 27), none, .pick (.s 19) (.k (.c (.bool true))) (.s 26)⟩] [] (some [27, 12, 11, 10, 1, 4]))
  (.cond (.s 27) (.seq (.region 0 [⟨0, (some 2), none, .mv (.k (.c (.int .i64 7)))⟩] [] (some [2]))
  .ret)
  .skip))
  (.seq (.region 0 [⟨0, (some 29), none, .faddr 0 (.s 1)⟩, ⟨1, (some 30), none, .faddr 1 (.s 29)⟩, ⟨2, (some 31), none, .load false 1 (.s 30)⟩, ⟨3, (some 32), none, .faddr 0 (.s 4)⟩, ⟨4, (some 33), none, .load false 1 (.s 32)⟩, ⟨5, (some 34), none, .iaddr 5 (.s 31) (.s 33)⟩, ⟨6, (some 35), none, .faddr 0 (.s 34)⟩, ⟨7, (some 36), none, .load false 1 (.s 35)⟩, ⟨8, (some 37), none, .call ⟨true⟩ (.k (.c (.fn 46 [] []))) [(.s 36)]⟩, ⟨9, (some 28), none, .mv (.s 37)⟩, ⟨10, (some 38), none, .extract 28 0⟩, ⟨11, (some 39), none, .extract 28 1⟩, ⟨12, (some 40), none, .extract 28 2⟩, ⟨13, (some 5), none, .mv (.s 38)⟩, ⟨14, (some 6), none, .mv (.s 39)⟩, ⟨15, (some 7), none, .mv (.s 40)⟩] [] (some [4, 5, 1, 10, 11, 12]))
  (.seq (.region 0 [⟨0, (some 41), none, .faddr 1 (.s 4)⟩, ⟨1, (some 42), none, .load false 1 (.s 41)⟩, ⟨2, (some 43), none, .bin .lss (.s 42) (.k (.c (.int .i64 0)))⟩, ⟨3, (some 44), none, .mv (.s 43)⟩, ⟨4, (some 45), (some (44, false)), .faddr 1 (.s 4)⟩, ⟨6, (some 47), (some (44, false)), .faddr 2 (.s 4)⟩, ⟨5, (some 46), (some (44, false)), .load false 1 (.s 45)⟩, ⟨7, (some 48), (some (44, false)), .load false 1 (.s 47)⟩, ⟨8, (some 49), (some (44, false)), .bin .gtr (.s 46) (.s 48)⟩, ⟨9, (some 50), none, .pick (.s 44) (.k (.c (.bool true))) (.s 49)⟩, ⟨10, (some 51), none, .mv (.s 50)⟩, ⟨11, (some 52), (some (51, false)), .faddr 2 (.s 4)⟩, ⟨13, (some 54), (some (51, false)), .faddr 0 (.s 1)⟩, ⟨15, (some 56), (some (51, false)), .faddr 0 (.s 4)⟩, ⟨12, (some 53), (some (51, false)), .load false 1 (.s 52)⟩, ⟨14, (some 55), (some (51, false)), .load true 5 (.s 54)⟩, ⟨16, (some 57), (some (51, false)), .load false 1 (.s 56)⟩, ⟨17, (some 58), (some (51, false)), .call ⟨true⟩ (.k (.c (.fn 96 [] []))) [(.s 55), (.s 57)]⟩, ⟨18, (some 59), (some (51, false)), .bin .gtr (.s 53) (.s 58)⟩, ⟨19, (some 60), none, .pick (.s 51) (.k (.c (.bool true))) (.s 59)⟩, ⟨20, (some 61), none, .mv (.s 60)⟩, ⟨21, (some 62), (some (61, false)), .faddr 3 (.s 4)⟩, ⟨22, (some 63), (some (61, false)), .load false 1 (.s 62)⟩, ⟨23, (some 64), (some (61, false)), .bin .lss (.s 63) (.k (.c (.int .i64 0)))⟩, ⟨24, (some 65), none, .pick (.s 61) (.k (.c (.bool true))) (.s 64)⟩, ⟨25, (some 66), none, .mv (.s 65)⟩, ⟨26, (some 67), (some (66, false)), .faddr 3 (.s 4)⟩, ⟨28, (some 69), (some (66, false)), .faddr 4 (.s 4)⟩, ⟨27, (some 68), (some (66, false)), .load false 1 (.s 67)⟩, ⟨29, (some 70), (some (66, false)), .load false 1 (.s 69)⟩, ⟨30, (some 71), (some (66, false)), .bin .geq (.s 68) (.s 70)⟩, ⟨31, (some 72), none, .pick (.s 66) (.k (.c (.bool true))) (.s 71)⟩, ⟨32, (some 73), none, .mv (.s 72)⟩, ⟨33, (some 74), (some (73, false)), .faddr 4 (.s 4)⟩, ⟨34, (some 75), (some (73, false)), .load false 1 (.s 74)⟩, ⟨35, (some 76), (some (73, false)), .bin .gtr (.s 75) (.k (.c (.int .i64 1099511627776)))⟩, ⟨36, (some 77), none, .pick (.s 73) (.k (.c (.bool true))) (.s 76)⟩, ⟨37, (some 78), none, .mv (.s 77)⟩, ⟨38, (some 79), (some (78, false)), .faddr 5 (.s 4)⟩, ⟨40, (some 81), (some (78, false)), .mv (.s 5)⟩, ⟨39, (some 80), (some (78, false)), .load false 1 (.s 79)⟩, ⟨41, (some 82), (some (78, false)), .call ⟨true⟩ (.k (.c (.fn 148 [] []))) [(.s 80), (.k (.c (.int .i64 0))), (.s 81)]⟩, ⟨42, (some 83), (some (78, false)), .un .not (.s 82)⟩, ⟨43, (some 84), none, .pick (.s 78) (.k (.c (.bool true))) (.s 83)⟩] [(14, 17)] (some [84, 1, 10, 11, 12]))
  (.cond (.s 84) (.seq (.region 0 [⟨0, (some 2), none, .mv (.k (.c (.int .i64 2)))⟩] [] (some [2]))
  .ret)
  .skip))))))
  (.region 0 [⟨0, (some 85), none, .bin .add (.s 12) (.k (.c (.int .i64 1)))⟩, ⟨1, (some 12), none, .mv (.s 85)⟩] [] (some [12, 11, 10, 1])))))
abbrev f_roads_check_works : Nat := 94
def c_roads_check_works : CFn := { frz := true, rnd := none, nargs := 1, ntmps := 86, res := [(.slot 2)], code :=
  (.seq (.region 1 [⟨0, (some 1), none, .box 0 5 (.s 0)⟩, ⟨1, (some 2), none, .mv (.k (.c (.int .i64 0)))⟩] [] (some [1]))
  (.seq (.seq (.region 0 [⟨0, (some 8), none, .faddr 0 (.s 1)⟩, ⟨1, (some 9), none, .faddr 4 (.s 8)⟩, ⟨2, (some 10), none, .load false 1 (.s 9)⟩, ⟨3, (some 11), none, .len (.s 10)⟩, ⟨4, (some 12), none, .mv (.k (.c (.int .i64 0)))⟩] [] (some [12, 11, 10, 1]))
  (.block 0 (.loop (some [12, 11, 10, 1]) c_roads_check_works_l1)))
  (.seq (.region 0 [⟨0, (some 2), none, .mv (.k (.c (.int .i64 0)))⟩] [] (some [2]))
  .ret))) }
abbrev f_roads_is : Nat := 95
def c_roads_is : CFn := { frz := true, rnd := none, nargs := 2, ntmps := 19, res := [(.slot 4)], code :=
  (.seq (.region 1 [⟨0, (some 2), none, .box 0 5 (.s 0)⟩, ⟨1, (some 4), none, .mv (.k (.c (.bool false)))⟩] [] (some [1, 2]))
  (.seq (.region 0 [⟨0, (some 5), none, .mv (.s 1)⟩, ⟨1, (some 6), none, .bin .geq (.s 5) (.k (.c (.int .i64 0)))⟩, ⟨2, (some 7), none, .mv (.s 6)⟩, ⟨3, (some 8), (some (7, true)), .mv (.s 1)⟩, ⟨4, (some 9), (some (7, true)), .faddr 1 (.s 2)⟩, ⟨5, (some 10), (some (7, true)), .load false 1 (.s 9)⟩, ⟨6, (some 11), (some (7, true)), .len (.s 10)⟩, ⟨7, (some 12), (some (7, true)), .bin .lss (.s 8) (.s 11)⟩, ⟨8, (some 13), none, .pick (.s 7) (.s 12) (.k (.c (.bool false)))⟩, ⟨9, (some 14), none, .mv (.s 13)⟩, ⟨10, (some 15), (some (14, true)), .load true 5 (.s 2)⟩, ⟨11, (some 16), (some (14, true)), .call ⟨true⟩ (.k (.c (.fn 45 [] []))) [(.s 15)]⟩, ⟨12, (some 17), (some (14, true)), .bin .eql (.s 16) (.k (.c (.int .i64 0)))⟩, ⟨13, (some 18), none, .pick (.s 14) (.s 17) (.k (.c (.bool false)))⟩, ⟨14, (some 4), none, .mv (.s 18)⟩] [] (some [4]))
  .ret)) }
abbrev f_roads_long : Nat := 96
def c_roads_long : CFn := { frz := true, rnd := none, nargs := 2, ntmps := 12, res := [(.slot 4)], code :=
  (.seq (.region 1 [⟨0, (some 2), none, .box 0 5 (.s 0)⟩, ⟨1, (some 4), none, .mv (.k (.c (.int .i64 0)))⟩] [] (some [2, 1]))
  (.seq (.region 0 [⟨0, (some 5), none, .faddr 1 (.s 2)⟩, ⟨1, (some 6), none, .load false 1 (.s 5)⟩, ⟨2, (some 7), none, .mv (.s 1)⟩, ⟨3, (some 8), none, .iaddr 5 (.s 6) (.s 7)⟩, ⟨4, (some 9), none, .faddr 1 (.s 8)⟩, ⟨5, (some 10), none, .load true 1 (.s 9)⟩, ⟨6, (some 11), none, .call ⟨true⟩ (.k (.c (.fn 154 [] []))) [(.s 10)]⟩, ⟨7, (some 4), none, .mv (.s 11)⟩] [] (some [4]))
  .ret)) }
abbrev f_motion_Course_Drive_1 : Nat := 97
def c_motion_Course_Drive_1 : CFn := { frz := true, rnd := none, nargs := 3, ntmps := 11, res := [(.slot 4)], code :=
  (.seq (.region 0 [⟨0, (some 4), none, .mv (.k (.c (.int .i64 0)))⟩] [] (some [0, 1, 2]))
  (.seq (.region 0 [⟨0, (some 5), none, .mv (.s 0)⟩, ⟨1, (some 6), none, .load false 1 (.s 1)⟩, ⟨2, (some 7), none, .bin .add (.s 5) (.s 6)⟩, ⟨3, (some 8), none, .load false 1 (.s 2)⟩, ⟨4, (some 9), none, .minmax false [(.s 7), (.s 8)]⟩, ⟨5, (some 10), none, .minmax true [(.k (.c (.int .i64 0))), (.s 9)]⟩, ⟨6, (some 4), none, .mv (.s 10)⟩] [] (some [4]))
  .ret)) }
def c_motion_Course_moved_l1 : CC := (.seq (.region 0 [⟨0, (some 87), none, .bin .lss (.s 86) (.s 85)⟩] [] (some [87, 5, 14, 84, 85, 86, 13, 8]))
  (.seq (.cond (.s 87) .skip
  (.exit 0))
  (.seq (.block 1 (.seq (.region 0 [⟨0, (some 88), none, .iaddr 1 (.s 84) (.s 86)⟩, ⟨1, (some 89), none, .load false 1 (.s 88)⟩, ⟨2, (some 16), none, .mv (.s 89)⟩] [] (some [5, 14, 84, 85, 86, 16, 13, 8]))
  (.seq (.region 0 [⟨0, (some 90), none, .mv (.s 16)⟩, ⟨1, (some 91), none, .faddr 2 (.s 5)⟩, ⟨2, (some 92), none, .load false 1 (.s 91)⟩, ⟨3, (some 93), none, .bin .gtr (.s 90) (.s 92)⟩, ⟨4, (some 94), none, .mv (.s 93)⟩, ⟨5, (some 95), (some (94, true)), .mv (.s 14)⟩, ⟨6, (some 96), (some (94, true)), .mv (.s 16)⟩, ⟨7, (some 97), (some (94, true)), .bin .lss (.s 95) (.s 96)⟩, ⟨8, (some 98), (some (94, true)), .mv (.s 97)⟩, ⟨9, (some 99), (some (98, false)), .faddr 5 (.s 5)⟩, ⟨10, (some 100), (some (98, false)), .load false 1 (.s 99)⟩, ⟨11, (some 101), (some (98, false)), .bin .neq (.s 100) (.k (.c (.int .i64 0)))⟩, ⟨12, (some 102), (some (98, false)), .mv (.s 101)⟩, ⟨13, (some 103), (some (102, true)), .faddr 5 (.s 5)⟩, ⟨14, (some 104), (some (102, true)), .load false 1 (.s 103)⟩, ⟨15, (some 105), (some (102, true)), .mv (.s 16)⟩, ⟨16, (some 106), (some (102, true)), .bin .leq (.s 104) (.s 105)⟩, ⟨17, (some 107), (some (98, false)), .pick (.s 102) (.s 106) (.k (.c (.bool false)))⟩, ⟨18, (some 108), (some (94, true)), .pick (.s 98) (.k (.c (.bool true))) (.s 107)⟩, ⟨19, (some 109), none, .pick (.s 94) (.s 108) (.k (.c (.bool false)))⟩] [] (some [109, 5, 14, 84, 85, 86, 16, 13, 8]))
  (.cond (.s 109) (.seq (.region 0 [⟨0, (some 110), none, .faddr 2 (.s 13)⟩, ⟨1, (some 111), none, .load false 1 (.s 110)⟩, ⟨2, (some 112), none, .mv (.s 16)⟩, ⟨3, (some 113), none, .bin .sub (.s 112) (.k (.c (.int .i64 1)))⟩, ⟨4, (some 114), none, .minmax false [(.s 111), (.s 113)]⟩, ⟨5, (some 115), none, .mv (.s 16)⟩, ⟨6, (some 116), none, .faddr 2 (.s 13)⟩, ⟨7, none, none, .store 1 (.s 116) (.s 114)⟩, ⟨8, (some 117), none, .faddr 5 (.s 13)⟩, ⟨9, none, none, .store 1 (.s 117) (.s 115)⟩] [] (some [13, 8]))
  (.exit 0))
  .skip))))
  (.region 0 [⟨0, (some 118), none, .bin .add (.s 86) (.k (.c (.int .i64 1)))⟩, ⟨1, (some 86), none, .mv (.s 118)⟩] [] (some [85, 84, 14, 5, 86, 13, 8])))))
abbrev f_motion_Course_moved : Nat := 98
def c_motion_Course_moved : CFn := { frz := true, rnd := none, nargs := 4, ntmps := 125, res := [(.cell 8 true 6), (.slot 9)], code :=
  (.seq (.region 3 [⟨0, (some 4), none, .box 0 11 (.s 0)⟩, ⟨1, (some 5), none, .box 1 6 (.s 1)⟩, ⟨2, (some 8), none, .box 2 6 (.k (.a [(.int .i64 0), (.int .i64 0), (.int .i64 0), (.int .i64 0), (.int .i64 0), (.int .i64 0)]))⟩, ⟨3, (some 9), none, .mv (.k (.c (.bool false)))⟩] [] (some [3, 5, 2, 4, 8]))
  (.seq (.region 0 [⟨0, (some 18), none, .faddr 0 (.s 4)⟩, ⟨1, (some 19), none, .faddr 1 (.s 18)⟩, ⟨2, (some 20), none, .load false 1 (.s 19)⟩, ⟨3, (some 21), none, .faddr 0 (.s 5)⟩, ⟨4, (some 22), none, .load false 1 (.s 21)⟩, ⟨5, (some 23), none, .iaddr 5 (.s 20) (.s 22)⟩, ⟨6, (some 24), none, .faddr 0 (.s 23)⟩, ⟨7, (some 25), none, .load false 1 (.s 24)⟩, ⟨8, (some 26), none, .call ⟨true⟩ (.k (.c (.fn 46 [] []))) [(.s 25)]⟩, ⟨9, (some 17), none, .mv (.s 26)⟩, ⟨10, (some 27), none, .extract 17 0⟩, ⟨11, (some 28), none, .extract 17 1⟩, ⟨12, (some 29), none, .extract 17 2⟩, ⟨13, (some 10), none, .mv (.s 27)⟩, ⟨14, (some 11), none, .mv (.s 28)⟩, ⟨15, (some 12), none, .mv (.s 29)⟩] [] (some [10, 11, 3, 5, 2, 4, 12, 8]))
  (.seq (.region 1 [⟨0, (some 30), none, .load true 6 (.s 5)⟩, ⟨1, (some 13), none, .box 0 6 (.k (.a [(.int .i64 0), (.int .i64 0), (.int .i64 0), (.int .i64 0), (.int .i64 0), (.int .i64 0)]))⟩, ⟨2, none, none, .store 6 (.s 13) (.s 30)⟩] [] (some [10, 11, 3, 5, 2, 4, 12, 13, 8]))
  (.seq (.region 0 [⟨0, (some 31), none, .faddr 3 (.s 5)⟩, ⟨2, (some 33), none, .mv (.s 12)⟩, ⟨5, (some 36), none, .mv (.s 10)⟩, ⟨6, (some 37), none, .faddr 4 (.s 5)⟩, ⟨8, (some 39), none, .mv (.s 11)⟩, ⟨1, (some 32), none, .load false 1 (.s 31)⟩, ⟨3, (some 34), none, .bin .sub (.s 32) (.s 33)⟩, ⟨7, (some 38), none, .load false 1 (.s 37)⟩, ⟨9, (some 40), none, .bin .add (.s 38) (.s 39)⟩, ⟨4, (some 35), none, .minmax true [(.k (.c (.int .i64 0))), (.s 34)]⟩, ⟨11, (some 42), none, .faddr 3 (.s 13)⟩, ⟨10, (some 41), none, .minmax false [(.s 36), (.s 40)]⟩, ⟨12, none, none, .store 1 (.s 42) (.s 35)⟩, ⟨13, (some 43), none, .faddr 4 (.s 13)⟩, ⟨14, none, none, .store 1 (.s 43) (.s 41)⟩] [(7, 12)] (some [3, 5, 2, 4, 12, 13, 8]))
  (.seq (.region 0 [⟨0, (some 44), none, .faddr 1 (.s 5)⟩, ⟨2, (some 46), none, .faddr 3 (.s 13)⟩, ⟨5, (some 49), none, .faddr 2 (.s 5)⟩, ⟨7, (some 51), none, .faddr 4 (.s 13)⟩, ⟨1, (some 45), none, .load false 1 (.s 44)⟩, ⟨3, (some 47), none, .load false 1 (.s 46)⟩, ⟨4, (some 48), none, .bin .add (.s 45) (.s 47)⟩, ⟨6, (some 50), none, .load false 1 (.s 49)⟩, ⟨8, (some 52), none, .load false 1 (.s 51)⟩, ⟨9, (some 53), none, .bin .add (.s 50) (.s 52)⟩, ⟨10, (some 54), none, .faddr 1 (.s 13)⟩, ⟨11, none, none, .store 1 (.s 54) (.s 48)⟩, ⟨12, (some 55), none, .faddr 2 (.s 13)⟩, ⟨13, none, none, .store 1 (.s 55) (.s 53)⟩, ⟨14, (some 56), none, .faddr 5 (.s 13)⟩, ⟨15, none, none, .store 1 (.s 56) (.k (.c (.int .i64 0)))⟩] [(7, 11)] (some [3, 5, 2, 4, 12, 13, 8]))
  (.seq (.seq (.region 0 [⟨0, (some 57), none, .faddr 1 (.s 5)⟩, ⟨1, (some 58), none, .load false 1 (.s 57)⟩, ⟨2, (some 59), none, .bin .eql (.s 58) (.k (.c (.int .i64 0)))⟩, ⟨3, (some 60), none, .mv (.s 59)⟩, ⟨4, (some 61), (some (60, true)), .faddr 10 (.s 4)⟩, ⟨5, (some 62), (some (60, true)), .load false 1 (.s 61)⟩, ⟨6, (some 63), (some (60, true)), .faddr 0 (.s 5)⟩, ⟨7, (some 64), (some (60, true)), .load false 1 (.s 63)⟩, ⟨8, (some 65), (some (60, true)), .iaddr 1 (.s 62) (.s 64)⟩, ⟨9, (some 66), (some (60, true)), .load false 1 (.s 65)⟩, ⟨10, (some 67), none, .pick (.s 60) (.s 66) (.k (.c (.bool false)))⟩] [] (some [67, 3, 5, 2, 4, 12, 13, 8]))
  (.cond (.s 67) (.region 0 [⟨0, (some 68), none, .faddr 1 (.s 13)⟩, ⟨1, none, none, .store 1 (.s 68) (.k (.c (.int .i64 0)))⟩] [] (some [3, 5, 2, 4, 12, 13, 8]))
  .skip))
  (.seq (.seq (.region 0 [⟨0, (some 69), none, .mv (.s 3)⟩, ⟨1, (some 70), none, .un .not (.s 69)⟩] [] (some [70, 5, 2, 4, 12, 13, 8]))
  (.cond (.s 70) (.seq (.region 0 [⟨0, (some 71), none, .load true 6 (.s 13)⟩, ⟨1, none, none, .store 6 (.s 8) (.s 71)⟩, ⟨2, (some 9), none, .mv (.k (.c (.bool true)))⟩] [] (some [8, 9]))
  .ret)
  .skip))
  (.seq (.region 0 [⟨0, (some 72), none, .faddr 2 (.s 5)⟩, ⟨2, (some 74), none, .faddr 4 (.s 5)⟩, ⟨4, (some 76), none, .mv (.s 12)⟩, ⟨1, (some 73), none, .load false 1 (.s 72)⟩, ⟨3, (some 75), none, .load false 1 (.s 74)⟩, ⟨5, (some 77), none, .call ⟨true⟩ (.k (.c (.fn 155 [] []))) [(.s 75), (.s 76)]⟩, ⟨6, (some 78), none, .bin .add (.s 73) (.s 77)⟩, ⟨7, (some 14), none, .mv (.s 78)⟩] [(3, 5)] (some [4, 2, 14, 5, 13, 8]))
  (.seq (.seq (.region 0 [⟨0, (some 79), none, .faddr 0 (.s 4)⟩, ⟨1, (some 80), none, .load true 5 (.s 79)⟩, ⟨2, (some 81), none, .faddr 0 (.s 5)⟩, ⟨3, (some 82), none, .load false 1 (.s 81)⟩, ⟨4, (some 83), none, .mv (.s 2)⟩, ⟨5, (some 84), none, .call ⟨true⟩ (.k (.c (.fn 156 [] []))) [(.s 80), (.s 82), (.s 83)]⟩, ⟨6, (some 85), none, .len (.s 84)⟩, ⟨7, (some 86), none, .mv (.k (.c (.int .i64 0)))⟩] [] (some [85, 84, 14, 5, 86, 13, 8]))
  (.block 0 (.loop (some [85, 84, 14, 5, 86, 13, 8]) c_motion_Course_moved_l1)))
  (.seq (.region 0 [⟨1, (some 120), none, .faddr 1 (.s 13)⟩, ⟨3, (some 122), none, .faddr 2 (.s 13)⟩, ⟨0, (some 119), none, .load true 6 (.s 13)⟩, ⟨2, (some 121), none, .load false 1 (.s 120)⟩, ⟨4, (some 123), none, .load false 1 (.s 122)⟩, ⟨5, (some 124), none, .bin .leq (.s 121) (.s 123)⟩, ⟨6, none, none, .store 6 (.s 8) (.s 119)⟩, ⟨7, (some 9), none, .mv (.s 124)⟩] [(3, 6), (4, 6)] (some [8, 9]))
  .ret)))))))))) }
def c_slices_Index_int_l1 : CC := (.seq (.region 0 [⟨0, (some 9), none, .bin .lss (.s 8) (.s 7)⟩] [] (some [9, 0, 1, 7, 8]))
  (.seq (.cond (.s 9) .skip
  (.exit 0))
  (.seq (.block 1 (.seq (.region 0 [⟨0, (some 10), none, .mv (.s 8)⟩, ⟨1, (some 5), none, .mv (.s 10)⟩] [] (some [0, 1, 7, 8, 5]))
  (.seq (.region 0 [⟨0, (some 11), none, .mv (.s 1)⟩, ⟨1, (some 12), none, .mv (.s 0)⟩, ⟨2, (some 13), none, .mv (.s 5)⟩, ⟨3, (some 14), none, .iaddr 1 (.s 12) (.s 13)⟩, ⟨4, (some 15), none, .load false 1 (.s 14)⟩, ⟨5, (some 16), none, .bin .eql (.s 11) (.s 15)⟩] [] (some [16, 0, 1, 7, 8, 5]))
  (.cond (.s 16) (.seq (.region 0 [⟨0, (some 17), none, .mv (.s 5)⟩, ⟨1, (some 4), none, .mv (.s 17)⟩] [] (some [4]))
  .ret)
  .skip))))
  (.region 0 [⟨0, (some 18), none, .bin .add (.s 8) (.k (.c (.int .i64 1)))⟩, ⟨1, (some 8), none, .mv (.s 18)⟩] [] (some [7, 1, 0, 8])))))
abbrev f_slices_Index_int : Nat := 99
def c_slices_Index_int : CFn := { frz := true, rnd := none, nargs := 2, ntmps := 19, res := [(.slot 4)], code :=
  (.seq (.region 0 [⟨0, (some 4), none, .mv (.k (.c (.int .i64 0)))⟩] [] (some [1, 0]))
  (.seq (.seq (.region 0 [⟨0, (some 6), none, .mv (.s 0)⟩, ⟨1, (some 7), none, .len (.s 6)⟩, ⟨2, (some 8), none, .mv (.k (.c (.int .i64 0)))⟩] [] (some [7, 1, 0, 8]))
  (.block 0 (.loop (some [7, 1, 0, 8]) c_slices_Index_int_l1)))
  (.seq (.region 0 [⟨0, (some 4), none, .mv (.k (.c (.int .i64 (-1))))⟩] [] (some [4]))
  .ret))) }
abbrev f_motion_layer_lay : Nat := 100
def c_motion_layer_lay : CFn := { frz := true, rnd := none, nargs := 5, ntmps := 21, res := [(.slot 10)], code :=
  (.seq (.region 3 [⟨0, (some 5), none, .box 0 16 (.s 0)⟩, ⟨1, (some 6), none, .box 1 6 (.s 1)⟩, ⟨2, (some 10), none, .newsl 2 7⟩] [] (some [5, 6, 2, 3, 4]))
  (.seq (.region 1 [⟨0, (some 11), none, .box 0 1 (.k (.a [.nilslice]))⟩] [] (some [5, 6, 2, 3, 4, 11]))
  (.seq (.region 1 [⟨0, (some 12), none, .box 0 1 (.k (.a [.nilfn]))⟩] [] (some [5, 12, 6, 2, 3, 4, 11]))
  (.seq (.region 0 [⟨0, (some 13), none, .mkfn 157 [] [(.s 5), (.s 11), (.s 12)]⟩, ⟨1, none, none, .store 1 (.s 12) (.s 13)⟩] [] (some [12, 6, 2, 3, 4, 11]))
  (.seq (.region 0 [⟨0, (some 14), none, .load false 1 (.s 12)⟩, ⟨1, (some 15), none, .load true 6 (.s 6)⟩, ⟨2, (some 16), none, .mv (.s 2)⟩, ⟨3, (some 17), none, .mv (.s 3)⟩, ⟨4, (some 18), none, .mv (.s 4)⟩, ⟨5, (some 19), none, .call ⟨true⟩ (.s 14) [(.s 15), (.s 16), (.s 17), (.s 18)]⟩] [] (some [11]))
  (.seq (.region 0 [⟨0, (some 20), none, .load false 1 (.s 11)⟩, ⟨1, (some 10), none, .mv (.s 20)⟩] [] (some [10]))
  .ret)))))) }
abbrev f_slices_SortFunc_Sweep : Nat := 101
def c_slices_SortFunc_Sweep : CFn := { frz := true, rnd := none, nargs := 2, ntmps := 14, res := [], code :=
  (.seq (.region 0 [⟨0, (some 5), none, .mv (.s 0)⟩, ⟨1, (some 6), none, .len (.s 5)⟩, ⟨2, (some 4), none, .mv (.s 6)⟩] [] (some [0, 4, 1]))
  (.region 0 [⟨0, (some 7), none, .mv (.s 0)⟩, ⟨1, (some 8), none, .mv (.s 4)⟩, ⟨2, (some 9), none, .mv (.s 4)⟩, ⟨3, (some 10), none, .conv .u64 (.s 9)⟩, ⟨4, (some 11), none, .call ⟨true⟩ (.k (.c (.fn 107 [] []))) [(.s 10)]⟩, ⟨5, (some 12), none, .mv (.s 1)⟩, ⟨6, (some 13), none, .call ⟨false⟩ (.k (.c (.fn 158 [] []))) [(.s 7), (.k (.c (.int .i64 0))), (.s 8), (.s 11), (.s 12)]⟩] [] (some []))) }
abbrev f_motion_less : Nat := 102
def c_motion_less : CFn := { frz := true, rnd := none, nargs := 2, ntmps := 32, res := [(.slot 4)], code :=
  (.seq (.region 2 [⟨0, (some 2), none, .box 0 4 (.s 0)⟩, ⟨1, (some 3), none, .box 1 4 (.s 1)⟩, ⟨2, (some 4), none, .mv (.k (.c (.int .i64 0)))⟩] [] (some [2, 3]))
  (.seq (.region 0 [⟨0, (some 5), none, .mv (.k (.c (.fn 159 [] [])))⟩] [] (some [2, 5, 3]))
  (.seq (.region 1 [⟨0, (some 6), none, .faddr 0 (.s 2)⟩, ⟨2, (some 8), none, .faddr 0 (.s 3)⟩, ⟨5, (some 11), none, .faddr 1 (.s 2)⟩, ⟨7, (some 13), none, .faddr 1 (.s 3)⟩, ⟨10, (some 16), none, .faddr 2 (.s 2)⟩, ⟨12, (some 18), none, .faddr 2 (.s 3)⟩, ⟨15, (some 21), none, .mv (.s 5)⟩, ⟨16, (some 22), none, .faddr 3 (.s 2)⟩, ⟨19, (some 25), none, .mv (.s 5)⟩, ⟨20, (some 26), none, .faddr 3 (.s 3)⟩, ⟨1, (some 7), none, .load false 1 (.s 6)⟩, ⟨3, (some 9), none, .load false 1 (.s 8)⟩, ⟨6, (some 12), none, .load false 1 (.s 11)⟩, ⟨8, (some 14), none, .load false 1 (.s 13)⟩, ⟨11, (some 17), none, .load false 1 (.s 16)⟩, ⟨13, (some 19), none, .load false 1 (.s 18)⟩, ⟨17, (some 23), none, .load false 1 (.s 22)⟩, ⟨21, (some 27), none, .load false 1 (.s 26)⟩, ⟨4, (some 10), none, .call ⟨true⟩ (.k (.c (.fn 161 [] []))) [(.s 7), (.s 9)]⟩, ⟨9, (some 15), none, .call ⟨true⟩ (.k (.c (.fn 54 [] []))) [(.s 12), (.s 14)]⟩, ⟨14, (some 20), none, .call ⟨true⟩ (.k (.c (.fn 54 [] []))) [(.s 17), (.s 19)]⟩, ⟨18, (some 24), none, .call ⟨true⟩ (.s 21) [(.s 23)]⟩, ⟨22, (some 28), none, .call ⟨true⟩ (.s 25) [(.s 27)]⟩, ⟨23, (some 29), none, .bin .sub (.s 24) (.s 28)⟩, ⟨24, (some 30), none, .lit 0 1 [[(.int .i64 0)], [(.int .i64 0)], [(.int .i64 0)], [(.int .i64 0)]] [(0, (.s 10)), (1, (.s 15)), (2, (.s 20)), (3, (.s 29))]⟩, ⟨25, (some 31), none, .call ⟨true⟩ (.k (.c (.fn 160 [] []))) [(.s 30)]⟩, ⟨26, (some 4), none, .mv (.s 31)⟩] [(12, 18), (13, 18), (14, 18), (14, 19), (15, 18), (15, 19), (16, 18), (16, 19), (16, 20), (17, 18), (17, 19), (17, 20), (17, 21)] (some [4]))
  .ret))) }
def c_motion_Join_l1 : CC := (.seq (.region 0 [⟨0, (some 16), none, .bin .lss (.s 15) (.s 14)⟩] [] (some [16, 15, 14, 13, 4]))
  (.seq (.cond (.s 16) .skip
  (.exit 0))
  (.seq (.block 1 (.seq (.region 1 [⟨0, (some 17), none, .iaddr 6 (.s 13) (.s 15)⟩, ⟨1, (some 18), none, .load true 6 (.s 17)⟩, ⟨2, (some 6), none, .box 0 6 (.k (.a [(.int .i64 0), (.int .i64 0), (.int .i64 0), (.int .i64 0), (.int .i64 0), (.int .i64 0)]))⟩, ⟨3, none, none, .store 6 (.s 6) (.s 18)⟩] [] (some [6, 15, 14, 13, 4]))
  (.seq (.region 0 [⟨0, (some 19), none, .mv (.s 4)⟩, ⟨1, (some 20), none, .len (.s 19)⟩, ⟨2, (some 7), none, .mv (.s 20)⟩] [] (some [7, 6, 15, 14, 13, 4]))
  (.seq (.region 0 [⟨0, (some 21), none, .mv (.s 7)⟩, ⟨1, (some 22), none, .bin .gtr (.s 21) (.k (.c (.int .i64 0)))⟩, ⟨2, (some 23), none, .mv (.s 22)⟩, ⟨3, (some 24), (some (23, true)), .mv (.s 4)⟩, ⟨4, (some 25), (some (23, true)), .mv (.s 7)⟩, ⟨5, (some 26), (some (23, true)), .bin .sub (.s 25) (.k (.c (.int .i64 1)))⟩, ⟨6, (some 27), (some (23, true)), .iaddr 6 (.s 24) (.s 26)⟩, ⟨7, (some 28), (some (23, true)), .faddr 0 (.s 27)⟩, ⟨9, (some 30), (some (23, true)), .faddr 0 (.s 6)⟩, ⟨8, (some 29), (some (23, true)), .load false 1 (.s 28)⟩, ⟨10, (some 31), (some (23, true)), .load false 1 (.s 30)⟩, ⟨11, (some 32), (some (23, true)), .bin .eql (.s 29) (.s 31)⟩, ⟨12, (some 33), none, .pick (.s 23) (.s 32) (.k (.c (.bool false)))⟩, ⟨13, (some 34), none, .mv (.s 33)⟩, ⟨14, (some 35), (some (34, true)), .faddr 1 (.s 6)⟩, ⟨16, (some 37), (some (34, true)), .mv (.s 4)⟩, ⟨17, (some 38), (some (34, true)), .mv (.s 7)⟩, ⟨18, (some 39), (some (34, true)), .bin .sub (.s 38) (.k (.c (.int .i64 1)))⟩, ⟨19, (some 40), (some (34, true)), .iaddr 6 (.s 37) (.s 39)⟩, ⟨20, (some 41), (some (34, true)), .faddr 2 (.s 40)⟩, ⟨15, (some 36), (some (34, true)), .load false 1 (.s 35)⟩, ⟨21, (some 42), (some (34, true)), .load false 1 (.s 41)⟩, ⟨22, (some 43), (some (34, true)), .bin .leq (.s 36) (.s 42)⟩, ⟨23, (some 44), (some (34, true)), .mv (.s 43)⟩, ⟨24, (some 45), (some (44, false)), .faddr 1 (.s 6)⟩, ⟨27, (some 48), (some (44, false)), .mv (.s 4)⟩, ⟨28, (some 49), (some (44, false)), .mv (.s 7)⟩, ⟨29, (some 50), (some (44, false)), .bin .sub (.s 49) (.k (.c (.int .i64 1)))⟩, ⟨30, (some 51), (some (44, false)), .iaddr 6 (.s 48) (.s 50)⟩, ⟨31, (some 52), (some (44, false)), .faddr 2 (.s 51)⟩, ⟨25, (some 46), (some (44, false)), .load false 1 (.s 45)⟩, ⟨26, (some 47), (some (44, false)), .bin .sub (.s 46) (.k (.c (.int .i64 1)))⟩, ⟨32, (some 53), (some (44, false)), .load false 1 (.s 52)⟩, ⟨33, (some 54), (some (44, false)), .bin .eql (.s 47) (.s 53)⟩, ⟨34, (some 55), (some (34, true)), .pick (.s 44) (.k (.c (.bool true))) (.s 54)⟩, ⟨35, (some 56), none, .pick (.s 34) (.s 55) (.k (.c (.bool false)))⟩] [] (some [56, 7, 6, 15, 14, 13, 4]))
  (.cond (.s 56) (.region 0 [⟨0, (some 57), none, .mv (.s 4)⟩, ⟨1, (some 58), none, .mv (.s 7)⟩, ⟨2, (some 59), none, .bin .sub (.s 58) (.k (.c (.int .i64 1)))⟩, ⟨3, (some 60), none, .mv (.s 4)⟩, ⟨4, (some 61), none, .mv (.s 7)⟩, ⟨5, (some 62), none, .bin .sub (.s 61) (.k (.c (.int .i64 1)))⟩, ⟨6, (some 63), none, .iaddr 6 (.s 60) (.s 62)⟩, ⟨7, (some 64), none, .load true 6 (.s 63)⟩, ⟨8, (some 65), none, .load true 6 (.s 6)⟩, ⟨9, (some 66), none, .call ⟨true⟩ (.k (.c (.fn 166 [] []))) [(.s 64), (.s 65)]⟩, ⟨10, (some 67), none, .iaddr 6 (.s 57) (.s 59)⟩, ⟨11, none, none, .store 6 (.s 67) (.s 66)⟩] [] (some [15, 14, 13, 4]))
  (.region 1 [⟨0, (some 68), none, .mv (.s 4)⟩, ⟨1, (some 69), none, .load true 6 (.s 6)⟩, ⟨2, (some 70), none, .lit 0 6 [[(.int .i64 0), (.int .i64 0), (.int .i64 0), (.int .i64 0), (.int .i64 0), (.int .i64 0)]] [(0, (.s 69))]⟩, ⟨3, (some 71), none, .append 6 48 (.s 68) (.s 70)⟩, ⟨4, (some 4), none, .mv (.s 71)⟩] [] (some [15, 14, 13, 4])))))))
  (.region 0 [⟨0, (some 72), none, .bin .add (.s 15) (.k (.c (.int .i64 1)))⟩, ⟨1, (some 15), none, .mv (.s 72)⟩] [] (some [15, 14, 13, 4])))))
abbrev f_motion_Join : Nat := 103
def c_motion_Join : CFn := { frz := true, rnd := none, nargs := 1, ntmps := 74, res := [(.slot 2)], code :=
  (.seq (.region 1 [⟨0, (some 2), none, .newsl 0 6⟩] [] (some [0]))
  (.seq (.region 0 [⟨0, (some 8), none, .mv (.s 0)⟩, ⟨1, (some 9), none, .call ⟨true⟩ (.k (.c (.fn 81 [] []))) [(.s 8)]⟩, ⟨2, (some 10), none, .call ⟨false⟩ (.k (.c (.fn 162 [] []))) [(.s 9), (.k (.c (.fn 163 [] [])))]⟩, ⟨3, (some 3), none, .mv (.s 10)⟩] [] (some [3]))
  (.seq (.region 0 [⟨0, (some 11), none, .mv (.s 3)⟩, ⟨1, (some 12), none, .call ⟨false⟩ (.k (.c (.fn 164 [] []))) [(.s 11), (.k (.c (.fn 165 [] [])))]⟩] [] (some [3]))
  (.seq (.region 1 [⟨0, (some 4), none, .newsl 0 6⟩] [] (some [3, 4]))
  (.seq (.seq (.region 0 [⟨0, (some 13), none, .mv (.s 3)⟩, ⟨1, (some 14), none, .len (.s 13)⟩, ⟨2, (some 15), none, .mv (.k (.c (.int .i64 0)))⟩] [] (some [15, 14, 13, 4]))
  (.block 0 (.loop (some [15, 14, 13, 4]) c_motion_Join_l1)))
  (.seq (.region 0 [⟨0, (some 73), none, .mv (.s 4)⟩, ⟨1, (some 2), none, .mv (.s 73)⟩] [] (some [2]))
  .ret)))))) }
def c_slices_Compact_Sweep_l1 : CC := (.seq (.seq (.region 0 [⟨0, (some 29), none, .mv (.s 5)⟩, ⟨1, (some 30), none, .mv (.s 4)⟩, ⟨2, (some 31), none, .len (.s 30)⟩, ⟨3, (some 32), none, .bin .lss (.s 29) (.s 31)⟩] [] (some [32, 3, 5, 0, 4]))
  (.cond (.s 32) .skip
  (.exit 2)))
  (.seq (.block 3 (.seq (.region 0 [⟨0, (some 35), none, .mv (.s 4)⟩, ⟨1, (some 36), none, .mv (.s 5)⟩, ⟨2, (some 37), none, .iaddr 4 (.s 35) (.s 36)⟩, ⟨4, (some 39), none, .mv (.s 4)⟩, ⟨5, (some 40), none, .mv (.s 5)⟩, ⟨6, (some 41), none, .bin .sub (.s 40) (.k (.c (.int .i64 1)))⟩, ⟨7, (some 42), none, .iaddr 4 (.s 39) (.s 41)⟩, ⟨3, (some 38), none, .load true 4 (.s 37)⟩, ⟨8, (some 43), none, .load true 4 (.s 42)⟩, ⟨9, (some 44), none, .eqa true [false, false, false, true] (.s 38) (.s 43)⟩] [] (some [44, 3, 5, 0, 4]))
  (.cond (.s 44) (.seq (.region 0 [⟨0, (some 45), none, .mv (.s 0)⟩, ⟨1, (some 46), none, .mv (.s 3)⟩, ⟨2, (some 47), none, .mv (.s 4)⟩, ⟨3, (some 48), none, .mv (.s 5)⟩, ⟨4, (some 49), none, .iaddr 4 (.s 47) (.s 48)⟩, ⟨5, (some 50), none, .load true 4 (.s 49)⟩, ⟨6, (some 51), none, .iaddr 4 (.s 45) (.s 46)⟩, ⟨7, none, none, .store 4 (.s 51) (.s 50)⟩] [] (some [3, 5, 0, 4]))
  (.region 0 [⟨0, (some 52), none, .mv (.s 3)⟩, ⟨1, (some 53), none, .bin .add (.s 52) (.k (.c (.int .i64 1)))⟩, ⟨2, (some 3), none, .mv (.s 53)⟩] [] (some [5, 3, 0, 4])))
  .skip)))
  (.region 0 [⟨0, (some 33), none, .mv (.s 5)⟩, ⟨1, (some 34), none, .bin .add (.s 33) (.k (.c (.int .i64 1)))⟩, ⟨2, (some 5), none, .mv (.s 34)⟩] [] (some [3, 5, 0, 4]))))
def c_slices_Compact_Sweep_l2 : CC := (.seq (.seq (.region 0 [⟨0, (some 10), none, .mv (.s 3)⟩, ⟨1, (some 11), none, .mv (.s 0)⟩, ⟨2, (some 12), none, .len (.s 11)⟩, ⟨3, (some 13), none, .bin .lss (.s 10) (.s 12)⟩] [] (some [13, 3, 0]))
  (.cond (.s 13) .skip
  (.exit 0)))
  (.seq (.block 1 (.seq (.region 0 [⟨0, (some 16), none, .mv (.s 0)⟩, ⟨1, (some 17), none, .mv (.s 3)⟩, ⟨2, (some 18), none, .iaddr 4 (.s 16) (.s 17)⟩, ⟨4, (some 20), none, .mv (.s 0)⟩, ⟨5, (some 21), none, .mv (.s 3)⟩, ⟨6, (some 22), none, .bin .sub (.s 21) (.k (.c (.int .i64 1)))⟩, ⟨7, (some 23), none, .iaddr 4 (.s 20) (.s 22)⟩, ⟨3, (some 19), none, .load true 4 (.s 18)⟩, ⟨8, (some 24), none, .load true 4 (.s 23)⟩, ⟨9, (some 25), none, .eqa false [false, false, false, true] (.s 19) (.s 24)⟩] [] (some [25, 3, 0]))
  (.cond (.s 25) (.seq (.region 0 [⟨0, (some 26), none, .mv (.s 0)⟩, ⟨1, (some 27), none, .mv (.s 3)⟩, ⟨2, (some 28), none, .slice 4 (.s 26) (some (.s 27)) none none⟩, ⟨3, (some 4), none, .mv (.s 28)⟩] [] (some [3, 0, 4]))
  (.seq (.seq (.region 0 [⟨0, (some 5), none, .mv (.k (.c (.int .i64 1)))⟩] [] (some [3, 5, 0, 4]))
  (.block 2 (.loop (some [3, 5, 0, 4]) c_slices_Compact_Sweep_l1)))
  (.seq (.region 0 [⟨0, (some 54), none, .mv (.s 0)⟩, ⟨1, (some 55), none, .mv (.s 3)⟩, ⟨2, (some 56), none, .slice 4 (.s 54) (some (.s 55)) none none⟩, ⟨3, none, none, .clear [(.int .i64 0), (.int .i64 0), (.int .i64 0), (.bool false)] (.s 56)⟩] [] (some [0, 3]))
  (.seq (.region 0 [⟨0, (some 57), none, .mv (.s 0)⟩, ⟨1, (some 58), none, .mv (.s 3)⟩, ⟨2, (some 59), none, .slice 4 (.s 57) none (some (.s 58)) none⟩, ⟨3, (some 2), none, .mv (.s 59)⟩] [] (some [2]))
  .ret))))
  .skip)))
  (.region 0 [⟨0, (some 14), none, .mv (.s 3)⟩, ⟨1, (some 15), none, .bin .add (.s 14) (.k (.c (.int .i64 1)))⟩, ⟨2, (some 3), none, .mv (.s 15)⟩] [] (some [3, 0]))))
abbrev f_slices_Compact_Sweep : Nat := 104
def c_slices_Compact_Sweep : CFn := { frz := false, rnd := none, nargs := 1, ntmps := 61, res := [(.slot 2)], code :=
  (.seq (.region 1 [⟨0, (some 2), none, .newsl 0 4⟩] [] (some [0]))
  (.seq (.seq (.region 0 [⟨0, (some 6), none, .mv (.s 0)⟩, ⟨1, (some 7), none, .len (.s 6)⟩, ⟨2, (some 8), none, .bin .lss (.s 7) (.k (.c (.int .i64 2)))⟩] [] (some [8, 0]))
  (.cond (.s 8) (.seq (.region 0 [⟨0, (some 9), none, .mv (.s 0)⟩, ⟨1, (some 2), none, .mv (.s 9)⟩] [] (some [2]))
  .ret)
  .skip))
  (.seq (.seq (.region 0 [⟨0, (some 3), none, .mv (.k (.c (.int .i64 1)))⟩] [] (some [3, 0]))
  (.block 0 (.loop (some [3, 0]) c_slices_Compact_Sweep_l2)))
  (.seq (.region 0 [⟨0, (some 60), none, .mv (.s 0)⟩, ⟨1, (some 2), none, .mv (.s 60)⟩] [] (some [2]))
  .ret)))) }
abbrev f_curve_Near : Nat := 105
def c_curve_Near : CFn := { frz := true, rnd := none, nargs := 3, ntmps := 86, res := [(.slot 6)], code :=
  (.seq (.region 4 [⟨0, (some 3), none, .box 0 1 (.s 0)⟩, ⟨1, (some 4), none, .box 1 2 (.s 1)⟩, ⟨2, (some 5), none, .box 2 1 (.s 2)⟩, ⟨3, (some 6), none, .newsl 3 1⟩] [] (some [4, 5, 6, 3]))
  (.seq (.seq (.region 1 [⟨0, (some 12), none, .load true 1 (.s 3)⟩, ⟨1, (some 13), none, .call ⟨true⟩ (.k (.c (.fn 149 [] []))) [(.s 12)]⟩, ⟨2, (some 14), none, .bin .neq (.s 13) (.k (.c (.int .i64 0)))⟩, ⟨3, (some 15), none, .mv (.s 14)⟩, ⟨4, (some 16), (some (15, false)), .load true 2 (.s 4)⟩, ⟨5, (some 17), (some (15, false)), .lit 0 2 [[(.int .i64 0), (.int .i64 0)]] [(0, (.s 16))]⟩, ⟨6, (some 18), (some (15, false)), .call ⟨true⟩ (.k (.c (.fn 167 [] []))) [(.s 17)]⟩, ⟨7, (some 19), (some (15, false)), .un .not (.s 18)⟩, ⟨8, (some 20), none, .pick (.s 15) (.k (.c (.bool true))) (.s 19)⟩, ⟨9, (some 21), none, .mv (.s 20)⟩, ⟨10, (some 22), (some (21, false)), .load false 1 (.s 5)⟩, ⟨11, (some 23), (some (21, false)), .bin .lss (.s 22) (.k (.c (.int .i64 0)))⟩, ⟨12, (some 24), none, .pick (.s 21) (.k (.c (.bool true))) (.s 23)⟩, ⟨13, (some 25), none, .mv (.s 24)⟩, ⟨14, (some 26), (some (25, false)), .load false 1 (.s 5)⟩, ⟨15, (some 27), (some (25, false)), .bin .gtr (.s 26) (.k (.c (.int .i64 16777216)))⟩, ⟨16, (some 28), none, .pick (.s 25) (.k (.c (.bool true))) (.s 27)⟩] [] (some [28, 4, 5, 6, 3]))
  (.cond (.s 28) (.seq (.region 1 [⟨0, (some 6), none, .newsl 0 1⟩] [] (some [6]))
  .ret)
  .skip))
  (.seq (.region 1 [⟨0, (some 7), none, .box 0 1 (.k (.a [.nilslice]))⟩] [] (some [3, 6, 5, 4, 7]))
  (.seq (.seq (.region 0 [⟨0, (some 29), none, .load true 1 (.s 3)⟩, ⟨1, (some 30), none, .call ⟨true⟩ (.k (.c (.fn 168 [] []))) [(.s 29)]⟩] [] (some [6, 30, 5, 4, 7]))
  (.block 0 (.rng (.s 30) 2015 [4, 5, 7])))
  (.seq (.region 0 [⟨0, (some 85), none, .load false 1 (.s 7)⟩, ⟨1, (some 6), none, .mv (.s 85)⟩] [] (some [6]))
  .ret))))) }
abbrev f_curve_Near_r1 : Nat := 2015
def c_curve_Near_r1 : CFn := { frz := false, rnd := (some ([31, 32], (.region 1 [⟨0, (some 9), none, .box 0 6 (.k (.a [(.int .i64 0), (.int .i64 0), (.int .i64 0), (.int .i64 0), (.int .i64 0), (.int .i64 0)]))⟩, ⟨1, none, none, .store 6 (.s 9) (.s 32)⟩] [] (some [4, 5, 7, 9])))), nargs := 3, ntmps := 86, res := [], code :=
  (.block 1 (.seq (.region 1 [⟨0, (some 33), none, .faddr 0 (.s 9)⟩, ⟨1, (some 34), none, .load true 2 (.s 33)⟩, ⟨2, (some 35), none, .load true 2 (.s 4)⟩, ⟨3, (some 36), none, .call ⟨true⟩ (.k (.c (.fn 169 [] []))) [(.s 34), (.s 35)]⟩, ⟨4, (some 10), none, .box 0 2 (.k (.a [(.int .i64 0), (.int .i64 0)]))⟩, ⟨5, none, none, .store 2 (.s 10) (.s 36)⟩] [] (some [10, 5, 7, 9]))
  (.seq (.region 0 [⟨0, (some 37), none, .faddr 2 (.s 9)⟩, ⟨1, (some 38), none, .load true 2 (.s 37)⟩, ⟨2, (some 39), none, .load true 2 (.s 10)⟩, ⟨3, (some 40), none, .call ⟨true⟩ (.k (.c (.fn 170 [] []))) [(.s 38), (.s 39)]⟩, ⟨4, (some 11), none, .mv (.s 40)⟩] [] (some [10, 5, 7, 9, 11]))
  (.seq (.seq (.region 0 [⟨0, (some 41), none, .faddr 2 (.s 9)⟩, ⟨6, (some 47), none, .faddr 4 (.s 9)⟩, ⟨1, (some 42), none, .load true 2 (.s 41)⟩, ⟨2, (some 43), none, .load true 2 (.s 10)⟩, ⟨5, (some 46), none, .load false 1 (.s 5)⟩, ⟨7, (some 48), none, .load false 1 (.s 47)⟩, ⟨8, (some 49), none, .bin .mul (.s 46) (.s 48)⟩, ⟨3, (some 44), none, .call ⟨true⟩ (.k (.c (.fn 172 [] []))) [(.s 42), (.s 43)]⟩, ⟨4, (some 45), none, .call ⟨true⟩ (.k (.c (.fn 171 [] []))) [(.s 44)]⟩, ⟨9, (some 50), none, .bin .gtr (.s 45) (.s 49)⟩, ⟨10, (some 51), none, .mv (.s 50)⟩, ⟨11, (some 52), (some (51, false)), .mv (.s 11)⟩, ⟨14, (some 55), (some (51, false)), .faddr 4 (.s 9)⟩, ⟨12, (some 53), (some (51, false)), .load false 1 (.s 5)⟩, ⟨13, (some 54), (some (51, false)), .un .neg (.s 53)⟩, ⟨15, (some 56), (some (51, false)), .load false 1 (.s 55)⟩, ⟨16, (some 57), (some (51, false)), .bin .mul (.s 54) (.s 56)⟩, ⟨17, (some 58), (some (51, false)), .bin .lss (.s 52) (.s 57)⟩, ⟨18, (some 59), none, .pick (.s 51) (.k (.c (.bool true))) (.s 58)⟩, ⟨19, (some 60), none, .mv (.s 59)⟩, ⟨20, (some 61), (some (60, false)), .mv (.s 11)⟩, ⟨21, (some 62), (some (60, false)), .faddr 4 (.s 9)⟩, ⟨25, (some 66), (some (60, false)), .faddr 4 (.s 9)⟩, ⟨22, (some 63), (some (60, false)), .load false 1 (.s 62)⟩, ⟨23, (some 64), (some (60, false)), .load false 1 (.s 5)⟩, ⟨24, (some 65), (some (60, false)), .bin .add (.s 63) (.s 64)⟩, ⟨26, (some 67), (some (60, false)), .load false 1 (.s 66)⟩, ⟨27, (some 68), (some (60, false)), .bin .mul (.s 65) (.s 67)⟩, ⟨28, (some 69), (some (60, false)), .bin .gtr (.s 61) (.s 68)⟩, ⟨29, (some 70), none, .pick (.s 60) (.k (.c (.bool true))) (.s 69)⟩] [(4, 7), (4, 8), (5, 7), (5, 8)] (some [70, 7, 9, 11]))
  (.cond (.s 70) (.exit 1)
  .skip))
  (.region 1 [⟨1, (some 72), none, .faddr 5 (.s 9)⟩, ⟨3, (some 74), none, .mv (.s 11)⟩, ⟨4, (some 75), none, .faddr 4 (.s 9)⟩, ⟨7, (some 78), none, .faddr 4 (.s 9)⟩, ⟨0, (some 71), none, .load false 1 (.s 7)⟩, ⟨2, (some 73), none, .load false 1 (.s 72)⟩, ⟨5, (some 76), none, .load false 1 (.s 75)⟩, ⟨8, (some 79), none, .load false 1 (.s 78)⟩, ⟨6, (some 77), none, .call ⟨true⟩ (.k (.c (.fn 173 [] []))) [(.s 74), (.s 76)]⟩, ⟨9, (some 80), none, .minmax false [(.s 77), (.s 79)]⟩, ⟨10, (some 81), none, .minmax true [(.k (.c (.int .i64 0))), (.s 80)]⟩, ⟨11, (some 82), none, .bin .add (.s 73) (.s 81)⟩, ⟨12, (some 83), none, .lit 0 1 [[(.int .i64 0)]] [(0, (.s 82))]⟩, ⟨13, (some 84), none, .append 1 8 (.s 71) (.s 83)⟩, ⟨14, none, none, .store 1 (.s 7) (.s 84)⟩] [(4, 8), (4, 12), (5, 8), (7, 8)] (some [])))))) }
def c_slices_pdqsortCmpFunc_Found_l1 : CC := (.block 1 (.seq (.region 0 [⟨0, (some 21), none, .mv (.s 2)⟩, ⟨1, (some 22), none, .mv (.s 1)⟩, ⟨2, (some 23), none, .bin .sub (.s 21) (.s 22)⟩, ⟨3, (some 12), none, .mv (.s 23)⟩] [] (some [3, 11, 10, 12, 0, 1, 2, 4]))
  (.seq (.seq (.region 0 [⟨0, (some 24), none, .mv (.s 12)⟩, ⟨1, (some 25), none, .bin .leq (.s 24) (.k (.c (.int .i64 12)))⟩] [] (some [25, 3, 11, 10, 12, 0, 1, 2, 4]))
  (.cond (.s 25) (.seq (.region 0 [⟨0, (some 26), none, .mv (.s 0)⟩, ⟨1, (some 27), none, .mv (.s 1)⟩, ⟨2, (some 28), none, .mv (.s 2)⟩, ⟨3, (some 29), none, .mv (.s 4)⟩, ⟨4, (some 30), none, .call ⟨false⟩ (.k (.c (.fn 174 [] []))) [(.s 26), (.s 27), (.s 28), (.s 29)]⟩] [] (some []))
  .ret)
  .skip))
  (.seq (.seq (.region 0 [⟨0, (some 31), none, .mv (.s 3)⟩, ⟨1, (some 32), none, .bin .eql (.s 31) (.k (.c (.int .i64 0)))⟩] [] (some [32, 12, 10, 11, 3, 0, 1, 2, 4]))
  (.cond (.s 32) (.seq (.region 0 [⟨0, (some 33), none, .mv (.s 0)⟩, ⟨1, (some 34), none, .mv (.s 1)⟩, ⟨2, (some 35), none, .mv (.s 2)⟩, ⟨3, (some 36), none, .mv (.s 4)⟩, ⟨4, (some 37), none, .call ⟨false⟩ (.k (.c (.fn 175 [] []))) [(.s 33), (.s 34), (.s 35), (.s 36)]⟩] [] (some []))
  .ret)
  .skip))
  (.seq (.seq (.region 0 [⟨0, (some 38), none, .mv (.s 10)⟩, ⟨1, (some 39), none, .un .not (.s 38)⟩] [] (some [39, 3, 4, 2, 0, 11, 10, 1, 12]))
  (.cond (.s 39) (.seq (.region 0 [⟨0, (some 40), none, .mv (.s 0)⟩, ⟨1, (some 41), none, .mv (.s 1)⟩, ⟨2, (some 42), none, .mv (.s 2)⟩, ⟨3, (some 43), none, .mv (.s 4)⟩, ⟨4, (some 44), none, .call ⟨false⟩ (.k (.c (.fn 176 [] []))) [(.s 40), (.s 41), (.s 42), (.s 43)]⟩] [] (some [3, 4, 2, 0, 11, 10, 1, 12]))
  (.region 0 [⟨0, (some 45), none, .mv (.s 3)⟩, ⟨1, (some 46), none, .bin .sub (.s 45) (.k (.c (.int .i64 1)))⟩, ⟨2, (some 3), none, .mv (.s 46)⟩] [] (some [4, 2, 0, 11, 10, 3, 1, 12])))
  .skip))
  (.seq (.region 0 [⟨0, (some 48), none, .mv (.s 0)⟩, ⟨1, (some 49), none, .mv (.s 1)⟩, ⟨2, (some 50), none, .mv (.s 2)⟩, ⟨3, (some 51), none, .mv (.s 4)⟩, ⟨4, (some 52), none, .call ⟨false⟩ (.k (.c (.fn 177 [] []))) [(.s 48), (.s 49), (.s 50), (.s 51)]⟩, ⟨5, (some 47), none, .mv (.s 52)⟩, ⟨6, (some 53), none, .extract 47 0⟩, ⟨7, (some 54), none, .extract 47 1⟩, ⟨8, (some 13), none, .mv (.s 53)⟩, ⟨9, (some 14), none, .mv (.s 54)⟩] [] (some [14, 13, 4, 2, 0, 11, 10, 3, 1, 12]))
  (.seq (.seq (.region 0 [⟨0, (some 55), none, .mv (.s 14)⟩, ⟨1, (some 56), none, .bin .eql (.s 55) (.k (.c (.int .i64 2)))⟩] [] (some [56, 14, 13, 4, 2, 0, 11, 10, 3, 1, 12]))
  (.cond (.s 56) (.seq (.region 0 [⟨0, (some 57), none, .mv (.s 0)⟩, ⟨1, (some 58), none, .mv (.s 1)⟩, ⟨2, (some 59), none, .mv (.s 2)⟩, ⟨3, (some 60), none, .mv (.s 4)⟩, ⟨4, (some 61), none, .call ⟨false⟩ (.k (.c (.fn 178 [] []))) [(.s 57), (.s 58), (.s 59), (.s 60)]⟩] [] (some [13, 4, 2, 0, 11, 10, 3, 1, 12]))
  (.seq (.region 0 [⟨0, (some 62), none, .mv (.s 2)⟩, ⟨1, (some 63), none, .bin .sub (.s 62) (.k (.c (.int .i64 1)))⟩, ⟨2, (some 64), none, .mv (.s 13)⟩, ⟨3, (some 65), none, .mv (.s 1)⟩, ⟨4, (some 66), none, .bin .sub (.s 64) (.s 65)⟩, ⟨5, (some 67), none, .bin .sub (.s 63) (.s 66)⟩, ⟨6, (some 13), none, .mv (.s 67)⟩] [] (some [4, 2, 0, 11, 10, 3, 13, 1, 12]))
  (.region 0 [⟨0, (some 14), none, .mv (.k (.c (.int .i64 1)))⟩] [] (some [14, 4, 2, 0, 11, 10, 3, 13, 1, 12]))))
  .skip))
  (.seq (.seq (.region 0 [⟨0, (some 68), none, .mv (.s 10)⟩, ⟨1, (some 69), none, .mv (.s 68)⟩, ⟨2, (some 70), (some (69, true)), .mv (.s 11)⟩, ⟨3, (some 71), none, .pick (.s 69) (.s 70) (.k (.c (.bool false)))⟩, ⟨4, (some 72), none, .mv (.s 71)⟩, ⟨5, (some 73), (some (72, true)), .mv (.s 14)⟩, ⟨6, (some 74), (some (72, true)), .bin .eql (.s 73) (.k (.c (.int .i64 1)))⟩, ⟨7, (some 75), none, .pick (.s 72) (.s 74) (.k (.c (.bool false)))⟩] [] (some [75, 4, 2, 0, 11, 10, 3, 13, 1, 12]))
  (.cond (.s 75) (.seq (.region 0 [⟨0, (some 76), none, .mv (.s 0)⟩, ⟨1, (some 77), none, .mv (.s 1)⟩, ⟨2, (some 78), none, .mv (.s 2)⟩, ⟨3, (some 79), none, .mv (.s 4)⟩, ⟨4, (some 80), none, .call ⟨false⟩ (.k (.c (.fn 179 [] []))) [(.s 76), (.s 77), (.s 78), (.s 79)]⟩] [] (some [80, 4, 2, 0, 11, 10, 3, 13, 1, 12]))
  (.cond (.s 80) .ret
  .skip))
  .skip))
  (.seq (.seq (.region 0 [⟨0, (some 81), none, .mv (.s 1)⟩, ⟨1, (some 82), none, .bin .gtr (.s 81) (.k (.c (.int .i64 0)))⟩, ⟨2, (some 83), none, .mv (.s 82)⟩, ⟨3, (some 84), (some (83, true)), .mv (.s 4)⟩, ⟨4, (some 85), (some (83, true)), .mv (.s 0)⟩, ⟨5, (some 86), (some (83, true)), .mv (.s 1)⟩, ⟨6, (some 87), (some (83, true)), .bin .sub (.s 86) (.k (.c (.int .i64 1)))⟩, ⟨7, (some 88), (some (83, true)), .iaddr 5 (.s 85) (.s 87)⟩, ⟨9, (some 90), (some (83, true)), .mv (.s 0)⟩, ⟨10, (some 91), (some (83, true)), .mv (.s 13)⟩, ⟨11, (some 92), (some (83, true)), .iaddr 5 (.s 90) (.s 91)⟩, ⟨8, (some 89), (some (83, true)), .load true 5 (.s 88)⟩, ⟨12, (some 93), (some (83, true)), .load true 5 (.s 92)⟩, ⟨13, (some 94), (some (83, true)), .call ⟨true⟩ (.s 84) [(.s 89), (.s 93)]⟩, ⟨14, (some 95), (some (83, true)), .bin .lss (.s 94) (.k (.c (.int .i64 0)))⟩, ⟨15, (some 96), (some (83, true)), .un .not (.s 95)⟩, ⟨16, (some 97), none, .pick (.s 83) (.s 96) (.k (.c (.bool false)))⟩] [] (some [97, 12, 1, 13, 3, 10, 11, 0, 2, 4]))
  (.cond (.s 97) (.seq (.region 0 [⟨0, (some 98), none, .mv (.s 0)⟩, ⟨1, (some 99), none, .mv (.s 1)⟩, ⟨2, (some 100), none, .mv (.s 2)⟩, ⟨3, (some 101), none, .mv (.s 13)⟩, ⟨4, (some 102), none, .mv (.s 4)⟩, ⟨5, (some 103), none, .call ⟨false⟩ (.k (.c (.fn 180 [] []))) [(.s 98), (.s 99), (.s 100), (.s 101), (.s 102)]⟩, ⟨6, (some 15), none, .mv (.s 103)⟩] [] (some [15, 3, 10, 11, 0, 2, 4]))
  (.seq (.region 0 [⟨0, (some 104), none, .mv (.s 15)⟩, ⟨1, (some 1), none, .mv (.s 104)⟩] [] (some [3, 10, 11, 0, 1, 2, 4]))
  (.exit 1)))
  .skip))
  (.seq (.region 0 [⟨0, (some 106), none, .mv (.s 0)⟩, ⟨1, (some 107), none, .mv (.s 1)⟩, ⟨2, (some 108), none, .mv (.s 2)⟩, ⟨3, (some 109), none, .mv (.s 13)⟩, ⟨4, (some 110), none, .mv (.s 4)⟩, ⟨5, (some 111), none, .call ⟨false⟩ (.k (.c (.fn 181 [] []))) [(.s 106), (.s 107), (.s 108), (.s 109), (.s 110)]⟩, ⟨6, (some 105), none, .mv (.s 111)⟩, ⟨7, (some 112), none, .extract 105 0⟩, ⟨8, (some 113), none, .extract 105 1⟩, ⟨9, (some 16), none, .mv (.s 112)⟩, ⟨10, (some 17), none, .mv (.s 113)⟩] [] (some [17, 12, 1, 16, 3, 0, 2, 4]))
  (.seq (.region 0 [⟨0, (some 114), none, .mv (.s 17)⟩, ⟨1, (some 11), none, .mv (.s 114)⟩] [] (some [12, 1, 16, 3, 11, 0, 2, 4]))
  (.seq (.region 0 [⟨0, (some 115), none, .mv (.s 16)⟩, ⟨1, (some 116), none, .mv (.s 1)⟩, ⟨2, (some 117), none, .bin .sub (.s 115) (.s 116)⟩, ⟨3, (some 118), none, .mv (.s 2)⟩, ⟨4, (some 119), none, .mv (.s 16)⟩, ⟨5, (some 120), none, .bin .sub (.s 118) (.s 119)⟩, ⟨6, (some 18), none, .mv (.s 117)⟩, ⟨7, (some 19), none, .mv (.s 120)⟩] [] (some [12, 19, 18, 1, 16, 3, 11, 0, 2, 4]))
  (.seq (.region 0 [⟨0, (some 121), none, .mv (.s 12)⟩, ⟨1, (some 122), none, .bin .quo (.s 121) (.k (.c (.int .i64 8)))⟩, ⟨2, (some 20), none, .mv (.s 122)⟩] [] (some [19, 18, 20, 1, 16, 3, 11, 0, 2, 4]))
  (.seq (.region 0 [⟨0, (some 123), none, .mv (.s 18)⟩, ⟨1, (some 124), none, .mv (.s 19)⟩, ⟨2, (some 125), none, .bin .lss (.s 123) (.s 124)⟩] [] (some [125, 19, 18, 20, 1, 16, 3, 11, 0, 2, 4]))
  (.cond (.s 125) (.seq (.region 0 [⟨0, (some 126), none, .mv (.s 18)⟩, ⟨1, (some 127), none, .mv (.s 20)⟩, ⟨2, (some 128), none, .bin .geq (.s 126) (.s 127)⟩, ⟨3, (some 10), none, .mv (.s 128)⟩] [] (some [1, 16, 3, 10, 11, 0, 2, 4]))
  (.seq (.region 0 [⟨0, (some 129), none, .mv (.s 0)⟩, ⟨1, (some 130), none, .mv (.s 1)⟩, ⟨2, (some 131), none, .mv (.s 16)⟩, ⟨3, (some 132), none, .mv (.s 3)⟩, ⟨4, (some 133), none, .mv (.s 4)⟩, ⟨5, (some 134), none, .call ⟨false⟩ (.k (.c (.fn 106 [] []))) [(.s 129), (.s 130), (.s 131), (.s 132), (.s 133)]⟩] [] (some [16, 3, 10, 11, 0, 2, 4]))
  (.region 0 [⟨0, (some 135), none, .mv (.s 16)⟩, ⟨1, (some 136), none, .bin .add (.s 135) (.k (.c (.int .i64 1)))⟩, ⟨2, (some 1), none, .mv (.s 136)⟩] [] (some [3, 10, 11, 0, 1, 2, 4]))))
  (.seq (.region 0 [⟨0, (some 137), none, .mv (.s 19)⟩, ⟨1, (some 138), none, .mv (.s 20)⟩, ⟨2, (some 139), none, .bin .geq (.s 137) (.s 138)⟩, ⟨3, (some 10), none, .mv (.s 139)⟩] [] (some [2, 16, 3, 10, 11, 0, 1, 4]))
  (.seq (.region 0 [⟨0, (some 140), none, .mv (.s 0)⟩, ⟨1, (some 141), none, .mv (.s 16)⟩, ⟨2, (some 142), none, .bin .add (.s 141) (.k (.c (.int .i64 1)))⟩, ⟨3, (some 143), none, .mv (.s 2)⟩, ⟨4, (some 144), none, .mv (.s 3)⟩, ⟨5, (some 145), none, .mv (.s 4)⟩, ⟨6, (some 146), none, .call ⟨false⟩ (.k (.c (.fn 106 [] []))) [(.s 140), (.s 142), (.s 143), (.s 144), (.s 145)]⟩] [] (some [16, 3, 10, 11, 0, 1, 4]))
  (.region 0 [⟨0, (some 147), none, .mv (.s 16)⟩, ⟨1, (some 2), none, .mv (.s 147)⟩] [] (some [3, 10, 11, 0, 1, 2, 4])))))))))))))))))))
abbrev f_slices_pdqsortCmpFunc_Found : Nat := 106
def c_slices_pdqsortCmpFunc_Found : CFn := { frz := true, rnd := none, nargs := 5, ntmps := 148, res := [], code :=
  (.seq (.region 0 [⟨0, (some 10), none, .mv (.k (.c (.bool true)))⟩] [] (some [3, 10, 0, 1, 2, 4]))
  (.seq (.region 0 [⟨0, (some 11), none, .mv (.k (.c (.bool true)))⟩] [] (some [3, 10, 11, 0, 1, 2, 4]))
  (.block 0 (.loop (some [3, 10, 11, 0, 1, 2, 4]) c_slices_pdqsortCmpFunc_Found_l1)))) }
abbrev f_math_bits_Len : Nat := 107
def c_math_bits_Len : CFn := { frz := true, rnd := none, nargs := 1, ntmps := 8, res := [(.slot 2)], code :=
  (.seq (.region 0 [⟨0, (some 2), none, .mv (.k (.c (.int .i64 0)))⟩] [] (some [0]))
  (.seq (.cond (.k (.c (.bool false))) (.seq (.region 0 [⟨0, (some 3), none, .mv (.s 0)⟩, ⟨1, (some 4), none, .conv .u32 (.s 3)⟩, ⟨2, (some 5), none, .call ⟨true⟩ (.k (.c (.fn 182 [] []))) [(.s 4)]⟩, ⟨3, (some 2), none, .mv (.s 5)⟩] [] (some [2]))
  .ret)
  .skip)
  (.seq (.region 0 [⟨0, (some 6), none, .mv (.s 0)⟩, ⟨1, (some 7), none, .call ⟨true⟩ (.k (.c (.fn 183 [] []))) [(.s 6)]⟩, ⟨2, (some 2), none, .mv (.s 7)⟩] [] (some [2]))
  .ret))) }
abbrev f_cmp_isNaN_int64 : Nat := 108
def c_cmp_isNaN_int64 : CFn := { frz := true, rnd := none, nargs := 1, ntmps := 6, res := [(.slot 2)], code :=
  (.seq (.region 0 [⟨0, (some 2), none, .mv (.k (.c (.bool false)))⟩] [] (some [0]))
  (.seq (.region 0 [⟨0, (some 3), none, .mv (.s 0)⟩, ⟨1, (some 4), none, .mv (.s 0)⟩, ⟨2, (some 5), none, .bin .neq (.s 3) (.s 4)⟩, ⟨3, (some 2), none, .mv (.s 5)⟩] [] (some [2]))
  .ret)) }
abbrev f_motion_ends_Span : Nat := 109
def c_motion_ends_Span : CFn := { frz := true, rnd := none, nargs := 1, ntmps := 35, res := [(.slot 2), (.slot 3), (.slot 4)], code :=
  (.seq (.region 0 [⟨0, (some 2), none, .mv (.k (.c (.int .i64 0)))⟩, ⟨1, (some 3), none, .mv (.k (.c .nilptr))⟩, ⟨2, (some 4), none, .mv (.k (.c .nilptr))⟩] [] (some [0]))
  (.seq (.seq (.region 0 [⟨0, (some 7), none, .mv (.s 0)⟩, ⟨1, (some 8), none, .p1 (.mkif 208) (.s 7)⟩] [] (some [8]))
  (.block 0 (.seq (.region 0 [⟨0, (some 9), none, .p1 (.tass true 210 (.c .nilptr)) (.s 8)⟩, ⟨1, (some 10), none, .extract 9 1⟩, ⟨2, (some 11), none, .extract 9 0⟩] [] (some [10, 8, 11]))
  (.cond (.s 10) (.seq (.region 0 [⟨0, (some 5), none, .mv (.s 11)⟩] [] (some [5]))
  (.seq (.region 0 [⟨0, (some 12), none, .mv (.s 5)⟩, ⟨1, (some 13), none, .nilck (.s 12)⟩, ⟨2, (some 14), none, .faddr 0 (.s 13)⟩, ⟨4, (some 16), none, .mv (.s 5)⟩, ⟨5, (some 17), none, .nilck (.s 16)⟩, ⟨6, (some 18), none, .faddr 1 (.s 17)⟩, ⟨7, (some 19), none, .mv (.s 5)⟩, ⟨8, (some 20), none, .nilck (.s 19)⟩, ⟨9, (some 21), none, .faddr 2 (.s 20)⟩, ⟨3, (some 15), none, .load false 1 (.s 14)⟩, ⟨10, (some 2), none, .mv (.s 15)⟩, ⟨11, (some 3), none, .mv (.s 18)⟩, ⟨12, (some 4), none, .mv (.s 21)⟩] [] (some [2, 3, 4]))
  .ret))
  (.seq (.region 0 [⟨0, (some 22), none, .p1 (.tass true 208 (.c .nilptr)) (.s 8)⟩, ⟨1, (some 23), none, .extract 22 1⟩, ⟨2, (some 24), none, .extract 22 0⟩] [] (some [23, 24]))
  (.cond (.s 23) (.seq (.region 0 [⟨0, (some 6), none, .mv (.s 24)⟩] [] (some [6]))
  (.seq (.region 0 [⟨0, (some 25), none, .mv (.s 6)⟩, ⟨1, (some 26), none, .nilck (.s 25)⟩, ⟨2, (some 27), none, .faddr 0 (.s 26)⟩, ⟨4, (some 29), none, .mv (.s 6)⟩, ⟨5, (some 30), none, .nilck (.s 29)⟩, ⟨6, (some 31), none, .faddr 1 (.s 30)⟩, ⟨7, (some 32), none, .mv (.s 6)⟩, ⟨8, (some 33), none, .nilck (.s 32)⟩, ⟨9, (some 34), none, .faddr 2 (.s 33)⟩, ⟨3, (some 28), none, .load false 1 (.s 27)⟩, ⟨10, (some 2), none, .mv (.s 28)⟩, ⟨11, (some 3), none, .mv (.s 31)⟩, ⟨12, (some 4), none, .mv (.s 34)⟩] [] (some [2, 3, 4]))
  .ret))
  .skip))))))
  (.seq (.region 0 [⟨0, (some 2), none, .mv (.k (.c (.int .i64 0)))⟩, ⟨1, (some 3), none, .mv (.k (.c .nilptr))⟩, ⟨2, (some 4), none, .mv (.k (.c .nilptr))⟩] [] (some [2, 3, 4]))
  .ret))) }
abbrev f_motion_ends_Blob : Nat := 110
def c_motion_ends_Blob : CFn := { frz := true, rnd := none, nargs := 1, ntmps := 35, res := [(.slot 2), (.slot 3), (.slot 4)], code :=
  (.seq (.region 0 [⟨0, (some 2), none, .mv (.k (.c (.int .i64 0)))⟩, ⟨1, (some 3), none, .mv (.k (.c .nilptr))⟩, ⟨2, (some 4), none, .mv (.k (.c .nilptr))⟩] [] (some [0]))
  (.seq (.seq (.region 0 [⟨0, (some 7), none, .mv (.s 0)⟩, ⟨1, (some 8), none, .p1 (.mkif 210) (.s 7)⟩] [] (some [8]))
  (.block 0 (.seq (.region 0 [⟨0, (some 9), none, .p1 (.tass true 210 (.c .nilptr)) (.s 8)⟩, ⟨1, (some 10), none, .extract 9 1⟩, ⟨2, (some 11), none, .extract 9 0⟩] [] (some [10, 8, 11]))
  (.cond (.s 10) (.seq (.region 0 [⟨0, (some 5), none, .mv (.s 11)⟩] [] (some [5]))
  (.seq (.region 0 [⟨0, (some 12), none, .mv (.s 5)⟩, ⟨1, (some 13), none, .nilck (.s 12)⟩, ⟨2, (some 14), none, .faddr 0 (.s 13)⟩, ⟨4, (some 16), none, .mv (.s 5)⟩, ⟨5, (some 17), none, .nilck (.s 16)⟩, ⟨6, (some 18), none, .faddr 1 (.s 17)⟩, ⟨7, (some 19), none, .mv (.s 5)⟩, ⟨8, (some 20), none, .nilck (.s 19)⟩, ⟨9, (some 21), none, .faddr 2 (.s 20)⟩, ⟨3, (some 15), none, .load false 1 (.s 14)⟩, ⟨10, (some 2), none, .mv (.s 15)⟩, ⟨11, (some 3), none, .mv (.s 18)⟩, ⟨12, (some 4), none, .mv (.s 21)⟩] [] (some [2, 3, 4]))
  .ret))
  (.seq (.region 0 [⟨0, (some 22), none, .p1 (.tass true 208 (.c .nilptr)) (.s 8)⟩, ⟨1, (some 23), none, .extract 22 1⟩, ⟨2, (some 24), none, .extract 22 0⟩] [] (some [23, 24]))
  (.cond (.s 23) (.seq (.region 0 [⟨0, (some 6), none, .mv (.s 24)⟩] [] (some [6]))
  (.seq (.region 0 [⟨0, (some 25), none, .mv (.s 6)⟩, ⟨1, (some 26), none, .nilck (.s 25)⟩, ⟨2, (some 27), none, .faddr 0 (.s 26)⟩, ⟨4, (some 29), none, .mv (.s 6)⟩, ⟨5, (some 30), none, .nilck (.s 29)⟩, ⟨6, (some 31), none, .faddr 1 (.s 30)⟩, ⟨7, (some 32), none, .mv (.s 6)⟩, ⟨8, (some 33), none, .nilck (.s 32)⟩, ⟨9, (some 34), none, .faddr 2 (.s 33)⟩, ⟨3, (some 28), none, .load false 1 (.s 27)⟩, ⟨10, (some 2), none, .mv (.s 28)⟩, ⟨11, (some 3), none, .mv (.s 31)⟩, ⟨12, (some 4), none, .mv (.s 34)⟩] [] (some [2, 3, 4]))
  .ret))
  .skip))))))
  (.seq (.region 0 [⟨0, (some 2), none, .mv (.k (.c (.int .i64 0)))⟩, ⟨1, (some 3), none, .mv (.k (.c .nilptr))⟩, ⟨2, (some 4), none, .mv (.k (.c .nilptr))⟩] [] (some [2, 3, 4]))
  .ret))) }
def c_slices_IndexFunc_Span_l1 : CC := (.seq (.region 0 [⟨0, (some 9), none, .bin .lss (.s 8) (.s 7)⟩] [] (some [9, 0, 1, 7, 8]))
  (.seq (.cond (.s 9) .skip
  (.exit 0))
  (.seq (.block 1 (.seq (.region 0 [⟨0, (some 10), none, .mv (.s 8)⟩, ⟨1, (some 5), none, .mv (.s 10)⟩] [] (some [0, 1, 7, 8, 5]))
  (.seq (.region 0 [⟨0, (some 11), none, .mv (.s 1)⟩, ⟨1, (some 12), none, .mv (.s 0)⟩, ⟨2, (some 13), none, .mv (.s 5)⟩, ⟨3, (some 14), none, .iaddr 3 (.s 12) (.s 13)⟩, ⟨4, (some 15), none, .load true 3 (.s 14)⟩, ⟨5, (some 16), none, .call ⟨true⟩ (.s 11) [(.s 15)]⟩] [] (some [16, 0, 1, 7, 8, 5]))
  (.cond (.s 16) (.seq (.region 0 [⟨0, (some 17), none, .mv (.s 5)⟩, ⟨1, (some 4), none, .mv (.s 17)⟩] [] (some [4]))
  .ret)
  .skip))))
  (.region 0 [⟨0, (some 18), none, .bin .add (.s 8) (.k (.c (.int .i64 1)))⟩, ⟨1, (some 8), none, .mv (.s 18)⟩] [] (some [7, 1, 0, 8])))))
abbrev f_slices_IndexFunc_Span : Nat := 111
def c_slices_IndexFunc_Span : CFn := { frz := true, rnd := none, nargs := 2, ntmps := 19, res := [(.slot 4)], code :=
  (.seq (.region 0 [⟨0, (some 4), none, .mv (.k (.c (.int .i64 0)))⟩] [] (some [1, 0]))
  (.seq (.seq (.region 0 [⟨0, (some 6), none, .mv (.s 0)⟩, ⟨1, (some 7), none, .len (.s 6)⟩, ⟨2, (some 8), none, .mv (.k (.c (.int .i64 0)))⟩] [] (some [7, 1, 0, 8]))
  (.block 0 (.loop (some [7, 1, 0, 8]) c_slices_IndexFunc_Span_l1)))
  (.seq (.region 0 [⟨0, (some 4), none, .mv (.k (.c (.int .i64 (-1))))⟩] [] (some [4]))
  .ret))) }
def c_slices_MinFunc_Found_l1 : CC := (.seq (.seq (.region 0 [⟨0, (some 14), none, .mv (.s 6)⟩, ⟨1, (some 15), none, .mv (.s 0)⟩, ⟨2, (some 16), none, .len (.s 15)⟩, ⟨3, (some 17), none, .bin .lss (.s 14) (.s 16)⟩] [] (some [17, 6, 4, 1, 0, 5]))
  (.cond (.s 17) .skip
  (.exit 0)))
  (.seq (.block 1 (.seq (.region 0 [⟨0, (some 20), none, .mv (.s 1)⟩, ⟨1, (some 21), none, .mv (.s 0)⟩, ⟨2, (some 22), none, .mv (.s 6)⟩, ⟨3, (some 23), none, .iaddr 5 (.s 21) (.s 22)⟩, ⟨4, (some 24), none, .load true 5 (.s 23)⟩, ⟨5, (some 25), none, .load true 5 (.s 5)⟩, ⟨6, (some 26), none, .call ⟨true⟩ (.s 20) [(.s 24), (.s 25)]⟩, ⟨7, (some 27), none, .bin .lss (.s 26) (.k (.c (.int .i64 0)))⟩] [] (some [27, 6, 4, 1, 0, 5]))
  (.cond (.s 27) (.region 0 [⟨0, (some 28), none, .mv (.s 0)⟩, ⟨1, (some 29), none, .mv (.s 6)⟩, ⟨2, (some 30), none, .iaddr 5 (.s 28) (.s 29)⟩, ⟨3, (some 31), none, .load true 5 (.s 30)⟩, ⟨4, none, none, .store 5 (.s 5) (.s 31)⟩] [] (some [6, 4, 1, 0, 5]))
  .skip)))
  (.region 0 [⟨0, (some 18), none, .mv (.s 6)⟩, ⟨1, (some 19), none, .bin .add (.s 18) (.k (.c (.int .i64 1)))⟩, ⟨2, (some 6), none, .mv (.s 19)⟩] [] (some [6, 4, 1, 0, 5]))))
abbrev f_slices_MinFunc_Found : Nat := 112
def c_slices_MinFunc_Found : CFn := { frz := true, rnd := none, nargs := 2, ntmps := 33, res := [(.cell 4 true 5)], code :=
  (.seq (.region 1 [⟨0, (some 4), none, .box 0 5 (.k (.a [(.int .i64 0), (.int .i64 0), (.int .i64 0), (.int .i64 0), (.int .i64 0)]))⟩] [] (some [4, 1, 0]))
  (.seq (.seq (.region 0 [⟨0, (some 7), none, .mv (.s 0)⟩, ⟨1, (some 8), none, .len (.s 7)⟩, ⟨2, (some 9), none, .bin .lss (.s 8) (.k (.c (.int .i64 1)))⟩] [] (some [9, 4, 1, 0]))
  (.cond (.s 9) (.region 0 [⟨0, (some 10), none, .p1 (.mkif 9) (.k (.c (.str ⟨#[115, 108, 105, 99, 101, 115, 46, 77, 105, 110, 70, 117, 110, 99, 58, 32, 101, 109, 112, 116, 121, 32, 108, 105, 115, 116]⟩)))⟩, ⟨1, none, none, .bad⟩] [] (some [4, 1, 0]))
  .skip))
  (.seq (.region 1 [⟨0, (some 11), none, .mv (.s 0)⟩, ⟨1, (some 12), none, .iaddr 5 (.s 11) (.k (.c (.int .i64 0)))⟩, ⟨2, (some 13), none, .load true 5 (.s 12)⟩, ⟨3, (some 5), none, .box 0 5 (.k (.a [(.int .i64 0), (.int .i64 0), (.int .i64 0), (.int .i64 0), (.int .i64 0)]))⟩, ⟨4, none, none, .store 5 (.s 5) (.s 13)⟩] [] (some [4, 1, 0, 5]))
  (.seq (.seq (.region 0 [⟨0, (some 6), none, .mv (.k (.c (.int .i64 1)))⟩] [] (some [6, 4, 1, 0, 5]))
  (.block 0 (.loop (some [6, 4, 1, 0, 5]) c_slices_MinFunc_Found_l1)))
  (.seq (.region 0 [⟨0, (some 32), none, .load true 5 (.s 5)⟩, ⟨1, none, none, .store 5 (.s 4) (.s 32)⟩] [] (some [4]))
  .ret))))) }
abbrev f_track_narrow_1 : Nat := 113
def c_track_narrow_1 : CFn := { frz := true, rnd := none, nargs := 2, ntmps := 10, res := [(.slot 4)], code :=
  (.seq (.region 2 [⟨0, (some 2), none, .box 0 5 (.s 0)⟩, ⟨1, (some 3), none, .box 1 5 (.s 1)⟩, ⟨2, (some 4), none, .mv (.k (.c (.int .i64 0)))⟩] [] (some [2, 3]))
  (.seq (.region 0 [⟨0, (some 5), none, .faddr 3 (.s 2)⟩, ⟨1, (some 6), none, .load false 1 (.s 5)⟩, ⟨2, (some 7), none, .faddr 3 (.s 3)⟩, ⟨3, (some 8), none, .load false 1 (.s 7)⟩, ⟨4, (some 9), none, .call ⟨true⟩ (.k (.c (.fn 54 [] []))) [(.s 6), (.s 8)]⟩, ⟨5, (some 4), none, .mv (.s 9)⟩] [] (some [4]))
  .ret)) }
def c_slices_MaxFunc_Found_l1 : CC := (.seq (.seq (.region 0 [⟨0, (some 14), none, .mv (.s 6)⟩, ⟨1, (some 15), none, .mv (.s 0)⟩, ⟨2, (some 16), none, .len (.s 15)⟩, ⟨3, (some 17), none, .bin .lss (.s 14) (.s 16)⟩] [] (some [17, 6, 4, 1, 0, 5]))
  (.cond (.s 17) .skip
  (.exit 0)))
  (.seq (.block 1 (.seq (.region 0 [⟨0, (some 20), none, .mv (.s 1)⟩, ⟨1, (some 21), none, .mv (.s 0)⟩, ⟨2, (some 22), none, .mv (.s 6)⟩, ⟨3, (some 23), none, .iaddr 5 (.s 21) (.s 22)⟩, ⟨4, (some 24), none, .load true 5 (.s 23)⟩, ⟨5, (some 25), none, .load true 5 (.s 5)⟩, ⟨6, (some 26), none, .call ⟨true⟩ (.s 20) [(.s 24), (.s 25)]⟩, ⟨7, (some 27), none, .bin .gtr (.s 26) (.k (.c (.int .i64 0)))⟩] [] (some [27, 6, 4, 1, 0, 5]))
  (.cond (.s 27) (.region 0 [⟨0, (some 28), none, .mv (.s 0)⟩, ⟨1, (some 29), none, .mv (.s 6)⟩, ⟨2, (some 30), none, .iaddr 5 (.s 28) (.s 29)⟩, ⟨3, (some 31), none, .load true 5 (.s 30)⟩, ⟨4, none, none, .store 5 (.s 5) (.s 31)⟩] [] (some [6, 4, 1, 0, 5]))
  .skip)))
  (.region 0 [⟨0, (some 18), none, .mv (.s 6)⟩, ⟨1, (some 19), none, .bin .add (.s 18) (.k (.c (.int .i64 1)))⟩, ⟨2, (some 6), none, .mv (.s 19)⟩] [] (some [6, 4, 1, 0, 5]))))
abbrev f_slices_MaxFunc_Found : Nat := 114
def c_slices_MaxFunc_Found : CFn := { frz := true, rnd := none, nargs := 2, ntmps := 33, res := [(.cell 4 true 5)], code :=
  (.seq (.region 1 [⟨0, (some 4), none, .box 0 5 (.k (.a [(.int .i64 0), (.int .i64 0), (.int .i64 0), (.int .i64 0), (.int .i64 0)]))⟩] [] (some [4, 1, 0]))
  (.seq (.seq (.region 0 [⟨0, (some 7), none, .mv (.s 0)⟩, ⟨1, (some 8), none, .len (.s 7)⟩, ⟨2, (some 9), none, .bin .lss (.s 8) (.k (.c (.int .i64 1)))⟩] [] (some [9, 4, 1, 0]))
  (.cond (.s 9) (.region 0 [⟨0, (some 10), none, .p1 (.mkif 9) (.k (.c (.str ⟨#[115, 108, 105, 99, 101, 115, 46, 77, 97, 120, 70, 117, 110, 99, 58, 32, 101, 109, 112, 116, 121, 32, 108, 105, 115, 116]⟩)))⟩, ⟨1, none, none, .bad⟩] [] (some [4, 1, 0]))
  .skip))
  (.seq (.region 1 [⟨0, (some 11), none, .mv (.s 0)⟩, ⟨1, (some 12), none, .iaddr 5 (.s 11) (.k (.c (.int .i64 0)))⟩, ⟨2, (some 13), none, .load true 5 (.s 12)⟩, ⟨3, (some 5), none, .box 0 5 (.k (.a [(.int .i64 0), (.int .i64 0), (.int .i64 0), (.int .i64 0), (.int .i64 0)]))⟩, ⟨4, none, none, .store 5 (.s 5) (.s 13)⟩] [] (some [4, 1, 0, 5]))
  (.seq (.seq (.region 0 [⟨0, (some 6), none, .mv (.k (.c (.int .i64 1)))⟩] [] (some [6, 4, 1, 0, 5]))
  (.block 0 (.loop (some [6, 4, 1, 0, 5]) c_slices_MaxFunc_Found_l1)))
  (.seq (.region 0 [⟨0, (some 32), none, .load true 5 (.s 5)⟩, ⟨1, none, none, .store 5 (.s 4) (.s 32)⟩] [] (some [4]))
  .ret))))) }
abbrev f_track_narrow_2 : Nat := 115
def c_track_narrow_2 : CFn := { frz := true, rnd := none, nargs := 2, ntmps := 10, res := [(.slot 4)], code :=
  (.seq (.region 2 [⟨0, (some 2), none, .box 0 5 (.s 0)⟩, ⟨1, (some 3), none, .box 1 5 (.s 1)⟩, ⟨2, (some 4), none, .mv (.k (.c (.int .i64 0)))⟩] [] (some [2, 3]))
  (.seq (.region 0 [⟨0, (some 5), none, .faddr 4 (.s 2)⟩, ⟨1, (some 6), none, .load false 1 (.s 5)⟩, ⟨2, (some 7), none, .faddr 4 (.s 3)⟩, ⟨3, (some 8), none, .load false 1 (.s 7)⟩, ⟨4, (some 9), none, .call ⟨true⟩ (.k (.c (.fn 54 [] []))) [(.s 6), (.s 8)]⟩, ⟨5, (some 4), none, .mv (.s 9)⟩] [] (some [4]))
  .ret)) }
def c_roads_follow_l1 : CC := (.seq (.region 0 [⟨0, (some 19), none, .bin .lss (.s 18) (.s 17)⟩] [] (some [19, 18, 17, 4, 16, 2, 5]))
  (.seq (.cond (.s 19) .skip
  (.exit 0))
  (.seq (.block 1 (.seq (.region 0 [⟨0, (some 20), none, .iaddr 1 (.s 16) (.s 18)⟩, ⟨1, (some 21), none, .load false 1 (.s 20)⟩, ⟨2, (some 7), none, .mv (.s 21)⟩] [] (some [7, 18, 17, 4, 16, 2, 5]))
  (.seq (.region 1 [⟨0, (some 22), none, .faddr 6 (.s 5)⟩, ⟨1, (some 23), none, .load false 1 (.s 22)⟩, ⟨2, (some 24), none, .faddr 7 (.s 5)⟩, ⟨3, (some 25), none, .load false 1 (.s 24)⟩, ⟨4, (some 26), none, .lit 0 1 [[(.int .i64 0)]] [(0, (.s 25))]⟩, ⟨5, (some 27), none, .append 1 8 (.s 23) (.s 26)⟩, ⟨6, (some 28), none, .faddr 6 (.s 5)⟩, ⟨7, none, none, .store 1 (.s 28) (.s 27)⟩] [] (some [7, 18, 17, 4, 16, 2, 5]))
  (.region 0 [⟨0, (some 29), none, .faddr 7 (.s 5)⟩, ⟨3, (some 32), none, .mv (.s 7)⟩, ⟨1, (some 30), none, .load false 1 (.s 29)⟩, ⟨2, (some 31), none, .load true 5 (.s 2)⟩, ⟨4, (some 33), none, .call ⟨true⟩ (.k (.c (.fn 96 [] []))) [(.s 31), (.s 32)]⟩, ⟨5, (some 34), none, .bin .add (.s 30) (.s 33)⟩, ⟨6, (some 35), none, .faddr 7 (.s 5)⟩, ⟨7, none, none, .store 1 (.s 35) (.s 34)⟩] [(2, 4)] (some [18, 17, 4, 16, 2, 5])))))
  (.region 0 [⟨0, (some 36), none, .bin .add (.s 18) (.k (.c (.int .i64 1)))⟩, ⟨1, (some 18), none, .mv (.s 36)⟩] [] (some [18, 17, 4, 16, 2, 5])))))
abbrev f_roads_follow : Nat := 147
def c_roads_follow : CFn := { frz := true, rnd := none, nargs := 2, ntmps := 38, res := [(.cell 4 true 8)], code :=
  (.seq (.region 2 [⟨0, (some 2), none, .box 0 5 (.s 0)⟩, ⟨1, (some 4), none, .box 1 8 (.k (.a [(.int .i64 0), .nilslice, .nilslice, .nilslice, .nilslice, .nilslice, .nilslice, (.int .i64 0)]))⟩] [] (some [2, 1, 4]))
  (.seq (.seq (.region 0 [⟨0, (some 8), none, .load true 5 (.s 2)⟩, ⟨1, (some 9), none, .mv (.s 1)⟩, ⟨2, (some 10), none, .call ⟨true⟩ (.k (.c (.fn 41 [] []))) [(.s 8), (.s 9)]⟩, ⟨3, (some 11), none, .bin .neq (.s 10) (.k (.c (.int .i64 0)))⟩] [] (some [11, 2, 1, 4]))
  (.cond (.s 11) (.seq (.region 0 [⟨0, (some 12), none, .build [(.int .i64 0), .nilslice, .nilslice, .nilslice, .nilslice, .nilslice, .nilslice, (.int .i64 0)] []⟩, ⟨1, none, none, .store 8 (.s 4) (.s 12)⟩] [] (some [4]))
  .ret)
  .skip))
  (.seq (.region 1 [⟨0, (some 13), none, .load true 5 (.s 2)⟩, ⟨1, (some 14), none, .mv (.s 1)⟩, ⟨2, (some 15), none, .build [(.int .i64 0), .nilslice, .nilslice, .nilslice, .nilslice, .nilslice, .nilslice, (.int .i64 0)] [(0, 5, (.s 13)), (5, 1, (.s 14))]⟩, ⟨3, (some 5), none, .box 0 8 (.k (.a [(.int .i64 0), .nilslice, .nilslice, .nilslice, .nilslice, .nilslice, .nilslice, (.int .i64 0)]))⟩, ⟨4, none, none, .store 8 (.s 5) (.s 15)⟩] [] (some [1, 4, 2, 5]))
  (.seq (.seq (.region 0 [⟨0, (some 16), none, .mv (.s 1)⟩, ⟨1, (some 17), none, .len (.s 16)⟩, ⟨2, (some 18), none, .mv (.k (.c (.int .i64 0)))⟩] [] (some [18, 17, 4, 16, 2, 5]))
  (.block 0 (.loop (some [18, 17, 4, 16, 2, 5]) c_roads_follow_l1)))
  (.seq (.region 0 [⟨0, (some 37), none, .load true 8 (.s 5)⟩, ⟨1, none, none, .store 8 (.s 4) (.s 37)⟩] [] (some [4]))
  .ret))))) }
abbrev f_roads_within : Nat := 148
def c_roads_within : CFn := { frz := true, rnd := none, nargs := 3, ntmps := 15, res := [(.slot 6)], code :=
  (.seq (.region 0 [⟨0, (some 6), none, .mv (.k (.c (.bool false)))⟩] [] (some [1, 0, 2]))
  (.seq (.region 0 [⟨0, (some 7), none, .mv (.s 1)⟩, ⟨1, (some 8), none, .mv (.s 0)⟩, ⟨2, (some 9), none, .bin .leq (.s 7) (.s 8)⟩, ⟨3, (some 10), none, .mv (.s 9)⟩, ⟨4, (some 11), (some (10, true)), .mv (.s 0)⟩, ⟨5, (some 12), (some (10, true)), .mv (.s 2)⟩, ⟨6, (some 13), (some (10, true)), .bin .leq (.s 11) (.s 12)⟩, ⟨7, (some 14), none, .pick (.s 10) (.s 13) (.k (.c (.bool false)))⟩, ⟨8, (some 6), none, .mv (.s 14)⟩] [] (some [6]))
  .ret)) }
def c_curve_Check_l1 : CC := (.seq (.region 0 [⟨0, (some 28), none, .bin .lss (.s 27) (.s 26)⟩] [] (some [28, 3, 1, 26, 27]))
  (.seq (.cond (.s 28) .skip
  (.exit 1))
  (.seq (.block 2 (.seq (.region 0 [⟨0, (some 29), none, .mv (.s 27)⟩, ⟨1, (some 4), none, .mv (.s 29)⟩] [] (some [4, 3, 1, 26, 27]))
  (.seq (.region 1 [⟨0, (some 30), none, .faddr 0 (.s 1)⟩, ⟨2, (some 32), none, .mv (.s 4)⟩, ⟨5, (some 35), none, .faddr 0 (.s 1)⟩, ⟨7, (some 37), none, .mv (.s 4)⟩, ⟨8, (some 38), none, .bin .add (.s 37) (.k (.c (.int .i64 1)))⟩, ⟨1, (some 31), none, .load false 1 (.s 30)⟩, ⟨3, (some 33), none, .iaddr 2 (.s 31) (.s 32)⟩, ⟨4, (some 34), none, .load true 2 (.s 33)⟩, ⟨6, (some 36), none, .load false 1 (.s 35)⟩, ⟨9, (some 39), none, .iaddr 2 (.s 36) (.s 38)⟩, ⟨10, (some 40), none, .load true 2 (.s 39)⟩, ⟨11, (some 41), none, .call ⟨true⟩ (.k (.c (.fn 169 [] []))) [(.s 34), (.s 40)]⟩, ⟨12, (some 5), none, .box 0 2 (.k (.a [(.int .i64 0), (.int .i64 0)]))⟩, ⟨13, none, none, .store 2 (.s 5) (.s 41)⟩] [(5, 12), (7, 12), (8, 12), (10, 12), (11, 12)] (some [4, 3, 1, 26, 27, 5]))
  (.seq (.region 0 [⟨0, (some 43), none, .load true 2 (.s 5)⟩, ⟨1, (some 44), none, .load true 2 (.s 5)⟩, ⟨2, (some 45), none, .call ⟨true⟩ (.k (.c (.fn 170 [] []))) [(.s 43), (.s 44)]⟩, ⟨3, (some 46), none, .call ⟨true⟩ (.k (.c (.fn 220 [] []))) [(.s 45)]⟩, ⟨4, (some 42), none, .mv (.s 46)⟩, ⟨5, (some 47), none, .extract 42 0⟩, ⟨6, (some 48), none, .extract 42 1⟩, ⟨7, (some 6), none, .mv (.s 47)⟩, ⟨8, (some 7), none, .mv (.s 48)⟩] [] (some [7, 4, 3, 1, 26, 27, 5, 6]))
  (.seq (.block 3 (.seq (.region 0 [⟨0, (some 50), none, .mv (.s 7)⟩, ⟨1, (some 51), none, .un .not (.s 50)⟩, ⟨2, (some 49), none, .mv (.s 51)⟩] [] (some [49, 4, 3, 1, 26, 27, 5, 6]))
  (.cond (.s 49) (.seq (.region 0 [⟨0, (some 2), none, .mv (.k (.c (.int .i64 3)))⟩] [] (some [2]))
  .ret)
  (.seq (.region 0 [⟨0, (some 53), none, .mv (.s 6)⟩, ⟨1, (some 54), none, .bin .lss (.s 53) (.k (.c (.int .i64 1000)))⟩, ⟨2, (some 55), none, .mv (.s 54)⟩, ⟨3, (some 56), (some (55, false)), .mv (.s 6)⟩, ⟨4, (some 57), (some (55, false)), .bin .gtr (.s 56) (.k (.c (.int .i64 1048576)))⟩, ⟨5, (some 58), none, .pick (.s 55) (.k (.c (.bool true))) (.s 57)⟩, ⟨6, (some 52), none, .mv (.s 58)⟩] [] (some [52, 5, 27, 26, 1, 3, 4]))
  (.cond (.s 52) (.seq (.region 0 [⟨0, (some 2), none, .mv (.k (.c (.int .i64 2)))⟩] [] (some [2]))
  .ret)
  (.seq (.region 0 [⟨0, (some 60), none, .mv (.s 4)⟩, ⟨1, (some 61), none, .bin .gtr (.s 60) (.k (.c (.int .i64 0)))⟩, ⟨2, (some 62), none, .mv (.s 61)⟩, ⟨3, (some 63), (some (62, true)), .load true 2 (.s 3)⟩, ⟨4, (some 64), (some (62, true)), .load true 2 (.s 5)⟩, ⟨5, (some 65), (some (62, true)), .call ⟨true⟩ (.k (.c (.fn 170 [] []))) [(.s 63), (.s 64)]⟩, ⟨6, (some 66), (some (62, true)), .bin .leq (.s 65) (.k (.c (.int .i64 0)))⟩, ⟨7, (some 67), none, .pick (.s 62) (.s 66) (.k (.c (.bool false)))⟩, ⟨8, (some 59), none, .mv (.s 67)⟩] [] (some [59, 3, 1, 26, 27, 5]))
  (.cond (.s 59) (.seq (.region 0 [⟨0, (some 2), none, .mv (.k (.c (.int .i64 12)))⟩] [] (some [2]))
  .ret)
  .skip)))))))
  (.region 0 [⟨0, (some 68), none, .load true 2 (.s 5)⟩, ⟨1, none, none, .store 2 (.s 3) (.s 68)⟩] [] (some [27, 26, 1, 3])))))))
  (.region 0 [⟨0, (some 69), none, .bin .add (.s 27) (.k (.c (.int .i64 1)))⟩, ⟨1, (some 27), none, .mv (.s 69)⟩] [] (some [26, 1, 3, 27])))))
abbrev f_curve_Check : Nat := 149
def c_curve_Check : CFn := { frz := true, rnd := none, nargs := 1, ntmps := 70, res := [(.slot 2)], code :=
  (.seq (.region 1 [⟨0, (some 1), none, .box 0 1 (.s 0)⟩, ⟨1, (some 2), none, .mv (.k (.c (.int .i64 0)))⟩] [] (some [1]))
  (.seq (.block 0 (.seq (.region 0 [⟨0, (some 9), none, .faddr 0 (.s 1)⟩, ⟨1, (some 10), none, .load false 1 (.s 9)⟩, ⟨2, (some 11), none, .len (.s 10)⟩, ⟨3, (some 12), none, .bin .lss (.s 11) (.k (.c (.int .i64 2)))⟩, ⟨4, (some 8), none, .mv (.s 12)⟩] [] (some [8, 1]))
  (.cond (.s 8) (.seq (.region 0 [⟨0, (some 2), none, .mv (.k (.c (.int .i64 6)))⟩] [] (some [2]))
  .ret)
  (.seq (.region 0 [⟨0, (some 14), none, .faddr 0 (.s 1)⟩, ⟨1, (some 15), none, .load false 1 (.s 14)⟩, ⟨2, (some 16), none, .len (.s 15)⟩, ⟨3, (some 17), none, .bin .gtr (.s 16) (.k (.c (.int .i64 16)))⟩, ⟨4, (some 13), none, .mv (.s 17)⟩] [] (some [13, 1]))
  (.cond (.s 13) (.seq (.region 0 [⟨0, (some 2), none, .mv (.k (.c (.int .i64 5)))⟩] [] (some [2]))
  .ret)
  (.seq (.region 0 [⟨0, (some 19), none, .faddr 0 (.s 1)⟩, ⟨1, (some 20), none, .load false 1 (.s 19)⟩, ⟨2, (some 21), none, .call ⟨true⟩ (.k (.c (.fn 167 [] []))) [(.s 20)]⟩, ⟨3, (some 22), none, .un .not (.s 21)⟩, ⟨4, (some 18), none, .mv (.s 22)⟩] [] (some [18, 1]))
  (.cond (.s 18) (.seq (.region 0 [⟨0, (some 2), none, .mv (.k (.c (.int .i64 2)))⟩] [] (some [2]))
  .ret)
  .skip)))))))
  (.seq (.region 1 [⟨0, (some 3), none, .box 0 2 (.k (.a [(.int .i64 0), (.int .i64 0)]))⟩] [] (some [1, 3]))
  (.seq (.seq (.region 0 [⟨0, (some 23), none, .faddr 0 (.s 1)⟩, ⟨1, (some 24), none, .load false 1 (.s 23)⟩, ⟨2, (some 25), none, .len (.s 24)⟩, ⟨3, (some 26), none, .bin .sub (.s 25) (.k (.c (.int .i64 1)))⟩, ⟨4, (some 27), none, .mv (.k (.c (.int .i64 0)))⟩] [] (some [26, 1, 3, 27]))
  (.block 1 (.loop (some [26, 1, 3, 27]) c_curve_Check_l1)))
  (.seq (.region 0 [⟨0, (some 2), none, .mv (.k (.c (.int .i64 0)))⟩] [] (some [2]))
  .ret))))) }
def c_roads_rising_l1 : CC := (.seq (.region 0 [⟨0, (some 12), none, .bin .lss (.s 11) (.s 10)⟩] [] (some [12, 1, 2, 9, 10, 11]))
  (.seq (.cond (.s 12) .skip
  (.exit 0))
  (.seq (.block 1 (.seq (.region 0 [⟨0, (some 13), none, .iaddr 1 (.s 9) (.s 11)⟩, ⟨1, (some 14), none, .load false 1 (.s 13)⟩, ⟨2, (some 8), none, .mv (.s 14)⟩] [] (some [1, 2, 9, 10, 11, 8]))
  (.seq (.seq (.region 0 [⟨0, (some 15), none, .mv (.s 8)⟩, ⟨1, (some 16), none, .mv (.s 1)⟩, ⟨2, (some 17), none, .bin .lss (.s 15) (.s 16)⟩, ⟨3, (some 18), none, .mv (.s 17)⟩, ⟨4, (some 19), (some (18, false)), .mv (.s 8)⟩, ⟨5, (some 20), (some (18, false)), .mv (.s 2)⟩, ⟨6, (some 21), (some (18, false)), .bin .geq (.s 19) (.s 20)⟩, ⟨7, (some 22), none, .pick (.s 18) (.k (.c (.bool true))) (.s 21)⟩] [] (some [22, 2, 9, 10, 11, 8]))
  (.cond (.s 22) (.seq (.region 0 [⟨0, (some 6), none, .mv (.k (.c (.bool false)))⟩] [] (some [6]))
  .ret)
  .skip))
  (.region 0 [⟨0, (some 23), none, .mv (.s 8)⟩, ⟨1, (some 24), none, .bin .add (.s 23) (.k (.c (.int .i64 1)))⟩, ⟨2, (some 1), none, .mv (.s 24)⟩] [] (some [11, 1, 10, 9, 2])))))
  (.region 0 [⟨0, (some 25), none, .bin .add (.s 11) (.k (.c (.int .i64 1)))⟩, ⟨1, (some 11), none, .mv (.s 25)⟩] [] (some [1, 10, 9, 2, 11])))))
abbrev f_roads_rising : Nat := 150
def c_roads_rising : CFn := { frz := true, rnd := none, nargs := 3, ntmps := 26, res := [(.slot 6)], code :=
  (.seq (.region 0 [⟨0, (some 6), none, .mv (.k (.c (.bool false)))⟩] [] (some [0, 1, 2]))
  (.seq (.seq (.region 0 [⟨0, (some 9), none, .mv (.s 0)⟩, ⟨1, (some 10), none, .len (.s 9)⟩, ⟨2, (some 11), none, .mv (.k (.c (.int .i64 0)))⟩] [] (some [1, 10, 9, 2, 11]))
  (.block 0 (.loop (some [1, 10, 9, 2, 11]) c_roads_rising_l1)))
  (.seq (.region 0 [⟨0, (some 6), none, .mv (.k (.c (.bool true)))⟩] [] (some [6]))
  .ret))) }
abbrev f_slices_ContainsFunc_Phase : Nat := 151
def c_slices_ContainsFunc_Phase : CFn := { frz := true, rnd := none, nargs := 2, ntmps := 9, res := [(.slot 4)], code :=
  (.seq (.region 0 [⟨0, (some 4), none, .mv (.k (.c (.bool false)))⟩] [] (some [0, 1]))
  (.seq (.region 0 [⟨0, (some 5), none, .mv (.s 0)⟩, ⟨1, (some 6), none, .mv (.s 1)⟩, ⟨2, (some 7), none, .call ⟨true⟩ (.k (.c (.fn 221 [] []))) [(.s 5), (.s 6)]⟩, ⟨3, (some 8), none, .bin .geq (.s 7) (.k (.c (.int .i64 0)))⟩, ⟨4, (some 4), none, .mv (.s 8)⟩] [] (some [4]))
  .ret)) }
abbrev f_roads_check_signals_1 : Nat := 152
def c_roads_check_signals_1 : CFn := { frz := true, rnd := none, nargs := 1, ntmps := 7, res := [(.slot 2)], code :=
  (.seq (.region 1 [⟨0, (some 1), none, .box 0 2 (.s 0)⟩, ⟨1, (some 2), none, .mv (.k (.c (.bool false)))⟩] [] (some [1]))
  (.seq (.region 0 [⟨0, (some 3), none, .faddr 0 (.s 1)⟩, ⟨1, (some 4), none, .load false 1 (.s 3)⟩, ⟨2, (some 5), none, .call ⟨true⟩ (.k (.c (.fn 148 [] []))) [(.s 4), (.k (.c (.int .i64 1))), (.k (.c (.int .i64 10000)))]⟩, ⟨3, (some 6), none, .un .not (.s 5)⟩, ⟨4, (some 2), none, .mv (.s 6)⟩] [] (some [2]))
  .ret)) }
abbrev f_roads_check_signals_2 : Nat := 153
def c_roads_check_signals_2 : CFn := { frz := true, rnd := none, nargs := 2, ntmps := 12, res := [(.slot 3)], code :=
  (.seq (.region 1 [⟨0, (some 2), none, .box 0 2 (.s 0)⟩, ⟨1, (some 3), none, .mv (.k (.c (.bool false)))⟩] [] (some [2, 1]))
  (.seq (.region 0 [⟨0, (some 4), none, .faddr 1 (.s 2)⟩, ⟨1, (some 5), none, .load false 1 (.s 4)⟩, ⟨2, (some 6), none, .faddr 0 (.s 1)⟩, ⟨3, (some 7), none, .faddr 1 (.s 6)⟩, ⟨4, (some 8), none, .load false 1 (.s 7)⟩, ⟨5, (some 9), none, .len (.s 8)⟩, ⟨6, (some 10), none, .call ⟨true⟩ (.k (.c (.fn 150 [] []))) [(.s 5), (.k (.c (.int .i64 0))), (.s 9)]⟩, ⟨7, (some 11), none, .un .not (.s 10)⟩, ⟨8, (some 3), none, .mv (.s 11)⟩] [] (some [3]))
  .ret)) }
def c_curve_Length_l1 : CC := (.seq (.region 0 [⟨0, (some 10), none, .bin .lss (.s 9) (.s 8)⟩] [] (some [10, 3, 9, 8, 7]))
  (.seq (.cond (.s 10) .skip
  (.exit 0))
  (.seq (.block 1 (.seq (.region 0 [⟨0, (some 11), none, .iaddr 1 (.s 7) (.s 9)⟩, ⟨1, (some 12), none, .load false 1 (.s 11)⟩, ⟨2, (some 5), none, .mv (.s 12)⟩] [] (some [3, 5, 9, 8, 7]))
  (.region 0 [⟨0, (some 13), none, .mv (.s 3)⟩, ⟨1, (some 14), none, .mv (.s 5)⟩, ⟨2, (some 15), none, .bin .add (.s 13) (.s 14)⟩, ⟨3, (some 3), none, .mv (.s 15)⟩] [] (some [9, 3, 8, 7]))))
  (.region 0 [⟨0, (some 16), none, .bin .add (.s 9) (.k (.c (.int .i64 1)))⟩, ⟨1, (some 9), none, .mv (.s 16)⟩] [] (some [3, 9, 8, 7])))))
abbrev f_curve_Length : Nat := 154
def c_curve_Length : CFn := { frz := true, rnd := none, nargs := 1, ntmps := 18, res := [(.slot 2)], code :=
  (.seq (.region 1 [⟨0, (some 1), none, .box 0 1 (.s 0)⟩, ⟨1, (some 2), none, .mv (.k (.c (.int .i64 0)))⟩] [] (some [1]))
  (.seq (.region 0 [⟨0, (some 3), none, .mv (.k (.c (.int .i64 0)))⟩] [] (some [1, 3]))
  (.seq (.seq (.region 0 [⟨0, (some 6), none, .load true 1 (.s 1)⟩, ⟨1, (some 7), none, .call ⟨true⟩ (.k (.c (.fn 222 [] []))) [(.s 6)]⟩, ⟨2, (some 8), none, .len (.s 7)⟩, ⟨3, (some 9), none, .mv (.k (.c (.int .i64 0)))⟩] [] (some [3, 9, 8, 7]))
  (.block 0 (.loop (some [3, 9, 8, 7]) c_curve_Length_l1)))
  (.seq (.region 0 [⟨0, (some 17), none, .mv (.s 3)⟩, ⟨1, (some 2), none, .mv (.s 17)⟩] [] (some [2]))
  .ret)))) }
abbrev f_world_Stop : Nat := 155
def c_world_Stop : CFn := { frz := true, rnd := none, nargs := 2, ntmps := 31, res := [(.slot 4)], code :=
  (.seq (.region 0 [⟨0, (some 4), none, .mv (.k (.c (.int .i64 0)))⟩] [] (some [1, 0]))
  (.seq (.seq (.region 0 [⟨0, (some 6), none, .mv (.s 0)⟩, ⟨1, (some 7), none, .bin .lss (.s 6) (.k (.c (.int .i64 1)))⟩, ⟨2, (some 8), none, .mv (.s 7)⟩, ⟨3, (some 9), (some (8, false)), .mv (.s 1)⟩, ⟨4, (some 10), (some (8, false)), .bin .lss (.s 9) (.k (.c (.int .i64 1)))⟩, ⟨5, (some 11), none, .pick (.s 8) (.k (.c (.bool true))) (.s 10)⟩] [] (some [11, 1, 0]))
  (.cond (.s 11) (.seq (.region 0 [⟨0, (some 4), none, .mv (.k (.c (.int .i64 0)))⟩] [] (some [4]))
  .ret)
  .skip))
  (.seq (.region 0 [⟨0, (some 12), none, .mv (.s 0)⟩, ⟨1, (some 13), none, .minmax false [(.s 12), (.k (.c (.int .i64 1000000)))]⟩, ⟨2, (some 14), none, .mv (.s 1)⟩, ⟨3, (some 15), none, .minmax false [(.s 14), (.k (.c (.int .i64 1000000)))]⟩, ⟨4, (some 0), none, .mv (.s 13)⟩, ⟨5, (some 1), none, .mv (.s 15)⟩] [] (some [0, 1]))
  (.seq (.region 0 [⟨0, (some 16), none, .mv (.s 0)⟩, ⟨1, (some 17), none, .bin .sub (.s 16) (.k (.c (.int .i64 1)))⟩, ⟨2, (some 18), none, .mv (.s 1)⟩, ⟨3, (some 19), none, .bin .quo (.s 17) (.s 18)⟩, ⟨4, (some 5), none, .mv (.s 19)⟩] [] (some [0, 1, 5]))
  (.seq (.region 0 [⟨0, (some 20), none, .mv (.s 5)⟩, ⟨1, (some 21), none, .mv (.s 0)⟩, ⟨2, (some 22), none, .bin .mul (.s 20) (.s 21)⟩, ⟨3, (some 23), none, .mv (.s 1)⟩, ⟨4, (some 24), none, .mv (.s 5)⟩, ⟨5, (some 25), none, .mv (.s 5)⟩, ⟨6, (some 26), none, .bin .add (.s 25) (.k (.c (.int .i64 1)))⟩, ⟨7, (some 27), none, .bin .mul (.s 24) (.s 26)⟩, ⟨8, (some 28), none, .bin .quo (.s 27) (.k (.c (.int .i64 2)))⟩, ⟨9, (some 29), none, .bin .mul (.s 23) (.s 28)⟩, ⟨10, (some 30), none, .bin .sub (.s 22) (.s 29)⟩, ⟨11, (some 4), none, .mv (.s 30)⟩] [] (some [4]))
  .ret))))) }
def c_signs_Red_l1 : CC := (.seq (.region 0 [⟨0, (some 26), none, .bin .lss (.s 25) (.s 24)⟩] [] (some [26, 7, 25, 24, 13, 14, 15, 23, 3, 9, 1, 2]))
  (.seq (.cond (.s 26) .skip
  (.exit 2))
  (.seq (.block 3 (.seq (.region 1 [⟨0, (some 27), none, .iaddr 4 (.s 23) (.s 25)⟩, ⟨1, (some 28), none, .load true 4 (.s 27)⟩, ⟨2, (some 11), none, .box 0 4 (.k (.a [(.int .i64 0), (.int .i64 0), (.int .i64 0), (.int .i64 0)]))⟩, ⟨3, none, none, .store 4 (.s 11) (.s 28)⟩] [] (some [7, 11, 25, 24, 13, 14, 15, 23, 3, 9, 1, 2]))
  (.seq (.region 0 [⟨0, (some 29), none, .faddr 0 (.s 11)⟩, ⟨1, (some 30), none, .load false 1 (.s 29)⟩, ⟨2, (some 31), none, .mv (.s 1)⟩, ⟨3, (some 32), none, .bin .eql (.s 30) (.s 31)⟩, ⟨4, (some 33), none, .mv (.s 32)⟩, ⟨5, (some 34), (some (33, true)), .faddr 3 (.s 3)⟩, ⟨6, (some 35), (some (33, true)), .load false 1 (.s 34)⟩, ⟨7, (some 36), (some (33, true)), .faddr 1 (.s 9)⟩, ⟨8, (some 37), (some (33, true)), .load false 1 (.s 36)⟩, ⟨9, (some 38), (some (33, true)), .bin .sub (.s 37) (.k (.c (.int .i64 1)))⟩, ⟨10, (some 39), (some (33, true)), .iaddr 2 (.s 35) (.s 38)⟩, ⟨11, (some 40), (some (33, true)), .load true 2 (.s 39)⟩, ⟨12, (some 41), (some (33, true)), .mv (.s 1)⟩, ⟨13, (some 42), (some (33, true)), .mv (.s 2)⟩, ⟨14, (some 43), (some (33, true)), .call ⟨true⟩ (.k (.c (.fn 223 [] []))) [(.s 40), (.s 41), (.s 42)]⟩, ⟨15, (some 44), (some (33, true)), .un .not (.s 43)⟩, ⟨16, (some 45), none, .pick (.s 33) (.s 44) (.k (.c (.bool false)))⟩] [] (some [45, 7, 11, 25, 24, 13, 14, 15, 23, 3, 9, 1, 2]))
  (.cond (.s 45) (.region 1 [⟨0, (some 46), none, .mv (.s 7)⟩, ⟨1, (some 47), none, .faddr 1 (.s 11)⟩, ⟨2, (some 48), none, .load false 1 (.s 47)⟩, ⟨3, (some 49), none, .lit 0 1 [[(.int .i64 0)]] [(0, (.s 48))]⟩, ⟨4, (some 50), none, .append 1 8 (.s 46) (.s 49)⟩, ⟨5, (some 7), none, .mv (.s 50)⟩] [] (some [25, 7, 24, 13, 14, 15, 23, 3, 9, 1, 2]))
  .skip))))
  (.region 0 [⟨0, (some 51), none, .bin .add (.s 25) (.k (.c (.int .i64 1)))⟩, ⟨1, (some 25), none, .mv (.s 51)⟩] [] (some [7, 25, 24, 13, 14, 15, 23, 3, 9, 1, 2])))))
def c_signs_Red_l2 : CC := (.seq (.region 0 [⟨0, (some 16), none, .bin .lss (.s 15) (.s 14)⟩] [] (some [16, 15, 14, 13, 2, 1, 3, 7]))
  (.seq (.cond (.s 16) .skip
  (.exit 0))
  (.seq (.block 1 (.seq (.region 1 [⟨0, (some 17), none, .iaddr 2 (.s 13) (.s 15)⟩, ⟨1, (some 18), none, .load true 2 (.s 17)⟩, ⟨2, (some 9), none, .box 0 2 (.k (.a [.nilslice, (.int .i64 0)]))⟩, ⟨3, none, none, .store 2 (.s 9) (.s 18)⟩] [] (some [9, 15, 14, 13, 2, 1, 3, 7]))
  (.seq (.seq (.region 0 [⟨0, (some 19), none, .faddr 1 (.s 9)⟩, ⟨1, (some 20), none, .load false 1 (.s 19)⟩, ⟨2, (some 21), none, .bin .eql (.s 20) (.k (.c (.int .i64 0)))⟩] [] (some [21, 9, 15, 14, 13, 2, 1, 3, 7]))
  (.cond (.s 21) (.exit 1)
  .skip))
  (.seq (.region 0 [⟨0, (some 22), none, .faddr 0 (.s 9)⟩, ⟨1, (some 23), none, .load false 1 (.s 22)⟩, ⟨2, (some 24), none, .len (.s 23)⟩, ⟨3, (some 25), none, .mv (.k (.c (.int .i64 0)))⟩] [] (some [7, 25, 24, 13, 14, 15, 23, 3, 9, 1, 2]))
  (.block 2 (.loop (some [7, 25, 24, 13, 14, 15, 23, 3, 9, 1, 2]) c_signs_Red_l1))))))
  (.region 0 [⟨0, (some 52), none, .bin .add (.s 15) (.k (.c (.int .i64 1)))⟩, ⟨1, (some 15), none, .mv (.s 52)⟩] [] (some [15, 14, 13, 2, 1, 3, 7])))))
abbrev f_signs_Red : Nat := 156
def c_signs_Red : CFn := { frz := true, rnd := none, nargs := 3, ntmps := 57, res := [(.slot 6)], code :=
  (.seq (.region 2 [⟨0, (some 3), none, .box 0 5 (.s 0)⟩, ⟨1, (some 6), none, .newsl 1 1⟩] [] (some [2, 1, 3]))
  (.seq (.region 1 [⟨0, (some 7), none, .newsl 0 1⟩] [] (some [2, 1, 3, 7]))
  (.seq (.seq (.region 0 [⟨0, (some 12), none, .faddr 2 (.s 3)⟩, ⟨1, (some 13), none, .load false 1 (.s 12)⟩, ⟨2, (some 14), none, .len (.s 13)⟩, ⟨3, (some 15), none, .mv (.k (.c (.int .i64 0)))⟩] [] (some [15, 14, 13, 2, 1, 3, 7]))
  (.block 0 (.loop (some [15, 14, 13, 2, 1, 3, 7]) c_signs_Red_l2)))
  (.seq (.region 0 [⟨0, (some 53), none, .mv (.s 7)⟩, ⟨1, (some 54), none, .call ⟨false⟩ (.k (.c (.fn 212 [] []))) [(.s 53)]⟩] [] (some [7]))
  (.seq (.region 0 [⟨0, (some 55), none, .mv (.s 7)⟩, ⟨1, (some 56), none, .call ⟨false⟩ (.k (.c (.fn 224 [] []))) [(.s 55)]⟩, ⟨2, (some 6), none, .mv (.s 56)⟩] [] (some [6]))
  .ret))))) }
def c_motion_layer_lay_1_l1 : CC := (.seq (.region 0 [⟨0, (some 90), none, .bin .lss (.s 89) (.s 88)⟩] [] (some [90, 89, 88, 87, 7, 12, 4, 6, 1, 2, 11, 3]))
  (.seq (.cond (.s 90) .skip
  (.exit 0))
  (.seq (.block 1 (.seq (.region 0 [⟨0, (some 91), none, .iaddr 1 (.s 87) (.s 89)⟩, ⟨1, (some 92), none, .load false 1 (.s 91)⟩, ⟨2, (some 15), none, .mv (.s 92)⟩] [] (some [15, 89, 88, 87, 7, 12, 4, 6, 1, 2, 11, 3]))
  (.seq (.region 1 [⟨0, (some 93), none, .load true 6 (.s 7)⟩, ⟨1, (some 16), none, .box 0 6 (.k (.a [(.int .i64 0), (.int .i64 0), (.int .i64 0), (.int .i64 0), (.int .i64 0), (.int .i64 0)]))⟩, ⟨2, none, none, .store 6 (.s 16) (.s 93)⟩] [] (some [15, 16, 89, 88, 87, 7, 12, 4, 6, 1, 2, 11, 3]))
  (.seq (.region 0 [⟨0, (some 94), none, .mv (.s 15)⟩, ⟨1, (some 95), none, .faddr 0 (.s 16)⟩, ⟨2, none, none, .store 1 (.s 95) (.s 94)⟩, ⟨3, (some 96), none, .faddr 5 (.s 16)⟩, ⟨4, none, none, .store 1 (.s 96) (.k (.c (.int .i64 0)))⟩] [] (some [15, 16, 89, 88, 87, 7, 12, 4, 6, 1, 2, 11, 3]))
  (.seq (.region 0 [⟨0, (some 97), none, .faddr 0 (.s 4)⟩, ⟨1, (some 98), none, .faddr 5 (.s 97)⟩, ⟨2, (some 99), none, .load false 1 (.s 98)⟩, ⟨3, (some 100), none, .mv (.s 15)⟩, ⟨4, (some 101), none, .call ⟨true⟩ (.k (.c (.fn 99 [] []))) [(.s 99), (.s 100)]⟩, ⟨5, (some 17), none, .mv (.s 101)⟩] [] (some [17, 16, 89, 88, 87, 7, 12, 4, 6, 1, 2, 11, 3]))
  (.seq (.region 0 [⟨0, (some 102), none, .mv (.s 12)⟩, ⟨1, (some 103), none, .bin .geq (.s 102) (.k (.c (.int .i64 0)))⟩, ⟨2, (some 104), none, .mv (.s 103)⟩, ⟨3, (some 105), (some (104, true)), .mv (.s 17)⟩, ⟨4, (some 106), (some (104, true)), .mv (.s 12)⟩, ⟨5, (some 107), (some (104, true)), .bin .add (.s 106) (.k (.c (.int .i64 1)))⟩, ⟨6, (some 108), (some (104, true)), .bin .eql (.s 105) (.s 107)⟩, ⟨7, (some 109), none, .pick (.s 104) (.s 108) (.k (.c (.bool false)))⟩, ⟨8, (some 18), none, .mv (.s 109)⟩] [] (some [17, 16, 18, 89, 88, 87, 7, 12, 4, 6, 1, 2, 11, 3]))
  (.seq (.region 0 [⟨0, (some 110), none, .mv (.s 17)⟩, ⟨1, (some 111), none, .bin .geq (.s 110) (.k (.c (.int .i64 0)))⟩, ⟨2, (some 112), none, .mv (.s 111)⟩, ⟨3, (some 113), (some (112, true)), .mv (.s 18)⟩, ⟨4, (some 114), (some (112, true)), .un .not (.s 113)⟩, ⟨5, (some 115), none, .pick (.s 112) (.s 114) (.k (.c (.bool false)))⟩, ⟨6, (some 116), none, .mv (.s 115)⟩, ⟨7, (some 117), (some (116, true)), .faddr 12 (.s 4)⟩, ⟨8, (some 118), (some (116, true)), .faddr 0 (.s 117)⟩, ⟨10, (some 120), (some (116, true)), .faddr 0 (.s 4)⟩, ⟨11, (some 121), (some (116, true)), .faddr 6 (.s 120)⟩, ⟨13, (some 123), (some (116, true)), .mv (.s 17)⟩, ⟨9, (some 119), (some (116, true)), .load false 1 (.s 118)⟩, ⟨12, (some 122), (some (116, true)), .load false 1 (.s 121)⟩, ⟨14, (some 124), (some (116, true)), .iaddr 1 (.s 122) (.s 123)⟩, ⟨15, (some 125), (some (116, true)), .load false 1 (.s 124)⟩, ⟨16, (some 126), (some (116, true)), .bin .geq (.s 119) (.s 125)⟩, ⟨17, (some 127), none, .pick (.s 116) (.s 126) (.k (.c (.bool false)))⟩, ⟨18, (some 19), none, .mv (.s 127)⟩] [] (some [16, 18, 19, 89, 88, 87, 7, 12, 4, 6, 1, 2, 11, 3]))
  (.region 0 [⟨0, (some 128), none, .load false 1 (.s 6)⟩, ⟨1, (some 129), none, .load true 6 (.s 16)⟩, ⟨2, (some 130), none, .mv (.s 1)⟩, ⟨3, (some 131), none, .mv (.s 11)⟩, ⟨4, (some 132), none, .bin .sub (.s 130) (.s 131)⟩, ⟨5, (some 133), none, .mv (.s 2)⟩, ⟨6, (some 134), none, .mv (.s 11)⟩, ⟨7, (some 135), none, .bin .sub (.s 133) (.s 134)⟩, ⟨8, (some 136), none, .mv (.s 18)⟩, ⟨9, (some 137), none, .mv (.s 136)⟩, ⟨10, (some 138), (some (137, true)), .mv (.s 3)⟩, ⟨11, (some 139), none, .pick (.s 137) (.s 138) (.k (.c (.bool false)))⟩, ⟨12, (some 140), none, .mv (.s 139)⟩, ⟨13, (some 141), (some (140, false)), .mv (.s 19)⟩, ⟨14, (some 142), none, .pick (.s 140) (.k (.c (.bool true))) (.s 141)⟩, ⟨15, (some 143), none, .call ⟨true⟩ (.s 128) [(.s 129), (.s 132), (.s 135), (.s 142)]⟩] [] (some [89, 88, 87, 7, 12, 4, 6, 1, 2, 11, 3])))))))))
  (.region 0 [⟨0, (some 144), none, .bin .add (.s 89) (.k (.c (.int .i64 1)))⟩, ⟨1, (some 89), none, .mv (.s 144)⟩] [] (some [89, 88, 87, 7, 12, 4, 6, 1, 2, 11, 3])))))
abbrev f_motion_layer_lay_1 : Nat := 157
def c_motion_layer_lay_1 : CFn := { frz := true, rnd := none, nargs := 7, ntmps := 145, res := [], code :=
  (.seq (.region 1 [⟨0, (some 7), none, .box 0 6 (.s 0)⟩] [] (some [3, 5, 2, 1, 6, 4, 7]))
  (.seq (.region 0 [⟨0, (some 20), none, .faddr 0 (.s 4)⟩, ⟨1, (some 21), none, .faddr 9 (.s 20)⟩, ⟨3, (some 23), none, .faddr 0 (.s 7)⟩, ⟨7, (some 27), none, .faddr 0 (.s 4)⟩, ⟨8, (some 28), none, .faddr 5 (.s 27)⟩, ⟨10, (some 30), none, .faddr 0 (.s 7)⟩, ⟨2, (some 22), none, .load false 1 (.s 21)⟩, ⟨4, (some 24), none, .load false 1 (.s 23)⟩, ⟨5, (some 25), none, .iaddr 1 (.s 22) (.s 24)⟩, ⟨6, (some 26), none, .load false 1 (.s 25)⟩, ⟨9, (some 29), none, .load false 1 (.s 28)⟩, ⟨11, (some 31), none, .load false 1 (.s 30)⟩, ⟨12, (some 32), none, .call ⟨true⟩ (.k (.c (.fn 99 [] []))) [(.s 29), (.s 31)]⟩, ⟨13, (some 11), none, .mv (.s 26)⟩, ⟨14, (some 12), none, .mv (.s 32)⟩] [(6, 12), (7, 12), (9, 12)] (some [3, 5, 11, 2, 1, 6, 4, 12, 7]))
  (.seq (.region 1 [⟨0, (some 33), none, .load true 6 (.s 7)⟩, ⟨1, (some 13), none, .box 0 6 (.k (.a [(.int .i64 0), (.int .i64 0), (.int .i64 0), (.int .i64 0), (.int .i64 0), (.int .i64 0)]))⟩, ⟨2, none, none, .store 6 (.s 13) (.s 33)⟩] [] (some [3, 13, 5, 11, 2, 1, 6, 4, 12, 7]))
  (.seq (.region 0 [⟨0, (some 34), none, .mv (.s 1)⟩, ⟨1, (some 35), none, .minmax true [(.k (.c (.int .i64 0))), (.s 34)]⟩, ⟨2, (some 36), none, .mv (.s 2)⟩, ⟨3, (some 37), none, .mv (.s 11)⟩, ⟨4, (some 38), none, .minmax false [(.s 36), (.s 37)]⟩, ⟨5, (some 39), none, .faddr 1 (.s 13)⟩, ⟨6, none, none, .store 1 (.s 39) (.s 35)⟩, ⟨7, (some 40), none, .faddr 2 (.s 13)⟩, ⟨8, none, none, .store 1 (.s 40) (.s 38)⟩] [] (some [3, 13, 5, 11, 2, 1, 6, 4, 12, 7]))
  (.seq (.region 0 [⟨0, (some 41), none, .mv (.s 3)⟩, ⟨1, (some 42), none, .mv (.s 41)⟩, ⟨2, (some 43), (some (42, true)), .mv (.s 12)⟩, ⟨3, (some 44), (some (42, true)), .bin .geq (.s 43) (.k (.c (.int .i64 0)))⟩, ⟨4, (some 45), none, .pick (.s 42) (.s 44) (.k (.c (.bool false)))⟩, ⟨5, (some 3), none, .mv (.s 45)⟩] [] (some [13, 5, 3, 11, 2, 1, 6, 4, 12, 7]))
  (.seq (.seq (.region 0 [⟨0, (some 46), none, .mv (.s 3)⟩] [] (some [46, 13, 5, 3, 11, 2, 1, 6, 4, 12, 7]))
  (.cond (.s 46) (.region 0 [⟨0, (some 47), none, .faddr 2 (.s 13)⟩, ⟨2, (some 49), none, .faddr 11 (.s 4)⟩, ⟨4, (some 51), none, .faddr 0 (.s 4)⟩, ⟨5, (some 52), none, .faddr 6 (.s 51)⟩, ⟨7, (some 54), none, .mv (.s 12)⟩, ⟨1, (some 48), none, .load false 1 (.s 47)⟩, ⟨3, (some 50), none, .load false 1 (.s 49)⟩, ⟨6, (some 53), none, .load false 1 (.s 52)⟩, ⟨8, (some 55), none, .iaddr 1 (.s 53) (.s 54)⟩, ⟨9, (some 56), none, .load false 1 (.s 55)⟩, ⟨10, (some 57), none, .bin .sub (.s 50) (.s 56)⟩, ⟨11, (some 58), none, .minmax false [(.s 48), (.s 57)]⟩, ⟨12, (some 59), none, .faddr 2 (.s 13)⟩, ⟨13, none, none, .store 1 (.s 59) (.s 58)⟩] [] (some [13, 5, 3, 11, 2, 1, 6, 4, 12, 7]))
  .skip))
  (.seq (.seq (.region 0 [⟨0, (some 60), none, .mv (.s 1)⟩, ⟨1, (some 61), none, .mv (.s 11)⟩, ⟨2, (some 62), none, .bin .leq (.s 60) (.s 61)⟩, ⟨3, (some 63), none, .mv (.s 62)⟩, ⟨4, (some 64), (some (63, true)), .faddr 1 (.s 13)⟩, ⟨5, (some 65), (some (63, true)), .load false 1 (.s 64)⟩, ⟨6, (some 66), (some (63, true)), .faddr 2 (.s 13)⟩, ⟨7, (some 67), (some (63, true)), .load false 1 (.s 66)⟩, ⟨8, (some 68), (some (63, true)), .bin .leq (.s 65) (.s 67)⟩, ⟨9, (some 69), none, .pick (.s 63) (.s 68) (.k (.c (.bool false)))⟩] [] (some [69, 13, 5, 3, 11, 2, 1, 6, 4, 12, 7]))
  (.cond (.s 69) (.region 1 [⟨0, (some 70), none, .load false 1 (.s 5)⟩, ⟨1, (some 71), none, .load true 6 (.s 13)⟩, ⟨2, (some 72), none, .mv (.s 3)⟩, ⟨3, (some 73), none, .build [(.int .i64 0), (.int .i64 0), (.int .i64 0), (.int .i64 0), (.int .i64 0), (.int .i64 0), (.bool false)] [(0, 6, (.s 71)), (6, 1, (.s 72))]⟩, ⟨4, (some 74), none, .lit 0 7 [[(.int .i64 0), (.int .i64 0), (.int .i64 0), (.int .i64 0), (.int .i64 0), (.int .i64 0), (.bool false)]] [(0, (.s 73))]⟩, ⟨5, (some 75), none, .append 7 56 (.s 70) (.s 74)⟩, ⟨6, none, none, .store 1 (.s 5) (.s 75)⟩] [] (some [3, 11, 2, 1, 6, 4, 12, 7]))
  .skip))
  (.seq (.seq (.region 0 [⟨0, (some 76), none, .mv (.s 2)⟩, ⟨1, (some 77), none, .mv (.s 11)⟩, ⟨2, (some 78), none, .bin .lss (.s 76) (.s 77)⟩] [] (some [78, 3, 11, 2, 1, 6, 4, 12, 7]))
  (.cond (.s 78) .ret
  .skip))
  (.seq (.region 0 [⟨0, (some 79), none, .faddr 0 (.s 4)⟩, ⟨1, (some 80), none, .faddr 0 (.s 79)⟩, ⟨2, (some 81), none, .faddr 1 (.s 80)⟩, ⟨3, (some 82), none, .load false 1 (.s 81)⟩, ⟨4, (some 83), none, .faddr 0 (.s 7)⟩, ⟨5, (some 84), none, .load false 1 (.s 83)⟩, ⟨6, (some 85), none, .iaddr 5 (.s 82) (.s 84)⟩, ⟨7, (some 86), none, .faddr 4 (.s 85)⟩, ⟨8, (some 87), none, .load false 1 (.s 86)⟩, ⟨9, (some 88), none, .len (.s 87)⟩, ⟨10, (some 89), none, .mv (.k (.c (.int .i64 0)))⟩] [] (some [89, 88, 87, 7, 12, 4, 6, 1, 2, 11, 3]))
  (.block 0 (.loop (some [89, 88, 87, 7, 12, 4, 6, 1, 2, 11, 3]) c_motion_layer_lay_1_l1))))))))))) }
end Go.TkRun
