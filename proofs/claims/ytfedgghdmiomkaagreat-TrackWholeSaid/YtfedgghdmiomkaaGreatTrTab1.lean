/- This text lists functions of this seat's program, compiled for the evaluator; no condition. -/
import Derived.Test.YtfedgghdmiomkaaGreatEvl3
import Derived.KernelRfl
set_option linter.unusedVariables false
namespace Go.TrRun
open Go Go.Eng
def an : Ann := anOf [82, 145, 170, 172, 207, 208, 209, 210, 211, 212, 213, 214, 226, 235, 238, 239, 242, 243, 244, 245, 246] [79, 170]
def c_kerbstonelaw05_TrackWhole_l1 : CC := (.seq (.seq (.region 0 [⟨0, (some 73), none, .mv (.s 20)⟩, ⟨1, (some 74), none, .mv (.s 4)⟩, ⟨2, (some 75), none, .len (.s 74)⟩, ⟨3, (some 76), none, .bin .lss (.s 73) (.s 75)⟩] [] (some [76, 18, 20, 5, 6, 19, 4, 15]))
  (.cond (.s 76) .skip
  (.exit 0)))
  (.seq (.block 1 (.seq (.region 1 [⟨1, (some 80), none, .mv (.s 4)⟩, ⟨2, (some 81), none, .mv (.s 20)⟩, ⟨3, (some 82), none, .iaddr 6 (.s 80) (.s 81)⟩, ⟨0, (some 79), none, .load true 5 (.s 15)⟩, ⟨4, (some 83), none, .load true 6 (.s 82)⟩, ⟨5, (some 84), none, .call ⟨true⟩ (.k (.c (.fn 14 [] []))) [(.s 79), (.s 83)]⟩, ⟨6, (some 21), none, .box 0 6 (.k (.a [(.int .i64 0), (.int .i64 0), (.int .i64 0), (.int .i64 0), (.int .i64 0), (.int .i64 0)]))⟩, ⟨7, none, none, .store 6 (.s 21) (.s 84)⟩] [(3, 6), (4, 6), (5, 6)] (some [18, 21, 20, 5, 6, 19, 4, 15]))
  (.region 1 [⟨0, (some 85), none, .mv (.s 18)⟩, ⟨1, (some 86), none, .faddr 0 (.s 21)⟩, ⟨2, (some 87), none, .load false 1 (.s 86)⟩, ⟨3, (some 88), none, .faddr 1 (.s 21)⟩, ⟨4, (some 89), none, .load false 1 (.s 88)⟩, ⟨5, (some 90), none, .faddr 2 (.s 21)⟩, ⟨6, (some 91), none, .load false 1 (.s 90)⟩, ⟨7, (some 92), none, .build [(.int .i64 0), (.int .i64 0), (.int .i64 0)] [(0, 1, (.s 87)), (1, 1, (.s 89)), (2, 1, (.s 91))]⟩, ⟨8, (some 93), none, .lit 0 3 [[(.int .i64 0), (.int .i64 0), (.int .i64 0)]] [(0, (.s 92))]⟩, ⟨9, (some 94), none, .append 3 24 (.s 85) (.s 93)⟩, ⟨10, (some 18), none, .mv (.s 94)⟩] [] (some [20, 18, 5, 6, 19, 4, 15]))))
  (.region 0 [⟨0, (some 77), none, .mv (.s 20)⟩, ⟨1, (some 78), none, .bin .add (.s 77) (.k (.c (.int .i64 1)))⟩, ⟨2, (some 20), none, .mv (.s 78)⟩] [] (some [18, 20, 5, 6, 19, 4, 15]))))
def c_kerbstonelaw05_TrackWhole_l2 : CC := (.seq (.seq (.region 0 [⟨0, (some 95), none, .mv (.s 22)⟩, ⟨1, (some 96), none, .mv (.s 5)⟩, ⟨2, (some 97), none, .len (.s 96)⟩, ⟨3, (some 98), none, .bin .lss (.s 95) (.s 97)⟩] [] (some [98, 19, 22, 18, 6, 5, 15]))
  (.cond (.s 98) .skip
  (.exit 2)))
  (.seq (.block 3 (.seq (.region 1 [⟨1, (some 102), none, .mv (.s 5)⟩, ⟨2, (some 103), none, .mv (.s 22)⟩, ⟨3, (some 104), none, .iaddr 6 (.s 102) (.s 103)⟩, ⟨0, (some 101), none, .load true 5 (.s 15)⟩, ⟨4, (some 105), none, .load true 6 (.s 104)⟩, ⟨5, (some 106), none, .call ⟨true⟩ (.k (.c (.fn 14 [] []))) [(.s 101), (.s 105)]⟩, ⟨6, (some 23), none, .box 0 6 (.k (.a [(.int .i64 0), (.int .i64 0), (.int .i64 0), (.int .i64 0), (.int .i64 0), (.int .i64 0)]))⟩, ⟨7, none, none, .store 6 (.s 23) (.s 106)⟩] [(3, 6), (4, 6), (5, 6)] (some [19, 23, 22, 18, 6, 5, 15]))
  (.region 1 [⟨0, (some 107), none, .mv (.s 19)⟩, ⟨1, (some 108), none, .faddr 0 (.s 23)⟩, ⟨2, (some 109), none, .load false 1 (.s 108)⟩, ⟨3, (some 110), none, .faddr 1 (.s 23)⟩, ⟨4, (some 111), none, .load false 1 (.s 110)⟩, ⟨5, (some 112), none, .faddr 2 (.s 23)⟩, ⟨6, (some 113), none, .load false 1 (.s 112)⟩, ⟨7, (some 114), none, .build [(.int .i64 0), (.int .i64 0), (.int .i64 0), (.int .i64 0), (.int .i64 0)] [(0, 1, (.s 109)), (1, 1, (.s 111)), (2, 1, (.s 113))]⟩, ⟨8, (some 115), none, .lit 0 5 [[(.int .i64 0), (.int .i64 0), (.int .i64 0), (.int .i64 0), (.int .i64 0)]] [(0, (.s 114))]⟩, ⟨9, (some 116), none, .append 5 40 (.s 107) (.s 115)⟩, ⟨10, (some 19), none, .mv (.s 116)⟩] [] (some [22, 19, 18, 6, 5, 15]))))
  (.region 0 [⟨0, (some 99), none, .mv (.s 22)⟩, ⟨1, (some 100), none, .bin .add (.s 99) (.k (.c (.int .i64 1)))⟩, ⟨2, (some 22), none, .mv (.s 100)⟩] [] (some [19, 22, 18, 6, 5, 15]))))
def c_kerbstonelaw05_TrackWhole_l3 : CC := (.seq (.seq (.region 0 [⟨0, (some 134), none, .mv (.s 30)⟩, ⟨1, (some 135), none, .mv (.s 18)⟩, ⟨2, (some 136), none, .len (.s 135)⟩, ⟨3, (some 137), none, .bin .lss (.s 134) (.s 136)⟩] [] (some [137, 27, 30, 19, 29, 6, 15, 24, 28, 25, 26, 18]))
  (.cond (.s 137) .skip
  (.exit 6)))
  (.seq (.block 7 (.region 0 [⟨0, (some 140), none, .mv (.s 27)⟩, ⟨1, (some 141), none, .mv (.s 140)⟩, ⟨2, (some 142), (some (141, false)), .mv (.s 18)⟩, ⟨3, (some 143), (some (141, false)), .mv (.s 30)⟩, ⟨4, (some 144), (some (141, false)), .iaddr 3 (.s 142) (.s 143)⟩, ⟨5, (some 145), (some (141, false)), .faddr 0 (.s 144)⟩, ⟨6, (some 146), (some (141, false)), .load false 1 (.s 145)⟩, ⟨7, (some 147), (some (141, false)), .mv (.s 25)⟩, ⟨8, (some 148), (some (141, false)), .bin .eql (.s 146) (.s 147)⟩, ⟨9, (some 149), (some (141, false)), .mv (.s 148)⟩, ⟨10, (some 150), (some (149, true)), .mv (.s 18)⟩, ⟨11, (some 151), (some (149, true)), .mv (.s 30)⟩, ⟨12, (some 152), (some (149, true)), .iaddr 3 (.s 150) (.s 151)⟩, ⟨13, (some 153), (some (149, true)), .faddr 1 (.s 152)⟩, ⟨14, (some 154), (some (149, true)), .load false 1 (.s 153)⟩, ⟨15, (some 155), (some (149, true)), .mv (.s 26)⟩, ⟨16, (some 156), (some (149, true)), .bin .leq (.s 154) (.s 155)⟩, ⟨17, (some 157), (some (141, false)), .pick (.s 149) (.s 156) (.k (.c (.bool false)))⟩, ⟨18, (some 158), (some (141, false)), .mv (.s 157)⟩, ⟨19, (some 159), (some (158, true)), .mv (.s 26)⟩, ⟨20, (some 160), (some (158, true)), .mv (.s 18)⟩, ⟨21, (some 161), (some (158, true)), .mv (.s 30)⟩, ⟨22, (some 162), (some (158, true)), .iaddr 3 (.s 160) (.s 161)⟩, ⟨23, (some 163), (some (158, true)), .faddr 2 (.s 162)⟩, ⟨24, (some 164), (some (158, true)), .load false 1 (.s 163)⟩, ⟨25, (some 165), (some (158, true)), .bin .leq (.s 159) (.s 164)⟩, ⟨26, (some 166), (some (141, false)), .pick (.s 158) (.s 165) (.k (.c (.bool false)))⟩, ⟨27, (some 167), none, .pick (.s 141) (.k (.c (.bool true))) (.s 166)⟩, ⟨28, (some 27), none, .mv (.s 167)⟩] [] (some [30, 27, 19, 29, 6, 15, 24, 28, 25, 26, 18])))
  (.region 0 [⟨0, (some 138), none, .mv (.s 30)⟩, ⟨1, (some 139), none, .bin .add (.s 138) (.k (.c (.int .i64 1)))⟩, ⟨2, (some 30), none, .mv (.s 139)⟩] [] (some [27, 30, 19, 29, 6, 15, 24, 28, 25, 26, 18]))))
def c_kerbstonelaw05_TrackWhole_l4 : CC := (.seq (.seq (.region 0 [⟨0, (some 168), none, .mv (.s 31)⟩, ⟨1, (some 169), none, .mv (.s 19)⟩, ⟨2, (some 170), none, .len (.s 169)⟩, ⟨3, (some 171), none, .bin .lss (.s 168) (.s 170)⟩] [] (some [171, 28, 31, 24, 27, 18, 15, 6, 29, 25, 26, 19]))
  (.cond (.s 171) .skip
  (.exit 8)))
  (.seq (.block 9 (.region 0 [⟨0, (some 174), none, .mv (.s 28)⟩, ⟨1, (some 175), none, .mv (.s 174)⟩, ⟨2, (some 176), (some (175, false)), .mv (.s 19)⟩, ⟨3, (some 177), (some (175, false)), .mv (.s 31)⟩, ⟨4, (some 178), (some (175, false)), .iaddr 5 (.s 176) (.s 177)⟩, ⟨5, (some 179), (some (175, false)), .faddr 0 (.s 178)⟩, ⟨6, (some 180), (some (175, false)), .load false 1 (.s 179)⟩, ⟨7, (some 181), (some (175, false)), .mv (.s 25)⟩, ⟨8, (some 182), (some (175, false)), .bin .eql (.s 180) (.s 181)⟩, ⟨9, (some 183), (some (175, false)), .mv (.s 182)⟩, ⟨10, (some 184), (some (183, true)), .mv (.s 19)⟩, ⟨11, (some 185), (some (183, true)), .mv (.s 31)⟩, ⟨12, (some 186), (some (183, true)), .iaddr 5 (.s 184) (.s 185)⟩, ⟨13, (some 187), (some (183, true)), .faddr 1 (.s 186)⟩, ⟨14, (some 188), (some (183, true)), .load false 1 (.s 187)⟩, ⟨15, (some 189), (some (183, true)), .mv (.s 26)⟩, ⟨16, (some 190), (some (183, true)), .bin .leq (.s 188) (.s 189)⟩, ⟨17, (some 191), (some (175, false)), .pick (.s 183) (.s 190) (.k (.c (.bool false)))⟩, ⟨18, (some 192), (some (175, false)), .mv (.s 191)⟩, ⟨19, (some 193), (some (192, true)), .mv (.s 26)⟩, ⟨20, (some 194), (some (192, true)), .mv (.s 19)⟩, ⟨21, (some 195), (some (192, true)), .mv (.s 31)⟩, ⟨22, (some 196), (some (192, true)), .iaddr 5 (.s 194) (.s 195)⟩, ⟨23, (some 197), (some (192, true)), .faddr 2 (.s 196)⟩, ⟨24, (some 198), (some (192, true)), .load false 1 (.s 197)⟩, ⟨25, (some 199), (some (192, true)), .bin .leq (.s 193) (.s 198)⟩, ⟨26, (some 200), (some (175, false)), .pick (.s 192) (.s 199) (.k (.c (.bool false)))⟩, ⟨27, (some 201), none, .pick (.s 175) (.k (.c (.bool true))) (.s 200)⟩, ⟨28, (some 28), none, .mv (.s 201)⟩] [] (some [31, 28, 24, 27, 18, 15, 6, 29, 25, 26, 19])))
  (.region 0 [⟨0, (some 172), none, .mv (.s 31)⟩, ⟨1, (some 173), none, .bin .add (.s 172) (.k (.c (.int .i64 1)))⟩, ⟨2, (some 31), none, .mv (.s 173)⟩] [] (some [28, 31, 24, 27, 18, 15, 6, 29, 25, 26, 19]))))
def c_kerbstonelaw05_TrackWhole_l5 : CC := (.seq (.seq (.region 0 [⟨0, (some 202), none, .mv (.s 32)⟩, ⟨1, (some 203), none, .mv (.s 24)⟩, ⟨2, (some 204), none, .len (.s 203)⟩, ⟨3, (some 205), none, .bin .lss (.s 202) (.s 204)⟩] [] (some [205, 29, 32, 19, 6, 15, 18, 28, 27, 25, 26, 24]))
  (.cond (.s 205) .skip
  (.exit 10)))
  (.seq (.block 11 (.seq (.region 0 [⟨0, (some 208), none, .mv (.s 24)⟩, ⟨1, (some 209), none, .mv (.s 32)⟩, ⟨2, (some 210), none, .iaddr 3 (.s 208) (.s 209)⟩, ⟨3, (some 211), none, .faddr 0 (.s 210)⟩, ⟨4, (some 212), none, .load false 1 (.s 211)⟩, ⟨5, (some 213), none, .mv (.s 25)⟩, ⟨6, (some 214), none, .bin .eql (.s 212) (.s 213)⟩, ⟨7, (some 215), none, .mv (.s 214)⟩, ⟨8, (some 216), (some (215, true)), .mv (.s 24)⟩, ⟨9, (some 217), (some (215, true)), .mv (.s 32)⟩, ⟨10, (some 218), (some (215, true)), .iaddr 3 (.s 216) (.s 217)⟩, ⟨11, (some 219), (some (215, true)), .faddr 1 (.s 218)⟩, ⟨12, (some 220), (some (215, true)), .load false 1 (.s 219)⟩, ⟨13, (some 221), (some (215, true)), .mv (.s 26)⟩, ⟨14, (some 222), (some (215, true)), .bin .leq (.s 220) (.s 221)⟩, ⟨15, (some 223), none, .pick (.s 215) (.s 222) (.k (.c (.bool false)))⟩, ⟨16, (some 224), none, .mv (.s 223)⟩, ⟨17, (some 225), (some (224, true)), .mv (.s 26)⟩, ⟨18, (some 226), (some (224, true)), .mv (.s 24)⟩, ⟨19, (some 227), (some (224, true)), .mv (.s 32)⟩, ⟨20, (some 228), (some (224, true)), .iaddr 3 (.s 226) (.s 227)⟩, ⟨21, (some 229), (some (224, true)), .faddr 2 (.s 228)⟩, ⟨22, (some 230), (some (224, true)), .load false 1 (.s 229)⟩, ⟨23, (some 231), (some (224, true)), .bin .leq (.s 225) (.s 230)⟩, ⟨24, (some 232), none, .pick (.s 224) (.s 231) (.k (.c (.bool false)))⟩] [] (some [232, 29, 32, 19, 6, 15, 18, 28, 27, 25, 26, 24]))
  (.cond (.s 232) (.region 0 [⟨0, (some 233), none, .mv (.s 29)⟩, ⟨1, (some 234), none, .bin .add (.s 233) (.k (.c (.int .i64 1)))⟩, ⟨2, (some 29), none, .mv (.s 234)⟩] [] (some [32, 29, 19, 6, 15, 18, 28, 27, 25, 26, 24]))
  .skip)))
  (.region 0 [⟨0, (some 206), none, .mv (.s 32)⟩, ⟨1, (some 207), none, .bin .add (.s 206) (.k (.c (.int .i64 1)))⟩, ⟨2, (some 32), none, .mv (.s 207)⟩] [] (some [29, 32, 19, 6, 15, 18, 28, 27, 25, 26, 24]))))
def c_kerbstonelaw05_TrackWhole_l6 : CC := (.seq (.seq (.region 0 [⟨0, (some 121), none, .mv (.s 25)⟩, ⟨1, (some 122), none, .faddr 1 (.s 15)⟩, ⟨2, (some 123), none, .load false 1 (.s 122)⟩, ⟨3, (some 124), none, .len (.s 123)⟩, ⟨4, (some 125), none, .bin .lss (.s 121) (.s 124)⟩] [] (some [125, 19, 6, 15, 24, 25, 18]))
  (.cond (.s 125) .skip
  (.exit 4)))
  (.seq (.block 5 (.seq (.region 0 [⟨0, (some 128), none, .mv (.s 6)⟩, ⟨1, (some 129), none, .load true 5 (.s 15)⟩, ⟨2, (some 130), none, .mv (.s 25)⟩, ⟨3, (some 131), none, .call ⟨true⟩ (.k (.c (.fn 17 [] []))) [(.s 129), (.s 130)]⟩, ⟨4, (some 132), none, .bin .add (.s 131) (.k (.c (.int .i64 1)))⟩, ⟨5, (some 133), none, .call ⟨true⟩ (.k (.c (.fn 16 [] []))) [(.s 128), (.s 132)]⟩, ⟨6, (some 26), none, .mv (.s 133)⟩] [] (some [19, 6, 15, 24, 25, 26, 18]))
  (.seq (.region 0 [⟨0, (some 27), none, .mv (.k (.c (.bool false)))⟩, ⟨1, (some 28), none, .mv (.k (.c (.bool false)))⟩, ⟨2, (some 29), none, .mv (.k (.c (.int .i64 0)))⟩] [] (some [27, 19, 29, 6, 15, 24, 28, 25, 26, 18]))
  (.seq (.seq (.region 0 [⟨0, (some 30), none, .mv (.k (.c (.int .i64 0)))⟩] [] (some [27, 30, 19, 29, 6, 15, 24, 28, 25, 26, 18]))
  (.block 6 (.loop (some [27, 30, 19, 29, 6, 15, 24, 28, 25, 26, 18]) c_kerbstonelaw05_TrackWhole_l3)))
  (.seq (.seq (.region 0 [⟨0, (some 31), none, .mv (.k (.c (.int .i64 0)))⟩] [] (some [28, 31, 24, 27, 18, 15, 6, 29, 25, 26, 19]))
  (.block 8 (.loop (some [28, 31, 24, 27, 18, 15, 6, 29, 25, 26, 19]) c_kerbstonelaw05_TrackWhole_l4)))
  (.seq (.seq (.region 0 [⟨0, (some 32), none, .mv (.k (.c (.int .i64 0)))⟩] [] (some [29, 32, 19, 6, 15, 18, 28, 27, 25, 26, 24]))
  (.block 10 (.loop (some [29, 32, 19, 6, 15, 18, 28, 27, 25, 26, 24]) c_kerbstonelaw05_TrackWhole_l5)))
  (.seq (.region 0 [⟨0, (some 235), none, .mv (.s 27)⟩, ⟨1, (some 236), none, .mv (.s 235)⟩, ⟨2, (some 237), (some (236, true)), .mv (.s 28)⟩, ⟨3, (some 238), (some (236, true)), .un .not (.s 237)⟩, ⟨4, (some 239), none, .pick (.s 236) (.s 238) (.k (.c (.bool false)))⟩, ⟨5, (some 240), none, .mv (.s 239)⟩, ⟨6, (some 241), (some (240, true)), .mv (.s 29)⟩, ⟨7, (some 242), (some (240, true)), .bin .neq (.s 241) (.k (.c (.int .i64 1)))⟩, ⟨8, (some 243), none, .pick (.s 240) (.s 242) (.k (.c (.bool false)))⟩, ⟨9, (some 244), none, .mv (.s 243)⟩, ⟨10, (some 245), (some (244, false)), .mv (.s 27)⟩, ⟨11, (some 246), (some (244, false)), .un .not (.s 245)⟩, ⟨12, (some 247), (some (244, false)), .mv (.s 246)⟩, ⟨13, (some 248), (some (247, false)), .mv (.s 28)⟩, ⟨14, (some 249), (some (244, false)), .pick (.s 247) (.k (.c (.bool true))) (.s 248)⟩, ⟨15, (some 250), (some (244, false)), .mv (.s 249)⟩, ⟨16, (some 251), (some (250, true)), .mv (.s 29)⟩, ⟨17, (some 252), (some (250, true)), .bin .neq (.s 251) (.k (.c (.int .i64 0)))⟩, ⟨18, (some 253), (some (244, false)), .pick (.s 250) (.s 252) (.k (.c (.bool false)))⟩, ⟨19, (some 254), none, .pick (.s 244) (.k (.c (.bool true))) (.s 253)⟩] [] (some [254, 18, 24, 15, 6, 19, 25]))
  (.cond (.s 254) (.seq (.region 0 [⟨0, (some 14), none, .mv (.k (.c (.bool false)))⟩] [] (some [14]))
  .ret)
  .skip))))))))
  (.region 0 [⟨0, (some 126), none, .mv (.s 25)⟩, ⟨1, (some 127), none, .bin .add (.s 126) (.k (.c (.int .i64 1)))⟩, ⟨2, (some 25), none, .mv (.s 127)⟩] [] (some [19, 6, 15, 24, 25, 18]))))
/-- kerbstone/kerbstonelaw05.TrackWhole -/
abbrev f_kerbstonelaw05_TrackWhole : Nat := 3
def c_kerbstonelaw05_TrackWhole : CFn := { frz := true, rnd := none, nargs := 7, ntmps := 256, res := [(.slot 14)], code :=
  (.seq (.region 1 [⟨0, (some 10), none, .box 0 3 (.s 3)⟩, ⟨1, (some 14), none, .mv (.k (.c (.bool false)))⟩] [] (some [5, 6, 4, 10, 2, 1, 0]))
  (.seq (.seq (.region 0 [⟨0, (some 33), none, .mv (.s 2)⟩, ⟨1, (some 34), none, .len (.s 33)⟩, ⟨2, (some 35), none, .bin .gtr (.s 34) (.k (.c (.int .i64 8)))⟩, ⟨3, (some 36), none, .mv (.s 35)⟩, ⟨4, (some 37), (some (36, false)), .mv (.s 4)⟩, ⟨5, (some 38), (some (36, false)), .len (.s 37)⟩, ⟨6, (some 39), (some (36, false)), .bin .gtr (.s 38) (.k (.c (.int .i64 6)))⟩, ⟨7, (some 40), none, .pick (.s 36) (.k (.c (.bool true))) (.s 39)⟩, ⟨8, (some 41), none, .mv (.s 40)⟩, ⟨9, (some 42), (some (41, false)), .mv (.s 5)⟩, ⟨10, (some 43), (some (41, false)), .len (.s 42)⟩, ⟨11, (some 44), (some (41, false)), .bin .gtr (.s 43) (.k (.c (.int .i64 6)))⟩, ⟨12, (some 45), none, .pick (.s 41) (.k (.c (.bool true))) (.s 44)⟩] [] (some [45, 5, 6, 4, 10, 2, 1, 0]))
  (.cond (.s 45) (.seq (.region 0 [⟨0, (some 46), none, .call ⟨true⟩ (.k (.c (.fn 8 [] []))) []⟩, ⟨1, (some 14), none, .mv (.s 46)⟩] [] (some [14]))
  .ret)
  .skip))
  (.seq (.region 1 [⟨0, (some 47), none, .mv (.s 0)⟩, ⟨1, (some 48), none, .call ⟨true⟩ (.k (.c (.fn 9 [] []))) [(.s 47)]⟩, ⟨2, (some 15), none, .box 0 5 (.k (.a [(.int .i64 0), .nilslice, .nilslice, .nilslice, .nilslice]))⟩, ⟨3, none, none, .store 5 (.s 15) (.s 48)⟩] [] (some [1, 2, 10, 15, 4, 6, 5]))
  (.seq (.region 0 [⟨0, (some 49), none, .load true 5 (.s 15)⟩, ⟨1, (some 50), none, .mv (.s 1)⟩, ⟨2, (some 51), none, .call ⟨true⟩ (.k (.c (.fn 10 [] []))) [(.s 49), (.s 50)]⟩, ⟨3, (some 16), none, .mv (.s 51)⟩] [] (some [16, 2, 10, 15, 4, 6, 5]))
  (.seq (.region 1 [⟨0, (some 52), none, .load true 5 (.s 15)⟩, ⟨1, (some 53), none, .mv (.s 16)⟩, ⟨2, (some 54), none, .mv (.s 2)⟩, ⟨3, (some 55), none, .aaddr 3 1 (.s 10) (.k (.c (.int .i64 0)))⟩, ⟨4, (some 56), none, .load false 1 (.s 55)⟩, ⟨5, (some 57), none, .aaddr 3 1 (.s 10) (.k (.c (.int .i64 1)))⟩, ⟨6, (some 58), none, .load false 1 (.s 57)⟩, ⟨7, (some 59), none, .aaddr 3 1 (.s 10) (.k (.c (.int .i64 2)))⟩, ⟨8, (some 60), none, .load false 1 (.s 59)⟩, ⟨9, (some 61), none, .aaddr 3 1 (.s 10) (.k (.c (.int .i64 0)))⟩, ⟨10, (some 62), none, .load false 1 (.s 61)⟩, ⟨11, (some 63), none, .call ⟨true⟩ (.k (.c (.fn 11 [] []))) [(.s 52), (.s 53), (.s 54), (.s 56), (.s 58), (.s 60), (.s 62)]⟩, ⟨12, (some 17), none, .box 0 6 (.k (.a [(.int .i64 0), .nilslice, (.int .i64 0), (.int .i64 0), (.int .i64 0), (.int .i64 0)]))⟩, ⟨13, none, none, .store 6 (.s 17) (.s 63)⟩] [] (some [17, 15, 4, 6, 5]))
  (.seq (.seq (.region 0 [⟨2, (some 66), none, .faddr 0 (.s 17)⟩, ⟨4, (some 68), none, .faddr 2 (.s 17)⟩, ⟨0, (some 64), none, .load true 6 (.s 17)⟩, ⟨1, (some 65), none, .load true 5 (.s 15)⟩, ⟨3, (some 67), none, .load false 1 (.s 66)⟩, ⟨5, (some 69), none, .load true 4 (.s 68)⟩, ⟨6, (some 70), none, .call ⟨true⟩ (.k (.c (.fn 13 [] []))) [(.s 65), (.s 67), (.s 69)]⟩, ⟨7, (some 71), none, .call ⟨true⟩ (.k (.c (.fn 12 [] []))) [(.s 64), (.s 70)]⟩, ⟨8, (some 72), none, .un .not (.s 71)⟩] [(2, 6)] (some [72, 15, 4, 6, 5]))
  (.cond (.s 72) (.seq (.region 0 [⟨0, (some 14), none, .mv (.k (.c (.bool false)))⟩] [] (some [14]))
  .ret)
  .skip))
  (.seq (.region 1 [⟨0, (some 18), none, .newsl 0 3⟩] [] (some [18, 5, 6, 4, 15]))
  (.seq (.region 1 [⟨0, (some 19), none, .newsl 0 5⟩] [] (some [18, 5, 6, 19, 4, 15]))
  (.seq (.seq (.region 0 [⟨0, (some 20), none, .mv (.k (.c (.int .i64 0)))⟩] [] (some [18, 20, 5, 6, 19, 4, 15]))
  (.block 0 (.loop (some [18, 20, 5, 6, 19, 4, 15]) c_kerbstonelaw05_TrackWhole_l1)))
  (.seq (.seq (.region 0 [⟨0, (some 22), none, .mv (.k (.c (.int .i64 0)))⟩] [] (some [19, 22, 18, 6, 5, 15]))
  (.block 2 (.loop (some [19, 22, 18, 6, 5, 15]) c_kerbstonelaw05_TrackWhole_l2)))
  (.seq (.region 0 [⟨0, (some 117), none, .load true 5 (.s 15)⟩, ⟨1, (some 118), none, .mv (.s 18)⟩, ⟨2, (some 119), none, .mv (.s 19)⟩, ⟨3, (some 120), none, .call ⟨true⟩ (.k (.c (.fn 15 [] []))) [(.s 117), (.s 118), (.s 119)]⟩, ⟨4, (some 24), none, .mv (.s 120)⟩] [] (some [19, 6, 15, 24, 18]))
  (.seq (.seq (.region 0 [⟨0, (some 25), none, .mv (.k (.c (.int .i64 0)))⟩] [] (some [19, 6, 15, 24, 25, 18]))
  (.block 4 (.loop (some [19, 6, 15, 24, 25, 18]) c_kerbstonelaw05_TrackWhole_l6)))
  (.seq (.region 0 [⟨0, (some 255), none, .call ⟨true⟩ (.k (.c (.fn 8 [] []))) []⟩, ⟨1, (some 14), none, .mv (.s 255)⟩] [] (some [14]))
  .ret))))))))))))) }
/-- kerbstone/kerbstonelaw05.awake -/
abbrev f_kerbstonelaw05_awake : Nat := 8
def c_kerbstonelaw05_awake : CFn := { frz := true, rnd := none, nargs := 0, ntmps := 31, res := [(.slot 0)], code :=
  (.seq (.region 0 [⟨0, (some 0), none, .mv (.k (.c (.bool false)))⟩] [] (some []))
  (.seq (.region 1 [⟨0, (some 4), none, .build [(.int .i64 0), (.int .i64 0), (.int .i64 0), (.int .i64 0), (.int .i64 0), (.int .i64 0)] [(1, 1, (.k (.c (.int .i64 5)))), (2, 1, (.k (.c (.int .i64 9))))]⟩, ⟨1, (some 5), none, .build [(.int .i64 0), (.int .i64 0), (.int .i64 0), (.int .i64 0), (.int .i64 0), (.int .i64 0)] [(2, 1, (.k (.c (.int .i64 4))))]⟩, ⟨2, (some 6), none, .build [(.int .i64 0), (.int .i64 0), (.int .i64 0), (.int .i64 0), (.int .i64 0), (.int .i64 0)] [(1, 1, (.k (.c (.int .i64 11)))), (2, 1, (.k (.c (.int .i64 12))))]⟩, ⟨3, (some 7), none, .build [(.int .i64 0), (.int .i64 0), (.int .i64 0), (.int .i64 0), (.int .i64 0), (.int .i64 0)] [(1, 1, (.k (.c (.int .i64 20)))), (2, 1, (.k (.c (.int .i64 19))))]⟩, ⟨4, (some 8), none, .lit 0 6 [[(.int .i64 0), (.int .i64 0), (.int .i64 0), (.int .i64 0), (.int .i64 0), (.int .i64 0)], [(.int .i64 0), (.int .i64 0), (.int .i64 0), (.int .i64 0), (.int .i64 0), (.int .i64 0)], [(.int .i64 0), (.int .i64 0), (.int .i64 0), (.int .i64 0), (.int .i64 0), (.int .i64 0)], [(.int .i64 0), (.int .i64 0), (.int .i64 0), (.int .i64 0), (.int .i64 0), (.int .i64 0)]] [(0, (.s 4)), (1, (.s 5)), (2, (.s 6)), (3, (.s 7))]⟩, ⟨5, (some 9), none, .call ⟨true⟩ (.k (.c (.fn 42 [] []))) [(.s 8)]⟩, ⟨6, (some 1), none, .mv (.s 9)⟩] [] (some [1]))
  (.seq (.region 1 [⟨0, (some 10), none, .call ⟨true⟩ (.k (.c (.fn 43 [] []))) []⟩, ⟨1, (some 2), none, .box 0 5 (.k (.a [(.int .i64 0), .nilslice, .nilslice, .nilslice, .nilslice]))⟩, ⟨2, none, none, .store 5 (.s 2) (.s 10)⟩] [] (some [2, 1]))
  (.seq (.region 2 [⟨0, (some 11), none, .load true 5 (.s 2)⟩, ⟨2, (some 13), none, .load true 5 (.s 2)⟩, ⟨3, (some 14), none, .call ⟨true⟩ (.k (.c (.fn 45 [] []))) []⟩, ⟨4, (some 15), none, .call ⟨true⟩ (.k (.c (.fn 13 [] []))) [(.s 13), (.k (.c (.int .i64 0))), (.s 14)]⟩, ⟨1, (some 12), none, .lit 0 1 [[(.int .i64 0)]] [(0, (.k (.c (.int .i64 0))))]⟩, ⟨5, (some 16), none, .call ⟨true⟩ (.k (.c (.fn 44 [] []))) [(.s 11), (.s 12), (.k (.c (.int .i64 4000))), (.s 15)]⟩, ⟨6, (some 3), none, .box 1 6 (.k (.a [(.int .i64 0), .nilslice, (.int .i64 0), (.int .i64 0), (.int .i64 0), (.int .i64 0)]))⟩, ⟨7, none, none, .store 6 (.s 3) (.s 16)⟩] [(0, 2), (0, 3), (0, 4), (0, 6), (1, 2), (1, 4), (1, 6), (2, 4), (2, 6), (3, 4), (3, 6), (4, 6), (5, 6)] (some [1, 3]))
  (.seq (.region 2 [⟨0, (some 17), none, .mv (.s 1)⟩, ⟨1, (some 18), none, .build [(.int .i64 0), (.int .i64 0), (.int .i64 0), (.int .i64 0), (.int .i64 0), (.int .i64 0)] [(2, 1, (.k (.c (.int .i64 9))))]⟩, ⟨2, (some 19), none, .build [(.int .i64 0), (.int .i64 0), (.int .i64 0), (.int .i64 0), (.int .i64 0), (.int .i64 0)] [(1, 1, (.k (.c (.int .i64 11)))), (2, 1, (.k (.c (.int .i64 12))))]⟩, ⟨3, (some 20), none, .lit 0 6 [[(.int .i64 0), (.int .i64 0), (.int .i64 0), (.int .i64 0), (.int .i64 0), (.int .i64 0)], [(.int .i64 0), (.int .i64 0), (.int .i64 0), (.int .i64 0), (.int .i64 0), (.int .i64 0)]] [(0, (.s 18)), (1, (.s 19))]⟩, ⟨4, (some 21), none, .call ⟨true⟩ (.k (.c (.fn 46 [] []))) [(.s 17), (.s 20)]⟩, ⟨5, (some 22), none, .mv (.s 21)⟩, ⟨6, (some 23), (some (22, true)), .faddr 1 (.s 3)⟩, ⟨7, (some 24), (some (22, true)), .load false 1 (.s 23)⟩, ⟨8, (some 25), (some (22, true)), .build [(.int .i64 0), (.int .i64 0), (.int .i64 0), (.int .i64 0), (.int .i64 0), (.int .i64 0)] [(2, 1, (.k (.c (.int .i64 6009)))), (4, 1, (.k (.c (.int .i64 2000))))]⟩, ⟨9, (some 26), (some (22, true)), .build [(.int .i64 0), (.int .i64 0), (.int .i64 0), (.int .i64 0), (.int .i64 0), (.int .i64 0)] [(1, 1, (.k (.c (.int .i64 10001)))), (2, 1, (.k (.c (.int .i64 100000)))), (4, 1, (.k (.c (.int .i64 2000))))]⟩, ⟨10, (some 27), (some (22, true)), .build [(.int .i64 0), (.int .i64 0), (.int .i64 0), (.int .i64 0), (.int .i64 0), (.int .i64 0)] [(0, 1, (.k (.c (.int .i64 1)))), (2, 1, (.k (.c (.int .i64 100000)))), (4, 1, (.k (.c (.int .i64 2000))))]⟩, ⟨11, (some 28), (some (22, true)), .lit 1 6 [[(.int .i64 0), (.int .i64 0), (.int .i64 0), (.int .i64 0), (.int .i64 0), (.int .i64 0)], [(.int .i64 0), (.int .i64 0), (.int .i64 0), (.int .i64 0), (.int .i64 0), (.int .i64 0)], [(.int .i64 0), (.int .i64 0), (.int .i64 0), (.int .i64 0), (.int .i64 0), (.int .i64 0)]] [(0, (.s 25)), (1, (.s 26)), (2, (.s 27))]⟩, ⟨12, (some 29), (some (22, true)), .call ⟨true⟩ (.k (.c (.fn 46 [] []))) [(.s 24), (.s 28)]⟩, ⟨13, (some 30), none, .pick (.s 22) (.s 29) (.k (.c (.bool false)))⟩, ⟨14, (some 0), none, .mv (.s 30)⟩] [] (some [0]))
  .ret))))) }
/-- kerbstone/kerbstonekit.Map -/
abbrev f_kerbstonekit_Map : Nat := 9
def c_kerbstonekit_Map : CFn := { frz := true, rnd := none, nargs := 1, ntmps := 179, res := [(.cell 2 true 5)], code :=
  (.seq (.region 1 [⟨0, (some 2), none, .box 0 5 (.k (.a [(.int .i64 0), .nilslice, .nilslice, .nilslice, .nilslice]))⟩] [] (some [0, 2]))
  (.seq (.region 0 [⟨0, (some 5), none, .mv (.s 0)⟩, ⟨1, (some 6), none, .call ⟨true⟩ (.k (.c (.fn 47 [] []))) [(.s 5), (.k (.c (.int .i64 16777216)))]⟩, ⟨2, (some 0), none, .mv (.s 6)⟩] [] (some [0, 2]))
  (.seq (.region 1 [⟨0, (some 7), none, .lit 0 1 [[(.int .i64 0)], [(.int .i64 0)], [(.int .i64 0)], [(.int .i64 0)]] [(0, (.k (.c (.int .i64 1500)))), (1, (.k (.c (.int .i64 600)))), (2, (.k (.c (.int .i64 1000)))), (3, (.k (.c (.int .i64 300))))]⟩, ⟨1, (some 8), none, .mv (.s 0)⟩, ⟨2, (some 9), none, .bin .quo (.s 8) (.k (.c (.int .i64 7)))⟩, ⟨3, (some 10), none, .bin .rem (.s 9) (.k (.c (.int .i64 4)))⟩, ⟨4, (some 11), none, .iaddr 1 (.s 7) (.s 10)⟩, ⟨5, (some 12), none, .load false 1 (.s 11)⟩, ⟨6, (some 3), none, .mv (.s 12)⟩] [] (some [3, 0, 2]))
  (.seq (.region 1 [⟨0, (some 4), none, .box 0 5 (.k (.a [(.int .i64 0), .nilslice, .nilslice, .nilslice, .nilslice]))⟩] [] (some [3, 0, 4, 2]))
  (.seq (.seq (.region 0 [⟨0, (some 13), none, .mv (.s 0)⟩, ⟨1, (some 14), none, .bin .rem (.s 13) (.k (.c (.int .i64 7)))⟩] [] (some [14, 3, 0, 4, 2]))
  (.block 0 (.seq (.region 0 [⟨0, (some 16), none, .bin .eql (.s 14) (.k (.c (.int .i64 0)))⟩, ⟨1, (some 15), none, .mv (.s 16)⟩] [] (some [15, 14, 3, 0, 4, 2]))
  (.cond (.s 15) (.region 2 [⟨0, (some 17), none, .mv (.s 3)⟩, ⟨1, (some 18), none, .lit 0 1 [[(.int .i64 0)], [(.int .i64 0)], [(.int .i64 0)], [(.int .i64 0)]] [(0, (.k (.c (.int .i64 0)))), (1, (.k (.c (.int .i64 0)))), (2, (.k (.c (.int .i64 60000)))), (3, (.k (.c (.int .i64 0))))]⟩, ⟨2, (some 19), none, .call ⟨true⟩ (.k (.c (.fn 48 [] []))) [(.k (.c (.int .i64 1))), (.s 17), (.k (.c .nilslice)), (.s 18)]⟩, ⟨3, (some 20), none, .lit 1 5 [[(.int .i64 0), .nilslice, (.int .i64 0), (.int .i64 0), .nilslice]] [(0, (.s 19))]⟩, ⟨4, (some 21), none, .faddr 1 (.s 4)⟩, ⟨5, none, none, .store 1 (.s 21) (.s 20)⟩] [] (some [0, 4, 2]))
  (.seq (.seq (.region 0 [⟨0, (some 23), none, .bin .eql (.s 14) (.k (.c (.int .i64 1)))⟩, ⟨1, (some 22), none, .mv (.s 23)⟩] [] (some [22, 14, 3, 0, 4, 2]))
  (.cond (.s 22) .skip
  (.region 0 [⟨0, (some 24), none, .bin .eql (.s 14) (.k (.c (.int .i64 2)))⟩, ⟨1, (some 22), none, .mv (.s 24)⟩] [] (some [22, 14, 3, 0, 4, 2]))))
  (.cond (.s 22) (.seq (.region 3 [⟨0, (some 25), none, .mv (.s 3)⟩, ⟨1, (some 26), none, .lit 0 1 [[(.int .i64 0)], [(.int .i64 0)], [(.int .i64 0)], [(.int .i64 0)]] [(0, (.k (.c (.int .i64 0)))), (1, (.k (.c (.int .i64 0)))), (2, (.k (.c (.int .i64 50000)))), (3, (.k (.c (.int .i64 0))))]⟩, ⟨2, (some 27), none, .call ⟨true⟩ (.k (.c (.fn 48 [] []))) [(.k (.c (.int .i64 1))), (.s 25), (.k (.c .nilslice)), (.s 26)]⟩, ⟨3, (some 28), none, .lit 1 1 [[(.int .i64 0)], [(.int .i64 0)], [(.int .i64 0)], [(.int .i64 0)]] [(0, (.k (.c (.int .i64 30000)))), (1, (.k (.c (.int .i64 (-20000))))), (2, (.k (.c (.int .i64 30000)))), (3, (.k (.c (.int .i64 20000))))]⟩, ⟨4, (some 29), none, .call ⟨true⟩ (.k (.c (.fn 48 [] []))) [(.k (.c (.int .i64 1))), (.k (.c (.int .i64 1500))), (.k (.c .nilslice)), (.s 28)]⟩, ⟨5, (some 30), none, .lit 2 5 [[(.int .i64 0), .nilslice, (.int .i64 0), (.int .i64 0), .nilslice], [(.int .i64 0), .nilslice, (.int .i64 0), (.int .i64 0), .nilslice]] [(0, (.s 27)), (1, (.s 29))]⟩, ⟨6, (some 31), none, .faddr 1 (.s 4)⟩, ⟨7, none, none, .store 1 (.s 31) (.s 30)⟩] [] (some [0, 4, 2]))
  (.seq (.region 2 [⟨0, (some 32), none, .mv (.s 0)⟩, ⟨1, (some 33), none, .bin .quo (.s 32) (.k (.c (.int .i64 28)))⟩, ⟨2, (some 34), none, .bin .rem (.s 33) (.k (.c (.int .i64 2)))⟩, ⟨3, (some 35), none, .build [(.int .i64 0), (.int .i64 0), (.int .i64 0), (.int .i64 0)] [(0, 1, (.k (.c (.int .i64 0)))), (1, 1, (.k (.c (.int .i64 28000)))), (2, 1, (.k (.c (.int .i64 32000)))), (3, 1, (.s 34))]⟩, ⟨4, (some 36), none, .mv (.s 0)⟩, ⟨5, (some 37), none, .bin .quo (.s 36) (.k (.c (.int .i64 28)))⟩, ⟨6, (some 38), none, .bin .rem (.s 37) (.k (.c (.int .i64 2)))⟩, ⟨7, (some 39), none, .bin .mul (.k (.c (.int .i64 2))) (.s 38)⟩, ⟨8, (some 40), none, .bin .sub (.k (.c (.int .i64 2))) (.s 39)⟩, ⟨9, (some 41), none, .build [(.int .i64 0), (.int .i64 0), (.int .i64 0), (.int .i64 0)] [(0, 1, (.k (.c (.int .i64 1)))), (1, 1, (.k (.c (.int .i64 18000)))), (2, 1, (.k (.c (.int .i64 22000)))), (3, 1, (.s 40))]⟩, ⟨10, (some 42), none, .lit 0 4 [[(.int .i64 0), (.int .i64 0), (.int .i64 0), (.int .i64 0)], [(.int .i64 0), (.int .i64 0), (.int .i64 0), (.int .i64 0)]] [(0, (.s 35)), (1, (.s 41))]⟩, ⟨11, (some 43), none, .build [.nilslice, (.int .i64 0)] [(0, 1, (.s 42))]⟩, ⟨12, (some 44), none, .lit 1 2 [[.nilslice, (.int .i64 0)]] [(0, (.s 43))]⟩, ⟨13, (some 45), none, .faddr 2 (.s 4)⟩, ⟨14, none, none, .store 1 (.s 45) (.s 44)⟩] [] (some [0, 4, 2]))
  (.seq (.region 0 [⟨0, (some 46), none, .mv (.s 0)⟩, ⟨1, (some 47), none, .bin .rem (.s 46) (.k (.c (.int .i64 7)))⟩, ⟨2, (some 48), none, .bin .eql (.s 47) (.k (.c (.int .i64 2)))⟩] [] (some [48, 0, 4, 2]))
  (.cond (.s 48) (.seq (.region 0 [⟨0, (some 49), none, .faddr 2 (.s 4)⟩, ⟨1, (some 50), none, .load false 1 (.s 49)⟩, ⟨2, (some 51), none, .iaddr 2 (.s 50) (.k (.c (.int .i64 0)))⟩, ⟨3, (some 52), none, .faddr 1 (.s 51)⟩, ⟨4, none, none, .store 1 (.s 52) (.k (.c (.int .i64 1)))⟩] [] (some [0, 4, 2]))
  (.region 1 [⟨0, (some 53), none, .mv (.s 0)⟩, ⟨1, (some 54), none, .bin .quo (.s 53) (.k (.c (.int .i64 28)))⟩, ⟨2, (some 55), none, .bin .rem (.s 54) (.k (.c (.int .i64 31)))⟩, ⟨3, (some 56), none, .call ⟨true⟩ (.k (.c (.fn 49 [] []))) [(.s 55), (.k (.c (.int .i64 0))), (.k (.c (.int .i64 1)))]⟩, ⟨4, (some 57), none, .lit 0 2 [[(.int .i64 0), .nilslice]] [(0, (.s 56))]⟩, ⟨5, (some 58), none, .faddr 3 (.s 4)⟩, ⟨6, none, none, .store 1 (.s 58) (.s 57)⟩] [] (some [0, 4, 2])))
  .skip))))
  (.seq (.region 0 [⟨0, (some 60), none, .bin .eql (.s 14) (.k (.c (.int .i64 3)))⟩, ⟨1, (some 59), none, .mv (.s 60)⟩] [] (some [59, 14, 3, 0, 4, 2]))
  (.cond (.s 59) (.region 5 [⟨0, (some 61), none, .mv (.s 3)⟩, ⟨1, (some 62), none, .lit 0 1 [[(.int .i64 0)], [(.int .i64 0)]] [(0, (.k (.c (.int .i64 1)))), (1, (.k (.c (.int .i64 2))))]⟩, ⟨2, (some 63), none, .lit 1 1 [[(.int .i64 0)], [(.int .i64 0)], [(.int .i64 0)], [(.int .i64 0)]] [(0, (.k (.c (.int .i64 0)))), (1, (.k (.c (.int .i64 0)))), (2, (.k (.c (.int .i64 30000)))), (3, (.k (.c (.int .i64 0))))]⟩, ⟨3, (some 64), none, .call ⟨true⟩ (.k (.c (.fn 48 [] []))) [(.k (.c (.int .i64 1))), (.s 61), (.s 62), (.s 63)]⟩, ⟨4, (some 65), none, .lit 2 1 [[(.int .i64 0)], [(.int .i64 0)], [(.int .i64 0)], [(.int .i64 0)]] [(0, (.k (.c (.int .i64 30000)))), (1, (.k (.c (.int .i64 0)))), (2, (.k (.c (.int .i64 60000)))), (3, (.k (.c (.int .i64 0))))]⟩, ⟨5, (some 66), none, .call ⟨true⟩ (.k (.c (.fn 48 [] []))) [(.k (.c (.int .i64 1))), (.k (.c (.int .i64 1500))), (.k (.c .nilslice)), (.s 65)]⟩, ⟨6, (some 67), none, .lit 3 1 [[(.int .i64 0)], [(.int .i64 0)], [(.int .i64 0)], [(.int .i64 0)]] [(0, (.k (.c (.int .i64 30000)))), (1, (.k (.c (.int .i64 0)))), (2, (.k (.c (.int .i64 54000)))), (3, (.k (.c (.int .i64 10000))))]⟩, ⟨7, (some 68), none, .call ⟨true⟩ (.k (.c (.fn 48 [] []))) [(.k (.c (.int .i64 1))), (.k (.c (.int .i64 800))), (.k (.c .nilslice)), (.s 67)]⟩, ⟨8, (some 69), none, .lit 4 5 [[(.int .i64 0), .nilslice, (.int .i64 0), (.int .i64 0), .nilslice], [(.int .i64 0), .nilslice, (.int .i64 0), (.int .i64 0), .nilslice], [(.int .i64 0), .nilslice, (.int .i64 0), (.int .i64 0), .nilslice]] [(0, (.s 64)), (1, (.s 66)), (2, (.s 68))]⟩, ⟨9, (some 70), none, .faddr 1 (.s 4)⟩, ⟨10, none, none, .store 1 (.s 70) (.s 69)⟩] [] (some [0, 4, 2]))
  (.seq (.region 0 [⟨0, (some 72), none, .bin .eql (.s 14) (.k (.c (.int .i64 4)))⟩, ⟨1, (some 71), none, .mv (.s 72)⟩] [] (some [71, 14, 3, 0, 4, 2]))
  (.cond (.s 71) (.seq (.region 6 [⟨0, (some 73), none, .mv (.s 3)⟩, ⟨1, (some 74), none, .lit 0 1 [[(.int .i64 0)]] [(0, (.k (.c (.int .i64 2))))]⟩, ⟨2, (some 75), none, .lit 1 1 [[(.int .i64 0)], [(.int .i64 0)], [(.int .i64 0)], [(.int .i64 0)]] [(0, (.k (.c (.int .i64 0)))), (1, (.k (.c (.int .i64 0)))), (2, (.k (.c (.int .i64 30000)))), (3, (.k (.c (.int .i64 0))))]⟩, ⟨3, (some 76), none, .call ⟨true⟩ (.k (.c (.fn 48 [] []))) [(.k (.c (.int .i64 1))), (.s 73), (.s 74), (.s 75)]⟩, ⟨4, (some 77), none, .lit 2 1 [[(.int .i64 0)]] [(0, (.k (.c (.int .i64 2))))]⟩, ⟨5, (some 78), none, .lit 3 1 [[(.int .i64 0)], [(.int .i64 0)], [(.int .i64 0)], [(.int .i64 0)]] [(0, (.k (.c (.int .i64 6000)))), (1, (.k (.c (.int .i64 (-10000))))), (2, (.k (.c (.int .i64 30000)))), (3, (.k (.c (.int .i64 0))))]⟩, ⟨6, (some 79), none, .call ⟨true⟩ (.k (.c (.fn 48 [] []))) [(.k (.c (.int .i64 1))), (.k (.c (.int .i64 1500))), (.s 77), (.s 78)]⟩, ⟨7, (some 80), none, .lit 4 1 [[(.int .i64 0)], [(.int .i64 0)], [(.int .i64 0)], [(.int .i64 0)]] [(0, (.k (.c (.int .i64 30000)))), (1, (.k (.c (.int .i64 0)))), (2, (.k (.c (.int .i64 60000)))), (3, (.k (.c (.int .i64 0))))]⟩, ⟨8, (some 81), none, .call ⟨true⟩ (.k (.c (.fn 48 [] []))) [(.k (.c (.int .i64 1))), (.k (.c (.int .i64 1500))), (.k (.c .nilslice)), (.s 80)]⟩, ⟨9, (some 82), none, .lit 5 5 [[(.int .i64 0), .nilslice, (.int .i64 0), (.int .i64 0), .nilslice], [(.int .i64 0), .nilslice, (.int .i64 0), (.int .i64 0), .nilslice], [(.int .i64 0), .nilslice, (.int .i64 0), (.int .i64 0), .nilslice]] [(0, (.s 76)), (1, (.s 79)), (2, (.s 81))]⟩, ⟨10, (some 83), none, .faddr 1 (.s 4)⟩, ⟨11, none, none, .store 1 (.s 83) (.s 82)⟩] [] (some [0, 4, 2]))
  (.region 2 [⟨0, (some 84), none, .build [(.int .i64 0), (.int .i64 0), (.int .i64 0), (.int .i64 0)] [(0, 1, (.k (.c (.int .i64 0)))), (1, 1, (.k (.c (.int .i64 25000)))), (2, 1, (.k (.c (.int .i64 30000)))), (3, 1, (.k (.c (.int .i64 1))))]⟩, ⟨1, (some 85), none, .build [(.int .i64 0), (.int .i64 0), (.int .i64 0), (.int .i64 0)] [(0, 1, (.k (.c (.int .i64 1)))), (1, 1, (.k (.c (.int .i64 20000)))), (2, 1, (.k (.c (.int .i64 26000))))]⟩, ⟨2, (some 86), none, .build [(.int .i64 0), (.int .i64 0), (.int .i64 0), (.int .i64 0)] [(0, 1, (.k (.c (.int .i64 2)))), (2, 1, (.k (.c (.int .i64 5000))))]⟩, ⟨3, (some 87), none, .lit 0 4 [[(.int .i64 0), (.int .i64 0), (.int .i64 0), (.int .i64 0)], [(.int .i64 0), (.int .i64 0), (.int .i64 0), (.int .i64 0)], [(.int .i64 0), (.int .i64 0), (.int .i64 0), (.int .i64 0)]] [(0, (.s 84)), (1, (.s 85)), (2, (.s 86))]⟩, ⟨4, (some 88), none, .build [.nilslice, (.int .i64 0)] [(0, 1, (.s 87))]⟩, ⟨5, (some 89), none, .lit 1 2 [[.nilslice, (.int .i64 0)]] [(0, (.s 88))]⟩, ⟨6, (some 90), none, .faddr 2 (.s 4)⟩, ⟨7, none, none, .store 1 (.s 90) (.s 89)⟩] [] (some [0, 4, 2])))
  (.seq (.region 0 [⟨0, (some 92), none, .bin .eql (.s 14) (.k (.c (.int .i64 5)))⟩, ⟨1, (some 91), none, .mv (.s 92)⟩] [] (some [91, 14, 3, 0, 4, 2]))
  (.cond (.s 91) (.seq (.region 5 [⟨0, (some 93), none, .mv (.s 3)⟩, ⟨1, (some 94), none, .lit 0 1 [[(.int .i64 0)]] [(0, (.k (.c (.int .i64 1))))]⟩, ⟨2, (some 95), none, .lit 1 1 [[(.int .i64 0)], [(.int .i64 0)], [(.int .i64 0)], [(.int .i64 0)]] [(0, (.k (.c (.int .i64 0)))), (1, (.k (.c (.int .i64 0)))), (2, (.k (.c (.int .i64 20000)))), (3, (.k (.c (.int .i64 0))))]⟩, ⟨3, (some 96), none, .call ⟨true⟩ (.k (.c (.fn 48 [] []))) [(.k (.c (.int .i64 1))), (.s 93), (.s 94), (.s 95)]⟩, ⟨4, (some 97), none, .mv (.s 3)⟩, ⟨5, (some 98), none, .lit 2 1 [[(.int .i64 0)], [(.int .i64 0)], [(.int .i64 0)], [(.int .i64 0)]] [(0, (.k (.c (.int .i64 20000)))), (1, (.k (.c (.int .i64 0)))), (2, (.k (.c (.int .i64 50000)))), (3, (.k (.c (.int .i64 0))))]⟩, ⟨6, (some 99), none, .call ⟨true⟩ (.k (.c (.fn 48 [] []))) [(.k (.c (.int .i64 1))), (.s 97), (.k (.c .nilslice)), (.s 98)]⟩, ⟨7, (some 100), none, .lit 3 1 [[(.int .i64 0)], [(.int .i64 0)], [(.int .i64 0)], [(.int .i64 0)]] [(0, (.k (.c (.int .i64 35000)))), (1, (.k (.c (.int .i64 (-8000))))), (2, (.k (.c (.int .i64 35000)))), (3, (.k (.c (.int .i64 8000))))]⟩, ⟨8, (some 101), none, .call ⟨true⟩ (.k (.c (.fn 48 [] []))) [(.k (.c (.int .i64 3))), (.k (.c (.int .i64 200))), (.k (.c .nilslice)), (.s 100)]⟩, ⟨9, (some 102), none, .lit 4 5 [[(.int .i64 0), .nilslice, (.int .i64 0), (.int .i64 0), .nilslice], [(.int .i64 0), .nilslice, (.int .i64 0), (.int .i64 0), .nilslice], [(.int .i64 0), .nilslice, (.int .i64 0), (.int .i64 0), .nilslice]] [(0, (.s 96)), (1, (.s 99)), (2, (.s 101))]⟩, ⟨10, (some 103), none, .faddr 1 (.s 4)⟩, ⟨11, none, none, .store 1 (.s 103) (.s 102)⟩] [] (some [0, 4, 2]))
  (.region 2 [⟨0, (some 104), none, .build [(.int .i64 0), (.int .i64 0), (.int .i64 0), (.int .i64 0)] [(0, 1, (.k (.c (.int .i64 1)))), (1, 1, (.k (.c (.int .i64 14000)))), (2, 1, (.k (.c (.int .i64 16000))))]⟩, ⟨1, (some 105), none, .build [(.int .i64 0), (.int .i64 0), (.int .i64 0), (.int .i64 0)] [(0, 1, (.k (.c (.int .i64 2)))), (1, 1, (.k (.c (.int .i64 6000)))), (2, 1, (.k (.c (.int .i64 10000)))), (3, 1, (.k (.c (.int .i64 3))))]⟩, ⟨2, (some 106), none, .lit 0 4 [[(.int .i64 0), (.int .i64 0), (.int .i64 0), (.int .i64 0)], [(.int .i64 0), (.int .i64 0), (.int .i64 0), (.int .i64 0)]] [(0, (.s 104)), (1, (.s 105))]⟩, ⟨3, (some 107), none, .build [.nilslice, (.int .i64 0)] [(0, 1, (.s 106))]⟩, ⟨4, (some 108), none, .lit 1 2 [[.nilslice, (.int .i64 0)]] [(0, (.s 107))]⟩, ⟨5, (some 109), none, .faddr 2 (.s 4)⟩, ⟨6, none, none, .store 1 (.s 109) (.s 108)⟩] [] (some [0, 4, 2])))
  (.seq (.region 0 [⟨0, (some 111), none, .bin .eql (.s 14) (.k (.c (.int .i64 6)))⟩, ⟨1, (some 110), none, .mv (.s 111)⟩] [] (some [110, 3, 0, 4, 2]))
  (.cond (.s 110) (.seq (.region 6 [⟨0, (some 112), none, .mv (.s 3)⟩, ⟨1, (some 113), none, .lit 0 1 [[(.int .i64 0)], [(.int .i64 0)]] [(0, (.k (.c (.int .i64 1)))), (1, (.k (.c (.int .i64 2))))]⟩, ⟨2, (some 114), none, .lit 1 1 [[(.int .i64 0)], [(.int .i64 0)], [(.int .i64 0)], [(.int .i64 0)]] [(0, (.k (.c (.int .i64 0)))), (1, (.k (.c (.int .i64 0)))), (2, (.k (.c (.int .i64 20000)))), (3, (.k (.c (.int .i64 0))))]⟩, ⟨3, (some 115), none, .call ⟨true⟩ (.k (.c (.fn 48 [] []))) [(.k (.c (.int .i64 1))), (.s 112), (.s 113), (.s 114)]⟩, ⟨4, (some 116), none, .lit 2 1 [[(.int .i64 0)], [(.int .i64 0)], [(.int .i64 0)], [(.int .i64 0)]] [(0, (.k (.c (.int .i64 20000)))), (1, (.k (.c (.int .i64 0)))), (2, (.k (.c (.int .i64 50000)))), (3, (.k (.c (.int .i64 0))))]⟩, ⟨5, (some 117), none, .call ⟨true⟩ (.k (.c (.fn 48 [] []))) [(.k (.c (.int .i64 1))), (.k (.c (.int .i64 1500))), (.k (.c .nilslice)), (.s 116)]⟩, ⟨6, (some 118), none, .lit 3 1 [[(.int .i64 0)], [(.int .i64 0)], [(.int .i64 0)], [(.int .i64 0)]] [(0, (.k (.c (.int .i64 20000)))), (1, (.k (.c (.int .i64 0)))), (2, (.k (.c (.int .i64 44000)))), (3, (.k (.c (.int .i64 10000))))]⟩, ⟨7, (some 119), none, .call ⟨true⟩ (.k (.c (.fn 48 [] []))) [(.k (.c (.int .i64 1))), (.k (.c (.int .i64 1000))), (.k (.c .nilslice)), (.s 118)]⟩, ⟨8, (some 120), none, .lit 4 1 [[(.int .i64 0)], [(.int .i64 0)], [(.int .i64 0)], [(.int .i64 0)]] [(0, (.k (.c (.int .i64 36000)))), (1, (.k (.c (.int .i64 (-12000))))), (2, (.k (.c (.int .i64 36000)))), (3, (.k (.c (.int .i64 18000))))]⟩, ⟨9, (some 121), none, .call ⟨true⟩ (.k (.c (.fn 48 [] []))) [(.k (.c (.int .i64 2))), (.k (.c (.int .i64 700))), (.k (.c .nilslice)), (.s 120)]⟩, ⟨10, (some 122), none, .lit 5 5 [[(.int .i64 0), .nilslice, (.int .i64 0), (.int .i64 0), .nilslice], [(.int .i64 0), .nilslice, (.int .i64 0), (.int .i64 0), .nilslice], [(.int .i64 0), .nilslice, (.int .i64 0), (.int .i64 0), .nilslice], [(.int .i64 0), .nilslice, (.int .i64 0), (.int .i64 0), .nilslice]] [(0, (.s 115)), (1, (.s 117)), (2, (.s 119)), (3, (.s 121))]⟩, ⟨11, (some 123), none, .faddr 1 (.s 4)⟩, ⟨12, none, none, .store 1 (.s 123) (.s 122)⟩] [] (some [0, 4, 2]))
  (.seq (.region 3 [⟨0, (some 124), none, .build [(.int .i64 0), (.int .i64 0), (.int .i64 0), (.int .i64 0)] [(0, 1, (.k (.c (.int .i64 1)))), (1, 1, (.k (.c (.int .i64 14000)))), (2, 1, (.k (.c (.int .i64 18000)))), (3, 1, (.k (.c (.int .i64 1))))]⟩, ⟨1, (some 125), none, .build [(.int .i64 0), (.int .i64 0), (.int .i64 0), (.int .i64 0)] [(0, 1, (.k (.c (.int .i64 3)))), (1, 1, (.k (.c (.int .i64 10000)))), (2, 1, (.k (.c (.int .i64 14000))))]⟩, ⟨2, (some 126), none, .lit 0 4 [[(.int .i64 0), (.int .i64 0), (.int .i64 0), (.int .i64 0)], [(.int .i64 0), (.int .i64 0), (.int .i64 0), (.int .i64 0)]] [(0, (.s 124)), (1, (.s 125))]⟩, ⟨3, (some 127), none, .build [.nilslice, (.int .i64 0)] [(0, 1, (.s 126))]⟩, ⟨4, (some 128), none, .build [(.int .i64 0), (.int .i64 0), (.int .i64 0), (.int .i64 0)] [(0, 1, (.k (.c (.int .i64 2)))), (1, 1, (.k (.c (.int .i64 14000)))), (2, 1, (.k (.c (.int .i64 21000)))), (3, 1, (.k (.c (.int .i64 1))))]⟩, ⟨5, (some 129), none, .build [(.int .i64 0), (.int .i64 0), (.int .i64 0), (.int .i64 0)] [(0, 1, (.k (.c (.int .i64 3)))), (1, 1, (.k (.c (.int .i64 14500)))), (2, 1, (.k (.c (.int .i64 23000))))]⟩, ⟨6, (some 130), none, .lit 1 4 [[(.int .i64 0), (.int .i64 0), (.int .i64 0), (.int .i64 0)], [(.int .i64 0), (.int .i64 0), (.int .i64 0), (.int .i64 0)]] [(0, (.s 128)), (1, (.s 129))]⟩, ⟨7, (some 131), none, .build [.nilslice, (.int .i64 0)] [(0, 1, (.s 130))]⟩, ⟨8, (some 132), none, .lit 2 2 [[.nilslice, (.int .i64 0)], [.nilslice, (.int .i64 0)]] [(0, (.s 127)), (1, (.s 131))]⟩, ⟨9, (some 133), none, .faddr 2 (.s 4)⟩, ⟨10, none, none, .store 1 (.s 133) (.s 132)⟩] [] (some [0, 4, 2]))
  (.seq (.region 0 [⟨0, (some 134), none, .mv (.s 0)⟩, ⟨1, (some 135), none, .bin .quo (.s 134) (.k (.c (.int .i64 28)))⟩, ⟨2, (some 136), none, .bin .rem (.s 135) (.k (.c (.int .i64 2)))⟩, ⟨3, (some 137), none, .bin .eql (.s 136) (.k (.c (.int .i64 1)))⟩] [] (some [137, 0, 4, 2]))
  (.cond (.s 137) (.seq (.region 0 [⟨0, (some 138), none, .faddr 2 (.s 4)⟩, ⟨2, (some 140), none, .faddr 2 (.s 4)⟩, ⟨1, (some 139), none, .load false 1 (.s 138)⟩, ⟨4, (some 142), none, .iaddr 2 (.s 139) (.k (.c (.int .i64 0)))⟩, ⟨5, (some 143), none, .faddr 1 (.s 142)⟩, ⟨3, (some 141), none, .load false 1 (.s 140)⟩, ⟨6, none, none, .store 1 (.s 143) (.k (.c (.int .i64 1)))⟩, ⟨7, (some 144), none, .iaddr 2 (.s 141) (.k (.c (.int .i64 1)))⟩, ⟨8, (some 145), none, .faddr 1 (.s 144)⟩, ⟨9, none, none, .store 1 (.s 145) (.k (.c (.int .i64 2)))⟩] [(5, 6)] (some [0, 4, 2]))
  (.region 1 [⟨0, (some 146), none, .mv (.s 0)⟩, ⟨1, (some 147), none, .bin .quo (.s 146) (.k (.c (.int .i64 56)))⟩, ⟨2, (some 148), none, .bin .rem (.s 147) (.k (.c (.int .i64 31)))⟩, ⟨3, (some 149), none, .call ⟨true⟩ (.k (.c (.fn 49 [] []))) [(.s 148), (.k (.c (.int .i64 1))), (.k (.c (.int .i64 3)))]⟩, ⟨4, (some 150), none, .mv (.s 0)⟩, ⟨5, (some 151), none, .bin .quo (.s 150) (.k (.c (.int .i64 56)))⟩, ⟨6, (some 152), none, .bin .rem (.s 151) (.k (.c (.int .i64 17)))⟩, ⟨7, (some 153), none, .call ⟨true⟩ (.k (.c (.fn 49 [] []))) [(.s 152), (.k (.c (.int .i64 2))), (.k (.c (.int .i64 3)))]⟩, ⟨8, (some 154), none, .lit 0 2 [[(.int .i64 0), .nilslice], [(.int .i64 0), .nilslice]] [(0, (.s 149)), (1, (.s 153))]⟩, ⟨9, (some 155), none, .faddr 3 (.s 4)⟩, ⟨10, none, none, .store 1 (.s 155) (.s 154)⟩] [] (some [0, 4, 2])))
  .skip))))
  .skip))))))))))))))
  (.seq (.region 0 [⟨0, (some 156), none, .mv (.s 0)⟩, ⟨1, (some 157), none, .bin .quo (.s 156) (.k (.c (.int .i64 28)))⟩, ⟨2, (some 158), none, .bin .rem (.s 157) (.k (.c (.int .i64 5)))⟩, ⟨3, (some 159), none, .faddr 0 (.s 4)⟩, ⟨4, none, none, .store 1 (.s 159) (.s 158)⟩] [] (some [0, 4, 2]))
  (.seq (.seq (.region 0 [⟨0, (some 160), none, .mv (.s 0)⟩, ⟨1, (some 161), none, .bin .quo (.s 160) (.k (.c (.int .i64 1736)))⟩, ⟨2, (some 162), none, .bin .rem (.s 161) (.k (.c (.int .i64 3)))⟩, ⟨3, (some 163), none, .bin .eql (.s 162) (.k (.c (.int .i64 1)))⟩] [] (some [163, 0, 4, 2]))
  (.cond (.s 163) (.region 1 [⟨0, (some 164), none, .mv (.s 0)⟩, ⟨1, (some 165), none, .bin .quo (.s 164) (.k (.c (.int .i64 5208)))⟩, ⟨2, (some 166), none, .bin .rem (.s 165) (.k (.c (.int .i64 40)))⟩, ⟨3, (some 167), none, .mv (.s 0)⟩, ⟨4, (some 168), none, .bin .quo (.s 167) (.k (.c (.int .i64 5208)))⟩, ⟨5, (some 169), none, .bin .rem (.s 168) (.k (.c (.int .i64 40)))⟩, ⟨6, (some 170), none, .bin .add (.s 169) (.k (.c (.int .i64 20)))⟩, ⟨7, (some 171), none, .mv (.s 0)⟩, ⟨8, (some 172), none, .bin .quo (.s 171) (.k (.c (.int .i64 208320)))⟩, ⟨9, (some 173), none, .bin .rem (.s 172) (.k (.c (.int .i64 3)))⟩, ⟨10, (some 174), none, .bin .mul (.s 173) (.k (.c (.int .i64 200)))⟩, ⟨11, (some 175), none, .build [(.int .i64 0), (.int .i64 0), (.int .i64 0), (.int .i64 0), (.int .i64 0), (.int .i64 0)] [(0, 1, (.k (.c (.int .i64 0)))), (1, 1, (.k (.c (.int .i64 10000)))), (2, 1, (.k (.c (.int .i64 15000)))), (3, 1, (.s 166)), (4, 1, (.s 170)), (5, 1, (.s 174))]⟩, ⟨12, (some 176), none, .lit 0 6 [[(.int .i64 0), (.int .i64 0), (.int .i64 0), (.int .i64 0), (.int .i64 0), (.int .i64 0)]] [(0, (.s 175))]⟩, ⟨13, (some 177), none, .faddr 4 (.s 4)⟩, ⟨14, none, none, .store 1 (.s 177) (.s 176)⟩] [] (some [4, 2]))
  .skip))
  (.seq (.region 0 [⟨0, (some 178), none, .load true 5 (.s 4)⟩, ⟨1, none, none, .store 5 (.s 2) (.s 178)⟩] [] (some [2]))
  .ret)))))))) }
def c_kerbstonekit_RoadRoute_l1 : CC := (.seq (.seq (.region 0 [⟨0, (some 7), none, .mv (.s 5)⟩, ⟨1, (some 8), none, .bin .lss (.s 7) (.k (.c (.int .i64 4)))⟩] [] (some [8, 2, 1, 5]))
  (.cond (.s 8) .skip
  (.exit 0)))
  (.seq (.block 1 (.seq (.region 0 [⟨1, (some 12), none, .mv (.s 1)⟩, ⟨3, (some 14), none, .mv (.s 5)⟩, ⟨0, (some 11), none, .load true 5 (.s 2)⟩, ⟨2, (some 13), none, .call ⟨true⟩ (.k (.c (.fn 47 [] []))) [(.s 12), (.k (.c (.int .i64 1048576)))]⟩, ⟨4, (some 15), none, .bin .add (.s 13) (.s 14)⟩, ⟨5, (some 16), none, .call ⟨true⟩ (.k (.c (.fn 50 [] []))) [(.s 11), (.s 15)]⟩, ⟨6, (some 6), none, .mv (.s 16)⟩] [(2, 3)] (some [2, 1, 5, 6]))
  (.seq (.region 0 [⟨0, (some 17), none, .mv (.s 6)⟩, ⟨1, (some 18), none, .len (.s 17)⟩, ⟨2, (some 19), none, .bin .gtr (.s 18) (.k (.c (.int .i64 0)))⟩, ⟨3, (some 20), none, .mv (.s 19)⟩, ⟨4, (some 21), (some (20, true)), .faddr 1 (.s 2)⟩, ⟨6, (some 23), (some (20, true)), .mv (.s 6)⟩, ⟨7, (some 24), (some (20, true)), .iaddr 1 (.s 23) (.k (.c (.int .i64 0)))⟩, ⟨5, (some 22), (some (20, true)), .load false 1 (.s 21)⟩, ⟨8, (some 25), (some (20, true)), .load false 1 (.s 24)⟩, ⟨9, (some 26), (some (20, true)), .iaddr 5 (.s 22) (.s 25)⟩, ⟨10, (some 27), (some (20, true)), .faddr 0 (.s 26)⟩, ⟨11, (some 28), (some (20, true)), .load false 1 (.s 27)⟩, ⟨12, (some 29), (some (20, true)), .bin .eql (.s 28) (.k (.c (.int .i64 1)))⟩, ⟨13, (some 30), none, .pick (.s 20) (.s 29) (.k (.c (.bool false)))⟩] [] (some [30, 2, 1, 5, 6]))
  (.cond (.s 30) (.seq (.region 0 [⟨0, (some 31), none, .mv (.s 6)⟩, ⟨1, (some 4), none, .mv (.s 31)⟩] [] (some [4]))
  .ret)
  .skip))))
  (.region 0 [⟨0, (some 9), none, .mv (.s 5)⟩, ⟨1, (some 10), none, .bin .add (.s 9) (.k (.c (.int .i64 1)))⟩, ⟨2, (some 5), none, .mv (.s 10)⟩] [] (some [1, 2, 5]))))
/-- kerbstone/kerbstonekit.RoadRoute -/
abbrev f_kerbstonekit_RoadRoute : Nat := 10
def c_kerbstonekit_RoadRoute : CFn := { frz := true, rnd := none, nargs := 2, ntmps := 34, res := [(.slot 4)], code :=
  (.seq (.region 2 [⟨0, (some 2), none, .box 0 5 (.s 0)⟩, ⟨1, (some 4), none, .newsl 1 1⟩] [] (some [1, 2]))
  (.seq (.seq (.region 0 [⟨0, (some 5), none, .mv (.k (.c (.int .i64 0)))⟩] [] (some [1, 2, 5]))
  (.block 0 (.loop (some [1, 2, 5]) c_kerbstonekit_RoadRoute_l1)))
  (.seq (.region 0 [⟨0, (some 32), none, .load true 5 (.s 2)⟩, ⟨1, (some 33), none, .call ⟨true⟩ (.k (.c (.fn 50 [] []))) [(.s 32), (.k (.c (.int .i64 0)))]⟩, ⟨2, (some 4), none, .mv (.s 33)⟩] [] (some [4]))
  .ret))) }
def c_kerbstonekit_Known_l1 : CC := (.seq (.seq (.region 0 [⟨0, (some 17), none, .mv (.s 16)⟩, ⟨1, (some 18), none, .mv (.s 2)⟩, ⟨2, (some 19), none, .len (.s 18)⟩, ⟨3, (some 20), none, .bin .lss (.s 17) (.s 19)⟩] [] (some [20, 15, 16, 14, 6, 5, 4, 1, 3, 2, 7]))
  (.cond (.s 20) .skip
  (.exit 0)))
  (.seq (.block 1 (.region 1 [⟨0, (some 23), none, .mv (.s 15)⟩, ⟨2, (some 25), none, .mv (.s 2)⟩, ⟨3, (some 26), none, .mv (.s 16)⟩, ⟨4, (some 27), none, .iaddr 6 (.s 25) (.s 26)⟩, ⟨1, (some 24), none, .load true 5 (.s 7)⟩, ⟨5, (some 28), none, .load true 6 (.s 27)⟩, ⟨6, (some 29), none, .call ⟨true⟩ (.k (.c (.fn 14 [] []))) [(.s 24), (.s 28)]⟩, ⟨7, (some 30), none, .lit 0 6 [[(.int .i64 0), (.int .i64 0), (.int .i64 0), (.int .i64 0), (.int .i64 0), (.int .i64 0)]] [(0, (.s 29))]⟩, ⟨8, (some 31), none, .append 6 48 (.s 23) (.s 30)⟩, ⟨9, (some 15), none, .mv (.s 31)⟩] [] (some [16, 15, 14, 6, 5, 4, 1, 3, 2, 7])))
  (.region 0 [⟨0, (some 21), none, .mv (.s 16)⟩, ⟨1, (some 22), none, .bin .add (.s 21) (.k (.c (.int .i64 1)))⟩, ⟨2, (some 16), none, .mv (.s 22)⟩] [] (some [15, 16, 14, 6, 5, 4, 1, 3, 2, 7]))))
/-- kerbstone/kerbstonekit.Known -/
abbrev f_kerbstonekit_Known : Nat := 11
def c_kerbstonekit_Known : CFn := { frz := true, rnd := none, nargs := 7, ntmps := 44, res := [(.cell 14 true 6)], code :=
  (.seq (.region 2 [⟨0, (some 7), none, .box 0 5 (.s 0)⟩, ⟨1, (some 14), none, .box 1 6 (.k (.a [(.int .i64 0), .nilslice, (.int .i64 0), (.int .i64 0), (.int .i64 0), (.int .i64 0)]))⟩] [] (some [14, 6, 5, 4, 1, 3, 2, 7]))
  (.seq (.region 1 [⟨0, (some 15), none, .newsl 0 6⟩] [] (some [15, 14, 6, 5, 4, 1, 3, 2, 7]))
  (.seq (.seq (.region 0 [⟨0, (some 16), none, .mv (.k (.c (.int .i64 0)))⟩] [] (some [15, 16, 14, 6, 5, 4, 1, 3, 2, 7]))
  (.block 0 (.loop (some [15, 16, 14, 6, 5, 4, 1, 3, 2, 7]) c_kerbstonekit_Known_l1)))
  (.seq (.region 0 [⟨0, (some 32), none, .mv (.s 3)⟩, ⟨2, (some 34), none, .mv (.s 15)⟩, ⟨5, (some 37), none, .mv (.s 1)⟩, ⟨7, (some 39), none, .mv (.s 4)⟩, ⟨8, (some 40), none, .mv (.s 5)⟩, ⟨9, (some 41), none, .mv (.s 6)⟩, ⟨4, (some 36), none, .load true 5 (.s 7)⟩, ⟨1, (some 33), none, .call ⟨true⟩ (.k (.c (.fn 16 [] []))) [(.s 32), (.k (.c (.int .i64 1000)))]⟩, ⟨3, (some 35), none, .call ⟨true⟩ (.k (.c (.fn 51 [] []))) [(.s 34)]⟩, ⟨6, (some 38), none, .call ⟨true⟩ (.k (.c (.fn 53 [] []))) [(.s 36), (.s 37)]⟩, ⟨10, (some 42), none, .call ⟨true⟩ (.k (.c (.fn 52 [] []))) [(.s 38), (.s 39), (.s 40), (.s 41)]⟩, ⟨11, (some 43), none, .build [(.int .i64 0), .nilslice, (.int .i64 0), (.int .i64 0), (.int .i64 0), (.int .i64 0)] [(0, 1, (.s 33)), (1, 1, (.s 35)), (2, 4, (.s 42))]⟩, ⟨12, none, none, .store 6 (.s 14) (.s 43)⟩] [(6, 7), (6, 8)] (some [14]))
  .ret)))) }
def c_kerbstoneref05_Inside_l1 : CC := (.seq (.seq (.region 0 [⟨0, (some 61), none, .mv (.s 10)⟩, ⟨1, (some 62), none, .faddr 1 (.s 3)⟩, ⟨2, (some 63), none, .load false 1 (.s 62)⟩, ⟨3, (some 64), none, .len (.s 63)⟩, ⟨4, (some 65), none, .bin .lss (.s 61) (.s 64)⟩] [] (some [65, 9, 10, 7, 2, 3, 8]))
  (.cond (.s 65) .skip
  (.exit 2)))
  (.seq (.block 3 (.seq (.region 1 [⟨0, (some 68), none, .faddr 1 (.s 3)⟩, ⟨1, (some 69), none, .load false 1 (.s 68)⟩, ⟨2, (some 70), none, .mv (.s 10)⟩, ⟨3, (some 71), none, .iaddr 6 (.s 69) (.s 70)⟩, ⟨4, (some 72), none, .load true 6 (.s 71)⟩, ⟨5, (some 11), none, .box 0 6 (.k (.a [(.int .i64 0), (.int .i64 0), (.int .i64 0), (.int .i64 0), (.int .i64 0), (.int .i64 0)]))⟩, ⟨6, none, none, .store 6 (.s 11) (.s 72)⟩] [] (some [9, 11, 10, 7, 2, 3, 8]))
  (.region 0 [⟨0, (some 73), none, .mv (.s 9)⟩, ⟨1, (some 74), none, .mv (.s 73)⟩, ⟨2, (some 75), (some (74, false)), .faddr 0 (.s 8)⟩, ⟨3, (some 76), (some (74, false)), .load false 1 (.s 75)⟩, ⟨4, (some 77), (some (74, false)), .faddr 0 (.s 11)⟩, ⟨5, (some 78), (some (74, false)), .load false 1 (.s 77)⟩, ⟨6, (some 79), (some (74, false)), .bin .eql (.s 76) (.s 78)⟩, ⟨7, (some 80), (some (74, false)), .mv (.s 79)⟩, ⟨8, (some 81), (some (80, true)), .faddr 1 (.s 8)⟩, ⟨9, (some 82), (some (80, true)), .load false 1 (.s 81)⟩, ⟨10, (some 83), (some (80, true)), .faddr 1 (.s 11)⟩, ⟨11, (some 84), (some (80, true)), .load false 1 (.s 83)⟩, ⟨12, (some 85), (some (80, true)), .bin .geq (.s 82) (.s 84)⟩, ⟨13, (some 86), (some (74, false)), .pick (.s 80) (.s 85) (.k (.c (.bool false)))⟩, ⟨14, (some 87), (some (74, false)), .mv (.s 86)⟩, ⟨15, (some 88), (some (87, true)), .faddr 2 (.s 8)⟩, ⟨16, (some 89), (some (87, true)), .load false 1 (.s 88)⟩, ⟨17, (some 90), (some (87, true)), .faddr 2 (.s 11)⟩, ⟨18, (some 91), (some (87, true)), .load false 1 (.s 90)⟩, ⟨19, (some 92), (some (87, true)), .bin .leq (.s 89) (.s 91)⟩, ⟨20, (some 93), (some (74, false)), .pick (.s 87) (.s 92) (.k (.c (.bool false)))⟩, ⟨21, (some 94), (some (74, false)), .mv (.s 93)⟩, ⟨22, (some 95), (some (94, true)), .faddr 3 (.s 8)⟩, ⟨23, (some 96), (some (94, true)), .load false 1 (.s 95)⟩, ⟨24, (some 97), (some (94, true)), .faddr 3 (.s 11)⟩, ⟨25, (some 98), (some (94, true)), .load false 1 (.s 97)⟩, ⟨26, (some 99), (some (94, true)), .bin .geq (.s 96) (.s 98)⟩, ⟨27, (some 100), (some (74, false)), .pick (.s 94) (.s 99) (.k (.c (.bool false)))⟩, ⟨28, (some 101), (some (74, false)), .mv (.s 100)⟩, ⟨29, (some 102), (some (101, true)), .faddr 4 (.s 8)⟩, ⟨30, (some 103), (some (101, true)), .load false 1 (.s 102)⟩, ⟨31, (some 104), (some (101, true)), .faddr 4 (.s 11)⟩, ⟨32, (some 105), (some (101, true)), .load false 1 (.s 104)⟩, ⟨33, (some 106), (some (101, true)), .bin .leq (.s 103) (.s 105)⟩, ⟨34, (some 107), (some (74, false)), .pick (.s 101) (.s 106) (.k (.c (.bool false)))⟩, ⟨35, (some 108), (some (74, false)), .mv (.s 107)⟩, ⟨36, (some 109), (some (108, true)), .faddr 5 (.s 11)⟩, ⟨37, (some 110), (some (108, true)), .load false 1 (.s 109)⟩, ⟨38, (some 111), (some (108, true)), .bin .eql (.s 110) (.k (.c (.int .i64 0)))⟩, ⟨39, (some 112), (some (108, true)), .mv (.s 111)⟩, ⟨40, (some 113), (some (112, false)), .faddr 5 (.s 8)⟩, ⟨41, (some 114), (some (112, false)), .load false 1 (.s 113)⟩, ⟨42, (some 115), (some (112, false)), .bin .neq (.s 114) (.k (.c (.int .i64 0)))⟩, ⟨43, (some 116), (some (112, false)), .mv (.s 115)⟩, ⟨44, (some 117), (some (116, true)), .faddr 5 (.s 8)⟩, ⟨45, (some 118), (some (116, true)), .load false 1 (.s 117)⟩, ⟨46, (some 119), (some (116, true)), .faddr 5 (.s 11)⟩, ⟨47, (some 120), (some (116, true)), .load false 1 (.s 119)⟩, ⟨48, (some 121), (some (116, true)), .bin .leq (.s 118) (.s 120)⟩, ⟨49, (some 122), (some (112, false)), .pick (.s 116) (.s 121) (.k (.c (.bool false)))⟩, ⟨50, (some 123), (some (108, true)), .pick (.s 112) (.k (.c (.bool true))) (.s 122)⟩, ⟨51, (some 124), (some (74, false)), .pick (.s 108) (.s 123) (.k (.c (.bool false)))⟩, ⟨52, (some 125), none, .pick (.s 74) (.k (.c (.bool true))) (.s 124)⟩, ⟨53, (some 9), none, .mv (.s 125)⟩] [] (some [10, 9, 7, 2, 3, 8]))))
  (.region 0 [⟨0, (some 66), none, .mv (.s 10)⟩, ⟨1, (some 67), none, .bin .add (.s 66) (.k (.c (.int .i64 1)))⟩, ⟨2, (some 10), none, .mv (.s 67)⟩] [] (some [9, 10, 7, 2, 3, 8]))))
def c_kerbstoneref05_Inside_l2 : CC := (.seq (.seq (.region 0 [⟨0, (some 49), none, .mv (.s 7)⟩, ⟨1, (some 50), none, .faddr 1 (.s 2)⟩, ⟨2, (some 51), none, .load false 1 (.s 50)⟩, ⟨3, (some 52), none, .len (.s 51)⟩, ⟨4, (some 53), none, .bin .lss (.s 49) (.s 52)⟩] [] (some [53, 7, 2, 3]))
  (.cond (.s 53) .skip
  (.exit 0)))
  (.seq (.block 1 (.seq (.region 1 [⟨0, (some 56), none, .faddr 1 (.s 2)⟩, ⟨1, (some 57), none, .load false 1 (.s 56)⟩, ⟨2, (some 58), none, .mv (.s 7)⟩, ⟨3, (some 59), none, .iaddr 6 (.s 57) (.s 58)⟩, ⟨4, (some 60), none, .load true 6 (.s 59)⟩, ⟨5, (some 8), none, .box 0 6 (.k (.a [(.int .i64 0), (.int .i64 0), (.int .i64 0), (.int .i64 0), (.int .i64 0), (.int .i64 0)]))⟩, ⟨6, none, none, .store 6 (.s 8) (.s 60)⟩, ⟨7, (some 9), none, .mv (.k (.c (.bool false)))⟩] [] (some [9, 7, 2, 3, 8]))
  (.seq (.seq (.region 0 [⟨0, (some 10), none, .mv (.k (.c (.int .i64 0)))⟩] [] (some [9, 10, 7, 2, 3, 8]))
  (.block 2 (.loop (some [9, 10, 7, 2, 3, 8]) c_kerbstoneref05_Inside_l1)))
  (.seq (.region 0 [⟨0, (some 126), none, .mv (.s 9)⟩, ⟨1, (some 127), none, .un .not (.s 126)⟩] [] (some [127, 3, 2, 7]))
  (.cond (.s 127) (.seq (.region 0 [⟨0, (some 4), none, .mv (.k (.c (.bool false)))⟩] [] (some [4]))
  .ret)
  .skip)))))
  (.region 0 [⟨0, (some 54), none, .mv (.s 7)⟩, ⟨1, (some 55), none, .bin .add (.s 54) (.k (.c (.int .i64 1)))⟩, ⟨2, (some 7), none, .mv (.s 55)⟩] [] (some [7, 2, 3]))))
/-- kerbstone/kerbstoneref05.Inside -/
abbrev f_kerbstoneref05_Inside : Nat := 12
def c_kerbstoneref05_Inside : CFn := { frz := true, rnd := none, nargs := 2, ntmps := 128, res := [(.slot 4)], code :=
  (.seq (.region 2 [⟨0, (some 2), none, .box 0 6 (.s 0)⟩, ⟨1, (some 3), none, .box 1 6 (.s 1)⟩, ⟨2, (some 4), none, .mv (.k (.c (.bool false)))⟩] [] (some [3, 2]))
  (.seq (.region 2 [⟨0, (some 12), none, .faddr 2 (.s 2)⟩, ⟨2, (some 14), none, .faddr 2 (.s 3)⟩, ⟨1, (some 13), none, .load true 4 (.s 12)⟩, ⟨3, (some 15), none, .load true 4 (.s 14)⟩, ⟨4, (some 5), none, .box 0 4 (.k (.a [(.int .i64 0), (.int .i64 0), (.int .i64 0), (.int .i64 0)]))⟩, ⟨5, (some 6), none, .box 1 4 (.k (.a [(.int .i64 0), (.int .i64 0), (.int .i64 0), (.int .i64 0)]))⟩, ⟨6, none, none, .store 4 (.s 5) (.s 13)⟩, ⟨7, none, none, .store 4 (.s 6) (.s 15)⟩] [(2, 4), (2, 5), (3, 4), (3, 5), (3, 6), (4, 5)] (some [5, 6, 3, 2]))
  (.seq (.seq (.region 0 [⟨0, (some 16), none, .faddr 0 (.s 2)⟩, ⟨1, (some 17), none, .load false 1 (.s 16)⟩, ⟨2, (some 18), none, .faddr 0 (.s 3)⟩, ⟨3, (some 19), none, .load false 1 (.s 18)⟩, ⟨4, (some 20), none, .bin .neq (.s 17) (.s 19)⟩, ⟨5, (some 21), none, .mv (.s 20)⟩, ⟨6, (some 22), (some (21, false)), .faddr 0 (.s 5)⟩, ⟨7, (some 23), (some (21, false)), .load false 1 (.s 22)⟩, ⟨8, (some 24), (some (21, false)), .faddr 0 (.s 6)⟩, ⟨9, (some 25), (some (21, false)), .load false 1 (.s 24)⟩, ⟨10, (some 26), (some (21, false)), .bin .lss (.s 23) (.s 25)⟩, ⟨11, (some 27), none, .pick (.s 21) (.k (.c (.bool true))) (.s 26)⟩, ⟨12, (some 28), none, .mv (.s 27)⟩, ⟨13, (some 29), (some (28, false)), .faddr 1 (.s 5)⟩, ⟨14, (some 30), (some (28, false)), .load false 1 (.s 29)⟩, ⟨15, (some 31), (some (28, false)), .faddr 1 (.s 6)⟩, ⟨16, (some 32), (some (28, false)), .load false 1 (.s 31)⟩, ⟨17, (some 33), (some (28, false)), .bin .gtr (.s 30) (.s 32)⟩, ⟨18, (some 34), none, .pick (.s 28) (.k (.c (.bool true))) (.s 33)⟩, ⟨19, (some 35), none, .mv (.s 34)⟩, ⟨20, (some 36), (some (35, false)), .faddr 2 (.s 5)⟩, ⟨21, (some 37), (some (35, false)), .load false 1 (.s 36)⟩, ⟨22, (some 38), (some (35, false)), .faddr 2 (.s 6)⟩, ⟨23, (some 39), (some (35, false)), .load false 1 (.s 38)⟩, ⟨24, (some 40), (some (35, false)), .bin .lss (.s 37) (.s 39)⟩, ⟨25, (some 41), none, .pick (.s 35) (.k (.c (.bool true))) (.s 40)⟩, ⟨26, (some 42), none, .mv (.s 41)⟩, ⟨27, (some 43), (some (42, false)), .faddr 3 (.s 5)⟩, ⟨28, (some 44), (some (42, false)), .load false 1 (.s 43)⟩, ⟨29, (some 45), (some (42, false)), .faddr 3 (.s 6)⟩, ⟨30, (some 46), (some (42, false)), .load false 1 (.s 45)⟩, ⟨31, (some 47), (some (42, false)), .bin .gtr (.s 44) (.s 46)⟩, ⟨32, (some 48), none, .pick (.s 42) (.k (.c (.bool true))) (.s 47)⟩] [] (some [48, 3, 2]))
  (.cond (.s 48) (.seq (.region 0 [⟨0, (some 4), none, .mv (.k (.c (.bool false)))⟩] [] (some [4]))
  .ret)
  .skip))
  (.seq (.seq (.region 0 [⟨0, (some 7), none, .mv (.k (.c (.int .i64 0)))⟩] [] (some [7, 2, 3]))
  (.block 0 (.loop (some [7, 2, 3]) c_kerbstoneref05_Inside_l2)))
  (.seq (.region 0 [⟨0, (some 4), none, .mv (.k (.c (.bool true)))⟩] [] (some [4]))
  .ret))))) }
def c_track_All_l1 : CC := (.seq (.region 0 [⟨0, (some 24), none, .bin .lss (.s 23) (.s 22)⟩] [] (some [24, 23, 22, 6, 21, 3, 7]))
  (.seq (.cond (.s 24) .skip
  (.exit 0))
  (.seq (.block 1 (.seq (.region 1 [⟨0, (some 25), none, .mv (.s 23)⟩, ⟨1, (some 26), none, .iaddr 5 (.s 21) (.s 23)⟩, ⟨2, (some 27), none, .load true 5 (.s 26)⟩, ⟨3, (some 9), none, .box 0 5 (.k (.a [(.int .i64 0), .nilslice, (.int .i64 0), (.int .i64 0), .nilslice]))⟩, ⟨4, (some 8), none, .mv (.s 25)⟩, ⟨5, none, none, .store 5 (.s 9) (.s 27)⟩] [] (some [9, 8, 23, 22, 6, 21, 3, 7]))
  (.seq (.region 0 [⟨0, (some 29), none, .faddr 0 (.s 9)⟩, ⟨1, (some 30), none, .load false 1 (.s 29)⟩, ⟨2, (some 31), none, .call ⟨true⟩ (.k (.c (.fn 55 [] []))) [(.s 30)]⟩, ⟨3, (some 28), none, .mv (.s 31)⟩, ⟨4, (some 32), none, .extract 28 0⟩, ⟨5, (some 33), none, .extract 28 1⟩, ⟨6, (some 34), none, .extract 28 2⟩, ⟨7, (some 10), none, .mv (.s 32)⟩, ⟨8, (some 11), none, .mv (.s 33)⟩, ⟨9, (some 12), none, .mv (.s 34)⟩] [] (some [8, 10, 23, 22, 6, 21, 3, 7]))
  (.region 1 [⟨0, (some 35), none, .faddr 1 (.s 7)⟩, ⟨2, (some 37), none, .mv (.s 8)⟩, ⟨4, (some 39), none, .mv (.s 8)⟩, ⟨6, (some 41), none, .mv (.s 10)⟩, ⟨1, (some 36), none, .load false 1 (.s 35)⟩, ⟨3, (some 38), none, .load true 5 (.s 3)⟩, ⟨5, (some 40), none, .call ⟨true⟩ (.k (.c (.fn 56 [] []))) [(.s 38), (.s 39)]⟩, ⟨7, (some 42), none, .build [(.int .i64 0), (.int .i64 0), (.int .i64 0), (.int .i64 0), (.int .i64 0), (.int .i64 0)] [(0, 1, (.s 37)), (2, 1, (.s 40)), (4, 1, (.s 41))]⟩, ⟨8, (some 43), none, .lit 0 6 [[(.int .i64 0), (.int .i64 0), (.int .i64 0), (.int .i64 0), (.int .i64 0), (.int .i64 0)]] [(0, (.s 42))]⟩, ⟨9, (some 44), none, .append 6 48 (.s 36) (.s 43)⟩, ⟨10, (some 45), none, .faddr 1 (.s 7)⟩, ⟨11, none, none, .store 1 (.s 45) (.s 44)⟩] [(4, 6), (4, 8)] (some [23, 22, 6, 21, 3, 7])))))
  (.region 0 [⟨0, (some 46), none, .bin .add (.s 23) (.k (.c (.int .i64 1)))⟩, ⟨1, (some 23), none, .mv (.s 46)⟩] [] (some [23, 22, 6, 21, 3, 7])))))
/-- kerbstone/track.All -/
abbrev f_track_All : Nat := 13
def c_track_All : CFn := { frz := true, rnd := none, nargs := 3, ntmps := 48, res := [(.cell 6 true 6)], code :=
  (.seq (.region 3 [⟨0, (some 3), none, .box 0 5 (.s 0)⟩, ⟨1, (some 5), none, .box 1 4 (.s 2)⟩, ⟨2, (some 6), none, .box 2 6 (.k (.a [(.int .i64 0), .nilslice, (.int .i64 0), (.int .i64 0), (.int .i64 0), (.int .i64 0)]))⟩] [] (some [1, 5, 3, 6]))
  (.seq (.region 1 [⟨0, (some 13), none, .mv (.s 1)⟩, ⟨1, (some 14), none, .load true 4 (.s 5)⟩, ⟨2, (some 15), none, .build [(.int .i64 0), .nilslice, (.int .i64 0), (.int .i64 0), (.int .i64 0), (.int .i64 0)] [(0, 1, (.s 13)), (2, 4, (.s 14))]⟩, ⟨3, (some 7), none, .box 0 6 (.k (.a [(.int .i64 0), .nilslice, (.int .i64 0), (.int .i64 0), (.int .i64 0), (.int .i64 0)]))⟩, ⟨4, none, none, .store 6 (.s 7) (.s 15)⟩] [] (some [3, 7, 6]))
  (.seq (.seq (.region 0 [⟨0, (some 16), none, .load true 5 (.s 3)⟩, ⟨1, (some 17), none, .call ⟨true⟩ (.k (.c (.fn 54 [] []))) [(.s 16)]⟩, ⟨2, (some 18), none, .bin .neq (.s 17) (.k (.c (.int .i64 0)))⟩] [] (some [18, 3, 7, 6]))
  (.cond (.s 18) (.seq (.region 0 [⟨0, (some 19), none, .load true 6 (.s 7)⟩, ⟨1, none, none, .store 6 (.s 6) (.s 19)⟩] [] (some [6]))
  .ret)
  .skip))
  (.seq (.seq (.region 0 [⟨0, (some 20), none, .faddr 1 (.s 3)⟩, ⟨1, (some 21), none, .load false 1 (.s 20)⟩, ⟨2, (some 22), none, .len (.s 21)⟩, ⟨3, (some 23), none, .mv (.k (.c (.int .i64 0)))⟩] [] (some [23, 22, 6, 21, 3, 7]))
  (.block 0 (.loop (some [23, 22, 6, 21, 3, 7]) c_track_All_l1)))
  (.seq (.region 0 [⟨0, (some 47), none, .load true 6 (.s 7)⟩, ⟨1, none, none, .store 6 (.s 6) (.s 47)⟩] [] (some [6]))
  .ret))))) }
/-- kerbstone/kerbstonekit.Blob -/
abbrev f_kerbstonekit_Blob : Nat := 14
def c_kerbstonekit_Blob : CFn := { frz := true, rnd := none, nargs := 2, ntmps := 87, res := [(.cell 4 true 6)], code :=
  (.seq (.region 3 [⟨0, (some 2), none, .box 0 5 (.s 0)⟩, ⟨1, (some 3), none, .box 1 6 (.s 1)⟩, ⟨2, (some 4), none, .box 2 6 (.k (.a [(.int .i64 0), (.int .i64 0), (.int .i64 0), (.int .i64 0), (.int .i64 0), (.int .i64 0)]))⟩] [] (some [2, 3, 4]))
  (.seq (.region 1 [⟨0, (some 10), none, .faddr 0 (.s 3)⟩, ⟨1, (some 11), none, .load false 1 (.s 10)⟩, ⟨2, (some 12), none, .faddr 1 (.s 2)⟩, ⟨3, (some 13), none, .load false 1 (.s 12)⟩, ⟨4, (some 14), none, .len (.s 13)⟩, ⟨5, (some 15), none, .call ⟨true⟩ (.k (.c (.fn 47 [] []))) [(.s 11), (.s 14)]⟩, ⟨6, (some 16), none, .build [(.int .i64 0), (.int .i64 0), (.int .i64 0), (.int .i64 0), (.int .i64 0), (.int .i64 0)] [(0, 1, (.s 15))]⟩, ⟨7, (some 5), none, .box 0 6 (.k (.a [(.int .i64 0), (.int .i64 0), (.int .i64 0), (.int .i64 0), (.int .i64 0), (.int .i64 0)]))⟩, ⟨8, none, none, .store 6 (.s 5) (.s 16)⟩] [] (some [2, 3, 5, 4]))
  (.seq (.region 0 [⟨0, (some 17), none, .load true 5 (.s 2)⟩, ⟨1, (some 18), none, .faddr 0 (.s 5)⟩, ⟨2, (some 19), none, .load false 1 (.s 18)⟩, ⟨3, (some 20), none, .call ⟨true⟩ (.k (.c (.fn 17 [] []))) [(.s 17), (.s 19)]⟩, ⟨4, (some 6), none, .mv (.s 20)⟩] [] (some [2, 3, 6, 5, 4]))
  (.seq (.region 0 [⟨0, (some 22), none, .faddr 1 (.s 2)⟩, ⟨1, (some 23), none, .load false 1 (.s 22)⟩, ⟨2, (some 24), none, .faddr 0 (.s 5)⟩, ⟨3, (some 25), none, .load false 1 (.s 24)⟩, ⟨4, (some 26), none, .iaddr 5 (.s 23) (.s 25)⟩, ⟨5, (some 27), none, .faddr 0 (.s 26)⟩, ⟨6, (some 28), none, .load false 1 (.s 27)⟩, ⟨7, (some 29), none, .call ⟨true⟩ (.k (.c (.fn 57 [] []))) [(.s 28)]⟩, ⟨8, (some 21), none, .mv (.s 29)⟩, ⟨9, (some 30), none, .extract 21 0⟩, ⟨10, (some 31), none, .extract 21 1⟩, ⟨11, (some 32), none, .extract 21 2⟩, ⟨12, (some 7), none, .mv (.s 30)⟩, ⟨13, (some 8), none, .mv (.s 31)⟩, ⟨14, (some 9), none, .mv (.s 32)⟩] [] (some [7, 3, 6, 5, 4]))
  (.seq (.region 0 [⟨0, (some 33), none, .faddr 1 (.s 3)⟩, ⟨1, (some 34), none, .load false 1 (.s 33)⟩, ⟨2, (some 35), none, .mv (.s 6)⟩, ⟨3, (some 36), none, .bin .add (.s 35) (.k (.c (.int .i64 1)))⟩, ⟨4, (some 37), none, .call ⟨true⟩ (.k (.c (.fn 16 [] []))) [(.s 34), (.s 36)]⟩, ⟨5, (some 38), none, .faddr 1 (.s 5)⟩, ⟨6, none, none, .store 1 (.s 38) (.s 37)⟩] [] (some [7, 3, 6, 5, 4]))
  (.seq (.region 0 [⟨0, (some 39), none, .faddr 1 (.s 5)⟩, ⟨2, (some 41), none, .faddr 2 (.s 3)⟩, ⟨4, (some 43), none, .mv (.s 6)⟩, ⟨5, (some 44), none, .faddr 1 (.s 5)⟩, ⟨1, (some 40), none, .load false 1 (.s 39)⟩, ⟨3, (some 42), none, .load false 1 (.s 41)⟩, ⟨6, (some 45), none, .load false 1 (.s 44)⟩, ⟨7, (some 46), none, .bin .sub (.s 43) (.s 45)⟩, ⟨8, (some 47), none, .bin .add (.s 46) (.k (.c (.int .i64 1)))⟩, ⟨9, (some 48), none, .call ⟨true⟩ (.k (.c (.fn 16 [] []))) [(.s 42), (.s 47)]⟩, ⟨10, (some 49), none, .bin .add (.s 40) (.s 48)⟩, ⟨11, (some 50), none, .faddr 2 (.s 5)⟩, ⟨12, none, none, .store 1 (.s 50) (.s 49)⟩] [(4, 9)] (some [7, 3, 6, 5, 4]))
  (.seq (.region 0 [⟨0, (some 51), none, .faddr 3 (.s 3)⟩, ⟨1, (some 52), none, .load false 1 (.s 51)⟩, ⟨2, (some 53), none, .mv (.s 7)⟩, ⟨3, (some 54), none, .bin .add (.s 53) (.k (.c (.int .i64 1)))⟩, ⟨4, (some 55), none, .call ⟨true⟩ (.k (.c (.fn 16 [] []))) [(.s 52), (.s 54)]⟩, ⟨5, (some 56), none, .faddr 3 (.s 5)⟩, ⟨6, none, none, .store 1 (.s 56) (.s 55)⟩] [] (some [7, 3, 6, 5, 4]))
  (.seq (.region 0 [⟨0, (some 57), none, .faddr 3 (.s 5)⟩, ⟨2, (some 59), none, .faddr 4 (.s 3)⟩, ⟨4, (some 61), none, .mv (.s 7)⟩, ⟨5, (some 62), none, .faddr 3 (.s 5)⟩, ⟨1, (some 58), none, .load false 1 (.s 57)⟩, ⟨3, (some 60), none, .load false 1 (.s 59)⟩, ⟨6, (some 63), none, .load false 1 (.s 62)⟩, ⟨7, (some 64), none, .bin .sub (.s 61) (.s 63)⟩, ⟨8, (some 65), none, .bin .add (.s 64) (.k (.c (.int .i64 1)))⟩, ⟨9, (some 66), none, .call ⟨true⟩ (.k (.c (.fn 16 [] []))) [(.s 60), (.s 65)]⟩, ⟨10, (some 67), none, .bin .add (.s 58) (.s 66)⟩, ⟨11, (some 68), none, .faddr 4 (.s 5)⟩, ⟨12, none, none, .store 1 (.s 68) (.s 67)⟩] [(4, 9)] (some [3, 6, 5, 4]))
  (.seq (.seq (.region 0 [⟨0, (some 69), none, .faddr 5 (.s 3)⟩, ⟨1, (some 70), none, .load false 1 (.s 69)⟩, ⟨2, (some 71), none, .call ⟨true⟩ (.k (.c (.fn 16 [] []))) [(.s 70), (.k (.c (.int .i64 4)))]⟩, ⟨3, (some 72), none, .bin .eql (.s 71) (.k (.c (.int .i64 0)))⟩] [] (some [72, 3, 6, 5, 4]))
  (.cond (.s 72) (.region 0 [⟨0, (some 73), none, .faddr 2 (.s 5)⟩, ⟨2, (some 75), none, .faddr 5 (.s 3)⟩, ⟨5, (some 78), none, .mv (.s 6)⟩, ⟨6, (some 79), none, .faddr 2 (.s 5)⟩, ⟨1, (some 74), none, .load false 1 (.s 73)⟩, ⟨3, (some 76), none, .load false 1 (.s 75)⟩, ⟨4, (some 77), none, .bin .quo (.s 76) (.k (.c (.int .i64 4)))⟩, ⟨7, (some 80), none, .load false 1 (.s 79)⟩, ⟨8, (some 81), none, .bin .sub (.s 78) (.s 80)⟩, ⟨9, (some 82), none, .bin .add (.s 81) (.k (.c (.int .i64 1)))⟩, ⟨10, (some 83), none, .call ⟨true⟩ (.k (.c (.fn 16 [] []))) [(.s 77), (.s 82)]⟩, ⟨11, (some 84), none, .bin .add (.s 74) (.s 83)⟩, ⟨12, (some 85), none, .faddr 5 (.s 5)⟩, ⟨13, none, none, .store 1 (.s 85) (.s 84)⟩] [(4, 10)] (some [5, 4]))
  .skip))
  (.seq (.region 0 [⟨0, (some 86), none, .load true 6 (.s 5)⟩, ⟨1, none, none, .store 6 (.s 4) (.s 86)⟩] [] (some [4]))
  .ret)))))))))) }
def c_track_Free_l1 : CC := (.seq (.region 0 [⟨0, (some 20), none, .bin .lss (.s 19) (.s 18)⟩] [] (some [20, 7, 19, 18, 17, 3]))
  (.seq (.cond (.s 20) .skip
  (.exit 0))
  (.seq (.block 1 (.seq (.region 1 [⟨0, (some 21), none, .iaddr 5 (.s 17) (.s 19)⟩, ⟨1, (some 22), none, .load true 5 (.s 21)⟩, ⟨2, (some 9), none, .box 0 5 (.k (.a [(.int .i64 0), (.int .i64 0), (.int .i64 0), (.int .i64 0), (.int .i64 0)]))⟩, ⟨3, none, none, .store 5 (.s 9) (.s 22)⟩] [] (some [9, 7, 19, 18, 17, 3]))
  (.seq (.region 1 [⟨0, (some 23), none, .faddr 0 (.s 9)⟩, ⟨1, (some 24), none, .load false 1 (.s 23)⟩, ⟨2, (some 25), none, .faddr 1 (.s 9)⟩, ⟨3, (some 26), none, .load false 1 (.s 25)⟩, ⟨4, (some 27), none, .faddr 2 (.s 9)⟩, ⟨5, (some 28), none, .load false 1 (.s 27)⟩, ⟨6, (some 29), none, .build [(.int .i64 0), (.int .i64 0), (.int .i64 0)] [(0, 1, (.s 24)), (1, 1, (.s 26)), (2, 1, (.s 28))]⟩, ⟨7, (some 10), none, .box 0 3 (.k (.a [(.int .i64 0), (.int .i64 0), (.int .i64 0)]))⟩, ⟨8, none, none, .store 3 (.s 10) (.s 29)⟩] [] (some [7, 10, 19, 18, 17, 3]))
  (.seq (.region 0 [⟨0, (some 30), none, .load true 5 (.s 3)⟩, ⟨1, (some 31), none, .load true 3 (.s 10)⟩, ⟨2, (some 32), none, .call ⟨true⟩ (.k (.c (.fn 59 [] []))) [(.s 30), (.s 31)]⟩] [] (some [32, 7, 10, 19, 18, 17, 3]))
  (.cond (.s 32) (.region 0 [⟨0, (some 33), none, .mv (.s 7)⟩, ⟨1, (some 34), none, .load true 3 (.s 10)⟩, ⟨2, (some 35), none, .call ⟨true⟩ (.k (.c (.fn 60 [] []))) [(.s 33), (.s 34)]⟩, ⟨3, (some 7), none, .mv (.s 35)⟩] [] (some [19, 7, 18, 17, 3]))
  .skip)))))
  (.region 0 [⟨0, (some 36), none, .bin .add (.s 19) (.k (.c (.int .i64 1)))⟩, ⟨1, (some 19), none, .mv (.s 36)⟩] [] (some [7, 19, 18, 17, 3])))))
/-- kerbstone/track.Free -/
abbrev f_track_Free : Nat := 15
def c_track_Free : CFn := { frz := true, rnd := none, nargs := 3, ntmps := 38, res := [(.slot 6)], code :=
  (.seq (.region 2 [⟨0, (some 3), none, .box 0 5 (.s 0)⟩, ⟨1, (some 6), none, .newsl 1 3⟩] [] (some [3, 2, 1]))
  (.seq (.seq (.region 0 [⟨0, (some 11), none, .load true 5 (.s 3)⟩, ⟨1, (some 12), none, .call ⟨true⟩ (.k (.c (.fn 54 [] []))) [(.s 11)]⟩, ⟨2, (some 13), none, .bin .neq (.s 12) (.k (.c (.int .i64 0)))⟩] [] (some [13, 3, 2, 1]))
  (.cond (.s 13) (.seq (.region 1 [⟨0, (some 6), none, .newsl 0 3⟩] [] (some [6]))
  .ret)
  .skip))
  (.seq (.region 0 [⟨0, (some 14), none, .load true 5 (.s 3)⟩, ⟨1, (some 15), none, .mv (.s 1)⟩, ⟨2, (some 16), none, .call ⟨true⟩ (.k (.c (.fn 58 [] []))) [(.s 14), (.s 15)]⟩, ⟨3, (some 7), none, .mv (.s 16)⟩] [] (some [2, 7, 3]))
  (.seq (.seq (.region 0 [⟨0, (some 17), none, .mv (.s 2)⟩, ⟨1, (some 18), none, .len (.s 17)⟩, ⟨2, (some 19), none, .mv (.k (.c (.int .i64 0)))⟩] [] (some [7, 19, 18, 17, 3]))
  (.block 0 (.loop (some [7, 19, 18, 17, 3]) c_track_Free_l1)))
  (.seq (.region 0 [⟨0, (some 37), none, .mv (.s 7)⟩, ⟨1, (some 6), none, .mv (.s 37)⟩] [] (some [6]))
  .ret))))) }
/-- kerbstone/kerbstonekit.Mod64 -/
abbrev f_kerbstonekit_Mod64 : Nat := 16
def c_kerbstonekit_Mod64 : CFn := { frz := true, rnd := none, nargs := 2, ntmps := 14, res := [(.slot 4)], code :=
  (.seq (.region 0 [⟨0, (some 4), none, .mv (.k (.c (.int .i64 0)))⟩] [] (some [0, 1]))
  (.seq (.region 0 [⟨0, (some 5), none, .mv (.s 0)⟩, ⟨1, (some 6), none, .mv (.s 1)⟩, ⟨2, (some 7), none, .bin .rem (.s 5) (.s 6)⟩, ⟨3, (some 0), none, .mv (.s 7)⟩] [] (some [0, 1]))
  (.seq (.seq (.region 0 [⟨0, (some 8), none, .mv (.s 0)⟩, ⟨1, (some 9), none, .bin .lss (.s 8) (.k (.c (.int .i64 0)))⟩] [] (some [9, 0, 1]))
  (.cond (.s 9) (.region 0 [⟨0, (some 10), none, .mv (.s 0)⟩, ⟨1, (some 11), none, .mv (.s 1)⟩, ⟨2, (some 12), none, .bin .add (.s 10) (.s 11)⟩, ⟨3, (some 0), none, .mv (.s 12)⟩] [] (some [0]))
  .skip))
  (.seq (.region 0 [⟨0, (some 13), none, .mv (.s 0)⟩, ⟨1, (some 4), none, .mv (.s 13)⟩] [] (some [4]))
  .ret)))) }
/-- kerbstone/kerbstoneref03.Length -/
abbrev f_kerbstoneref03_Length : Nat := 17
def c_kerbstoneref03_Length : CFn := { frz := true, rnd := none, nargs := 2, ntmps := 12, res := [(.slot 4)], code :=
  (.seq (.region 1 [⟨0, (some 2), none, .box 0 5 (.s 0)⟩, ⟨1, (some 4), none, .mv (.k (.c (.int .i64 0)))⟩] [] (some [1, 2]))
  (.seq (.seq (.region 0 [⟨0, (some 5), none, .load true 5 (.s 2)⟩, ⟨1, (some 6), none, .mv (.s 1)⟩, ⟨2, (some 7), none, .call ⟨true⟩ (.k (.c (.fn 61 [] []))) [(.s 5), (.s 6)]⟩, ⟨3, (some 8), none, .un .not (.s 7)⟩] [] (some [8, 1, 2]))
  (.cond (.s 8) (.seq (.region 0 [⟨0, (some 4), none, .mv (.k (.c (.int .i64 0)))⟩] [] (some [4]))
  .ret)
  .skip))
  (.seq (.region 0 [⟨0, (some 9), none, .load true 5 (.s 2)⟩, ⟨1, (some 10), none, .mv (.s 1)⟩, ⟨2, (some 11), none, .call ⟨true⟩ (.k (.c (.fn 62 [] []))) [(.s 9), (.s 10)]⟩, ⟨3, (some 4), none, .mv (.s 11)⟩] [] (some [4]))
  .ret))) }
/-- kerbstone/track.Copy -/
abbrev f_track_Copy : Nat := 25
def c_track_Copy : CFn := { frz := true, rnd := none, nargs := 1, ntmps := 8, res := [(.cell 2 true 6)], code :=
  (.seq (.region 2 [⟨0, (some 1), none, .box 0 6 (.s 0)⟩, ⟨1, (some 2), none, .box 1 6 (.k (.a [(.int .i64 0), .nilslice, (.int .i64 0), (.int .i64 0), (.int .i64 0), (.int .i64 0)]))⟩] [] (some [1, 2]))
  (.seq (.region 0 [⟨0, (some 3), none, .faddr 1 (.s 1)⟩, ⟨1, (some 4), none, .load false 1 (.s 3)⟩, ⟨2, (some 5), none, .call ⟨true⟩ (.k (.c (.fn 79 [] []))) [(.s 4)]⟩, ⟨3, (some 6), none, .faddr 1 (.s 1)⟩, ⟨4, none, none, .store 1 (.s 6) (.s 5)⟩] [] (some [1, 2]))
  (.seq (.region 0 [⟨0, (some 7), none, .load true 6 (.s 1)⟩, ⟨1, none, none, .store 6 (.s 2) (.s 7)⟩] [] (some [2]))
  .ret))) }
/-- kerbstone/track.Join -/
abbrev f_track_Join : Nat := 42
def c_track_Join : CFn := { frz := true, rnd := none, nargs := 1, ntmps := 5, res := [(.slot 2)], code :=
  (.seq (.region 1 [⟨0, (some 2), none, .newsl 0 6⟩] [] (some [0]))
  (.seq (.region 0 [⟨0, (some 3), none, .mv (.s 0)⟩, ⟨1, (some 4), none, .call ⟨true⟩ (.k (.c (.fn 106 [] []))) [(.s 3)]⟩, ⟨2, (some 2), none, .mv (.s 4)⟩] [] (some [2]))
  .ret)) }
/-- kerbstone/kerbstonekit.Cross -/
abbrev f_kerbstonekit_Cross : Nat := 43
def c_kerbstonekit_Cross : CFn := { frz := true, rnd := none, nargs := 0, ntmps := 12, res := [(.cell 0 true 5)], code :=
  (.seq (.region 1 [⟨0, (some 0), none, .box 0 5 (.k (.a [(.int .i64 0), .nilslice, .nilslice, .nilslice, .nilslice]))⟩] [] (some [0]))
  (.seq (.region 5 [⟨0, (some 1), none, .lit 0 1 [[(.int .i64 0)], [(.int .i64 0)], [(.int .i64 0)], [(.int .i64 0)]] [(0, (.k (.c (.int .i64 0)))), (1, (.k (.c (.int .i64 0)))), (2, (.k (.c (.int .i64 100000)))), (3, (.k (.c (.int .i64 0))))]⟩, ⟨1, (some 2), none, .call ⟨true⟩ (.k (.c (.fn 48 [] []))) [(.k (.c (.int .i64 1))), (.k (.c (.int .i64 1500))), (.k (.c .nilslice)), (.s 1)]⟩, ⟨2, (some 3), none, .lit 1 1 [[(.int .i64 0)], [(.int .i64 0)], [(.int .i64 0)], [(.int .i64 0)]] [(0, (.k (.c (.int .i64 50000)))), (1, (.k (.c (.int .i64 (-50000))))), (2, (.k (.c (.int .i64 50000)))), (3, (.k (.c (.int .i64 50000))))]⟩, ⟨3, (some 4), none, .call ⟨true⟩ (.k (.c (.fn 48 [] []))) [(.k (.c (.int .i64 1))), (.k (.c (.int .i64 1500))), (.k (.c .nilslice)), (.s 3)]⟩, ⟨4, (some 5), none, .lit 2 5 [[(.int .i64 0), .nilslice, (.int .i64 0), (.int .i64 0), .nilslice], [(.int .i64 0), .nilslice, (.int .i64 0), (.int .i64 0), .nilslice]] [(0, (.s 2)), (1, (.s 4))]⟩, ⟨5, (some 6), none, .build [(.int .i64 0), (.int .i64 0), (.int .i64 0), (.int .i64 0)] [(0, 1, (.k (.c (.int .i64 0)))), (1, 1, (.k (.c (.int .i64 48000)))), (2, 1, (.k (.c (.int .i64 52000)))), (3, 1, (.k (.c (.int .i64 1))))]⟩, ⟨6, (some 7), none, .build [(.int .i64 0), (.int .i64 0), (.int .i64 0), (.int .i64 0)] [(0, 1, (.k (.c (.int .i64 1)))), (1, 1, (.k (.c (.int .i64 48000)))), (2, 1, (.k (.c (.int .i64 52000))))]⟩, ⟨7, (some 8), none, .lit 3 4 [[(.int .i64 0), (.int .i64 0), (.int .i64 0), (.int .i64 0)], [(.int .i64 0), (.int .i64 0), (.int .i64 0), (.int .i64 0)]] [(0, (.s 6)), (1, (.s 7))]⟩, ⟨8, (some 9), none, .build [.nilslice, (.int .i64 0)] [(0, 1, (.s 8))]⟩, ⟨9, (some 10), none, .lit 4 2 [[.nilslice, (.int .i64 0)]] [(0, (.s 9))]⟩, ⟨10, (some 11), none, .build [(.int .i64 0), .nilslice, .nilslice, .nilslice, .nilslice] [(1, 1, (.s 5)), (2, 1, (.s 10))]⟩, ⟨11, none, none, .store 5 (.s 0) (.s 11)⟩] [] (some [0]))
  .ret)) }
/-- kerbstone/track.Own -/
abbrev f_track_Own : Nat := 44
def c_track_Own : CFn := { frz := true, rnd := none, nargs := 4, ntmps := 36, res := [(.cell 8 true 6)], code :=
  (.seq (.region 3 [⟨0, (some 4), none, .box 0 5 (.s 0)⟩, ⟨1, (some 7), none, .box 1 6 (.s 3)⟩, ⟨2, (some 8), none, .box 2 6 (.k (.a [(.int .i64 0), .nilslice, (.int .i64 0), (.int .i64 0), (.int .i64 0), (.int .i64 0)]))⟩] [] (some [1, 2, 4, 7, 8]))
  (.seq (.region 0 [⟨0, (some 9), none, .load true 6 (.s 7)⟩, ⟨1, (some 10), none, .call ⟨true⟩ (.k (.c (.fn 25 [] []))) [(.s 9)]⟩, ⟨2, none, none, .store 6 (.s 7) (.s 10)⟩] [] (some [1, 2, 4, 7, 8]))
  (.seq (.seq (.region 0 [⟨0, (some 11), none, .load true 5 (.s 4)⟩, ⟨1, (some 12), none, .load true 6 (.s 7)⟩, ⟨2, (some 13), none, .call ⟨true⟩ (.k (.c (.fn 66 [] []))) [(.s 11), (.s 12)]⟩, ⟨3, (some 14), none, .bin .eql (.s 13) (.k (.c (.int .i64 0)))⟩, ⟨4, (some 15), none, .mv (.s 14)⟩, ⟨5, (some 16), (some (15, true)), .load true 5 (.s 4)⟩, ⟨6, (some 17), (some (15, true)), .mv (.s 1)⟩, ⟨7, (some 18), (some (15, true)), .call ⟨true⟩ (.k (.c (.fn 107 [] []))) [(.s 16), (.s 17)]⟩, ⟨8, (some 19), (some (15, true)), .bin .eql (.s 18) (.k (.c (.int .i64 0)))⟩, ⟨9, (some 20), none, .pick (.s 15) (.s 19) (.k (.c (.bool false)))⟩, ⟨10, (some 21), none, .mv (.s 20)⟩, ⟨11, (some 22), (some (21, true)), .mv (.s 2)⟩, ⟨12, (some 23), (some (21, true)), .call ⟨true⟩ (.k (.c (.fn 108 [] []))) [(.s 22)]⟩, ⟨13, (some 24), none, .pick (.s 21) (.s 23) (.k (.c (.bool false)))⟩] [] (some [24, 1, 2, 4, 7, 8]))
  (.cond (.s 24) (.region 0 [⟨1, (some 26), none, .mv (.s 1)⟩, ⟨2, (some 27), none, .mv (.s 2)⟩, ⟨4, (some 29), none, .faddr 1 (.s 7)⟩, ⟨6, (some 31), none, .faddr 2 (.s 7)⟩, ⟨0, (some 25), none, .load true 5 (.s 4)⟩, ⟨5, (some 30), none, .load false 1 (.s 29)⟩, ⟨7, (some 32), none, .load true 4 (.s 31)⟩, ⟨3, (some 28), none, .call ⟨true⟩ (.k (.c (.fn 109 [] []))) [(.s 25), (.s 26), (.s 27)]⟩, ⟨8, (some 33), none, .call ⟨true⟩ (.k (.c (.fn 110 [] []))) [(.s 28), (.s 30), (.s 32)]⟩, ⟨9, (some 34), none, .faddr 1 (.s 7)⟩, ⟨10, none, none, .store 1 (.s 34) (.s 33)⟩] [(5, 7), (6, 7)] (some [7, 8]))
  .skip))
  (.seq (.region 0 [⟨0, (some 35), none, .load true 6 (.s 7)⟩, ⟨1, none, none, .store 6 (.s 8) (.s 35)⟩] [] (some [8]))
  .ret)))) }
/-- kerbstone/kerbstonelaw05.start -/
abbrev f_kerbstonelaw05_start : Nat := 45
def c_kerbstonelaw05_start : CFn := { frz := true, rnd := none, nargs := 0, ntmps := 2, res := [(.cell 0 true 4)], code :=
  (.seq (.region 1 [⟨0, (some 0), none, .box 0 4 (.k (.a [(.int .i64 0), (.int .i64 0), (.int .i64 0), (.int .i64 0)]))⟩] [] (some [0]))
  (.seq (.region 0 [⟨0, (some 1), none, .build [(.int .i64 0), (.int .i64 0), (.int .i64 0), (.int .i64 0)] [(0, 1, (.k (.c (.int .i64 10000)))), (1, 1, (.k (.c (.int .i64 10010))))]⟩, ⟨1, none, none, .store 4 (.s 0) (.s 1)⟩] [] (some [0]))
  .ret)) }
def c_kerbstonekit_SameBlobs_l1 : CC := (.seq (.seq (.region 0 [⟨0, (some 6), none, .mv (.s 5)⟩, ⟨1, (some 7), none, .mv (.s 0)⟩, ⟨2, (some 8), none, .len (.s 7)⟩, ⟨3, (some 9), none, .bin .lss (.s 6) (.s 8)⟩, ⟨4, (some 10), none, .mv (.s 9)⟩, ⟨5, (some 11), (some (10, true)), .mv (.s 5)⟩, ⟨6, (some 12), (some (10, true)), .mv (.s 1)⟩, ⟨7, (some 13), (some (10, true)), .len (.s 12)⟩, ⟨8, (some 14), (some (10, true)), .bin .lss (.s 11) (.s 13)⟩, ⟨9, (some 15), none, .pick (.s 10) (.s 14) (.k (.c (.bool false)))⟩] [] (some [15, 1, 0, 5]))
  (.cond (.s 15) .skip
  (.exit 0)))
  (.seq (.block 1 (.seq (.region 0 [⟨0, (some 18), none, .mv (.s 0)⟩, ⟨1, (some 19), none, .mv (.s 5)⟩, ⟨2, (some 20), none, .iaddr 6 (.s 18) (.s 19)⟩, ⟨4, (some 22), none, .mv (.s 1)⟩, ⟨5, (some 23), none, .mv (.s 5)⟩, ⟨6, (some 24), none, .iaddr 6 (.s 22) (.s 23)⟩, ⟨3, (some 21), none, .load true 6 (.s 20)⟩, ⟨7, (some 25), none, .load true 6 (.s 24)⟩, ⟨8, (some 26), none, .eqa true [false, false, false, false, false, false] (.s 21) (.s 25)⟩] [] (some [26, 1, 0, 5]))
  (.cond (.s 26) (.seq (.region 0 [⟨0, (some 4), none, .mv (.k (.c (.bool false)))⟩] [] (some [4]))
  .ret)
  .skip)))
  (.region 0 [⟨0, (some 16), none, .mv (.s 5)⟩, ⟨1, (some 17), none, .bin .add (.s 16) (.k (.c (.int .i64 1)))⟩, ⟨2, (some 5), none, .mv (.s 17)⟩] [] (some [0, 1, 5]))))
/-- kerbstone/kerbstonekit.SameBlobs -/
abbrev f_kerbstonekit_SameBlobs : Nat := 46
def c_kerbstonekit_SameBlobs : CFn := { frz := true, rnd := none, nargs := 2, ntmps := 32, res := [(.slot 4)], code :=
  (.seq (.region 0 [⟨0, (some 4), none, .mv (.k (.c (.bool false)))⟩] [] (some [0, 1]))
  (.seq (.seq (.region 0 [⟨0, (some 5), none, .mv (.k (.c (.int .i64 0)))⟩] [] (some [0, 1, 5]))
  (.block 0 (.loop (some [0, 1, 5]) c_kerbstonekit_SameBlobs_l1)))
  (.seq (.region 0 [⟨0, (some 27), none, .mv (.s 0)⟩, ⟨1, (some 28), none, .len (.s 27)⟩, ⟨2, (some 29), none, .mv (.s 1)⟩, ⟨3, (some 30), none, .len (.s 29)⟩, ⟨4, (some 31), none, .bin .eql (.s 28) (.s 30)⟩, ⟨5, (some 4), none, .mv (.s 31)⟩] [] (some [4]))
  .ret))) }
/-- kerbstone/kerbstonekit.Mod -/
abbrev f_kerbstonekit_Mod : Nat := 47
def c_kerbstonekit_Mod : CFn := { frz := true, rnd := none, nargs := 2, ntmps := 14, res := [(.slot 4)], code :=
  (.seq (.region 0 [⟨0, (some 4), none, .mv (.k (.c (.int .i64 0)))⟩] [] (some [0, 1]))
  (.seq (.region 0 [⟨0, (some 5), none, .mv (.s 0)⟩, ⟨1, (some 6), none, .mv (.s 1)⟩, ⟨2, (some 7), none, .bin .rem (.s 5) (.s 6)⟩, ⟨3, (some 0), none, .mv (.s 7)⟩] [] (some [0, 1]))
  (.seq (.seq (.region 0 [⟨0, (some 8), none, .mv (.s 0)⟩, ⟨1, (some 9), none, .bin .lss (.s 8) (.k (.c (.int .i64 0)))⟩] [] (some [9, 0, 1]))
  (.cond (.s 9) (.region 0 [⟨0, (some 10), none, .mv (.s 0)⟩, ⟨1, (some 11), none, .mv (.s 1)⟩, ⟨2, (some 12), none, .bin .add (.s 10) (.s 11)⟩, ⟨3, (some 0), none, .mv (.s 12)⟩] [] (some [0]))
  .skip))
  (.seq (.region 0 [⟨0, (some 13), none, .mv (.s 0)⟩, ⟨1, (some 4), none, .mv (.s 13)⟩] [] (some [4]))
  .ret)))) }
def c_kerbstonekit_road_l1 : CC := (.seq (.seq (.region 0 [⟨0, (some 15), none, .mv (.s 10)⟩, ⟨1, (some 16), none, .bin .add (.s 15) (.k (.c (.int .i64 1)))⟩, ⟨2, (some 17), none, .mv (.s 3)⟩, ⟨3, (some 18), none, .len (.s 17)⟩, ⟨4, (some 19), none, .bin .lss (.s 16) (.s 18)⟩] [] (some [19, 10, 8, 0, 3, 9]))
  (.cond (.s 19) .skip
  (.exit 0)))
  (.seq (.block 1 (.region 1 [⟨0, (some 22), none, .faddr 1 (.s 9)⟩, ⟨1, (some 23), none, .faddr 0 (.s 22)⟩, ⟨3, (some 25), none, .mv (.s 3)⟩, ⟨4, (some 26), none, .mv (.s 10)⟩, ⟨5, (some 27), none, .iaddr 1 (.s 25) (.s 26)⟩, ⟨7, (some 29), none, .mv (.s 3)⟩, ⟨8, (some 30), none, .mv (.s 10)⟩, ⟨9, (some 31), none, .bin .add (.s 30) (.k (.c (.int .i64 1)))⟩, ⟨10, (some 32), none, .iaddr 1 (.s 29) (.s 31)⟩, ⟨2, (some 24), none, .load false 1 (.s 23)⟩, ⟨6, (some 28), none, .load false 1 (.s 27)⟩, ⟨11, (some 33), none, .load false 1 (.s 32)⟩, ⟨12, (some 34), none, .build [(.int .i64 0), (.int .i64 0)] [(0, 1, (.s 28)), (1, 1, (.s 33))]⟩, ⟨13, (some 35), none, .lit 0 2 [[(.int .i64 0), (.int .i64 0)]] [(0, (.s 34))]⟩, ⟨14, (some 36), none, .append 2 16 (.s 24) (.s 35)⟩, ⟨15, (some 37), none, .faddr 1 (.s 9)⟩, ⟨16, (some 38), none, .faddr 0 (.s 37)⟩, ⟨17, none, none, .store 1 (.s 38) (.s 36)⟩] [(9, 13)] (some [10, 8, 0, 3, 9])))
  (.region 0 [⟨0, (some 20), none, .mv (.s 10)⟩, ⟨1, (some 21), none, .bin .add (.s 20) (.k (.c (.int .i64 2)))⟩, ⟨2, (some 10), none, .mv (.s 21)⟩] [] (some [10, 8, 0, 3, 9]))))
/-- kerbstone/kerbstonekit.road -/
abbrev f_kerbstonekit_road : Nat := 48
def c_kerbstonekit_road : CFn := { frz := true, rnd := none, nargs := 4, ntmps := 43, res := [(.cell 8 true 5)], code :=
  (.seq (.region 1 [⟨0, (some 8), none, .box 0 5 (.k (.a [(.int .i64 0), .nilslice, (.int .i64 0), (.int .i64 0), .nilslice]))⟩] [] (some [1, 2, 8, 0, 3]))
  (.seq (.region 1 [⟨0, (some 11), none, .mv (.s 0)⟩, ⟨1, (some 12), none, .mv (.s 1)⟩, ⟨2, (some 13), none, .mv (.s 2)⟩, ⟨3, (some 14), none, .build [(.int .i64 0), .nilslice, (.int .i64 0), (.int .i64 0), .nilslice] [(0, 1, (.s 11)), (2, 1, (.k (.c (.int .i64 1500)))), (3, 1, (.s 12)), (4, 1, (.s 13))]⟩, ⟨4, (some 9), none, .box 0 5 (.k (.a [(.int .i64 0), .nilslice, (.int .i64 0), (.int .i64 0), .nilslice]))⟩, ⟨5, none, none, .store 5 (.s 9) (.s 14)⟩] [] (some [8, 0, 3, 9]))
  (.seq (.seq (.region 0 [⟨0, (some 10), none, .mv (.k (.c (.int .i64 0)))⟩] [] (some [10, 8, 0, 3, 9]))
  (.block 0 (.loop (some [10, 8, 0, 3, 9]) c_kerbstonekit_road_l1)))
  (.seq (.seq (.region 0 [⟨0, (some 39), none, .mv (.s 0)⟩, ⟨1, (some 40), none, .bin .eql (.s 39) (.k (.c (.int .i64 3)))⟩] [] (some [40, 9, 8]))
  (.cond (.s 40) (.region 0 [⟨0, (some 41), none, .faddr 2 (.s 9)⟩, ⟨1, none, none, .store 1 (.s 41) (.k (.c (.int .i64 500)))⟩] [] (some [9, 8]))
  .skip))
  (.seq (.region 0 [⟨0, (some 42), none, .load true 5 (.s 9)⟩, ⟨1, none, none, .store 5 (.s 8) (.s 42)⟩] [] (some [8]))
  .ret))))) }
/-- kerbstone/kerbstonekit.signal -/
abbrev f_kerbstonekit_signal : Nat := 49
def c_kerbstonekit_signal : CFn := { frz := true, rnd := none, nargs := 3, ntmps := 18, res := [(.cell 6 true 2)], code :=
  (.seq (.region 1 [⟨0, (some 6), none, .box 0 2 (.k (.a [(.int .i64 0), .nilslice]))⟩] [] (some [0, 1, 2, 6]))
  (.seq (.region 3 [⟨0, (some 7), none, .mv (.s 0)⟩, ⟨1, (some 8), none, .mv (.s 1)⟩, ⟨2, (some 9), none, .lit 0 1 [[(.int .i64 0)]] [(0, (.s 8))]⟩, ⟨3, (some 10), none, .build [(.int .i64 0), .nilslice] [(0, 1, (.k (.c (.int .i64 12)))), (1, 1, (.s 9))]⟩, ⟨4, (some 11), none, .build [(.int .i64 0), .nilslice] [(0, 1, (.k (.c (.int .i64 5))))]⟩, ⟨5, (some 12), none, .mv (.s 2)⟩, ⟨6, (some 13), none, .lit 1 1 [[(.int .i64 0)]] [(0, (.s 12))]⟩, ⟨7, (some 14), none, .build [(.int .i64 0), .nilslice] [(0, 1, (.k (.c (.int .i64 9)))), (1, 1, (.s 13))]⟩, ⟨8, (some 15), none, .build [(.int .i64 0), .nilslice] [(0, 1, (.k (.c (.int .i64 4))))]⟩, ⟨9, (some 16), none, .lit 2 2 [[(.int .i64 0), .nilslice], [(.int .i64 0), .nilslice], [(.int .i64 0), .nilslice], [(.int .i64 0), .nilslice]] [(0, (.s 10)), (1, (.s 11)), (2, (.s 14)), (3, (.s 15))]⟩, ⟨10, (some 17), none, .build [(.int .i64 0), .nilslice] [(0, 1, (.s 7)), (1, 1, (.s 16))]⟩, ⟨11, none, none, .store 2 (.s 6) (.s 17)⟩] [] (some [6]))
  .ret)) }
def c_kerbstonekit_Route_l1 : CC := (.seq (.seq (.region 0 [⟨0, (some 29), none, .faddr 1 (.s 2)⟩, ⟨1, (some 30), none, .load false 1 (.s 29)⟩, ⟨2, (some 31), none, .mv (.s 6)⟩, ⟨3, (some 32), none, .iaddr 5 (.s 30) (.s 31)⟩, ⟨4, (some 33), none, .faddr 4 (.s 32)⟩, ⟨5, (some 34), none, .load false 1 (.s 33)⟩, ⟨6, (some 35), none, .len (.s 34)⟩, ⟨7, (some 36), none, .bin .gtr (.s 35) (.k (.c (.int .i64 0)))⟩, ⟨8, (some 37), none, .mv (.s 36)⟩, ⟨9, (some 38), (some (37, true)), .mv (.s 7)⟩, ⟨10, (some 39), (some (37, true)), .len (.s 38)⟩, ⟨11, (some 40), (some (37, true)), .bin .lss (.s 39) (.k (.c (.int .i64 8)))⟩, ⟨12, (some 41), none, .pick (.s 37) (.s 40) (.k (.c (.bool false)))⟩] [] (some [41, 6, 1, 7, 2]))
  (.cond (.s 41) .skip
  (.exit 0)))
  (.block 1 (.seq (.region 0 [⟨0, (some 42), none, .faddr 1 (.s 2)⟩, ⟨1, (some 43), none, .load false 1 (.s 42)⟩, ⟨2, (some 44), none, .mv (.s 6)⟩, ⟨3, (some 45), none, .iaddr 5 (.s 43) (.s 44)⟩, ⟨4, (some 46), none, .faddr 4 (.s 45)⟩, ⟨5, (some 47), none, .load false 1 (.s 46)⟩, ⟨6, (some 48), none, .len (.s 47)⟩, ⟨7, (some 8), none, .mv (.s 48)⟩] [] (some [6, 1, 8, 7, 2]))
  (.seq (.region 0 [⟨0, (some 49), none, .faddr 1 (.s 2)⟩, ⟨2, (some 51), none, .mv (.s 6)⟩, ⟨6, (some 55), none, .mv (.s 1)⟩, ⟨7, (some 56), none, .mv (.s 8)⟩, ⟨8, (some 57), none, .bin .rem (.s 55) (.s 56)⟩, ⟨1, (some 50), none, .load false 1 (.s 49)⟩, ⟨3, (some 52), none, .iaddr 5 (.s 50) (.s 51)⟩, ⟨4, (some 53), none, .faddr 4 (.s 52)⟩, ⟨5, (some 54), none, .load false 1 (.s 53)⟩, ⟨9, (some 58), none, .iaddr 1 (.s 54) (.s 57)⟩, ⟨10, (some 59), none, .load false 1 (.s 58)⟩, ⟨11, (some 6), none, .mv (.s 59)⟩] [] (some [1, 8, 7, 6, 2]))
  (.seq (.region 0 [⟨0, (some 60), none, .mv (.s 1)⟩, ⟨1, (some 61), none, .mv (.s 8)⟩, ⟨2, (some 62), none, .bin .quo (.s 60) (.s 61)⟩, ⟨3, (some 1), none, .mv (.s 62)⟩] [] (some [7, 6, 1, 2]))
  (.region 1 [⟨0, (some 63), none, .mv (.s 7)⟩, ⟨1, (some 64), none, .mv (.s 6)⟩, ⟨2, (some 65), none, .lit 0 1 [[(.int .i64 0)]] [(0, (.s 64))]⟩, ⟨3, (some 66), none, .append 1 8 (.s 63) (.s 65)⟩, ⟨4, (some 7), none, .mv (.s 66)⟩] [] (some [6, 1, 7, 2])))))))
/-- kerbstone/kerbstonekit.Route -/
abbrev f_kerbstonekit_Route : Nat := 50
def c_kerbstonekit_Route : CFn := { frz := true, rnd := none, nargs := 2, ntmps := 68, res := [(.slot 4)], code :=
  (.seq (.region 2 [⟨0, (some 2), none, .box 0 5 (.s 0)⟩, ⟨1, (some 4), none, .newsl 1 1⟩] [] (some [2, 1]))
  (.seq (.region 0 [⟨0, (some 9), none, .load true 5 (.s 2)⟩, ⟨1, (some 10), none, .call ⟨true⟩ (.k (.c (.fn 111 [] []))) [(.s 9)]⟩, ⟨2, (some 5), none, .mv (.s 10)⟩] [] (some [2, 5, 1]))
  (.seq (.seq (.region 0 [⟨0, (some 11), none, .mv (.s 5)⟩, ⟨1, (some 12), none, .len (.s 11)⟩, ⟨2, (some 13), none, .bin .eql (.s 12) (.k (.c (.int .i64 0)))⟩] [] (some [13, 2, 5, 1]))
  (.cond (.s 13) (.seq (.region 1 [⟨0, (some 4), none, .newsl 0 1⟩] [] (some [4]))
  .ret)
  .skip))
  (.seq (.region 0 [⟨0, (some 14), none, .mv (.s 1)⟩, ⟨1, (some 15), none, .call ⟨true⟩ (.k (.c (.fn 47 [] []))) [(.s 14), (.k (.c (.int .i64 1048576)))]⟩, ⟨2, (some 1), none, .mv (.s 15)⟩] [] (some [1, 5, 2]))
  (.seq (.region 0 [⟨0, (some 16), none, .mv (.s 5)⟩, ⟨1, (some 17), none, .mv (.s 1)⟩, ⟨2, (some 18), none, .mv (.s 5)⟩, ⟨3, (some 19), none, .len (.s 18)⟩, ⟨4, (some 20), none, .bin .rem (.s 17) (.s 19)⟩, ⟨5, (some 21), none, .iaddr 1 (.s 16) (.s 20)⟩, ⟨6, (some 22), none, .load false 1 (.s 21)⟩, ⟨7, (some 6), none, .mv (.s 22)⟩] [] (some [1, 5, 6, 2]))
  (.seq (.region 1 [⟨0, (some 23), none, .mv (.s 6)⟩, ⟨1, (some 24), none, .lit 0 1 [[(.int .i64 0)]] [(0, (.s 23))]⟩, ⟨2, (some 7), none, .mv (.s 24)⟩] [] (some [1, 5, 6, 7, 2]))
  (.seq (.region 0 [⟨0, (some 25), none, .mv (.s 1)⟩, ⟨1, (some 26), none, .mv (.s 5)⟩, ⟨2, (some 27), none, .len (.s 26)⟩, ⟨3, (some 28), none, .bin .quo (.s 25) (.s 27)⟩, ⟨4, (some 1), none, .mv (.s 28)⟩] [] (some [6, 1, 7, 2]))
  (.seq (.block 0 (.loop (some [6, 1, 7, 2]) c_kerbstonekit_Route_l1))
  (.seq (.region 0 [⟨0, (some 67), none, .mv (.s 7)⟩, ⟨1, (some 4), none, .mv (.s 67)⟩] [] (some [4]))
  .ret))))))))) }
def c_kerbstoneref05_Join_l1 : CC := (.seq (.seq (.region 0 [⟨0, (some 31), none, .mv (.s 5)⟩, ⟨1, (some 32), none, .bin .gtr (.s 31) (.k (.c (.int .i64 0)))⟩, ⟨2, (some 33), none, .mv (.s 32)⟩, ⟨3, (some 34), (some (33, true)), .mv (.s 0)⟩, ⟨4, (some 35), (some (33, true)), .mv (.s 4)⟩, ⟨5, (some 36), (some (33, true)), .iaddr 6 (.s 34) (.s 35)⟩, ⟨7, (some 38), (some (33, true)), .mv (.s 3)⟩, ⟨8, (some 39), (some (33, true)), .mv (.s 5)⟩, ⟨9, (some 40), (some (33, true)), .bin .sub (.s 39) (.k (.c (.int .i64 1)))⟩, ⟨10, (some 41), (some (33, true)), .iaddr 6 (.s 38) (.s 40)⟩, ⟨6, (some 37), (some (33, true)), .load true 6 (.s 36)⟩, ⟨11, (some 42), (some (33, true)), .load true 6 (.s 41)⟩, ⟨12, (some 43), (some (33, true)), .call ⟨true⟩ (.k (.c (.fn 112 [] []))) [(.s 37), (.s 42)]⟩, ⟨13, (some 44), none, .pick (.s 33) (.s 43) (.k (.c (.bool false)))⟩] [] (some [44, 5, 0, 4, 3]))
  (.cond (.s 44) .skip
  (.exit 2)))
  (.block 3 (.region 0 [⟨0, (some 45), none, .mv (.s 5)⟩, ⟨1, (some 46), none, .bin .sub (.s 45) (.k (.c (.int .i64 1)))⟩, ⟨2, (some 5), none, .mv (.s 46)⟩] [] (some [5, 0, 4, 3]))))
def c_kerbstoneref05_Join_l2 : CC := (.seq (.seq (.region 0 [⟨0, (some 12), none, .mv (.s 4)⟩, ⟨1, (some 13), none, .mv (.s 0)⟩, ⟨2, (some 14), none, .len (.s 13)⟩, ⟨3, (some 15), none, .bin .lss (.s 12) (.s 14)⟩] [] (some [15, 4, 0, 3]))
  (.cond (.s 15) .skip
  (.exit 0)))
  (.seq (.block 1 (.seq (.seq (.region 0 [⟨0, (some 18), none, .mv (.s 0)⟩, ⟨1, (some 19), none, .mv (.s 4)⟩, ⟨2, (some 20), none, .iaddr 6 (.s 18) (.s 19)⟩, ⟨3, (some 21), none, .faddr 1 (.s 20)⟩, ⟨5, (some 23), none, .mv (.s 0)⟩, ⟨6, (some 24), none, .mv (.s 4)⟩, ⟨7, (some 25), none, .iaddr 6 (.s 23) (.s 24)⟩, ⟨8, (some 26), none, .faddr 2 (.s 25)⟩, ⟨4, (some 22), none, .load false 1 (.s 21)⟩, ⟨9, (some 27), none, .load false 1 (.s 26)⟩, ⟨10, (some 28), none, .bin .gtr (.s 22) (.s 27)⟩] [] (some [28, 4, 0, 3]))
  (.cond (.s 28) (.exit 1)
  .skip))
  (.seq (.region 0 [⟨0, (some 29), none, .mv (.s 3)⟩, ⟨1, (some 30), none, .len (.s 29)⟩, ⟨2, (some 5), none, .mv (.s 30)⟩] [] (some [5, 0, 4, 3]))
  (.seq (.block 2 (.loop (some [5, 0, 4, 3]) c_kerbstoneref05_Join_l1))
  (.region 2 [⟨1, (some 48), none, .mv (.s 3)⟩, ⟨2, (some 49), none, .mv (.s 5)⟩, ⟨3, (some 50), none, .slice 6 (.s 48) none (some (.s 49)) none⟩, ⟨5, (some 52), none, .mv (.s 0)⟩, ⟨6, (some 53), none, .mv (.s 4)⟩, ⟨7, (some 54), none, .iaddr 6 (.s 52) (.s 53)⟩, ⟨11, (some 58), none, .mv (.s 3)⟩, ⟨12, (some 59), none, .mv (.s 5)⟩, ⟨13, (some 60), none, .slice 6 (.s 58) (some (.s 59)) none none⟩, ⟨8, (some 55), none, .load true 6 (.s 54)⟩, ⟨0, (some 47), none, .lit 0 6 [] []⟩, ⟨4, (some 51), none, .append 6 48 (.s 47) (.s 50)⟩, ⟨9, (some 56), none, .lit 1 6 [[(.int .i64 0), (.int .i64 0), (.int .i64 0), (.int .i64 0), (.int .i64 0), (.int .i64 0)]] [(0, (.s 55))]⟩, ⟨10, (some 57), none, .append 6 48 (.s 51) (.s 56)⟩, ⟨14, (some 61), none, .append 6 48 (.s 57) (.s 60)⟩, ⟨15, (some 3), none, .mv (.s 61)⟩] [(9, 10), (9, 11), (10, 12), (11, 12)] (some [4, 0, 3]))))))
  (.region 0 [⟨0, (some 16), none, .mv (.s 4)⟩, ⟨1, (some 17), none, .bin .add (.s 16) (.k (.c (.int .i64 1)))⟩, ⟨2, (some 4), none, .mv (.s 17)⟩] [] (some [4, 0, 3]))))
def c_kerbstoneref05_Join_l3 : CC := (.seq (.seq (.region 0 [⟨0, (some 62), none, .mv (.s 7)⟩, ⟨1, (some 63), none, .mv (.s 3)⟩, ⟨2, (some 64), none, .len (.s 63)⟩, ⟨3, (some 65), none, .bin .lss (.s 62) (.s 64)⟩] [] (some [65, 6, 7, 3]))
  (.cond (.s 65) .skip
  (.exit 4)))
  (.seq (.block 5 (.seq (.region 1 [⟨0, (some 68), none, .mv (.s 3)⟩, ⟨1, (some 69), none, .mv (.s 7)⟩, ⟨2, (some 70), none, .iaddr 6 (.s 68) (.s 69)⟩, ⟨3, (some 71), none, .load true 6 (.s 70)⟩, ⟨4, (some 72), none, .mv (.s 6)⟩, ⟨5, (some 73), none, .len (.s 72)⟩, ⟨6, (some 74), none, .bin .sub (.s 73) (.k (.c (.int .i64 1)))⟩, ⟨7, (some 8), none, .box 0 6 (.k (.a [(.int .i64 0), (.int .i64 0), (.int .i64 0), (.int .i64 0), (.int .i64 0), (.int .i64 0)]))⟩, ⟨8, none, none, .store 6 (.s 8) (.s 71)⟩, ⟨9, (some 9), none, .mv (.s 74)⟩] [] (some [9, 6, 8, 7, 3]))
  (.seq (.seq (.region 0 [⟨0, (some 75), none, .mv (.s 9)⟩, ⟨1, (some 76), none, .bin .lss (.s 75) (.k (.c (.int .i64 0)))⟩, ⟨2, (some 77), none, .mv (.s 76)⟩, ⟨3, (some 78), (some (77, false)), .mv (.s 6)⟩, ⟨4, (some 79), (some (77, false)), .mv (.s 9)⟩, ⟨5, (some 80), (some (77, false)), .iaddr 6 (.s 78) (.s 79)⟩, ⟨6, (some 81), (some (77, false)), .faddr 0 (.s 80)⟩, ⟨8, (some 83), (some (77, false)), .faddr 0 (.s 8)⟩, ⟨7, (some 82), (some (77, false)), .load false 1 (.s 81)⟩, ⟨9, (some 84), (some (77, false)), .load false 1 (.s 83)⟩, ⟨10, (some 85), (some (77, false)), .bin .neq (.s 82) (.s 84)⟩, ⟨11, (some 86), none, .pick (.s 77) (.k (.c (.bool true))) (.s 85)⟩, ⟨12, (some 87), none, .mv (.s 86)⟩, ⟨13, (some 88), (some (87, false)), .faddr 1 (.s 8)⟩, ⟨15, (some 90), (some (87, false)), .mv (.s 6)⟩, ⟨16, (some 91), (some (87, false)), .mv (.s 9)⟩, ⟨17, (some 92), (some (87, false)), .iaddr 6 (.s 90) (.s 91)⟩, ⟨18, (some 93), (some (87, false)), .faddr 2 (.s 92)⟩, ⟨14, (some 89), (some (87, false)), .load false 1 (.s 88)⟩, ⟨19, (some 94), (some (87, false)), .load false 1 (.s 93)⟩, ⟨20, (some 95), (some (87, false)), .bin .gtr (.s 89) (.s 94)⟩, ⟨21, (some 96), (some (87, false)), .mv (.s 95)⟩, ⟨22, (some 97), (some (96, true)), .faddr 1 (.s 8)⟩, ⟨25, (some 100), (some (96, true)), .mv (.s 6)⟩, ⟨26, (some 101), (some (96, true)), .mv (.s 9)⟩, ⟨27, (some 102), (some (96, true)), .iaddr 6 (.s 100) (.s 101)⟩, ⟨28, (some 103), (some (96, true)), .faddr 2 (.s 102)⟩, ⟨23, (some 98), (some (96, true)), .load false 1 (.s 97)⟩, ⟨24, (some 99), (some (96, true)), .bin .sub (.s 98) (.k (.c (.int .i64 1)))⟩, ⟨29, (some 104), (some (96, true)), .load false 1 (.s 103)⟩, ⟨30, (some 105), (some (96, true)), .bin .gtr (.s 99) (.s 104)⟩, ⟨31, (some 106), (some (87, false)), .pick (.s 96) (.s 105) (.k (.c (.bool false)))⟩, ⟨32, (some 107), none, .pick (.s 87) (.k (.c (.bool true))) (.s 106)⟩] [] (some [107, 9, 6, 8, 7, 3]))
  (.cond (.s 107) (.seq (.region 1 [⟨0, (some 108), none, .mv (.s 6)⟩, ⟨1, (some 109), none, .load true 6 (.s 8)⟩, ⟨2, (some 110), none, .lit 0 6 [[(.int .i64 0), (.int .i64 0), (.int .i64 0), (.int .i64 0), (.int .i64 0), (.int .i64 0)]] [(0, (.s 109))]⟩, ⟨3, (some 111), none, .append 6 48 (.s 108) (.s 110)⟩, ⟨4, (some 6), none, .mv (.s 111)⟩] [] (some [7, 6, 3]))
  (.exit 5))
  .skip))
  (.seq (.region 1 [⟨0, (some 112), none, .mv (.s 6)⟩, ⟨1, (some 113), none, .mv (.s 9)⟩, ⟨2, (some 114), none, .iaddr 6 (.s 112) (.s 113)⟩, ⟨3, (some 115), none, .load true 6 (.s 114)⟩, ⟨4, (some 10), none, .box 0 6 (.k (.a [(.int .i64 0), (.int .i64 0), (.int .i64 0), (.int .i64 0), (.int .i64 0), (.int .i64 0)]))⟩, ⟨5, none, none, .store 6 (.s 10) (.s 115)⟩] [] (some [9, 10, 8, 7, 6, 3]))
  (.seq (.region 0 [⟨0, (some 116), none, .faddr 5 (.s 10)⟩, ⟨1, (some 117), none, .load false 1 (.s 116)⟩, ⟨2, (some 118), none, .faddr 5 (.s 8)⟩, ⟨3, (some 119), none, .load false 1 (.s 118)⟩, ⟨4, (some 120), none, .minmax true [(.s 117), (.s 119)]⟩, ⟨5, (some 11), none, .mv (.s 120)⟩] [] (some [11, 9, 10, 8, 7, 6, 3]))
  (.seq (.seq (.region 0 [⟨0, (some 121), none, .faddr 5 (.s 10)⟩, ⟨1, (some 122), none, .load false 1 (.s 121)⟩, ⟨2, (some 123), none, .bin .eql (.s 122) (.k (.c (.int .i64 0)))⟩, ⟨3, (some 124), none, .mv (.s 123)⟩, ⟨4, (some 125), (some (124, false)), .faddr 5 (.s 8)⟩, ⟨5, (some 126), (some (124, false)), .load false 1 (.s 125)⟩, ⟨6, (some 127), (some (124, false)), .bin .eql (.s 126) (.k (.c (.int .i64 0)))⟩, ⟨7, (some 128), none, .pick (.s 124) (.k (.c (.bool true))) (.s 127)⟩] [] (some [128, 11, 9, 10, 8, 7, 6, 3]))
  (.cond (.s 128) (.region 0 [⟨0, (some 11), none, .mv (.k (.c (.int .i64 0)))⟩] [] (some [9, 10, 8, 11, 7, 6, 3]))
  .skip))
  (.region 0 [⟨0, (some 129), none, .mv (.s 6)⟩, ⟨1, (some 130), none, .mv (.s 9)⟩, ⟨2, (some 131), none, .faddr 0 (.s 8)⟩, ⟨3, (some 132), none, .load false 1 (.s 131)⟩, ⟨4, (some 133), none, .faddr 1 (.s 10)⟩, ⟨5, (some 134), none, .load false 1 (.s 133)⟩, ⟨6, (some 135), none, .faddr 2 (.s 10)⟩, ⟨7, (some 136), none, .load false 1 (.s 135)⟩, ⟨8, (some 137), none, .faddr 2 (.s 8)⟩, ⟨9, (some 138), none, .load false 1 (.s 137)⟩, ⟨10, (some 139), none, .minmax true [(.s 136), (.s 138)]⟩, ⟨11, (some 140), none, .faddr 3 (.s 10)⟩, ⟨12, (some 141), none, .load false 1 (.s 140)⟩, ⟨13, (some 142), none, .faddr 3 (.s 8)⟩, ⟨14, (some 143), none, .load false 1 (.s 142)⟩, ⟨15, (some 144), none, .minmax false [(.s 141), (.s 143)]⟩, ⟨16, (some 145), none, .faddr 4 (.s 10)⟩, ⟨17, (some 146), none, .load false 1 (.s 145)⟩, ⟨18, (some 147), none, .faddr 4 (.s 8)⟩, ⟨19, (some 148), none, .load false 1 (.s 147)⟩, ⟨20, (some 149), none, .minmax true [(.s 146), (.s 148)]⟩, ⟨21, (some 150), none, .mv (.s 11)⟩, ⟨22, (some 151), none, .build [(.int .i64 0), (.int .i64 0), (.int .i64 0), (.int .i64 0), (.int .i64 0), (.int .i64 0)] [(0, 1, (.s 132)), (1, 1, (.s 134)), (2, 1, (.s 139)), (3, 1, (.s 144)), (4, 1, (.s 149)), (5, 1, (.s 150))]⟩, ⟨23, (some 152), none, .iaddr 6 (.s 129) (.s 130)⟩, ⟨24, none, none, .store 6 (.s 152) (.s 151)⟩] [] (some [7, 6, 3]))))))))
  (.region 0 [⟨0, (some 66), none, .mv (.s 7)⟩, ⟨1, (some 67), none, .bin .add (.s 66) (.k (.c (.int .i64 1)))⟩, ⟨2, (some 7), none, .mv (.s 67)⟩] [] (some [6, 7, 3]))))
/-- kerbstone/kerbstoneref05.Join -/
abbrev f_kerbstoneref05_Join : Nat := 51
def c_kerbstoneref05_Join : CFn := { frz := true, rnd := none, nargs := 1, ntmps := 154, res := [(.slot 2)], code :=
  (.seq (.region 1 [⟨0, (some 2), none, .newsl 0 6⟩] [] (some [0]))
  (.seq (.region 1 [⟨0, (some 3), none, .newsl 0 6⟩] [] (some [0, 3]))
  (.seq (.seq (.region 0 [⟨0, (some 4), none, .mv (.k (.c (.int .i64 0)))⟩] [] (some [4, 0, 3]))
  (.block 0 (.loop (some [4, 0, 3]) c_kerbstoneref05_Join_l2)))
  (.seq (.region 1 [⟨0, (some 6), none, .newsl 0 6⟩] [] (some [6, 3]))
  (.seq (.seq (.region 0 [⟨0, (some 7), none, .mv (.k (.c (.int .i64 0)))⟩] [] (some [6, 7, 3]))
  (.block 4 (.loop (some [6, 7, 3]) c_kerbstoneref05_Join_l3)))
  (.seq (.region 0 [⟨0, (some 153), none, .mv (.s 6)⟩, ⟨1, (some 2), none, .mv (.s 153)⟩] [] (some [2]))
  .ret)))))) }
/-- kerbstone/kerbstonekit.Place -/
abbrev f_kerbstonekit_Place : Nat := 52
def c_kerbstonekit_Place : CFn := { frz := true, rnd := none, nargs := 4, ntmps := 41, res := [(.cell 8 true 4)], code :=
  (.seq (.region 1 [⟨0, (some 8), none, .box 0 4 (.k (.a [(.int .i64 0), (.int .i64 0), (.int .i64 0), (.int .i64 0)]))⟩] [] (some [1, 2, 3, 0, 8]))
  (.seq (.region 0 [⟨0, (some 9), none, .mv (.s 1)⟩, ⟨1, (some 10), none, .mv (.s 0)⟩, ⟨2, (some 11), none, .bin .add (.s 10) (.k (.c (.int .i64 1)))⟩, ⟨3, (some 12), none, .call ⟨true⟩ (.k (.c (.fn 16 [] []))) [(.s 9), (.s 11)]⟩, ⟨4, (some 13), none, .mv (.s 2)⟩, ⟨5, (some 14), none, .call ⟨true⟩ (.k (.c (.fn 16 [] []))) [(.s 13), (.k (.c (.int .i64 2001)))]⟩, ⟨6, (some 15), none, .mv (.s 3)⟩, ⟨7, (some 16), none, .call ⟨true⟩ (.k (.c (.fn 16 [] []))) [(.s 15), (.k (.c (.int .i64 2000)))]⟩, ⟨8, (some 1), none, .mv (.s 12)⟩, ⟨9, (some 2), none, .mv (.s 14)⟩, ⟨10, (some 3), none, .mv (.s 16)⟩] [] (some [0, 1, 2, 3, 8]))
  (.seq (.region 0 [⟨0, (some 17), none, .mv (.s 1)⟩, ⟨1, (some 18), none, .mv (.s 3)⟩, ⟨2, (some 19), none, .bin .quo (.s 18) (.k (.c (.int .i64 2)))⟩, ⟨3, (some 20), none, .bin .sub (.s 17) (.s 19)⟩, ⟨4, (some 21), none, .minmax true [(.k (.c (.int .i64 0))), (.s 20)]⟩, ⟨5, (some 22), none, .mv (.s 0)⟩, ⟨6, (some 23), none, .mv (.s 1)⟩, ⟨7, (some 24), none, .mv (.s 3)⟩, ⟨8, (some 25), none, .bin .add (.s 23) (.s 24)⟩, ⟨9, (some 26), none, .mv (.s 3)⟩, ⟨10, (some 27), none, .bin .quo (.s 26) (.k (.c (.int .i64 2)))⟩, ⟨11, (some 28), none, .bin .sub (.s 25) (.s 27)⟩, ⟨12, (some 29), none, .minmax false [(.s 22), (.s 28)]⟩, ⟨13, (some 30), none, .mv (.s 2)⟩, ⟨14, (some 31), none, .mv (.s 3)⟩, ⟨15, (some 32), none, .bin .quo (.s 31) (.k (.c (.int .i64 40)))⟩, ⟨16, (some 33), none, .bin .sub (.s 30) (.s 32)⟩, ⟨17, (some 34), none, .minmax true [(.k (.c (.int .i64 0))), (.s 33)]⟩, ⟨18, (some 35), none, .mv (.s 2)⟩, ⟨19, (some 36), none, .mv (.s 3)⟩, ⟨20, (some 37), none, .bin .quo (.s 36) (.k (.c (.int .i64 50)))⟩, ⟨21, (some 38), none, .bin .add (.s 35) (.s 37)⟩, ⟨22, (some 39), none, .minmax false [(.k (.c (.int .i64 2000))), (.s 38)]⟩, ⟨23, (some 40), none, .build [(.int .i64 0), (.int .i64 0), (.int .i64 0), (.int .i64 0)] [(0, 1, (.s 21)), (1, 1, (.s 29)), (2, 1, (.s 34)), (3, 1, (.s 39))]⟩, ⟨24, none, none, .store 4 (.s 8) (.s 40)⟩] [] (some [8]))
  .ret))) }
/-- kerbstone/kerbstoneref03.RouteLength -/
abbrev f_kerbstoneref03_RouteLength : Nat := 53
def c_kerbstoneref03_RouteLength : CFn := { frz := true, rnd := none, nargs := 2, ntmps := 18, res := [(.slot 4)], code :=
  (.seq (.region 1 [⟨0, (some 2), none, .box 0 5 (.s 0)⟩, ⟨1, (some 4), none, .mv (.k (.c (.int .i64 0)))⟩] [] (some [1, 2]))
  (.seq (.seq (.region 0 [⟨0, (some 7), none, .load true 5 (.s 2)⟩, ⟨1, (some 8), none, .mv (.s 1)⟩, ⟨2, (some 9), none, .call ⟨true⟩ (.k (.c (.fn 113 [] []))) [(.s 7), (.s 8)]⟩, ⟨3, (some 10), none, .bin .neq (.s 9) (.k (.c (.int .i64 0)))⟩] [] (some [10, 1, 2]))
  (.cond (.s 10) (.seq (.region 0 [⟨0, (some 4), none, .mv (.k (.c (.int .i64 0)))⟩] [] (some [4]))
  .ret)
  .skip))
  (.seq (.region 0 [⟨0, (some 12), none, .load true 5 (.s 2)⟩, ⟨1, (some 13), none, .mv (.s 1)⟩, ⟨2, (some 14), none, .call ⟨true⟩ (.k (.c (.fn 114 [] []))) [(.s 12), (.s 13)]⟩, ⟨3, (some 11), none, .mv (.s 14)⟩, ⟨4, (some 15), none, .extract 11 0⟩, ⟨5, (some 16), none, .extract 11 1⟩, ⟨6, (some 5), none, .mv (.s 15)⟩, ⟨7, (some 6), none, .mv (.s 16)⟩] [] (some [6]))
  (.seq (.region 0 [⟨0, (some 17), none, .mv (.s 6)⟩, ⟨1, (some 4), none, .mv (.s 17)⟩] [] (some [4]))
  .ret)))) }
def c_roads_Check_l1 : CC := (.seq (.region 0 [⟨0, (some 9), none, .bin .lss (.s 8) (.s 7)⟩] [] (some [9, 1, 6, 7, 8]))
  (.seq (.cond (.s 9) .skip
  (.exit 0))
  (.seq (.block 1 (.seq (.region 0 [⟨0, (some 10), none, .iaddr 1 (.s 6) (.s 8)⟩, ⟨1, (some 11), none, .load false 1 (.s 10)⟩, ⟨2, (some 4), none, .mv (.s 11)⟩] [] (some [4, 1, 6, 7, 8]))
  (.seq (.region 0 [⟨0, (some 12), none, .mv (.s 4)⟩, ⟨1, (some 13), none, .load true 5 (.s 1)⟩, ⟨2, (some 14), none, .build [(.int .i64 0), .nilslice, .nilslice, .nilslice, .nilslice] [(0, 5, (.s 13))]⟩, ⟨3, (some 15), none, .call ⟨true⟩ (.s 12) [(.s 14)]⟩, ⟨4, (some 5), none, .mv (.s 15)⟩] [] (some [1, 6, 7, 8, 5]))
  (.seq (.region 0 [⟨0, (some 16), none, .mv (.s 5)⟩, ⟨1, (some 17), none, .bin .neq (.s 16) (.k (.c (.int .i64 0)))⟩] [] (some [17, 1, 6, 7, 8, 5]))
  (.cond (.s 17) (.seq (.region 0 [⟨0, (some 18), none, .mv (.s 5)⟩, ⟨1, (some 2), none, .mv (.s 18)⟩] [] (some [2]))
  .ret)
  .skip)))))
  (.region 0 [⟨0, (some 19), none, .bin .add (.s 8) (.k (.c (.int .i64 1)))⟩, ⟨1, (some 8), none, .mv (.s 19)⟩] [] (some [7, 6, 1, 8])))))
/-- kerbstone/roads.Check -/
abbrev f_roads_Check : Nat := 54
def c_roads_Check : CFn := { frz := true, rnd := none, nargs := 1, ntmps := 20, res := [(.slot 2)], code :=
  (.seq (.region 1 [⟨0, (some 1), none, .box 0 5 (.s 0)⟩, ⟨1, (some 2), none, .mv (.k (.c (.int .i64 0)))⟩] [] (some [1]))
  (.seq (.seq (.region 1 [⟨0, (some 6), none, .lit 0 1 [[.nilfn], [.nilfn], [.nilfn], [.nilfn], [.nilfn], [.nilfn]] [(0, (.k (.c (.fn 115 [] [])))), (1, (.k (.c (.fn 116 [] [])))), (2, (.k (.c (.fn 117 [] [])))), (3, (.k (.c (.fn 118 [] [])))), (4, (.k (.c (.fn 119 [] [])))), (5, (.k (.c (.fn 120 [] []))))]⟩, ⟨1, (some 7), none, .len (.s 6)⟩, ⟨2, (some 8), none, .mv (.k (.c (.int .i64 0)))⟩] [] (some [7, 6, 1, 8]))
  (.block 0 (.loop (some [7, 6, 1, 8]) c_roads_Check_l1)))
  (.seq (.region 0 [⟨0, (some 2), none, .mv (.k (.c (.int .i64 0)))⟩] [] (some [2]))
  .ret))) }
/-- kerbstone/roads.Bounds -/
abbrev f_roads_Bounds : Nat := 55
def c_roads_Bounds : CFn := { frz := true, rnd := none, nargs := 1, ntmps := 26, res := [(.slot 2), (.slot 3), (.slot 4)], code :=
  (.seq (.region 0 [⟨0, (some 2), none, .mv (.k (.c (.int .i64 0)))⟩, ⟨1, (some 3), none, .mv (.k (.c (.int .i64 0)))⟩, ⟨2, (some 4), none, .mv (.k (.c (.int .i64 0)))⟩] [] (some [0]))
  (.seq (.region 1 [⟨0, (some 7), none, .build [(.int .i64 0), (.int .i64 0), (.int .i64 0)] [(0, 1, (.k (.c (.int .i64 2000)))), (1, 1, (.k (.c (.int .i64 30)))), (2, 1, (.k (.c (.int .i64 90))))]⟩, ⟨1, (some 8), none, .build [(.int .i64 0), (.int .i64 0), (.int .i64 0)] [(0, 1, (.k (.c (.int .i64 1000)))), (1, 1, (.k (.c (.int .i64 20)))), (2, 1, (.k (.c (.int .i64 60))))]⟩, ⟨2, (some 9), none, .build [(.int .i64 0), (.int .i64 0), (.int .i64 0)] [(0, 1, (.k (.c (.int .i64 300)))), (1, 1, (.k (.c (.int .i64 100)))), (2, 1, (.k (.c (.int .i64 300))))]⟩, ⟨3, (some 10), none, .build [(.int .i64 0), (.int .i64 0), (.int .i64 0), (.int .i64 0), (.int .i64 0), (.int .i64 0), (.int .i64 0), (.int .i64 0), (.int .i64 0), (.int .i64 0), (.int .i64 0), (.int .i64 0)] [(3, 3, (.s 7)), (6, 3, (.s 8)), (9, 3, (.s 9))]⟩, ⟨4, (some 5), none, .box 0 12 (.k (.a [(.int .i64 0), (.int .i64 0), (.int .i64 0), (.int .i64 0), (.int .i64 0), (.int .i64 0), (.int .i64 0), (.int .i64 0), (.int .i64 0), (.int .i64 0), (.int .i64 0), (.int .i64 0)]))⟩, ⟨5, none, none, .store 12 (.s 5) (.s 10)⟩] [] (some [5, 0]))
  (.seq (.seq (.region 0 [⟨0, (some 11), none, .mv (.s 0)⟩, ⟨1, (some 12), none, .bin .lss (.s 11) (.k (.c (.int .i64 0)))⟩, ⟨2, (some 13), none, .mv (.s 12)⟩, ⟨3, (some 14), (some (13, false)), .mv (.s 0)⟩, ⟨4, (some 15), (some (13, false)), .bin .geq (.s 14) (.k (.c (.int .i64 4)))⟩, ⟨5, (some 16), none, .pick (.s 13) (.k (.c (.bool true))) (.s 15)⟩] [] (some [16, 5, 0]))
  (.cond (.s 16) (.seq (.region 0 [⟨0, (some 2), none, .mv (.k (.c (.int .i64 0)))⟩, ⟨1, (some 3), none, .mv (.k (.c (.int .i64 0)))⟩, ⟨2, (some 4), none, .mv (.k (.c (.int .i64 0)))⟩] [] (some [2, 3, 4]))
  .ret)
  .skip))
  (.seq (.region 1 [⟨0, (some 17), none, .mv (.s 0)⟩, ⟨1, (some 18), none, .aaddr 4 3 (.s 5) (.s 17)⟩, ⟨2, (some 19), none, .load true 3 (.s 18)⟩, ⟨3, (some 6), none, .box 0 3 (.k (.a [(.int .i64 0), (.int .i64 0), (.int .i64 0)]))⟩, ⟨4, none, none, .store 3 (.s 6) (.s 19)⟩] [] (some [6]))
  (.seq (.region 0 [⟨0, (some 20), none, .aaddr 3 1 (.s 6) (.k (.c (.int .i64 0)))⟩, ⟨2, (some 22), none, .aaddr 3 1 (.s 6) (.k (.c (.int .i64 1)))⟩, ⟨4, (some 24), none, .aaddr 3 1 (.s 6) (.k (.c (.int .i64 2)))⟩, ⟨1, (some 21), none, .load false 1 (.s 20)⟩, ⟨6, (some 2), none, .mv (.s 21)⟩, ⟨3, (some 23), none, .load false 1 (.s 22)⟩, ⟨7, (some 3), none, .mv (.s 23)⟩, ⟨5, (some 25), none, .load false 1 (.s 24)⟩, ⟨8, (some 4), none, .mv (.s 25)⟩] [] (some [2, 3, 4]))
  .ret))))) }
/-- kerbstone/roads.Length -/
abbrev f_roads_Length : Nat := 56
def c_roads_Length : CFn := { frz := true, rnd := none, nargs := 2, ntmps := 12, res := [(.slot 4)], code :=
  (.seq (.region 1 [⟨0, (some 2), none, .box 0 5 (.s 0)⟩, ⟨1, (some 4), none, .mv (.k (.c (.int .i64 0)))⟩] [] (some [1, 2]))
  (.seq (.seq (.region 0 [⟨0, (some 5), none, .load true 5 (.s 2)⟩, ⟨1, (some 6), none, .mv (.s 1)⟩, ⟨2, (some 7), none, .call ⟨true⟩ (.k (.c (.fn 121 [] []))) [(.s 5), (.s 6)]⟩, ⟨3, (some 8), none, .un .not (.s 7)⟩] [] (some [8, 1, 2]))
  (.cond (.s 8) (.seq (.region 0 [⟨0, (some 4), none, .mv (.k (.c (.int .i64 0)))⟩] [] (some [4]))
  .ret)
  .skip))
  (.seq (.region 0 [⟨0, (some 9), none, .load true 5 (.s 2)⟩, ⟨1, (some 10), none, .mv (.s 1)⟩, ⟨2, (some 11), none, .call ⟨true⟩ (.k (.c (.fn 122 [] []))) [(.s 9), (.s 10)]⟩, ⟨3, (some 4), none, .mv (.s 11)⟩] [] (some [4]))
  .ret))) }
/-- kerbstone/kerbstoneref03.Bounds -/
abbrev f_kerbstoneref03_Bounds : Nat := 57
def c_kerbstoneref03_Bounds : CFn := { frz := true, rnd := none, nargs := 1, ntmps := 12, res := [(.slot 2), (.slot 3), (.slot 4)], code :=
  (.seq (.region 0 [⟨0, (some 2), none, .mv (.k (.c (.int .i64 0)))⟩, ⟨1, (some 3), none, .mv (.k (.c (.int .i64 0)))⟩, ⟨2, (some 4), none, .mv (.k (.c (.int .i64 0)))⟩] [] (some [0]))
  (.seq (.seq (.region 0 [⟨0, (some 5), none, .mv (.s 0)⟩] [] (some [5]))
  (.block 0 (.seq (.region 0 [⟨0, (some 7), none, .bin .eql (.s 5) (.k (.c (.int .i64 1)))⟩, ⟨1, (some 6), none, .mv (.s 7)⟩] [] (some [6, 5]))
  (.cond (.s 6) (.seq (.region 0 [⟨0, (some 2), none, .mv (.k (.c (.int .i64 2000)))⟩, ⟨1, (some 3), none, .mv (.k (.c (.int .i64 30)))⟩, ⟨2, (some 4), none, .mv (.k (.c (.int .i64 90)))⟩] [] (some [2, 3, 4]))
  .ret)
  (.seq (.region 0 [⟨0, (some 9), none, .bin .eql (.s 5) (.k (.c (.int .i64 2)))⟩, ⟨1, (some 8), none, .mv (.s 9)⟩] [] (some [8, 5]))
  (.cond (.s 8) (.seq (.region 0 [⟨0, (some 2), none, .mv (.k (.c (.int .i64 1000)))⟩, ⟨1, (some 3), none, .mv (.k (.c (.int .i64 20)))⟩, ⟨2, (some 4), none, .mv (.k (.c (.int .i64 60)))⟩] [] (some [2, 3, 4]))
  .ret)
  (.seq (.region 0 [⟨0, (some 11), none, .bin .eql (.s 5) (.k (.c (.int .i64 3)))⟩, ⟨1, (some 10), none, .mv (.s 11)⟩] [] (some [10]))
  (.cond (.s 10) (.seq (.region 0 [⟨0, (some 2), none, .mv (.k (.c (.int .i64 300)))⟩, ⟨1, (some 3), none, .mv (.k (.c (.int .i64 100)))⟩, ⟨2, (some 4), none, .mv (.k (.c (.int .i64 300)))⟩] [] (some [2, 3, 4]))
  .ret)
  .skip))))))))
  (.seq (.region 0 [⟨0, (some 2), none, .mv (.k (.c (.int .i64 0)))⟩, ⟨1, (some 3), none, .mv (.k (.c (.int .i64 0)))⟩, ⟨2, (some 4), none, .mv (.k (.c (.int .i64 0)))⟩] [] (some [2, 3, 4]))
  .ret))) }
def c_track_whole_l1 : CC := (.seq (.region 0 [⟨0, (some 14), none, .bin .lss (.s 13) (.s 12)⟩] [] (some [14, 5, 13, 12, 11, 2]))
  (.seq (.cond (.s 14) .skip
  (.exit 0))
  (.seq (.block 1 (.seq (.region 1 [⟨0, (some 15), none, .iaddr 3 (.s 11) (.s 13)⟩, ⟨1, (some 16), none, .load true 3 (.s 15)⟩, ⟨2, (some 7), none, .box 0 3 (.k (.a [(.int .i64 0), (.int .i64 0), (.int .i64 0)]))⟩, ⟨3, none, none, .store 3 (.s 7) (.s 16)⟩] [] (some [5, 7, 13, 12, 11, 2]))
  (.seq (.region 0 [⟨0, (some 17), none, .load true 5 (.s 2)⟩, ⟨1, (some 18), none, .load true 3 (.s 7)⟩, ⟨2, (some 19), none, .call ⟨true⟩ (.k (.c (.fn 59 [] []))) [(.s 17), (.s 18)]⟩] [] (some [19, 5, 7, 13, 12, 11, 2]))
  (.cond (.s 19) (.region 1 [⟨0, (some 20), none, .mv (.s 5)⟩, ⟨1, (some 21), none, .faddr 0 (.s 7)⟩, ⟨2, (some 22), none, .load false 1 (.s 21)⟩, ⟨3, (some 23), none, .faddr 1 (.s 7)⟩, ⟨4, (some 24), none, .load false 1 (.s 23)⟩, ⟨5, (some 25), none, .faddr 2 (.s 7)⟩, ⟨6, (some 26), none, .load false 1 (.s 25)⟩, ⟨7, (some 27), none, .build [(.int .i64 0), (.int .i64 0), (.int .i64 0), (.int .i64 0), (.int .i64 0), (.int .i64 0)] [(0, 1, (.s 22)), (1, 1, (.s 24)), (2, 1, (.s 26))]⟩, ⟨8, (some 28), none, .lit 0 6 [[(.int .i64 0), (.int .i64 0), (.int .i64 0), (.int .i64 0), (.int .i64 0), (.int .i64 0)]] [(0, (.s 27))]⟩, ⟨9, (some 29), none, .append 6 48 (.s 20) (.s 28)⟩, ⟨10, (some 5), none, .mv (.s 29)⟩] [] (some [13, 5, 12, 11, 2]))
  .skip))))
  (.region 0 [⟨0, (some 30), none, .bin .add (.s 13) (.k (.c (.int .i64 1)))⟩, ⟨1, (some 13), none, .mv (.s 30)⟩] [] (some [5, 13, 12, 11, 2])))))
def c_track_whole_l2 : CC := (.seq (.region 0 [⟨0, (some 35), none, .bin .lss (.s 34) (.s 33)⟩] [] (some [35, 8, 34, 33, 32]))
  (.seq (.cond (.s 35) .skip
  (.exit 2))
  (.seq (.block 3 (.seq (.region 1 [⟨0, (some 36), none, .iaddr 6 (.s 32) (.s 34)⟩, ⟨1, (some 37), none, .load true 6 (.s 36)⟩, ⟨2, (some 10), none, .box 0 6 (.k (.a [(.int .i64 0), (.int .i64 0), (.int .i64 0), (.int .i64 0), (.int .i64 0), (.int .i64 0)]))⟩, ⟨3, none, none, .store 6 (.s 10) (.s 37)⟩] [] (some [8, 10, 34, 33, 32]))
  (.region 1 [⟨0, (some 38), none, .mv (.s 8)⟩, ⟨1, (some 39), none, .faddr 0 (.s 10)⟩, ⟨2, (some 40), none, .load false 1 (.s 39)⟩, ⟨3, (some 41), none, .faddr 1 (.s 10)⟩, ⟨4, (some 42), none, .load false 1 (.s 41)⟩, ⟨5, (some 43), none, .faddr 2 (.s 10)⟩, ⟨6, (some 44), none, .load false 1 (.s 43)⟩, ⟨7, (some 45), none, .build [(.int .i64 0), (.int .i64 0), (.int .i64 0)] [(0, 1, (.s 40)), (1, 1, (.s 42)), (2, 1, (.s 44))]⟩, ⟨8, (some 46), none, .lit 0 3 [[(.int .i64 0), (.int .i64 0), (.int .i64 0)]] [(0, (.s 45))]⟩, ⟨9, (some 47), none, .append 3 24 (.s 38) (.s 46)⟩, ⟨10, (some 8), none, .mv (.s 47)⟩] [] (some [34, 8, 33, 32]))))
  (.region 0 [⟨0, (some 48), none, .bin .add (.s 34) (.k (.c (.int .i64 1)))⟩, ⟨1, (some 34), none, .mv (.s 48)⟩] [] (some [8, 34, 33, 32])))))
/-- kerbstone/track.whole -/
abbrev f_track_whole : Nat := 58
def c_track_whole : CFn := { frz := true, rnd := none, nargs := 2, ntmps := 50, res := [(.slot 4)], code :=
  (.seq (.region 2 [⟨0, (some 2), none, .box 0 5 (.s 0)⟩, ⟨1, (some 4), none, .newsl 1 3⟩] [] (some [1, 2]))
  (.seq (.region 1 [⟨0, (some 5), none, .newsl 0 6⟩] [] (some [1, 5, 2]))
  (.seq (.seq (.region 0 [⟨0, (some 11), none, .mv (.s 1)⟩, ⟨1, (some 12), none, .len (.s 11)⟩, ⟨2, (some 13), none, .mv (.k (.c (.int .i64 0)))⟩] [] (some [5, 13, 12, 11, 2]))
  (.block 0 (.loop (some [5, 13, 12, 11, 2]) c_track_whole_l1)))
  (.seq (.region 1 [⟨0, (some 8), none, .newsl 0 3⟩] [] (some [5, 8]))
  (.seq (.seq (.region 0 [⟨0, (some 31), none, .mv (.s 5)⟩, ⟨1, (some 32), none, .call ⟨true⟩ (.k (.c (.fn 42 [] []))) [(.s 31)]⟩, ⟨2, (some 33), none, .len (.s 32)⟩, ⟨3, (some 34), none, .mv (.k (.c (.int .i64 0)))⟩] [] (some [8, 34, 33, 32]))
  (.block 2 (.loop (some [8, 34, 33, 32]) c_track_whole_l2)))
  (.seq (.region 0 [⟨0, (some 49), none, .mv (.s 8)⟩, ⟨1, (some 4), none, .mv (.s 49)⟩] [] (some [4]))
  .ret)))))) }
/-- kerbstone/track.on -/
abbrev f_track_on : Nat := 59
def c_track_on : CFn := { frz := true, rnd := none, nargs := 2, ntmps := 37, res := [(.slot 4)], code :=
  (.seq (.region 2 [⟨0, (some 2), none, .box 0 5 (.s 0)⟩, ⟨1, (some 3), none, .box 1 3 (.s 1)⟩, ⟨2, (some 4), none, .mv (.k (.c (.bool false)))⟩] [] (some [3, 2]))
  (.seq (.region 0 [⟨0, (some 5), none, .faddr 0 (.s 3)⟩, ⟨1, (some 6), none, .load false 1 (.s 5)⟩, ⟨2, (some 7), none, .bin .geq (.s 6) (.k (.c (.int .i64 0)))⟩, ⟨3, (some 8), none, .mv (.s 7)⟩, ⟨4, (some 9), (some (8, true)), .faddr 0 (.s 3)⟩, ⟨6, (some 11), (some (8, true)), .faddr 1 (.s 2)⟩, ⟨5, (some 10), (some (8, true)), .load false 1 (.s 9)⟩, ⟨7, (some 12), (some (8, true)), .load false 1 (.s 11)⟩, ⟨8, (some 13), (some (8, true)), .len (.s 12)⟩, ⟨9, (some 14), (some (8, true)), .bin .lss (.s 10) (.s 13)⟩, ⟨10, (some 15), none, .pick (.s 8) (.s 14) (.k (.c (.bool false)))⟩, ⟨11, (some 16), none, .mv (.s 15)⟩, ⟨12, (some 17), (some (16, true)), .faddr 1 (.s 3)⟩, ⟨13, (some 18), (some (16, true)), .load false 1 (.s 17)⟩, ⟨14, (some 19), (some (16, true)), .bin .leq (.k (.c (.int .i64 0))) (.s 18)⟩, ⟨15, (some 20), none, .pick (.s 16) (.s 19) (.k (.c (.bool false)))⟩, ⟨16, (some 21), none, .mv (.s 20)⟩, ⟨17, (some 22), (some (21, true)), .faddr 1 (.s 3)⟩, ⟨19, (some 24), (some (21, true)), .faddr 2 (.s 3)⟩, ⟨18, (some 23), (some (21, true)), .load false 1 (.s 22)⟩, ⟨20, (some 25), (some (21, true)), .load false 1 (.s 24)⟩, ⟨21, (some 26), (some (21, true)), .bin .leq (.s 23) (.s 25)⟩, ⟨22, (some 27), none, .pick (.s 21) (.s 26) (.k (.c (.bool false)))⟩, ⟨23, (some 28), none, .mv (.s 27)⟩, ⟨24, (some 29), (some (28, true)), .faddr 2 (.s 3)⟩, ⟨27, (some 32), (some (28, true)), .faddr 0 (.s 3)⟩, ⟨25, (some 30), (some (28, true)), .load false 1 (.s 29)⟩, ⟨26, (some 31), (some (28, true)), .load true 5 (.s 2)⟩, ⟨28, (some 33), (some (28, true)), .load false 1 (.s 32)⟩, ⟨29, (some 34), (some (28, true)), .call ⟨true⟩ (.k (.c (.fn 56 [] []))) [(.s 31), (.s 33)]⟩, ⟨30, (some 35), (some (28, true)), .bin .leq (.s 30) (.s 34)⟩, ⟨31, (some 36), none, .pick (.s 28) (.s 35) (.k (.c (.bool false)))⟩, ⟨32, (some 4), none, .mv (.s 36)⟩] [(26, 29)] (some [4]))
  .ret)) }
def c_motion_Cut_Span_l1 : CC := (.seq (.region 0 [⟨0, (some 22), none, .bin .lss (.s 21) (.s 20)⟩] [] (some [22, 5, 21, 20, 19, 3]))
  (.seq (.cond (.s 22) .skip
  (.exit 0))
  (.seq (.block 1 (.seq (.region 1 [⟨0, (some 23), none, .iaddr 3 (.s 19) (.s 21)⟩, ⟨1, (some 24), none, .load true 3 (.s 23)⟩, ⟨2, (some 7), none, .box 0 3 (.k (.a [(.int .i64 0), (.int .i64 0), (.int .i64 0)]))⟩, ⟨3, none, none, .store 3 (.s 7) (.s 24)⟩] [] (some [5, 7, 21, 20, 19, 3]))
  (.seq (.region 2 [⟨0, (some 25), none, .load true 3 (.s 7)⟩, ⟨1, (some 26), none, .load true 3 (.s 7)⟩, ⟨2, (some 8), none, .box 0 3 (.k (.a [(.int .i64 0), (.int .i64 0), (.int .i64 0)]))⟩, ⟨3, (some 9), none, .box 1 3 (.k (.a [(.int .i64 0), (.int .i64 0), (.int .i64 0)]))⟩, ⟨4, none, none, .store 3 (.s 8) (.s 25)⟩, ⟨5, none, none, .store 3 (.s 9) (.s 26)⟩] [] (some [9, 8, 5, 7, 21, 20, 19, 3]))
  (.seq (.region 0 [⟨0, (some 28), none, .call ⟨true⟩ (.k (.c (.fn 123 [] []))) [(.s 7)]⟩, ⟨1, (some 27), none, .mv (.s 28)⟩, ⟨2, (some 29), none, .extract 27 0⟩, ⟨3, (some 30), none, .extract 27 1⟩, ⟨4, (some 31), none, .extract 27 2⟩, ⟨5, (some 10), none, .mv (.s 29)⟩, ⟨6, (some 11), none, .mv (.s 30)⟩, ⟨7, (some 12), none, .mv (.s 31)⟩] [] (some [10, 9, 12, 8, 11, 5, 7, 21, 20, 19, 3]))
  (.seq (.seq (.region 0 [⟨0, (some 32), none, .mv (.s 10)⟩, ⟨1, (some 33), none, .faddr 0 (.s 3)⟩, ⟨2, (some 34), none, .load false 1 (.s 33)⟩, ⟨3, (some 35), none, .bin .neq (.s 32) (.s 34)⟩, ⟨4, (some 36), none, .mv (.s 35)⟩, ⟨5, (some 37), (some (36, false)), .faddr 1 (.s 3)⟩, ⟨7, (some 39), (some (36, false)), .faddr 2 (.s 3)⟩, ⟨6, (some 38), (some (36, false)), .load false 1 (.s 37)⟩, ⟨8, (some 40), (some (36, false)), .load false 1 (.s 39)⟩, ⟨9, (some 41), (some (36, false)), .bin .gtr (.s 38) (.s 40)⟩, ⟨10, (some 42), none, .pick (.s 36) (.k (.c (.bool true))) (.s 41)⟩, ⟨11, (some 43), none, .mv (.s 42)⟩, ⟨12, (some 44), (some (43, false)), .faddr 1 (.s 3)⟩, ⟨14, (some 46), (some (43, false)), .mv (.s 12)⟩, ⟨15, (some 47), (some (43, false)), .nilck (.s 46)⟩, ⟨13, (some 45), (some (43, false)), .load false 1 (.s 44)⟩, ⟨16, (some 48), (some (43, false)), .load false 1 (.s 47)⟩, ⟨17, (some 49), (some (43, false)), .bin .gtr (.s 45) (.s 48)⟩, ⟨18, (some 50), none, .pick (.s 43) (.k (.c (.bool true))) (.s 49)⟩, ⟨19, (some 51), none, .mv (.s 50)⟩, ⟨20, (some 52), (some (51, false)), .faddr 2 (.s 3)⟩, ⟨22, (some 54), (some (51, false)), .mv (.s 11)⟩, ⟨23, (some 55), (some (51, false)), .nilck (.s 54)⟩, ⟨21, (some 53), (some (51, false)), .load false 1 (.s 52)⟩, ⟨24, (some 56), (some (51, false)), .load false 1 (.s 55)⟩, ⟨25, (some 57), (some (51, false)), .bin .lss (.s 53) (.s 56)⟩, ⟨26, (some 58), none, .pick (.s 51) (.k (.c (.bool true))) (.s 57)⟩] [] (some [58, 9, 12, 8, 11, 5, 7, 21, 20, 19, 3]))
  (.cond (.s 58) (.seq (.region 1 [⟨0, (some 59), none, .mv (.s 5)⟩, ⟨1, (some 60), none, .load true 3 (.s 7)⟩, ⟨2, (some 61), none, .lit 0 3 [[(.int .i64 0), (.int .i64 0), (.int .i64 0)]] [(0, (.s 60))]⟩, ⟨3, (some 62), none, .append 3 24 (.s 59) (.s 61)⟩, ⟨4, (some 5), none, .mv (.s 62)⟩] [] (some [21, 5, 20, 19, 3]))
  (.exit 1))
  .skip))
  (.seq (.seq (.region 0 [⟨0, (some 63), none, .faddr 1 (.s 3)⟩, ⟨2, (some 65), none, .mv (.s 11)⟩, ⟨3, (some 66), none, .nilck (.s 65)⟩, ⟨1, (some 64), none, .load false 1 (.s 63)⟩, ⟨4, (some 67), none, .load false 1 (.s 66)⟩, ⟨5, (some 68), none, .bin .gtr (.s 64) (.s 67)⟩] [] (some [68, 5, 8, 12, 9, 21, 20, 19, 3]))
  (.cond (.s 68) (.seq (.region 0 [⟨0, (some 70), none, .call ⟨true⟩ (.k (.c (.fn 123 [] []))) [(.s 8)]⟩, ⟨1, (some 69), none, .mv (.s 70)⟩, ⟨2, (some 71), none, .extract 69 0⟩, ⟨3, (some 72), none, .extract 69 1⟩, ⟨4, (some 73), none, .extract 69 2⟩, ⟨5, (some 13), none, .mv (.s 71)⟩, ⟨6, (some 14), none, .mv (.s 72)⟩, ⟨7, (some 15), none, .mv (.s 73)⟩] [] (some [15, 5, 8, 12, 9, 21, 20, 19, 3]))
  (.seq (.region 0 [⟨0, (some 74), none, .mv (.s 15)⟩, ⟨1, (some 75), none, .faddr 1 (.s 3)⟩, ⟨2, (some 76), none, .load false 1 (.s 75)⟩, ⟨3, (some 77), none, .bin .sub (.s 76) (.k (.c (.int .i64 1)))⟩, ⟨4, (some 78), none, .nilck (.s 74)⟩, ⟨5, none, none, .store 1 (.s 78) (.s 77)⟩] [] (some [5, 8, 12, 9, 21, 20, 19, 3]))
  (.region 1 [⟨0, (some 79), none, .mv (.s 5)⟩, ⟨1, (some 80), none, .load true 3 (.s 8)⟩, ⟨2, (some 81), none, .lit 0 3 [[(.int .i64 0), (.int .i64 0), (.int .i64 0)]] [(0, (.s 80))]⟩, ⟨3, (some 82), none, .append 3 24 (.s 79) (.s 81)⟩, ⟨4, (some 5), none, .mv (.s 82)⟩] [] (some [12, 5, 9, 21, 20, 19, 3]))))
  .skip))
  (.seq (.region 0 [⟨0, (some 83), none, .faddr 2 (.s 3)⟩, ⟨2, (some 85), none, .mv (.s 12)⟩, ⟨3, (some 86), none, .nilck (.s 85)⟩, ⟨1, (some 84), none, .load false 1 (.s 83)⟩, ⟨4, (some 87), none, .load false 1 (.s 86)⟩, ⟨5, (some 88), none, .bin .lss (.s 84) (.s 87)⟩] [] (some [88, 5, 9, 21, 20, 19, 3]))
  (.cond (.s 88) (.seq (.region 0 [⟨0, (some 90), none, .call ⟨true⟩ (.k (.c (.fn 123 [] []))) [(.s 9)]⟩, ⟨1, (some 89), none, .mv (.s 90)⟩, ⟨2, (some 91), none, .extract 89 0⟩, ⟨3, (some 92), none, .extract 89 1⟩, ⟨4, (some 93), none, .extract 89 2⟩, ⟨5, (some 16), none, .mv (.s 91)⟩, ⟨6, (some 17), none, .mv (.s 92)⟩, ⟨7, (some 18), none, .mv (.s 93)⟩] [] (some [17, 5, 9, 21, 20, 19, 3]))
  (.seq (.region 0 [⟨0, (some 94), none, .mv (.s 17)⟩, ⟨1, (some 95), none, .faddr 2 (.s 3)⟩, ⟨2, (some 96), none, .load false 1 (.s 95)⟩, ⟨3, (some 97), none, .bin .add (.s 96) (.k (.c (.int .i64 1)))⟩, ⟨4, (some 98), none, .nilck (.s 94)⟩, ⟨5, none, none, .store 1 (.s 98) (.s 97)⟩] [] (some [5, 9, 21, 20, 19, 3]))
  (.region 1 [⟨0, (some 99), none, .mv (.s 5)⟩, ⟨1, (some 100), none, .load true 3 (.s 9)⟩, ⟨2, (some 101), none, .lit 0 3 [[(.int .i64 0), (.int .i64 0), (.int .i64 0)]] [(0, (.s 100))]⟩, ⟨3, (some 102), none, .append 3 24 (.s 99) (.s 101)⟩, ⟨4, (some 5), none, .mv (.s 102)⟩] [] (some [21, 5, 20, 19, 3]))))
  .skip))))))))
  (.region 0 [⟨0, (some 103), none, .bin .add (.s 21) (.k (.c (.int .i64 1)))⟩, ⟨1, (some 21), none, .mv (.s 103)⟩] [] (some [5, 21, 20, 19, 3])))))
/-- kerbstone/motion.Cut[kerbstone/api.Span] -/
abbrev f_motion_Cut_Span : Nat := 60
def c_motion_Cut_Span : CFn := { frz := true, rnd := none, nargs := 2, ntmps := 105, res := [(.slot 4)], code :=
  (.seq (.region 2 [⟨0, (some 3), none, .box 0 3 (.s 1)⟩, ⟨1, (some 4), none, .newsl 1 3⟩] [] (some [0, 3]))
  (.seq (.region 1 [⟨0, (some 5), none, .newsl 0 3⟩] [] (some [0, 5, 3]))
  (.seq (.seq (.region 0 [⟨0, (some 19), none, .mv (.s 0)⟩, ⟨1, (some 20), none, .len (.s 19)⟩, ⟨2, (some 21), none, .mv (.k (.c (.int .i64 0)))⟩] [] (some [5, 21, 20, 19, 3]))
  (.block 0 (.loop (some [5, 21, 20, 19, 3]) c_motion_Cut_Span_l1)))
  (.seq (.region 0 [⟨0, (some 104), none, .mv (.s 5)⟩, ⟨1, (some 4), none, .mv (.s 104)⟩] [] (some [4]))
  .ret)))) }
/-- kerbstone/kerbstoneref03.lane -/
abbrev f_kerbstoneref03_lane : Nat := 61
def c_kerbstoneref03_lane : CFn := { frz := true, rnd := none, nargs := 2, ntmps := 19, res := [(.slot 4)], code :=
  (.seq (.region 1 [⟨0, (some 2), none, .box 0 5 (.s 0)⟩, ⟨1, (some 4), none, .mv (.k (.c (.bool false)))⟩] [] (some [1, 2]))
  (.seq (.region 0 [⟨0, (some 5), none, .mv (.s 1)⟩, ⟨1, (some 6), none, .bin .geq (.s 5) (.k (.c (.int .i64 0)))⟩, ⟨2, (some 7), none, .mv (.s 6)⟩, ⟨3, (some 8), (some (7, true)), .mv (.s 1)⟩, ⟨4, (some 9), (some (7, true)), .faddr 1 (.s 2)⟩, ⟨5, (some 10), (some (7, true)), .load false 1 (.s 9)⟩, ⟨6, (some 11), (some (7, true)), .len (.s 10)⟩, ⟨7, (some 12), (some (7, true)), .bin .lss (.s 8) (.s 11)⟩, ⟨8, (some 13), none, .pick (.s 7) (.s 12) (.k (.c (.bool false)))⟩, ⟨9, (some 14), none, .mv (.s 13)⟩, ⟨10, (some 15), (some (14, true)), .load true 5 (.s 2)⟩, ⟨11, (some 16), (some (14, true)), .call ⟨true⟩ (.k (.c (.fn 86 [] []))) [(.s 15)]⟩, ⟨12, (some 17), (some (14, true)), .bin .eql (.s 16) (.k (.c (.int .i64 0)))⟩, ⟨13, (some 18), none, .pick (.s 14) (.s 17) (.k (.c (.bool false)))⟩, ⟨14, (some 4), none, .mv (.s 18)⟩] [] (some [4]))
  .ret)) }
/-- kerbstone/kerbstoneref03.length -/
abbrev f_kerbstoneref03_length : Nat := 62
def c_kerbstoneref03_length : CFn := { frz := true, rnd := none, nargs := 2, ntmps := 12, res := [(.slot 4)], code :=
  (.seq (.region 1 [⟨0, (some 2), none, .box 0 5 (.s 0)⟩, ⟨1, (some 4), none, .mv (.k (.c (.int .i64 0)))⟩] [] (some [2, 1]))
  (.seq (.region 0 [⟨0, (some 5), none, .faddr 1 (.s 2)⟩, ⟨1, (some 6), none, .load false 1 (.s 5)⟩, ⟨2, (some 7), none, .mv (.s 1)⟩, ⟨3, (some 8), none, .iaddr 5 (.s 6) (.s 7)⟩, ⟨4, (some 9), none, .faddr 1 (.s 8)⟩, ⟨5, (some 10), none, .load true 1 (.s 9)⟩, ⟨6, (some 11), none, .call ⟨true⟩ (.k (.c (.fn 124 [] []))) [(.s 10)]⟩, ⟨7, (some 4), none, .mv (.s 11)⟩] [] (some [4]))
  .ret)) }
def c_track_Check_l1 : CC := (.seq (.region 0 [⟨0, (some 64), none, .bin .lss (.s 63) (.s 62)⟩] [] (some [64, 2, 7, 61, 62, 63]))
  (.seq (.cond (.s 64) .skip
  (.exit 0))
  (.seq (.block 1 (.seq (.region 1 [⟨0, (some 65), none, .iaddr 6 (.s 61) (.s 63)⟩, ⟨1, (some 66), none, .load true 6 (.s 65)⟩, ⟨2, (some 9), none, .box 0 6 (.k (.a [(.int .i64 0), (.int .i64 0), (.int .i64 0), (.int .i64 0), (.int .i64 0), (.int .i64 0)]))⟩, ⟨3, none, none, .store 6 (.s 9) (.s 66)⟩] [] (some [2, 7, 61, 62, 63, 9]))
  (.seq (.seq (.region 0 [⟨0, (some 67), none, .faddr 0 (.s 9)⟩, ⟨1, (some 68), none, .load false 1 (.s 67)⟩, ⟨2, (some 69), none, .bin .lss (.s 68) (.k (.c (.int .i64 0)))⟩, ⟨3, (some 70), none, .mv (.s 69)⟩, ⟨4, (some 71), (some (70, false)), .faddr 0 (.s 9)⟩, ⟨5, (some 72), (some (70, false)), .load false 1 (.s 71)⟩, ⟨6, (some 73), (some (70, false)), .faddr 1 (.s 2)⟩, ⟨7, (some 74), (some (70, false)), .load false 1 (.s 73)⟩, ⟨8, (some 75), (some (70, false)), .len (.s 74)⟩, ⟨9, (some 76), (some (70, false)), .bin .geq (.s 72) (.s 75)⟩, ⟨10, (some 77), none, .pick (.s 70) (.k (.c (.bool true))) (.s 76)⟩] [] (some [77, 2, 7, 61, 62, 63, 9]))
  (.cond (.s 77) (.seq (.region 0 [⟨0, (some 4), none, .mv (.k (.c (.int .i64 7)))⟩] [] (some [4]))
  .ret)
  .skip))
  (.seq (.region 0 [⟨0, (some 78), none, .load true 5 (.s 2)⟩, ⟨1, (some 79), none, .faddr 0 (.s 9)⟩, ⟨2, (some 80), none, .load false 1 (.s 79)⟩, ⟨3, (some 81), none, .call ⟨true⟩ (.k (.c (.fn 56 [] []))) [(.s 78), (.s 80)]⟩, ⟨4, (some 10), none, .mv (.s 81)⟩] [] (some [10, 9, 63, 62, 61, 7, 2]))
  (.seq (.region 0 [⟨0, (some 83), none, .faddr 1 (.s 2)⟩, ⟨1, (some 84), none, .load false 1 (.s 83)⟩, ⟨2, (some 85), none, .faddr 0 (.s 9)⟩, ⟨3, (some 86), none, .load false 1 (.s 85)⟩, ⟨4, (some 87), none, .iaddr 5 (.s 84) (.s 86)⟩, ⟨5, (some 88), none, .faddr 0 (.s 87)⟩, ⟨6, (some 89), none, .load false 1 (.s 88)⟩, ⟨7, (some 90), none, .call ⟨true⟩ (.k (.c (.fn 55 [] []))) [(.s 89)]⟩, ⟨8, (some 82), none, .mv (.s 90)⟩, ⟨9, (some 91), none, .extract 82 0⟩, ⟨10, (some 92), none, .extract 82 1⟩, ⟨11, (some 93), none, .extract 82 2⟩, ⟨12, (some 11), none, .mv (.s 91)⟩, ⟨13, (some 12), none, .mv (.s 92)⟩, ⟨14, (some 13), none, .mv (.s 93)⟩] [] (some [11, 10, 9, 63, 62, 61, 7, 2]))
  (.seq (.seq (.region 0 [⟨0, (some 94), none, .faddr 1 (.s 9)⟩, ⟨1, (some 95), none, .load false 1 (.s 94)⟩, ⟨2, (some 96), none, .bin .lss (.s 95) (.k (.c (.int .i64 0)))⟩, ⟨3, (some 97), none, .mv (.s 96)⟩, ⟨4, (some 98), (some (97, false)), .faddr 1 (.s 9)⟩, ⟨5, (some 99), (some (97, false)), .load false 1 (.s 98)⟩, ⟨6, (some 100), (some (97, false)), .faddr 2 (.s 9)⟩, ⟨7, (some 101), (some (97, false)), .load false 1 (.s 100)⟩, ⟨8, (some 102), (some (97, false)), .bin .gtr (.s 99) (.s 101)⟩, ⟨9, (some 103), none, .pick (.s 97) (.k (.c (.bool true))) (.s 102)⟩, ⟨10, (some 104), none, .mv (.s 103)⟩, ⟨11, (some 105), (some (104, false)), .faddr 2 (.s 9)⟩, ⟨12, (some 106), (some (104, false)), .load false 1 (.s 105)⟩, ⟨13, (some 107), (some (104, false)), .mv (.s 10)⟩, ⟨14, (some 108), (some (104, false)), .bin .gtr (.s 106) (.s 107)⟩, ⟨15, (some 109), none, .pick (.s 104) (.k (.c (.bool true))) (.s 108)⟩, ⟨16, (some 110), none, .mv (.s 109)⟩, ⟨17, (some 111), (some (110, false)), .faddr 3 (.s 9)⟩, ⟨18, (some 112), (some (110, false)), .load false 1 (.s 111)⟩, ⟨19, (some 113), (some (110, false)), .bin .lss (.s 112) (.k (.c (.int .i64 0)))⟩, ⟨20, (some 114), none, .pick (.s 110) (.k (.c (.bool true))) (.s 113)⟩, ⟨21, (some 115), none, .mv (.s 114)⟩, ⟨22, (some 116), (some (115, false)), .faddr 3 (.s 9)⟩, ⟨23, (some 117), (some (115, false)), .load false 1 (.s 116)⟩, ⟨24, (some 118), (some (115, false)), .faddr 4 (.s 9)⟩, ⟨25, (some 119), (some (115, false)), .load false 1 (.s 118)⟩, ⟨26, (some 120), (some (115, false)), .bin .gtr (.s 117) (.s 119)⟩, ⟨27, (some 121), none, .pick (.s 115) (.k (.c (.bool true))) (.s 120)⟩, ⟨28, (some 122), none, .mv (.s 121)⟩, ⟨29, (some 123), (some (122, false)), .faddr 4 (.s 9)⟩, ⟨30, (some 124), (some (122, false)), .load false 1 (.s 123)⟩, ⟨31, (some 125), (some (122, false)), .mv (.s 11)⟩, ⟨32, (some 126), (some (122, false)), .bin .gtr (.s 124) (.s 125)⟩, ⟨33, (some 127), none, .pick (.s 122) (.k (.c (.bool true))) (.s 126)⟩, ⟨34, (some 128), none, .mv (.s 127)⟩, ⟨35, (some 129), (some (128, false)), .faddr 5 (.s 9)⟩, ⟨36, (some 130), (some (128, false)), .load false 1 (.s 129)⟩, ⟨37, (some 131), (some (128, false)), .mv (.s 10)⟩, ⟨38, (some 132), (some (128, false)), .call ⟨true⟩ (.k (.c (.fn 67 [] []))) [(.s 130), (.k (.c (.int .i64 0))), (.s 131)]⟩, ⟨39, (some 133), (some (128, false)), .un .not (.s 132)⟩, ⟨40, (some 134), none, .pick (.s 128) (.k (.c (.bool true))) (.s 133)⟩] [] (some [134, 9, 63, 62, 61, 7, 2]))
  (.cond (.s 134) (.seq (.region 0 [⟨0, (some 4), none, .mv (.k (.c (.int .i64 2)))⟩] [] (some [4]))
  .ret)
  .skip))
  (.seq (.seq (.region 0 [⟨0, (some 135), none, .faddr 0 (.s 9)⟩, ⟨1, (some 136), none, .load false 1 (.s 135)⟩, ⟨2, (some 137), none, .faddr 0 (.s 7)⟩, ⟨3, (some 138), none, .load false 1 (.s 137)⟩, ⟨4, (some 139), none, .bin .lss (.s 136) (.s 138)⟩, ⟨5, (some 140), none, .mv (.s 139)⟩, ⟨6, (some 141), (some (140, false)), .faddr 0 (.s 9)⟩, ⟨7, (some 142), (some (140, false)), .load false 1 (.s 141)⟩, ⟨8, (some 143), (some (140, false)), .faddr 0 (.s 7)⟩, ⟨9, (some 144), (some (140, false)), .load false 1 (.s 143)⟩, ⟨10, (some 145), (some (140, false)), .bin .eql (.s 142) (.s 144)⟩, ⟨11, (some 146), (some (140, false)), .mv (.s 145)⟩, ⟨12, (some 147), (some (146, true)), .faddr 1 (.s 9)⟩, ⟨13, (some 148), (some (146, true)), .load false 1 (.s 147)⟩, ⟨14, (some 149), (some (146, true)), .faddr 2 (.s 7)⟩, ⟨15, (some 150), (some (146, true)), .load false 1 (.s 149)⟩, ⟨16, (some 151), (some (146, true)), .bin .add (.s 150) (.k (.c (.int .i64 1)))⟩, ⟨17, (some 152), (some (146, true)), .bin .leq (.s 148) (.s 151)⟩, ⟨18, (some 153), (some (140, false)), .pick (.s 146) (.s 152) (.k (.c (.bool false)))⟩, ⟨19, (some 154), none, .pick (.s 140) (.k (.c (.bool true))) (.s 153)⟩] [] (some [154, 2, 7, 61, 62, 63, 9]))
  (.cond (.s 154) (.seq (.region 0 [⟨0, (some 4), none, .mv (.k (.c (.int .i64 11)))⟩] [] (some [4]))
  .ret)
  .skip))
  (.region 0 [⟨0, (some 155), none, .load true 6 (.s 9)⟩, ⟨1, none, none, .store 6 (.s 7) (.s 155)⟩] [] (some [63, 62, 61, 7, 2])))))))))
  (.region 0 [⟨0, (some 156), none, .bin .add (.s 63) (.k (.c (.int .i64 1)))⟩, ⟨1, (some 63), none, .mv (.s 156)⟩] [] (some [62, 61, 7, 2, 63])))))
/-- kerbstone/track.Check -/
abbrev f_track_Check : Nat := 66
def c_track_Check : CFn := { frz := true, rnd := none, nargs := 2, ntmps := 157, res := [(.slot 4)], code :=
  (.seq (.region 2 [⟨0, (some 2), none, .box 0 5 (.s 0)⟩, ⟨1, (some 3), none, .box 1 6 (.s 1)⟩, ⟨2, (some 4), none, .mv (.k (.c (.int .i64 0)))⟩] [] (some [3, 2]))
  (.seq (.seq (.region 0 [⟨0, (some 14), none, .load true 5 (.s 2)⟩, ⟨1, (some 15), none, .call ⟨true⟩ (.k (.c (.fn 54 [] []))) [(.s 14)]⟩, ⟨2, (some 5), none, .mv (.s 15)⟩] [] (some [3, 2, 5]))
  (.seq (.region 0 [⟨0, (some 16), none, .mv (.s 5)⟩, ⟨1, (some 17), none, .bin .neq (.s 16) (.k (.c (.int .i64 0)))⟩] [] (some [17, 3, 2, 5]))
  (.cond (.s 17) (.seq (.region 0 [⟨0, (some 18), none, .mv (.s 5)⟩, ⟨1, (some 4), none, .mv (.s 18)⟩] [] (some [4]))
  .ret)
  .skip)))
  (.seq (.region 1 [⟨0, (some 19), none, .faddr 2 (.s 3)⟩, ⟨1, (some 20), none, .load true 4 (.s 19)⟩, ⟨2, (some 6), none, .box 0 4 (.k (.a [(.int .i64 0), (.int .i64 0), (.int .i64 0), (.int .i64 0)]))⟩, ⟨3, none, none, .store 4 (.s 6) (.s 20)⟩] [] (some [6, 2, 3]))
  (.seq (.seq (.region 0 [⟨0, (some 21), none, .faddr 0 (.s 3)⟩, ⟨1, (some 22), none, .load false 1 (.s 21)⟩, ⟨2, (some 23), none, .call ⟨true⟩ (.k (.c (.fn 67 [] []))) [(.s 22), (.k (.c (.int .i64 0))), (.k (.c (.int .i64 1099511627776)))]⟩, ⟨3, (some 24), none, .un .not (.s 23)⟩, ⟨4, (some 25), none, .mv (.s 24)⟩, ⟨5, (some 26), (some (25, false)), .faddr 0 (.s 6)⟩, ⟨6, (some 27), (some (25, false)), .load false 1 (.s 26)⟩, ⟨7, (some 28), (some (25, false)), .bin .lss (.s 27) (.k (.c (.int .i64 0)))⟩, ⟨8, (some 29), none, .pick (.s 25) (.k (.c (.bool true))) (.s 28)⟩, ⟨9, (some 30), none, .mv (.s 29)⟩, ⟨10, (some 31), (some (30, false)), .faddr 0 (.s 6)⟩, ⟨11, (some 32), (some (30, false)), .load false 1 (.s 31)⟩, ⟨12, (some 33), (some (30, false)), .faddr 1 (.s 6)⟩, ⟨13, (some 34), (some (30, false)), .load false 1 (.s 33)⟩, ⟨14, (some 35), (some (30, false)), .bin .gtr (.s 32) (.s 34)⟩, ⟨15, (some 36), none, .pick (.s 30) (.k (.c (.bool true))) (.s 35)⟩, ⟨16, (some 37), none, .mv (.s 36)⟩, ⟨17, (some 38), (some (37, false)), .faddr 1 (.s 6)⟩, ⟨18, (some 39), (some (37, false)), .load false 1 (.s 38)⟩, ⟨19, (some 40), (some (37, false)), .bin .gtr (.s 39) (.k (.c (.int .i64 1099511627776)))⟩, ⟨20, (some 41), none, .pick (.s 37) (.k (.c (.bool true))) (.s 40)⟩, ⟨21, (some 42), none, .mv (.s 41)⟩, ⟨22, (some 43), (some (42, false)), .faddr 2 (.s 6)⟩, ⟨23, (some 44), (some (42, false)), .load false 1 (.s 43)⟩, ⟨24, (some 45), (some (42, false)), .bin .lss (.s 44) (.k (.c (.int .i64 0)))⟩, ⟨25, (some 46), none, .pick (.s 42) (.k (.c (.bool true))) (.s 45)⟩, ⟨26, (some 47), none, .mv (.s 46)⟩, ⟨27, (some 48), (some (47, false)), .faddr 2 (.s 6)⟩, ⟨28, (some 49), (some (47, false)), .load false 1 (.s 48)⟩, ⟨29, (some 50), (some (47, false)), .faddr 3 (.s 6)⟩, ⟨30, (some 51), (some (47, false)), .load false 1 (.s 50)⟩, ⟨31, (some 52), (some (47, false)), .bin .gtr (.s 49) (.s 51)⟩, ⟨32, (some 53), none, .pick (.s 47) (.k (.c (.bool true))) (.s 52)⟩, ⟨33, (some 54), none, .mv (.s 53)⟩, ⟨34, (some 55), (some (54, false)), .faddr 3 (.s 6)⟩, ⟨35, (some 56), (some (54, false)), .load false 1 (.s 55)⟩, ⟨36, (some 57), (some (54, false)), .bin .gtr (.s 56) (.k (.c (.int .i64 2000)))⟩, ⟨37, (some 58), none, .pick (.s 54) (.k (.c (.bool true))) (.s 57)⟩] [] (some [58, 2, 3]))
  (.cond (.s 58) (.seq (.region 0 [⟨0, (some 4), none, .mv (.k (.c (.int .i64 2)))⟩] [] (some [4]))
  .ret)
  .skip))
  (.seq (.region 1 [⟨0, (some 59), none, .build [(.int .i64 0), (.int .i64 0), (.int .i64 0), (.int .i64 0), (.int .i64 0), (.int .i64 0)] [(0, 1, (.k (.c (.int .i64 (-1)))))]⟩, ⟨1, (some 7), none, .box 0 6 (.k (.a [(.int .i64 0), (.int .i64 0), (.int .i64 0), (.int .i64 0), (.int .i64 0), (.int .i64 0)]))⟩, ⟨2, none, none, .store 6 (.s 7) (.s 59)⟩] [] (some [3, 7, 2]))
  (.seq (.seq (.region 0 [⟨0, (some 60), none, .faddr 1 (.s 3)⟩, ⟨1, (some 61), none, .load false 1 (.s 60)⟩, ⟨2, (some 62), none, .len (.s 61)⟩, ⟨3, (some 63), none, .mv (.k (.c (.int .i64 0)))⟩] [] (some [62, 61, 7, 2, 63]))
  (.block 0 (.loop (some [62, 61, 7, 2, 63]) c_track_Check_l1)))
  (.seq (.region 0 [⟨0, (some 4), none, .mv (.k (.c (.int .i64 0)))⟩] [] (some [4]))
  .ret))))))) }
/-- kerbstone/track.within -/
abbrev f_track_within : Nat := 67
def c_track_within : CFn := { frz := true, rnd := none, nargs := 3, ntmps := 15, res := [(.slot 6)], code :=
  (.seq (.region 0 [⟨0, (some 6), none, .mv (.k (.c (.bool false)))⟩] [] (some [1, 0, 2]))
  (.seq (.region 0 [⟨0, (some 7), none, .mv (.s 1)⟩, ⟨1, (some 8), none, .mv (.s 0)⟩, ⟨2, (some 9), none, .bin .leq (.s 7) (.s 8)⟩, ⟨3, (some 10), none, .mv (.s 9)⟩, ⟨4, (some 11), (some (10, true)), .mv (.s 0)⟩, ⟨5, (some 12), (some (10, true)), .mv (.s 2)⟩, ⟨6, (some 13), (some (10, true)), .bin .leq (.s 11) (.s 12)⟩, ⟨7, (some 14), none, .pick (.s 10) (.s 13) (.k (.c (.bool false)))⟩, ⟨8, (some 6), none, .mv (.s 14)⟩] [] (some [6]))
  .ret)) }
/-- slices.Clone[[]kerbstone/api.Blob,kerbstone/api.Blob] -/
abbrev f_slices_Clone_Blob : Nat := 79
/-- cmp.Compare[int64] -/
abbrev f_cmp_Compare_int64 : Nat := 84
def c_cmp_Compare_int64 : CFn := { frz := true, rnd := none, nargs := 2, ntmps := 20, res := [(.slot 4)], code :=
  (.seq (.region 0 [⟨0, (some 4), none, .mv (.k (.c (.int .i64 0)))⟩] [] (some [1, 0]))
  (.seq (.region 0 [⟨0, (some 7), none, .mv (.s 0)⟩, ⟨1, (some 8), none, .call ⟨true⟩ (.k (.c (.fn 147 [] []))) [(.s 7)]⟩, ⟨2, (some 5), none, .mv (.s 8)⟩] [] (some [5, 1, 0]))
  (.seq (.region 0 [⟨0, (some 9), none, .mv (.s 1)⟩, ⟨1, (some 10), none, .call ⟨true⟩ (.k (.c (.fn 147 [] []))) [(.s 9)]⟩, ⟨2, (some 6), none, .mv (.s 10)⟩] [] (some [5, 1, 0, 6]))
  (.seq (.seq (.region 0 [⟨0, (some 11), none, .mv (.s 5)⟩] [] (some [11, 1, 0, 6]))
  (.cond (.s 11) (.seq (.seq (.region 0 [⟨0, (some 12), none, .mv (.s 6)⟩] [] (some [12]))
  (.cond (.s 12) (.seq (.region 0 [⟨0, (some 4), none, .mv (.k (.c (.int .i64 0)))⟩] [] (some [4]))
  .ret)
  .skip))
  (.seq (.region 0 [⟨0, (some 4), none, .mv (.k (.c (.int .i64 (-1))))⟩] [] (some [4]))
  .ret))
  .skip))
  (.seq (.seq (.region 0 [⟨0, (some 13), none, .mv (.s 6)⟩] [] (some [13, 0, 1]))
  (.cond (.s 13) (.seq (.region 0 [⟨0, (some 4), none, .mv (.k (.c (.int .i64 1)))⟩] [] (some [4]))
  .ret)
  .skip))
  (.seq (.seq (.region 0 [⟨0, (some 14), none, .mv (.s 0)⟩, ⟨1, (some 15), none, .mv (.s 1)⟩, ⟨2, (some 16), none, .bin .lss (.s 14) (.s 15)⟩] [] (some [16, 1, 0]))
  (.cond (.s 16) (.seq (.region 0 [⟨0, (some 4), none, .mv (.k (.c (.int .i64 (-1))))⟩] [] (some [4]))
  .ret)
  .skip))
  (.seq (.seq (.region 0 [⟨0, (some 17), none, .mv (.s 0)⟩, ⟨1, (some 18), none, .mv (.s 1)⟩, ⟨2, (some 19), none, .bin .gtr (.s 17) (.s 18)⟩] [] (some [19]))
  (.cond (.s 19) (.seq (.region 0 [⟨0, (some 4), none, .mv (.k (.c (.int .i64 1)))⟩] [] (some [4]))
  .ret)
  .skip))
  (.seq (.region 0 [⟨0, (some 4), none, .mv (.k (.c (.int .i64 0)))⟩] [] (some [4]))
  .ret)))))))) }
def c_kerbstoneref03_Check_l1 : CC := (.seq (.seq (.region 0 [⟨0, (some 39), none, .mv (.s 3)⟩, ⟨1, (some 40), none, .faddr 1 (.s 1)⟩, ⟨2, (some 41), none, .load false 1 (.s 40)⟩, ⟨3, (some 42), none, .len (.s 41)⟩, ⟨4, (some 43), none, .bin .lss (.s 39) (.s 42)⟩] [] (some [43, 1, 3]))
  (.cond (.s 43) .skip
  (.exit 0)))
  (.seq (.block 1 (.seq (.region 0 [⟨0, (some 46), none, .load true 5 (.s 1)⟩, ⟨1, (some 47), none, .mv (.s 3)⟩, ⟨2, (some 48), none, .call ⟨true⟩ (.k (.c (.fn 149 [] []))) [(.s 46), (.s 47)]⟩, ⟨3, (some 4), none, .mv (.s 48)⟩] [] (some [1, 3, 4]))
  (.seq (.region 0 [⟨0, (some 49), none, .mv (.s 4)⟩, ⟨1, (some 50), none, .bin .neq (.s 49) (.k (.c (.int .i64 0)))⟩] [] (some [50, 1, 3, 4]))
  (.cond (.s 50) (.seq (.region 0 [⟨0, (some 51), none, .mv (.s 4)⟩, ⟨1, (some 2), none, .mv (.s 51)⟩] [] (some [2]))
  .ret)
  .skip))))
  (.region 0 [⟨0, (some 44), none, .mv (.s 3)⟩, ⟨1, (some 45), none, .bin .add (.s 44) (.k (.c (.int .i64 1)))⟩, ⟨2, (some 3), none, .mv (.s 45)⟩] [] (some [1, 3]))))
def c_kerbstoneref03_Check_l2 : CC := (.seq (.seq (.region 0 [⟨0, (some 54), none, .mv (.s 6)⟩, ⟨1, (some 55), none, .faddr 3 (.s 1)⟩, ⟨2, (some 56), none, .load false 1 (.s 55)⟩, ⟨3, (some 57), none, .len (.s 56)⟩, ⟨4, (some 58), none, .bin .lss (.s 54) (.s 57)⟩, ⟨5, (some 59), none, .mv (.s 58)⟩, ⟨6, (some 60), (some (59, true)), .mv (.s 5)⟩, ⟨7, (some 61), (some (59, true)), .bin .eql (.s 60) (.k (.c (.int .i64 0)))⟩, ⟨8, (some 62), none, .pick (.s 59) (.s 61) (.k (.c (.bool false)))⟩] [] (some [62, 5, 6, 1]))
  (.cond (.s 62) .skip
  (.exit 2)))
  (.seq (.block 3 (.region 0 [⟨1, (some 66), none, .faddr 3 (.s 1)⟩, ⟨3, (some 68), none, .mv (.s 6)⟩, ⟨0, (some 65), none, .load true 5 (.s 1)⟩, ⟨2, (some 67), none, .load false 1 (.s 66)⟩, ⟨4, (some 69), none, .iaddr 2 (.s 67) (.s 68)⟩, ⟨5, (some 70), none, .load true 2 (.s 69)⟩, ⟨6, (some 71), none, .call ⟨true⟩ (.k (.c (.fn 151 [] []))) [(.s 65), (.s 70)]⟩, ⟨7, (some 5), none, .mv (.s 71)⟩] [] (some [6, 5, 1])))
  (.region 0 [⟨0, (some 63), none, .mv (.s 6)⟩, ⟨1, (some 64), none, .bin .add (.s 63) (.k (.c (.int .i64 1)))⟩, ⟨2, (some 6), none, .mv (.s 64)⟩] [] (some [5, 6, 1]))))
def c_kerbstoneref03_Check_l3 : CC := (.seq (.seq (.region 0 [⟨0, (some 72), none, .mv (.s 7)⟩, ⟨1, (some 73), none, .faddr 2 (.s 1)⟩, ⟨2, (some 74), none, .load false 1 (.s 73)⟩, ⟨3, (some 75), none, .len (.s 74)⟩, ⟨4, (some 76), none, .bin .lss (.s 72) (.s 75)⟩, ⟨5, (some 77), none, .mv (.s 76)⟩, ⟨6, (some 78), (some (77, true)), .mv (.s 5)⟩, ⟨7, (some 79), (some (77, true)), .bin .eql (.s 78) (.k (.c (.int .i64 0)))⟩, ⟨8, (some 80), none, .pick (.s 77) (.s 79) (.k (.c (.bool false)))⟩] [] (some [80, 5, 7, 1]))
  (.cond (.s 80) .skip
  (.exit 4)))
  (.seq (.block 5 (.region 0 [⟨1, (some 84), none, .faddr 2 (.s 1)⟩, ⟨3, (some 86), none, .mv (.s 7)⟩, ⟨0, (some 83), none, .load true 5 (.s 1)⟩, ⟨2, (some 85), none, .load false 1 (.s 84)⟩, ⟨4, (some 87), none, .iaddr 2 (.s 85) (.s 86)⟩, ⟨5, (some 88), none, .load true 2 (.s 87)⟩, ⟨6, (some 89), none, .call ⟨true⟩ (.k (.c (.fn 152 [] []))) [(.s 83), (.s 88)]⟩, ⟨7, (some 5), none, .mv (.s 89)⟩] [] (some [7, 5, 1])))
  (.region 0 [⟨0, (some 81), none, .mv (.s 7)⟩, ⟨1, (some 82), none, .bin .add (.s 81) (.k (.c (.int .i64 1)))⟩, ⟨2, (some 7), none, .mv (.s 82)⟩] [] (some [5, 7, 1]))))
def c_kerbstoneref03_Check_l4 : CC := (.seq (.seq (.region 0 [⟨0, (some 90), none, .mv (.s 8)⟩, ⟨1, (some 91), none, .faddr 4 (.s 1)⟩, ⟨2, (some 92), none, .load false 1 (.s 91)⟩, ⟨3, (some 93), none, .len (.s 92)⟩, ⟨4, (some 94), none, .bin .lss (.s 90) (.s 93)⟩, ⟨5, (some 95), none, .mv (.s 94)⟩, ⟨6, (some 96), (some (95, true)), .mv (.s 5)⟩, ⟨7, (some 97), (some (95, true)), .bin .eql (.s 96) (.k (.c (.int .i64 0)))⟩, ⟨8, (some 98), none, .pick (.s 95) (.s 97) (.k (.c (.bool false)))⟩] [] (some [98, 5, 8, 1]))
  (.cond (.s 98) .skip
  (.exit 6)))
  (.seq (.block 7 (.region 0 [⟨1, (some 102), none, .faddr 4 (.s 1)⟩, ⟨3, (some 104), none, .mv (.s 8)⟩, ⟨0, (some 101), none, .load true 5 (.s 1)⟩, ⟨2, (some 103), none, .load false 1 (.s 102)⟩, ⟨4, (some 105), none, .iaddr 6 (.s 103) (.s 104)⟩, ⟨5, (some 106), none, .load true 6 (.s 105)⟩, ⟨6, (some 107), none, .call ⟨true⟩ (.k (.c (.fn 153 [] []))) [(.s 101), (.s 106)]⟩, ⟨7, (some 5), none, .mv (.s 107)⟩] [] (some [8, 5, 1])))
  (.region 0 [⟨0, (some 99), none, .mv (.s 8)⟩, ⟨1, (some 100), none, .bin .add (.s 99) (.k (.c (.int .i64 1)))⟩, ⟨2, (some 8), none, .mv (.s 100)⟩] [] (some [5, 8, 1]))))
/-- kerbstone/kerbstoneref03.Check -/
abbrev f_kerbstoneref03_Check : Nat := 86
def c_kerbstoneref03_Check : CFn := { frz := true, rnd := none, nargs := 1, ntmps := 109, res := [(.slot 2)], code :=
  (.seq (.region 1 [⟨0, (some 1), none, .box 0 5 (.s 0)⟩, ⟨1, (some 2), none, .mv (.k (.c (.int .i64 0)))⟩] [] (some [1]))
  (.seq (.seq (.region 0 [⟨0, (some 9), none, .faddr 0 (.s 1)⟩, ⟨1, (some 10), none, .load false 1 (.s 9)⟩, ⟨2, (some 11), none, .call ⟨true⟩ (.k (.c (.fn 148 [] []))) [(.s 10), (.k (.c (.int .i64 0))), (.k (.c (.int .i64 1099511627776)))]⟩, ⟨3, (some 12), none, .un .not (.s 11)⟩] [] (some [12, 1]))
  (.cond (.s 12) (.seq (.region 0 [⟨0, (some 2), none, .mv (.k (.c (.int .i64 2)))⟩] [] (some [2]))
  .ret)
  .skip))
  (.seq (.seq (.region 0 [⟨0, (some 13), none, .faddr 1 (.s 1)⟩, ⟨1, (some 14), none, .load false 1 (.s 13)⟩, ⟨2, (some 15), none, .len (.s 14)⟩, ⟨3, (some 16), none, .bin .eql (.s 15) (.k (.c (.int .i64 0)))⟩] [] (some [16, 1]))
  (.cond (.s 16) (.seq (.region 0 [⟨0, (some 2), none, .mv (.k (.c (.int .i64 6)))⟩] [] (some [2]))
  .ret)
  .skip))
  (.seq (.seq (.region 0 [⟨0, (some 17), none, .faddr 1 (.s 1)⟩, ⟨1, (some 18), none, .load false 1 (.s 17)⟩, ⟨2, (some 19), none, .len (.s 18)⟩, ⟨3, (some 20), none, .bin .gtr (.s 19) (.k (.c (.int .i64 12)))⟩, ⟨4, (some 21), none, .mv (.s 20)⟩, ⟨5, (some 22), (some (21, false)), .faddr 2 (.s 1)⟩, ⟨6, (some 23), (some (21, false)), .load false 1 (.s 22)⟩, ⟨7, (some 24), (some (21, false)), .len (.s 23)⟩, ⟨8, (some 25), (some (21, false)), .bin .gtr (.s 24) (.k (.c (.int .i64 12)))⟩, ⟨9, (some 26), none, .pick (.s 21) (.k (.c (.bool true))) (.s 25)⟩, ⟨10, (some 27), none, .mv (.s 26)⟩, ⟨11, (some 28), (some (27, false)), .faddr 3 (.s 1)⟩, ⟨12, (some 29), (some (27, false)), .load false 1 (.s 28)⟩, ⟨13, (some 30), (some (27, false)), .len (.s 29)⟩, ⟨14, (some 31), (some (27, false)), .bin .gtr (.s 30) (.k (.c (.int .i64 4)))⟩, ⟨15, (some 32), none, .pick (.s 27) (.k (.c (.bool true))) (.s 31)⟩, ⟨16, (some 33), none, .mv (.s 32)⟩, ⟨17, (some 34), (some (33, false)), .faddr 4 (.s 1)⟩, ⟨18, (some 35), (some (33, false)), .load false 1 (.s 34)⟩, ⟨19, (some 36), (some (33, false)), .len (.s 35)⟩, ⟨20, (some 37), (some (33, false)), .bin .gtr (.s 36) (.k (.c (.int .i64 8)))⟩, ⟨21, (some 38), none, .pick (.s 33) (.k (.c (.bool true))) (.s 37)⟩] [] (some [38, 1]))
  (.cond (.s 38) (.seq (.region 0 [⟨0, (some 2), none, .mv (.k (.c (.int .i64 8)))⟩] [] (some [2]))
  .ret)
  .skip))
  (.seq (.seq (.region 0 [⟨0, (some 3), none, .mv (.k (.c (.int .i64 0)))⟩] [] (some [1, 3]))
  (.block 0 (.loop (some [1, 3]) c_kerbstoneref03_Check_l1)))
  (.seq (.region 0 [⟨0, (some 52), none, .load true 5 (.s 1)⟩, ⟨1, (some 53), none, .call ⟨true⟩ (.k (.c (.fn 150 [] []))) [(.s 52)]⟩, ⟨2, (some 5), none, .mv (.s 53)⟩] [] (some [5, 1]))
  (.seq (.seq (.region 0 [⟨0, (some 6), none, .mv (.k (.c (.int .i64 0)))⟩] [] (some [5, 6, 1]))
  (.block 2 (.loop (some [5, 6, 1]) c_kerbstoneref03_Check_l2)))
  (.seq (.seq (.region 0 [⟨0, (some 7), none, .mv (.k (.c (.int .i64 0)))⟩] [] (some [5, 7, 1]))
  (.block 4 (.loop (some [5, 7, 1]) c_kerbstoneref03_Check_l3)))
  (.seq (.seq (.region 0 [⟨0, (some 8), none, .mv (.k (.c (.int .i64 0)))⟩] [] (some [5, 8, 1]))
  (.block 6 (.loop (some [5, 8, 1]) c_kerbstoneref03_Check_l4)))
  (.seq (.region 0 [⟨0, (some 108), none, .mv (.s 5)⟩, ⟨1, (some 2), none, .mv (.s 108)⟩] [] (some [2]))
  .ret)))))))))) }
def c_motion_Cut_Blob_l1 : CC := (.seq (.region 0 [⟨0, (some 22), none, .bin .lss (.s 21) (.s 20)⟩] [] (some [22, 5, 21, 20, 19, 3]))
  (.seq (.cond (.s 22) .skip
  (.exit 0))
  (.seq (.block 1 (.seq (.region 1 [⟨0, (some 23), none, .iaddr 6 (.s 19) (.s 21)⟩, ⟨1, (some 24), none, .load true 6 (.s 23)⟩, ⟨2, (some 7), none, .box 0 6 (.k (.a [(.int .i64 0), (.int .i64 0), (.int .i64 0), (.int .i64 0), (.int .i64 0), (.int .i64 0)]))⟩, ⟨3, none, none, .store 6 (.s 7) (.s 24)⟩] [] (some [5, 7, 21, 20, 19, 3]))
  (.seq (.region 2 [⟨0, (some 25), none, .load true 6 (.s 7)⟩, ⟨1, (some 26), none, .load true 6 (.s 7)⟩, ⟨2, (some 8), none, .box 0 6 (.k (.a [(.int .i64 0), (.int .i64 0), (.int .i64 0), (.int .i64 0), (.int .i64 0), (.int .i64 0)]))⟩, ⟨3, (some 9), none, .box 1 6 (.k (.a [(.int .i64 0), (.int .i64 0), (.int .i64 0), (.int .i64 0), (.int .i64 0), (.int .i64 0)]))⟩, ⟨4, none, none, .store 6 (.s 8) (.s 25)⟩, ⟨5, none, none, .store 6 (.s 9) (.s 26)⟩] [] (some [9, 8, 5, 7, 21, 20, 19, 3]))
  (.seq (.region 0 [⟨0, (some 28), none, .call ⟨true⟩ (.k (.c (.fn 156 [] []))) [(.s 7)]⟩, ⟨1, (some 27), none, .mv (.s 28)⟩, ⟨2, (some 29), none, .extract 27 0⟩, ⟨3, (some 30), none, .extract 27 1⟩, ⟨4, (some 31), none, .extract 27 2⟩, ⟨5, (some 10), none, .mv (.s 29)⟩, ⟨6, (some 11), none, .mv (.s 30)⟩, ⟨7, (some 12), none, .mv (.s 31)⟩] [] (some [10, 9, 12, 8, 11, 5, 7, 21, 20, 19, 3]))
  (.seq (.seq (.region 0 [⟨0, (some 32), none, .mv (.s 10)⟩, ⟨1, (some 33), none, .faddr 0 (.s 3)⟩, ⟨2, (some 34), none, .load false 1 (.s 33)⟩, ⟨3, (some 35), none, .bin .neq (.s 32) (.s 34)⟩, ⟨4, (some 36), none, .mv (.s 35)⟩, ⟨5, (some 37), (some (36, false)), .faddr 1 (.s 3)⟩, ⟨7, (some 39), (some (36, false)), .faddr 2 (.s 3)⟩, ⟨6, (some 38), (some (36, false)), .load false 1 (.s 37)⟩, ⟨8, (some 40), (some (36, false)), .load false 1 (.s 39)⟩, ⟨9, (some 41), (some (36, false)), .bin .gtr (.s 38) (.s 40)⟩, ⟨10, (some 42), none, .pick (.s 36) (.k (.c (.bool true))) (.s 41)⟩, ⟨11, (some 43), none, .mv (.s 42)⟩, ⟨12, (some 44), (some (43, false)), .faddr 1 (.s 3)⟩, ⟨14, (some 46), (some (43, false)), .mv (.s 12)⟩, ⟨15, (some 47), (some (43, false)), .nilck (.s 46)⟩, ⟨13, (some 45), (some (43, false)), .load false 1 (.s 44)⟩, ⟨16, (some 48), (some (43, false)), .load false 1 (.s 47)⟩, ⟨17, (some 49), (some (43, false)), .bin .gtr (.s 45) (.s 48)⟩, ⟨18, (some 50), none, .pick (.s 43) (.k (.c (.bool true))) (.s 49)⟩, ⟨19, (some 51), none, .mv (.s 50)⟩, ⟨20, (some 52), (some (51, false)), .faddr 2 (.s 3)⟩, ⟨22, (some 54), (some (51, false)), .mv (.s 11)⟩, ⟨23, (some 55), (some (51, false)), .nilck (.s 54)⟩, ⟨21, (some 53), (some (51, false)), .load false 1 (.s 52)⟩, ⟨24, (some 56), (some (51, false)), .load false 1 (.s 55)⟩, ⟨25, (some 57), (some (51, false)), .bin .lss (.s 53) (.s 56)⟩, ⟨26, (some 58), none, .pick (.s 51) (.k (.c (.bool true))) (.s 57)⟩] [] (some [58, 9, 12, 8, 11, 5, 7, 21, 20, 19, 3]))
  (.cond (.s 58) (.seq (.region 1 [⟨0, (some 59), none, .mv (.s 5)⟩, ⟨1, (some 60), none, .load true 6 (.s 7)⟩, ⟨2, (some 61), none, .lit 0 6 [[(.int .i64 0), (.int .i64 0), (.int .i64 0), (.int .i64 0), (.int .i64 0), (.int .i64 0)]] [(0, (.s 60))]⟩, ⟨3, (some 62), none, .append 6 48 (.s 59) (.s 61)⟩, ⟨4, (some 5), none, .mv (.s 62)⟩] [] (some [21, 5, 20, 19, 3]))
  (.exit 1))
  .skip))
  (.seq (.seq (.region 0 [⟨0, (some 63), none, .faddr 1 (.s 3)⟩, ⟨2, (some 65), none, .mv (.s 11)⟩, ⟨3, (some 66), none, .nilck (.s 65)⟩, ⟨1, (some 64), none, .load false 1 (.s 63)⟩, ⟨4, (some 67), none, .load false 1 (.s 66)⟩, ⟨5, (some 68), none, .bin .gtr (.s 64) (.s 67)⟩] [] (some [68, 5, 8, 12, 9, 21, 20, 19, 3]))
  (.cond (.s 68) (.seq (.region 0 [⟨0, (some 70), none, .call ⟨true⟩ (.k (.c (.fn 156 [] []))) [(.s 8)]⟩, ⟨1, (some 69), none, .mv (.s 70)⟩, ⟨2, (some 71), none, .extract 69 0⟩, ⟨3, (some 72), none, .extract 69 1⟩, ⟨4, (some 73), none, .extract 69 2⟩, ⟨5, (some 13), none, .mv (.s 71)⟩, ⟨6, (some 14), none, .mv (.s 72)⟩, ⟨7, (some 15), none, .mv (.s 73)⟩] [] (some [15, 5, 8, 12, 9, 21, 20, 19, 3]))
  (.seq (.region 0 [⟨0, (some 74), none, .mv (.s 15)⟩, ⟨1, (some 75), none, .faddr 1 (.s 3)⟩, ⟨2, (some 76), none, .load false 1 (.s 75)⟩, ⟨3, (some 77), none, .bin .sub (.s 76) (.k (.c (.int .i64 1)))⟩, ⟨4, (some 78), none, .nilck (.s 74)⟩, ⟨5, none, none, .store 1 (.s 78) (.s 77)⟩] [] (some [5, 8, 12, 9, 21, 20, 19, 3]))
  (.region 1 [⟨0, (some 79), none, .mv (.s 5)⟩, ⟨1, (some 80), none, .load true 6 (.s 8)⟩, ⟨2, (some 81), none, .lit 0 6 [[(.int .i64 0), (.int .i64 0), (.int .i64 0), (.int .i64 0), (.int .i64 0), (.int .i64 0)]] [(0, (.s 80))]⟩, ⟨3, (some 82), none, .append 6 48 (.s 79) (.s 81)⟩, ⟨4, (some 5), none, .mv (.s 82)⟩] [] (some [12, 5, 9, 21, 20, 19, 3]))))
  .skip))
  (.seq (.region 0 [⟨0, (some 83), none, .faddr 2 (.s 3)⟩, ⟨2, (some 85), none, .mv (.s 12)⟩, ⟨3, (some 86), none, .nilck (.s 85)⟩, ⟨1, (some 84), none, .load false 1 (.s 83)⟩, ⟨4, (some 87), none, .load false 1 (.s 86)⟩, ⟨5, (some 88), none, .bin .lss (.s 84) (.s 87)⟩] [] (some [88, 5, 9, 21, 20, 19, 3]))
  (.cond (.s 88) (.seq (.region 0 [⟨0, (some 90), none, .call ⟨true⟩ (.k (.c (.fn 156 [] []))) [(.s 9)]⟩, ⟨1, (some 89), none, .mv (.s 90)⟩, ⟨2, (some 91), none, .extract 89 0⟩, ⟨3, (some 92), none, .extract 89 1⟩, ⟨4, (some 93), none, .extract 89 2⟩, ⟨5, (some 16), none, .mv (.s 91)⟩, ⟨6, (some 17), none, .mv (.s 92)⟩, ⟨7, (some 18), none, .mv (.s 93)⟩] [] (some [17, 5, 9, 21, 20, 19, 3]))
  (.seq (.region 0 [⟨0, (some 94), none, .mv (.s 17)⟩, ⟨1, (some 95), none, .faddr 2 (.s 3)⟩, ⟨2, (some 96), none, .load false 1 (.s 95)⟩, ⟨3, (some 97), none, .bin .add (.s 96) (.k (.c (.int .i64 1)))⟩, ⟨4, (some 98), none, .nilck (.s 94)⟩, ⟨5, none, none, .store 1 (.s 98) (.s 97)⟩] [] (some [5, 9, 21, 20, 19, 3]))
  (.region 1 [⟨0, (some 99), none, .mv (.s 5)⟩, ⟨1, (some 100), none, .load true 6 (.s 9)⟩, ⟨2, (some 101), none, .lit 0 6 [[(.int .i64 0), (.int .i64 0), (.int .i64 0), (.int .i64 0), (.int .i64 0), (.int .i64 0)]] [(0, (.s 100))]⟩, ⟨3, (some 102), none, .append 6 48 (.s 99) (.s 101)⟩, ⟨4, (some 5), none, .mv (.s 102)⟩] [] (some [21, 5, 20, 19, 3]))))
  .skip))))))))
  (.region 0 [⟨0, (some 103), none, .bin .add (.s 21) (.k (.c (.int .i64 1)))⟩, ⟨1, (some 21), none, .mv (.s 103)⟩] [] (some [5, 21, 20, 19, 3])))))
/-- kerbstone/motion.Cut[kerbstone/api.Blob] -/
abbrev f_motion_Cut_Blob : Nat := 91
def c_motion_Cut_Blob : CFn := { frz := true, rnd := none, nargs := 2, ntmps := 105, res := [(.slot 4)], code :=
  (.seq (.region 2 [⟨0, (some 3), none, .box 0 3 (.s 1)⟩, ⟨1, (some 4), none, .newsl 1 6⟩] [] (some [0, 3]))
  (.seq (.region 1 [⟨0, (some 5), none, .newsl 0 6⟩] [] (some [0, 5, 3]))
  (.seq (.seq (.region 0 [⟨0, (some 19), none, .mv (.s 0)⟩, ⟨1, (some 20), none, .len (.s 19)⟩, ⟨2, (some 21), none, .mv (.k (.c (.int .i64 0)))⟩] [] (some [5, 21, 20, 19, 3]))
  (.block 0 (.loop (some [5, 21, 20, 19, 3]) c_motion_Cut_Blob_l1)))
  (.seq (.region 0 [⟨0, (some 104), none, .mv (.s 5)⟩, ⟨1, (some 4), none, .mv (.s 104)⟩] [] (some [4]))
  .ret)))) }
def c_motion_Join_l1 : CC := (.seq (.region 0 [⟨0, (some 16), none, .bin .lss (.s 15) (.s 14)⟩] [] (some [16, 15, 14, 13, 4]))
  (.seq (.cond (.s 16) .skip
  (.exit 0))
  (.seq (.block 1 (.seq (.region 1 [⟨0, (some 17), none, .iaddr 6 (.s 13) (.s 15)⟩, ⟨1, (some 18), none, .load true 6 (.s 17)⟩, ⟨2, (some 6), none, .box 0 6 (.k (.a [(.int .i64 0), (.int .i64 0), (.int .i64 0), (.int .i64 0), (.int .i64 0), (.int .i64 0)]))⟩, ⟨3, none, none, .store 6 (.s 6) (.s 18)⟩] [] (some [6, 15, 14, 13, 4]))
  (.seq (.region 0 [⟨0, (some 19), none, .mv (.s 4)⟩, ⟨1, (some 20), none, .len (.s 19)⟩, ⟨2, (some 7), none, .mv (.s 20)⟩] [] (some [7, 6, 15, 14, 13, 4]))
  (.seq (.region 0 [⟨0, (some 21), none, .mv (.s 7)⟩, ⟨1, (some 22), none, .bin .gtr (.s 21) (.k (.c (.int .i64 0)))⟩, ⟨2, (some 23), none, .mv (.s 22)⟩, ⟨3, (some 24), (some (23, true)), .mv (.s 4)⟩, ⟨4, (some 25), (some (23, true)), .mv (.s 7)⟩, ⟨5, (some 26), (some (23, true)), .bin .sub (.s 25) (.k (.c (.int .i64 1)))⟩, ⟨6, (some 27), (some (23, true)), .iaddr 6 (.s 24) (.s 26)⟩, ⟨7, (some 28), (some (23, true)), .faddr 0 (.s 27)⟩, ⟨9, (some 30), (some (23, true)), .faddr 0 (.s 6)⟩, ⟨8, (some 29), (some (23, true)), .load false 1 (.s 28)⟩, ⟨10, (some 31), (some (23, true)), .load false 1 (.s 30)⟩, ⟨11, (some 32), (some (23, true)), .bin .eql (.s 29) (.s 31)⟩, ⟨12, (some 33), none, .pick (.s 23) (.s 32) (.k (.c (.bool false)))⟩, ⟨13, (some 34), none, .mv (.s 33)⟩, ⟨14, (some 35), (some (34, true)), .faddr 1 (.s 6)⟩, ⟨16, (some 37), (some (34, true)), .mv (.s 4)⟩, ⟨17, (some 38), (some (34, true)), .mv (.s 7)⟩, ⟨18, (some 39), (some (34, true)), .bin .sub (.s 38) (.k (.c (.int .i64 1)))⟩, ⟨19, (some 40), (some (34, true)), .iaddr 6 (.s 37) (.s 39)⟩, ⟨20, (some 41), (some (34, true)), .faddr 2 (.s 40)⟩, ⟨15, (some 36), (some (34, true)), .load false 1 (.s 35)⟩, ⟨21, (some 42), (some (34, true)), .load false 1 (.s 41)⟩, ⟨22, (some 43), (some (34, true)), .bin .leq (.s 36) (.s 42)⟩, ⟨23, (some 44), (some (34, true)), .mv (.s 43)⟩, ⟨24, (some 45), (some (44, false)), .faddr 1 (.s 6)⟩, ⟨27, (some 48), (some (44, false)), .mv (.s 4)⟩, ⟨28, (some 49), (some (44, false)), .mv (.s 7)⟩, ⟨29, (some 50), (some (44, false)), .bin .sub (.s 49) (.k (.c (.int .i64 1)))⟩, ⟨30, (some 51), (some (44, false)), .iaddr 6 (.s 48) (.s 50)⟩, ⟨31, (some 52), (some (44, false)), .faddr 2 (.s 51)⟩, ⟨25, (some 46), (some (44, false)), .load false 1 (.s 45)⟩, ⟨26, (some 47), (some (44, false)), .bin .sub (.s 46) (.k (.c (.int .i64 1)))⟩, ⟨32, (some 53), (some (44, false)), .load false 1 (.s 52)⟩, ⟨33, (some 54), (some (44, false)), .bin .eql (.s 47) (.s 53)⟩, ⟨34, (some 55), (some (34, true)), .pick (.s 44) (.k (.c (.bool true))) (.s 54)⟩, ⟨35, (some 56), none, .pick (.s 34) (.s 55) (.k (.c (.bool false)))⟩] [] (some [56, 7, 6, 15, 14, 13, 4]))
  (.cond (.s 56) (.region 0 [⟨0, (some 57), none, .mv (.s 4)⟩, ⟨1, (some 58), none, .mv (.s 7)⟩, ⟨2, (some 59), none, .bin .sub (.s 58) (.k (.c (.int .i64 1)))⟩, ⟨3, (some 60), none, .mv (.s 4)⟩, ⟨4, (some 61), none, .mv (.s 7)⟩, ⟨5, (some 62), none, .bin .sub (.s 61) (.k (.c (.int .i64 1)))⟩, ⟨6, (some 63), none, .iaddr 6 (.s 60) (.s 62)⟩, ⟨7, (some 64), none, .load true 6 (.s 63)⟩, ⟨8, (some 65), none, .load true 6 (.s 6)⟩, ⟨9, (some 66), none, .call ⟨true⟩ (.k (.c (.fn 176 [] []))) [(.s 64), (.s 65)]⟩, ⟨10, (some 67), none, .iaddr 6 (.s 57) (.s 59)⟩, ⟨11, none, none, .store 6 (.s 67) (.s 66)⟩] [] (some [15, 14, 13, 4]))
  (.region 1 [⟨0, (some 68), none, .mv (.s 4)⟩, ⟨1, (some 69), none, .load true 6 (.s 6)⟩, ⟨2, (some 70), none, .lit 0 6 [[(.int .i64 0), (.int .i64 0), (.int .i64 0), (.int .i64 0), (.int .i64 0), (.int .i64 0)]] [(0, (.s 69))]⟩, ⟨3, (some 71), none, .append 6 48 (.s 68) (.s 70)⟩, ⟨4, (some 4), none, .mv (.s 71)⟩] [] (some [15, 14, 13, 4])))))))
  (.region 0 [⟨0, (some 72), none, .bin .add (.s 15) (.k (.c (.int .i64 1)))⟩, ⟨1, (some 15), none, .mv (.s 72)⟩] [] (some [15, 14, 13, 4])))))
/-- kerbstone/motion.Join -/
abbrev f_motion_Join : Nat := 106
def c_motion_Join : CFn := { frz := true, rnd := none, nargs := 1, ntmps := 74, res := [(.slot 2)], code :=
  (.seq (.region 1 [⟨0, (some 2), none, .newsl 0 6⟩] [] (some [0]))
  (.seq (.region 0 [⟨0, (some 8), none, .mv (.s 0)⟩, ⟨1, (some 9), none, .call ⟨true⟩ (.k (.c (.fn 79 [] []))) [(.s 8)]⟩, ⟨2, (some 10), none, .call ⟨false⟩ (.k (.c (.fn 170 [] []))) [(.s 9), (.k (.c (.fn 171 [] [])))]⟩, ⟨3, (some 3), none, .mv (.s 10)⟩] [] (some [3]))
  (.seq (.region 0 [⟨0, (some 11), none, .mv (.s 3)⟩, ⟨1, (some 12), none, .call ⟨false⟩ (.k (.c (.fn 172 [] []))) [(.s 11), (.k (.c (.fn 173 [] [])))]⟩] [] (some [3]))
  (.seq (.region 1 [⟨0, (some 4), none, .newsl 0 6⟩] [] (some [3, 4]))
  (.seq (.seq (.region 0 [⟨0, (some 13), none, .mv (.s 3)⟩, ⟨1, (some 14), none, .len (.s 13)⟩, ⟨2, (some 15), none, .mv (.k (.c (.int .i64 0)))⟩] [] (some [15, 14, 13, 4]))
  (.block 0 (.loop (some [15, 14, 13, 4]) c_motion_Join_l1)))
  (.seq (.region 0 [⟨0, (some 73), none, .mv (.s 4)⟩, ⟨1, (some 2), none, .mv (.s 73)⟩] [] (some [2]))
  .ret)))))) }
def c_roads_CheckRoute_l1 : CC := (.seq (.region 0 [⟨0, (some 53), none, .bin .lss (.s 52) (.s 51)⟩] [] (some [53, 6, 2, 50, 51, 52]))
  (.seq (.cond (.s 53) .skip
  (.exit 0))
  (.seq (.block 1 (.seq (.region 0 [⟨0, (some 54), none, .iaddr 1 (.s 50) (.s 52)⟩, ⟨1, (some 55), none, .load false 1 (.s 54)⟩, ⟨2, (some 8), none, .mv (.s 55)⟩] [] (some [6, 2, 50, 51, 52, 8]))
  (.seq (.seq (.region 0 [⟨0, (some 56), none, .faddr 1 (.s 2)⟩, ⟨1, (some 57), none, .load false 1 (.s 56)⟩, ⟨2, (some 58), none, .mv (.s 6)⟩, ⟨3, (some 59), none, .iaddr 5 (.s 57) (.s 58)⟩, ⟨4, (some 60), none, .faddr 4 (.s 59)⟩, ⟨5, (some 61), none, .load false 1 (.s 60)⟩, ⟨6, (some 62), none, .mv (.s 8)⟩, ⟨7, (some 63), none, .call ⟨true⟩ (.k (.c (.fn 178 [] []))) [(.s 61), (.s 62)]⟩, ⟨8, (some 64), none, .un .not (.s 63)⟩] [] (some [64, 2, 50, 51, 52, 8]))
  (.cond (.s 64) (.seq (.region 0 [⟨0, (some 4), none, .mv (.k (.c (.int .i64 13)))⟩] [] (some [4]))
  .ret)
  .skip))
  (.region 0 [⟨0, (some 65), none, .mv (.s 8)⟩, ⟨1, (some 6), none, .mv (.s 65)⟩] [] (some [52, 6, 51, 50, 2])))))
  (.region 0 [⟨0, (some 66), none, .bin .add (.s 52) (.k (.c (.int .i64 1)))⟩, ⟨1, (some 52), none, .mv (.s 66)⟩] [] (some [6, 51, 50, 2, 52])))))
/-- kerbstone/roads.CheckRoute -/
abbrev f_roads_CheckRoute : Nat := 107
def c_roads_CheckRoute : CFn := { frz := true, rnd := none, nargs := 2, ntmps := 67, res := [(.slot 4)], code :=
  (.seq (.region 1 [⟨0, (some 2), none, .box 0 5 (.s 0)⟩, ⟨1, (some 4), none, .mv (.k (.c (.int .i64 0)))⟩] [] (some [1, 2]))
  (.seq (.seq (.region 0 [⟨0, (some 9), none, .load true 5 (.s 2)⟩, ⟨1, (some 10), none, .call ⟨true⟩ (.k (.c (.fn 54 [] []))) [(.s 9)]⟩, ⟨2, (some 5), none, .mv (.s 10)⟩] [] (some [1, 2, 5]))
  (.seq (.region 0 [⟨0, (some 11), none, .mv (.s 5)⟩, ⟨1, (some 12), none, .bin .neq (.s 11) (.k (.c (.int .i64 0)))⟩] [] (some [12, 1, 2, 5]))
  (.cond (.s 12) (.seq (.region 0 [⟨0, (some 13), none, .mv (.s 5)⟩, ⟨1, (some 4), none, .mv (.s 13)⟩] [] (some [4]))
  .ret)
  .skip)))
  (.seq (.seq (.region 0 [⟨0, (some 14), none, .mv (.s 1)⟩, ⟨1, (some 15), none, .len (.s 14)⟩, ⟨2, (some 16), none, .bin .eql (.s 15) (.k (.c (.int .i64 0)))⟩, ⟨3, (some 17), none, .mv (.s 16)⟩, ⟨4, (some 18), (some (17, false)), .mv (.s 1)⟩, ⟨5, (some 19), (some (17, false)), .len (.s 18)⟩, ⟨6, (some 20), (some (17, false)), .bin .gtr (.s 19) (.k (.c (.int .i64 8)))⟩, ⟨7, (some 21), none, .pick (.s 17) (.k (.c (.bool true))) (.s 20)⟩, ⟨8, (some 22), none, .mv (.s 21)⟩, ⟨9, (some 23), (some (22, false)), .mv (.s 1)⟩, ⟨10, (some 24), (some (22, false)), .iaddr 1 (.s 23) (.k (.c (.int .i64 0)))⟩, ⟨11, (some 25), (some (22, false)), .load false 1 (.s 24)⟩, ⟨12, (some 26), (some (22, false)), .bin .lss (.s 25) (.k (.c (.int .i64 0)))⟩, ⟨13, (some 27), none, .pick (.s 22) (.k (.c (.bool true))) (.s 26)⟩, ⟨14, (some 28), none, .mv (.s 27)⟩, ⟨15, (some 29), (some (28, false)), .mv (.s 1)⟩, ⟨16, (some 30), (some (28, false)), .iaddr 1 (.s 29) (.k (.c (.int .i64 0)))⟩, ⟨18, (some 32), (some (28, false)), .faddr 1 (.s 2)⟩, ⟨17, (some 31), (some (28, false)), .load false 1 (.s 30)⟩, ⟨19, (some 33), (some (28, false)), .load false 1 (.s 32)⟩, ⟨20, (some 34), (some (28, false)), .len (.s 33)⟩, ⟨21, (some 35), (some (28, false)), .bin .geq (.s 31) (.s 34)⟩, ⟨22, (some 36), none, .pick (.s 28) (.k (.c (.bool true))) (.s 35)⟩, ⟨23, (some 37), none, .mv (.s 36)⟩, ⟨25, (some 39), (some (37, false)), .mv (.s 1)⟩, ⟨26, (some 40), (some (37, false)), .iaddr 1 (.s 39) (.k (.c (.int .i64 0)))⟩, ⟨24, (some 38), (some (37, false)), .load true 5 (.s 2)⟩, ⟨27, (some 41), (some (37, false)), .load false 1 (.s 40)⟩, ⟨28, (some 42), (some (37, false)), .call ⟨true⟩ (.k (.c (.fn 177 [] []))) [(.s 38), (.s 41)]⟩, ⟨29, (some 43), (some (37, false)), .len (.s 42)⟩, ⟨30, (some 44), (some (37, false)), .bin .gtr (.s 43) (.k (.c (.int .i64 0)))⟩, ⟨31, (some 45), none, .pick (.s 37) (.k (.c (.bool true))) (.s 44)⟩] [] (some [45, 2, 1]))
  (.cond (.s 45) (.seq (.region 0 [⟨0, (some 4), none, .mv (.k (.c (.int .i64 13)))⟩] [] (some [4]))
  .ret)
  .skip))
  (.seq (.region 0 [⟨0, (some 46), none, .mv (.s 1)⟩, ⟨1, (some 47), none, .iaddr 1 (.s 46) (.k (.c (.int .i64 0)))⟩, ⟨2, (some 48), none, .load false 1 (.s 47)⟩, ⟨3, (some 6), none, .mv (.s 48)⟩] [] (some [1, 6, 2]))
  (.seq (.seq (.region 0 [⟨0, (some 49), none, .mv (.s 1)⟩, ⟨1, (some 50), none, .slice 1 (.s 49) (some (.k (.c (.int .i64 1)))) none none⟩, ⟨2, (some 51), none, .len (.s 50)⟩, ⟨3, (some 52), none, .mv (.k (.c (.int .i64 0)))⟩] [] (some [6, 51, 50, 2, 52]))
  (.block 0 (.loop (some [6, 51, 50, 2, 52]) c_roads_CheckRoute_l1)))
  (.seq (.region 0 [⟨0, (some 4), none, .mv (.k (.c (.int .i64 0)))⟩] [] (some [4]))
  .ret)))))) }
/-- kerbstone/track.able -/
abbrev f_track_able : Nat := 108
def c_track_able : CFn := { frz := true, rnd := none, nargs := 1, ntmps := 5, res := [(.slot 2)], code :=
  (.seq (.region 0 [⟨0, (some 2), none, .mv (.k (.c (.bool false)))⟩] [] (some [0]))
  (.seq (.region 0 [⟨0, (some 3), none, .mv (.s 0)⟩, ⟨1, (some 4), none, .call ⟨true⟩ (.k (.c (.fn 67 [] []))) [(.s 3), (.k (.c (.int .i64 300))), (.k (.c (.int .i64 20000)))]⟩, ⟨2, (some 2), none, .mv (.s 4)⟩] [] (some [2]))
  .ret)) }
def c_motion_Along_l1 : CC := (.seq (.region 0 [⟨0, (some 29), none, .bin .lss (.s 28) (.s 27)⟩] [] (some [29, 28, 27, 6, 3, 7]))
  (.seq (.cond (.s 29) .skip
  (.exit 0))
  (.seq (.block 1 (.seq (.region 0 [⟨0, (some 30), none, .mv (.s 28)⟩, ⟨1, (some 8), none, .mv (.s 30)⟩] [] (some [8, 28, 27, 6, 3, 7]))
  (.region 1 [⟨0, (some 31), none, .faddr 9 (.s 7)⟩, ⟨3, (some 34), none, .mv (.s 8)⟩, ⟨1, (some 32), none, .load false 1 (.s 31)⟩, ⟨2, (some 33), none, .load true 5 (.s 3)⟩, ⟨4, (some 35), none, .call ⟨true⟩ (.k (.c (.fn 56 [] []))) [(.s 33), (.s 34)]⟩, ⟨5, (some 36), none, .lit 0 1 [[(.int .i64 0)]] [(0, (.s 35))]⟩, ⟨6, (some 37), none, .append 1 8 (.s 32) (.s 36)⟩, ⟨7, (some 38), none, .faddr 9 (.s 7)⟩, ⟨8, none, none, .store 1 (.s 38) (.s 37)⟩] [(2, 4), (2, 5)] (some [28, 27, 6, 3, 7]))))
  (.region 0 [⟨0, (some 39), none, .bin .add (.s 28) (.k (.c (.int .i64 1)))⟩, ⟨1, (some 28), none, .mv (.s 39)⟩] [] (some [28, 27, 6, 3, 7])))))
def c_motion_Along_l2 : CC := (.seq (.region 0 [⟨0, (some 44), none, .bin .lss (.s 43) (.s 42)⟩] [] (some [44, 43, 42, 6, 41, 7]))
  (.seq (.cond (.s 44) .skip
  (.exit 2))
  (.seq (.block 3 (.seq (.region 0 [⟨0, (some 45), none, .iaddr 1 (.s 41) (.s 43)⟩, ⟨1, (some 46), none, .load false 1 (.s 45)⟩, ⟨2, (some 10), none, .mv (.s 46)⟩] [] (some [10, 43, 42, 6, 41, 7]))
  (.region 0 [⟨0, (some 47), none, .faddr 10 (.s 7)⟩, ⟨1, (some 48), none, .load false 1 (.s 47)⟩, ⟨2, (some 49), none, .mv (.s 10)⟩, ⟨3, (some 50), none, .iaddr 1 (.s 48) (.s 49)⟩, ⟨4, none, none, .store 1 (.s 50) (.k (.c (.bool true)))⟩] [] (some [43, 42, 6, 41, 7]))))
  (.region 0 [⟨0, (some 51), none, .bin .add (.s 43) (.k (.c (.int .i64 1)))⟩, ⟨1, (some 43), none, .mv (.s 51)⟩] [] (some [43, 42, 6, 41, 7])))))
/-- kerbstone/motion.Along -/
abbrev f_motion_Along : Nat := 109
def c_motion_Along : CFn := { frz := true, rnd := none, nargs := 3, ntmps := 53, res := [(.cell 6 true 11)], code :=
  (.seq (.region 2 [⟨0, (some 3), none, .box 0 5 (.s 0)⟩, ⟨1, (some 6), none, .box 1 11 (.k (.a [(.int .i64 0), .nilslice, .nilslice, .nilslice, .nilslice, .nilslice, .nilslice, (.int .i64 0), (.int .i64 0), .nilslice, .nilslice]))⟩] [] (some [1, 2, 6, 3]))
  (.seq (.region 2 [⟨1, (some 12), none, .mv (.s 1)⟩, ⟨3, (some 14), none, .mv (.s 1)⟩, ⟨6, (some 17), none, .mv (.s 1)⟩, ⟨8, (some 19), none, .mv (.s 2)⟩, ⟨9, (some 20), none, .faddr 1 (.s 3)⟩, ⟨0, (some 11), none, .load true 5 (.s 3)⟩, ⟨2, (some 13), none, .load true 5 (.s 3)⟩, ⟨5, (some 16), none, .load true 5 (.s 3)⟩, ⟨10, (some 21), none, .load false 1 (.s 20)⟩, ⟨4, (some 15), none, .call ⟨true⟩ (.k (.c (.fn 135 [] []))) [(.s 13), (.s 14)]⟩, ⟨7, (some 18), none, .call ⟨true⟩ (.k (.c (.fn 179 [] []))) [(.s 16), (.s 17)]⟩, ⟨11, (some 22), none, .len (.s 21)⟩, ⟨12, (some 23), none, .mkslice 0 1 1 [(.bool false)] (.s 22) (.s 22)⟩, ⟨13, (some 24), none, .build [(.int .i64 0), .nilslice, .nilslice, .nilslice, .nilslice, .nilslice, .nilslice, (.int .i64 0), (.int .i64 0), .nilslice, .nilslice] [(0, 5, (.s 11)), (5, 1, (.s 12)), (6, 1, (.s 15)), (7, 1, (.s 18)), (8, 1, (.s 19)), (10, 1, (.s 23))]⟩, ⟨14, (some 7), none, .box 1 11 (.k (.a [(.int .i64 0), .nilslice, .nilslice, .nilslice, .nilslice, .nilslice, .nilslice, (.int .i64 0), (.int .i64 0), .nilslice, .nilslice]))⟩, ⟨15, none, none, .store 11 (.s 7) (.s 24)⟩] [(5, 9), (5, 10), (5, 12), (5, 14), (6, 12), (6, 14), (7, 9), (7, 12), (7, 14), (8, 9), (8, 10), (8, 14), (9, 12), (9, 14), (10, 12), (10, 14), (12, 14)] (some [6, 3, 7]))
  (.seq (.seq (.region 0 [⟨0, (some 25), none, .faddr 1 (.s 3)⟩, ⟨1, (some 26), none, .load false 1 (.s 25)⟩, ⟨2, (some 27), none, .len (.s 26)⟩, ⟨3, (some 28), none, .mv (.k (.c (.int .i64 0)))⟩] [] (some [28, 27, 6, 3, 7]))
  (.block 0 (.loop (some [28, 27, 6, 3, 7]) c_motion_Along_l1)))
  (.seq (.seq (.region 0 [⟨0, (some 40), none, .load true 5 (.s 3)⟩, ⟨1, (some 41), none, .call ⟨true⟩ (.k (.c (.fn 180 [] []))) [(.s 40)]⟩, ⟨2, (some 42), none, .len (.s 41)⟩, ⟨3, (some 43), none, .mv (.k (.c (.int .i64 0)))⟩] [] (some [43, 42, 6, 41, 7]))
  (.block 2 (.loop (some [43, 42, 6, 41, 7]) c_motion_Along_l2)))
  (.seq (.region 0 [⟨0, (some 52), none, .load true 11 (.s 7)⟩, ⟨1, none, none, .store 11 (.s 6) (.s 52)⟩] [] (some [6]))
  .ret))))) }
def c_motion_Course_Own_l1 : CC := (.seq (.region 0 [⟨0, (some 18), none, .bin .lss (.s 17) (.s 16)⟩] [] (some [18, 1, 17, 16, 15, 5, 3]))
  (.seq (.cond (.s 18) .skip
  (.exit 0))
  (.seq (.block 1 (.seq (.region 0 [⟨0, (some 19), none, .mv (.s 17)⟩, ⟨1, (some 20), none, .iaddr 1 (.s 15) (.s 17)⟩, ⟨2, (some 21), none, .load false 1 (.s 20)⟩, ⟨3, (some 7), none, .mv (.s 19)⟩, ⟨4, (some 8), none, .mv (.s 21)⟩] [] (some [1, 8, 7, 17, 16, 15, 5, 3]))
  (.region 0 [⟨0, (some 22), none, .mv (.s 1)⟩, ⟨1, (some 23), none, .mv (.s 8)⟩, ⟨2, (some 24), none, .faddr 1 (.s 5)⟩, ⟨4, (some 26), none, .faddr 8 (.s 3)⟩, ⟨7, (some 29), none, .faddr 6 (.s 3)⟩, ⟨9, (some 31), none, .mv (.s 7)⟩, ⟨13, (some 35), none, .faddr 0 (.s 5)⟩, ⟨15, (some 37), none, .faddr 6 (.s 3)⟩, ⟨17, (some 39), none, .mv (.s 7)⟩, ⟨3, (some 25), none, .load false 1 (.s 24)⟩, ⟨5, (some 27), none, .load false 1 (.s 26)⟩, ⟨6, (some 28), none, .bin .sub (.s 25) (.s 27)⟩, ⟨8, (some 30), none, .load false 1 (.s 29)⟩, ⟨10, (some 32), none, .iaddr 1 (.s 30) (.s 31)⟩, ⟨11, (some 33), none, .load false 1 (.s 32)⟩, ⟨12, (some 34), none, .bin .sub (.s 28) (.s 33)⟩, ⟨14, (some 36), none, .load false 1 (.s 35)⟩, ⟨16, (some 38), none, .load false 1 (.s 37)⟩, ⟨18, (some 40), none, .iaddr 1 (.s 38) (.s 39)⟩, ⟨19, (some 41), none, .load false 1 (.s 40)⟩, ⟨20, (some 42), none, .bin .sub (.s 36) (.s 41)⟩, ⟨21, (some 43), none, .build [(.int .i64 0), (.int .i64 0), (.int .i64 0)] [(0, 1, (.s 23)), (1, 1, (.s 34)), (2, 1, (.s 42))]⟩, ⟨22, (some 44), none, .call ⟨true⟩ (.k (.c (.fn 91 [] []))) [(.s 22), (.s 43)]⟩, ⟨23, (some 1), none, .mv (.s 44)⟩] [] (some [17, 1, 16, 15, 5, 3]))))
  (.region 0 [⟨0, (some 45), none, .bin .add (.s 17) (.k (.c (.int .i64 1)))⟩, ⟨1, (some 17), none, .mv (.s 45)⟩] [] (some [1, 17, 16, 15, 5, 3])))))
/-- (kerbstone/motion.Course).Own -/
abbrev f_motion_Course_Own : Nat := 110
def c_motion_Course_Own : CFn := { frz := true, rnd := none, nargs := 3, ntmps := 47, res := [(.slot 6)], code :=
  (.seq (.region 3 [⟨0, (some 3), none, .box 0 11 (.s 0)⟩, ⟨1, (some 5), none, .box 1 4 (.s 2)⟩, ⟨2, (some 6), none, .newsl 2 6⟩] [] (some [3, 5, 1]))
  (.seq (.seq (.region 0 [⟨0, (some 9), none, .load true 11 (.s 3)⟩, ⟨1, (some 10), none, .load true 4 (.s 5)⟩, ⟨2, (some 11), none, .call ⟨true⟩ (.k (.c (.fn 181 [] []))) [(.s 9), (.s 10)]⟩, ⟨3, (some 12), none, .un .not (.s 11)⟩] [] (some [12, 3, 5, 1]))
  (.cond (.s 12) (.seq (.region 0 [⟨0, (some 13), none, .mv (.s 1)⟩, ⟨1, (some 6), none, .mv (.s 13)⟩] [] (some [6]))
  .ret)
  .skip))
  (.seq (.seq (.region 0 [⟨0, (some 14), none, .faddr 5 (.s 3)⟩, ⟨1, (some 15), none, .load false 1 (.s 14)⟩, ⟨2, (some 16), none, .len (.s 15)⟩, ⟨3, (some 17), none, .mv (.k (.c (.int .i64 0)))⟩] [] (some [1, 17, 16, 15, 5, 3]))
  (.block 0 (.loop (some [1, 17, 16, 15, 5, 3]) c_motion_Course_Own_l1)))
  (.seq (.region 0 [⟨0, (some 46), none, .mv (.s 1)⟩, ⟨1, (some 6), none, .mv (.s 46)⟩] [] (some [6]))
  .ret)))) }
def c_kerbstoneref03_Origins_l1 : CC := (.seq (.seq (.region 0 [⟨0, (some 5), none, .mv (.s 4)⟩, ⟨1, (some 6), none, .faddr 1 (.s 1)⟩, ⟨2, (some 7), none, .load false 1 (.s 6)⟩, ⟨3, (some 8), none, .len (.s 7)⟩, ⟨4, (some 9), none, .bin .lss (.s 5) (.s 8)⟩] [] (some [9, 3, 4, 1]))
  (.cond (.s 9) .skip
  (.exit 0)))
  (.seq (.block 1 (.seq (.region 0 [⟨0, (some 12), none, .load true 5 (.s 1)⟩, ⟨1, (some 13), none, .mv (.s 4)⟩, ⟨2, (some 14), none, .call ⟨true⟩ (.k (.c (.fn 182 [] []))) [(.s 12), (.s 13)]⟩, ⟨3, (some 15), none, .len (.s 14)⟩, ⟨4, (some 16), none, .bin .eql (.s 15) (.k (.c (.int .i64 0)))⟩] [] (some [16, 3, 4, 1]))
  (.cond (.s 16) (.region 1 [⟨0, (some 17), none, .mv (.s 3)⟩, ⟨1, (some 18), none, .mv (.s 4)⟩, ⟨2, (some 19), none, .lit 0 1 [[(.int .i64 0)]] [(0, (.s 18))]⟩, ⟨3, (some 20), none, .append 1 8 (.s 17) (.s 19)⟩, ⟨4, (some 3), none, .mv (.s 20)⟩] [] (some [4, 3, 1]))
  .skip)))
  (.region 0 [⟨0, (some 10), none, .mv (.s 4)⟩, ⟨1, (some 11), none, .bin .add (.s 10) (.k (.c (.int .i64 1)))⟩, ⟨2, (some 4), none, .mv (.s 11)⟩] [] (some [3, 4, 1]))))
/-- kerbstone/kerbstoneref03.Origins -/
abbrev f_kerbstoneref03_Origins : Nat := 111
def c_kerbstoneref03_Origins : CFn := { frz := true, rnd := none, nargs := 1, ntmps := 22, res := [(.slot 2)], code :=
  (.seq (.region 2 [⟨0, (some 1), none, .box 0 5 (.s 0)⟩, ⟨1, (some 2), none, .newsl 1 1⟩] [] (some [1]))
  (.seq (.region 1 [⟨0, (some 3), none, .newsl 0 1⟩] [] (some [3, 1]))
  (.seq (.seq (.region 0 [⟨0, (some 4), none, .mv (.k (.c (.int .i64 0)))⟩] [] (some [3, 4, 1]))
  (.block 0 (.loop (some [3, 4, 1]) c_kerbstoneref03_Origins_l1)))
  (.seq (.region 0 [⟨0, (some 21), none, .mv (.s 3)⟩, ⟨1, (some 2), none, .mv (.s 21)⟩] [] (some [2]))
  .ret)))) }
/-- kerbstone/kerbstoneref05.less -/
abbrev f_kerbstoneref05_less : Nat := 112
def c_kerbstoneref05_less : CFn := { frz := true, rnd := none, nargs := 2, ntmps := 24, res := [(.slot 4)], code :=
  (.seq (.region 2 [⟨0, (some 2), none, .box 0 6 (.s 0)⟩, ⟨1, (some 3), none, .box 1 6 (.s 1)⟩, ⟨2, (some 4), none, .mv (.k (.c (.bool false)))⟩] [] (some [2, 3]))
  (.seq (.region 0 [⟨0, (some 5), none, .faddr 0 (.s 2)⟩, ⟨1, (some 6), none, .load false 1 (.s 5)⟩, ⟨2, (some 7), none, .faddr 0 (.s 3)⟩, ⟨3, (some 8), none, .load false 1 (.s 7)⟩, ⟨4, (some 9), none, .bin .lss (.s 6) (.s 8)⟩, ⟨5, (some 10), none, .mv (.s 9)⟩, ⟨6, (some 11), (some (10, false)), .faddr 0 (.s 2)⟩, ⟨7, (some 12), (some (10, false)), .load false 1 (.s 11)⟩, ⟨8, (some 13), (some (10, false)), .faddr 0 (.s 3)⟩, ⟨9, (some 14), (some (10, false)), .load false 1 (.s 13)⟩, ⟨10, (some 15), (some (10, false)), .bin .eql (.s 12) (.s 14)⟩, ⟨11, (some 16), (some (10, false)), .mv (.s 15)⟩, ⟨12, (some 17), (some (16, true)), .faddr 1 (.s 2)⟩, ⟨13, (some 18), (some (16, true)), .load false 1 (.s 17)⟩, ⟨14, (some 19), (some (16, true)), .faddr 1 (.s 3)⟩, ⟨15, (some 20), (some (16, true)), .load false 1 (.s 19)⟩, ⟨16, (some 21), (some (16, true)), .bin .lss (.s 18) (.s 20)⟩, ⟨17, (some 22), (some (10, false)), .pick (.s 16) (.s 21) (.k (.c (.bool false)))⟩, ⟨18, (some 23), none, .pick (.s 10) (.k (.c (.bool true))) (.s 22)⟩, ⟨19, (some 4), none, .mv (.s 23)⟩] [] (some [4]))
  .ret)) }
def c_kerbstoneref03_CheckRoute_l1 : CC := (.seq (.seq (.region 0 [⟨0, (some 44), none, .mv (.s 6)⟩, ⟨1, (some 45), none, .mv (.s 1)⟩, ⟨2, (some 46), none, .len (.s 45)⟩, ⟨3, (some 47), none, .bin .lss (.s 44) (.s 46)⟩] [] (some [47, 1, 2, 6]))
  (.cond (.s 47) .skip
  (.exit 0)))
  (.seq (.block 1 (.seq (.region 0 [⟨0, (some 50), none, .faddr 1 (.s 2)⟩, ⟨2, (some 52), none, .mv (.s 1)⟩, ⟨3, (some 53), none, .mv (.s 6)⟩, ⟨4, (some 54), none, .bin .sub (.s 53) (.k (.c (.int .i64 1)))⟩, ⟨5, (some 55), none, .iaddr 1 (.s 52) (.s 54)⟩, ⟨10, (some 60), none, .mv (.s 1)⟩, ⟨11, (some 61), none, .mv (.s 6)⟩, ⟨12, (some 62), none, .iaddr 1 (.s 60) (.s 61)⟩, ⟨1, (some 51), none, .load false 1 (.s 50)⟩, ⟨6, (some 56), none, .load false 1 (.s 55)⟩, ⟨7, (some 57), none, .iaddr 5 (.s 51) (.s 56)⟩, ⟨8, (some 58), none, .faddr 4 (.s 57)⟩, ⟨9, (some 59), none, .load false 1 (.s 58)⟩, ⟨13, (some 63), none, .load false 1 (.s 62)⟩, ⟨14, (some 64), none, .call ⟨true⟩ (.k (.c (.fn 183 [] []))) [(.s 59), (.s 63)]⟩, ⟨15, (some 65), none, .un .not (.s 64)⟩] [] (some [65, 1, 2, 6]))
  (.cond (.s 65) (.seq (.region 0 [⟨0, (some 4), none, .mv (.k (.c (.int .i64 13)))⟩] [] (some [4]))
  .ret)
  .skip)))
  (.region 0 [⟨0, (some 48), none, .mv (.s 6)⟩, ⟨1, (some 49), none, .bin .add (.s 48) (.k (.c (.int .i64 1)))⟩, ⟨2, (some 6), none, .mv (.s 49)⟩] [] (some [2, 1, 6]))))
/-- kerbstone/kerbstoneref03.CheckRoute -/
abbrev f_kerbstoneref03_CheckRoute : Nat := 113
def c_kerbstoneref03_CheckRoute : CFn := { frz := true, rnd := none, nargs := 2, ntmps := 66, res := [(.slot 4)], code :=
  (.seq (.region 1 [⟨0, (some 2), none, .box 0 5 (.s 0)⟩, ⟨1, (some 4), none, .mv (.k (.c (.int .i64 0)))⟩] [] (some [2, 1]))
  (.seq (.region 0 [⟨0, (some 7), none, .load true 5 (.s 2)⟩, ⟨1, (some 8), none, .call ⟨true⟩ (.k (.c (.fn 86 [] []))) [(.s 7)]⟩, ⟨2, (some 5), none, .mv (.s 8)⟩] [] (some [2, 1, 5]))
  (.seq (.seq (.region 0 [⟨0, (some 9), none, .mv (.s 5)⟩, ⟨1, (some 10), none, .bin .neq (.s 9) (.k (.c (.int .i64 0)))⟩] [] (some [10, 2, 1, 5]))
  (.cond (.s 10) (.seq (.region 0 [⟨0, (some 11), none, .mv (.s 5)⟩, ⟨1, (some 4), none, .mv (.s 11)⟩] [] (some [4]))
  .ret)
  .skip))
  (.seq (.seq (.region 0 [⟨0, (some 12), none, .mv (.s 1)⟩, ⟨1, (some 13), none, .len (.s 12)⟩, ⟨2, (some 14), none, .bin .eql (.s 13) (.k (.c (.int .i64 0)))⟩, ⟨3, (some 15), none, .mv (.s 14)⟩, ⟨4, (some 16), (some (15, false)), .mv (.s 1)⟩, ⟨5, (some 17), (some (15, false)), .len (.s 16)⟩, ⟨6, (some 18), (some (15, false)), .bin .gtr (.s 17) (.k (.c (.int .i64 8)))⟩, ⟨7, (some 19), none, .pick (.s 15) (.k (.c (.bool true))) (.s 18)⟩, ⟨8, (some 20), none, .mv (.s 19)⟩, ⟨9, (some 21), (some (20, false)), .mv (.s 1)⟩, ⟨10, (some 22), (some (20, false)), .iaddr 1 (.s 21) (.k (.c (.int .i64 0)))⟩, ⟨11, (some 23), (some (20, false)), .load false 1 (.s 22)⟩, ⟨12, (some 24), (some (20, false)), .bin .lss (.s 23) (.k (.c (.int .i64 0)))⟩, ⟨13, (some 25), none, .pick (.s 20) (.k (.c (.bool true))) (.s 24)⟩, ⟨14, (some 26), none, .mv (.s 25)⟩, ⟨15, (some 27), (some (26, false)), .mv (.s 1)⟩, ⟨16, (some 28), (some (26, false)), .iaddr 1 (.s 27) (.k (.c (.int .i64 0)))⟩, ⟨18, (some 30), (some (26, false)), .faddr 1 (.s 2)⟩, ⟨17, (some 29), (some (26, false)), .load false 1 (.s 28)⟩, ⟨19, (some 31), (some (26, false)), .load false 1 (.s 30)⟩, ⟨20, (some 32), (some (26, false)), .len (.s 31)⟩, ⟨21, (some 33), (some (26, false)), .bin .geq (.s 29) (.s 32)⟩, ⟨22, (some 34), none, .pick (.s 26) (.k (.c (.bool true))) (.s 33)⟩, ⟨23, (some 35), none, .mv (.s 34)⟩, ⟨25, (some 37), (some (35, false)), .mv (.s 1)⟩, ⟨26, (some 38), (some (35, false)), .iaddr 1 (.s 37) (.k (.c (.int .i64 0)))⟩, ⟨24, (some 36), (some (35, false)), .load true 5 (.s 2)⟩, ⟨27, (some 39), (some (35, false)), .load false 1 (.s 38)⟩, ⟨28, (some 40), (some (35, false)), .call ⟨true⟩ (.k (.c (.fn 182 [] []))) [(.s 36), (.s 39)]⟩, ⟨29, (some 41), (some (35, false)), .len (.s 40)⟩, ⟨30, (some 42), (some (35, false)), .bin .gtr (.s 41) (.k (.c (.int .i64 0)))⟩, ⟨31, (some 43), none, .pick (.s 35) (.k (.c (.bool true))) (.s 42)⟩] [] (some [43, 1, 2]))
  (.cond (.s 43) (.seq (.region 0 [⟨0, (some 4), none, .mv (.k (.c (.int .i64 13)))⟩] [] (some [4]))
  .ret)
  .skip))
  (.seq (.seq (.region 0 [⟨0, (some 6), none, .mv (.k (.c (.int .i64 1)))⟩] [] (some [2, 1, 6]))
  (.block 0 (.loop (some [2, 1, 6]) c_kerbstoneref03_CheckRoute_l1)))
  (.seq (.region 0 [⟨0, (some 4), none, .mv (.k (.c (.int .i64 0)))⟩] [] (some [4]))
  .ret)))))) }
def c_kerbstoneref03_Begins_l1 : CC := (.seq (.seq (.region 0 [⟨0, (some 9), none, .mv (.s 8)⟩, ⟨1, (some 10), none, .mv (.s 1)⟩, ⟨2, (some 11), none, .len (.s 10)⟩, ⟨3, (some 12), none, .bin .lss (.s 9) (.s 11)⟩] [] (some [12, 6, 7, 8, 1, 2]))
  (.cond (.s 12) .skip
  (.exit 0)))
  (.seq (.block 1 (.seq (.region 1 [⟨0, (some 15), none, .mv (.s 6)⟩, ⟨1, (some 16), none, .mv (.s 7)⟩, ⟨2, (some 17), none, .lit 0 1 [[(.int .i64 0)]] [(0, (.s 16))]⟩, ⟨3, (some 18), none, .append 1 8 (.s 15) (.s 17)⟩, ⟨4, (some 6), none, .mv (.s 18)⟩] [] (some [7, 8, 6, 1, 2]))
  (.region 0 [⟨0, (some 19), none, .mv (.s 7)⟩, ⟨2, (some 21), none, .mv (.s 1)⟩, ⟨3, (some 22), none, .mv (.s 8)⟩, ⟨4, (some 23), none, .iaddr 1 (.s 21) (.s 22)⟩, ⟨1, (some 20), none, .load true 5 (.s 2)⟩, ⟨5, (some 24), none, .load false 1 (.s 23)⟩, ⟨6, (some 25), none, .call ⟨true⟩ (.k (.c (.fn 62 [] []))) [(.s 20), (.s 24)]⟩, ⟨7, (some 26), none, .bin .add (.s 19) (.s 25)⟩, ⟨8, (some 7), none, .mv (.s 26)⟩] [] (some [8, 6, 7, 1, 2]))))
  (.region 0 [⟨0, (some 13), none, .mv (.s 8)⟩, ⟨1, (some 14), none, .bin .add (.s 13) (.k (.c (.int .i64 1)))⟩, ⟨2, (some 8), none, .mv (.s 14)⟩] [] (some [6, 7, 8, 1, 2]))))
/-- kerbstone/kerbstoneref03.Begins -/
abbrev f_kerbstoneref03_Begins : Nat := 114
def c_kerbstoneref03_Begins : CFn := { frz := true, rnd := none, nargs := 2, ntmps := 29, res := [(.slot 4), (.slot 5)], code :=
  (.seq (.region 2 [⟨0, (some 2), none, .box 0 5 (.s 0)⟩, ⟨1, (some 4), none, .newsl 1 1⟩, ⟨2, (some 5), none, .mv (.k (.c (.int .i64 0)))⟩] [] (some [1, 2]))
  (.seq (.region 1 [⟨0, (some 6), none, .newsl 0 1⟩] [] (some [6, 1, 2]))
  (.seq (.region 0 [⟨0, (some 7), none, .mv (.k (.c (.int .i64 0)))⟩] [] (some [6, 7, 1, 2]))
  (.seq (.seq (.region 0 [⟨0, (some 8), none, .mv (.k (.c (.int .i64 0)))⟩] [] (some [6, 7, 8, 1, 2]))
  (.block 0 (.loop (some [6, 7, 8, 1, 2]) c_kerbstoneref03_Begins_l1)))
  (.seq (.region 0 [⟨0, (some 27), none, .mv (.s 6)⟩, ⟨1, (some 28), none, .mv (.s 7)⟩, ⟨2, (some 4), none, .mv (.s 27)⟩, ⟨3, (some 5), none, .mv (.s 28)⟩] [] (some [4, 5]))
  .ret))))) }
/-- (kerbstone/roads.check).numbers -/
abbrev f_roads_check_numbers : Nat := 115
def c_roads_check_numbers : CFn := { frz := true, rnd := none, nargs := 1, ntmps := 42, res := [(.slot 2)], code :=
  (.seq (.region 1 [⟨0, (some 1), none, .box 0 5 (.s 0)⟩, ⟨1, (some 2), none, .mv (.k (.c (.int .i64 0)))⟩] [] (some [1]))
  (.seq (.block 0 (.seq (.region 0 [⟨0, (some 4), none, .faddr 0 (.s 1)⟩, ⟨1, (some 5), none, .faddr 0 (.s 4)⟩, ⟨2, (some 6), none, .load false 1 (.s 5)⟩, ⟨3, (some 7), none, .call ⟨true⟩ (.k (.c (.fn 184 [] []))) [(.s 6), (.k (.c (.int .i64 0))), (.k (.c (.int .i64 1099511627776)))]⟩, ⟨4, (some 8), none, .un .not (.s 7)⟩, ⟨5, (some 3), none, .mv (.s 8)⟩] [] (some [3, 1]))
  (.cond (.s 3) (.seq (.region 0 [⟨0, (some 2), none, .mv (.k (.c (.int .i64 2)))⟩] [] (some [2]))
  .ret)
  (.seq (.region 0 [⟨0, (some 10), none, .faddr 0 (.s 1)⟩, ⟨1, (some 11), none, .faddr 1 (.s 10)⟩, ⟨2, (some 12), none, .load false 1 (.s 11)⟩, ⟨3, (some 13), none, .len (.s 12)⟩, ⟨4, (some 14), none, .bin .eql (.s 13) (.k (.c (.int .i64 0)))⟩, ⟨5, (some 9), none, .mv (.s 14)⟩] [] (some [9, 1]))
  (.cond (.s 9) (.seq (.region 0 [⟨0, (some 2), none, .mv (.k (.c (.int .i64 6)))⟩] [] (some [2]))
  .ret)
  (.seq (.region 0 [⟨0, (some 16), none, .faddr 0 (.s 1)⟩, ⟨1, (some 17), none, .faddr 1 (.s 16)⟩, ⟨2, (some 18), none, .load false 1 (.s 17)⟩, ⟨3, (some 19), none, .len (.s 18)⟩, ⟨4, (some 20), none, .bin .gtr (.s 19) (.k (.c (.int .i64 12)))⟩, ⟨5, (some 21), none, .mv (.s 20)⟩, ⟨6, (some 22), (some (21, false)), .faddr 0 (.s 1)⟩, ⟨7, (some 23), (some (21, false)), .faddr 2 (.s 22)⟩, ⟨8, (some 24), (some (21, false)), .load false 1 (.s 23)⟩, ⟨9, (some 25), (some (21, false)), .len (.s 24)⟩, ⟨10, (some 26), (some (21, false)), .bin .gtr (.s 25) (.k (.c (.int .i64 12)))⟩, ⟨11, (some 27), none, .pick (.s 21) (.k (.c (.bool true))) (.s 26)⟩, ⟨12, (some 28), none, .mv (.s 27)⟩, ⟨13, (some 29), (some (28, false)), .faddr 0 (.s 1)⟩, ⟨14, (some 30), (some (28, false)), .faddr 3 (.s 29)⟩, ⟨15, (some 31), (some (28, false)), .load false 1 (.s 30)⟩, ⟨16, (some 32), (some (28, false)), .len (.s 31)⟩, ⟨17, (some 33), (some (28, false)), .bin .gtr (.s 32) (.k (.c (.int .i64 4)))⟩, ⟨18, (some 34), none, .pick (.s 28) (.k (.c (.bool true))) (.s 33)⟩, ⟨19, (some 35), none, .mv (.s 34)⟩, ⟨20, (some 36), (some (35, false)), .faddr 0 (.s 1)⟩, ⟨21, (some 37), (some (35, false)), .faddr 4 (.s 36)⟩, ⟨22, (some 38), (some (35, false)), .load false 1 (.s 37)⟩, ⟨23, (some 39), (some (35, false)), .len (.s 38)⟩, ⟨24, (some 40), (some (35, false)), .bin .gtr (.s 39) (.k (.c (.int .i64 8)))⟩, ⟨25, (some 41), none, .pick (.s 35) (.k (.c (.bool true))) (.s 40)⟩, ⟨26, (some 15), none, .mv (.s 41)⟩] [] (some [15]))
  (.cond (.s 15) (.seq (.region 0 [⟨0, (some 2), none, .mv (.k (.c (.int .i64 8)))⟩] [] (some [2]))
  .ret)
  .skip)))))))
  (.seq (.region 0 [⟨0, (some 2), none, .mv (.k (.c (.int .i64 0)))⟩] [] (some [2]))
  .ret))) }
def c_roads_check_lanes_l1 : CC := (.seq (.region 0 [⟨0, (some 14), none, .bin .lss (.s 13) (.s 12)⟩] [] (some [14, 1, 11, 12, 13]))
  (.seq (.cond (.s 14) .skip
  (.exit 0))
  (.seq (.block 1 (.seq (.region 1 [⟨0, (some 15), none, .mv (.s 13)⟩, ⟨1, (some 16), none, .iaddr 5 (.s 11) (.s 13)⟩, ⟨2, (some 17), none, .load true 5 (.s 16)⟩, ⟨3, (some 4), none, .box 0 5 (.k (.a [(.int .i64 0), .nilslice, (.int .i64 0), (.int .i64 0), .nilslice]))⟩, ⟨4, (some 3), none, .mv (.s 15)⟩, ⟨5, none, none, .store 5 (.s 4) (.s 17)⟩] [] (some [4, 3, 1, 11, 12, 13]))
  (.seq (.region 0 [⟨0, (some 19), none, .faddr 0 (.s 4)⟩, ⟨1, (some 20), none, .load false 1 (.s 19)⟩, ⟨2, (some 21), none, .call ⟨true⟩ (.k (.c (.fn 55 [] []))) [(.s 20)]⟩, ⟨3, (some 18), none, .mv (.s 21)⟩, ⟨4, (some 22), none, .extract 18 0⟩, ⟨5, (some 23), none, .extract 18 1⟩, ⟨6, (some 24), none, .extract 18 2⟩, ⟨7, (some 5), none, .mv (.s 22)⟩, ⟨8, (some 6), none, .mv (.s 23)⟩, ⟨9, (some 7), none, .mv (.s 24)⟩] [] (some [5, 4, 3, 1, 11, 12, 13]))
  (.seq (.seq (.region 0 [⟨0, (some 25), none, .mv (.s 5)⟩, ⟨1, (some 26), none, .bin .eql (.s 25) (.k (.c (.int .i64 0)))⟩] [] (some [26, 5, 4, 3, 1, 11, 12, 13]))
  (.cond (.s 26) (.seq (.region 0 [⟨0, (some 2), none, .mv (.k (.c (.int .i64 4)))⟩] [] (some [2]))
  .ret)
  .skip))
  (.seq (.seq (.region 0 [⟨0, (some 27), none, .faddr 1 (.s 4)⟩, ⟨1, (some 28), none, .load true 1 (.s 27)⟩, ⟨2, (some 29), none, .call ⟨true⟩ (.k (.c (.fn 185 [] []))) [(.s 28)]⟩, ⟨3, (some 8), none, .mv (.s 29)⟩] [] (some [13, 12, 11, 1, 3, 4, 5, 8]))
  (.seq (.region 0 [⟨0, (some 30), none, .mv (.s 8)⟩, ⟨1, (some 31), none, .bin .neq (.s 30) (.k (.c (.int .i64 0)))⟩] [] (some [31, 13, 12, 11, 1, 3, 4, 5, 8]))
  (.cond (.s 31) (.seq (.region 0 [⟨0, (some 32), none, .mv (.s 8)⟩, ⟨1, (some 2), none, .mv (.s 32)⟩] [] (some [2]))
  .ret)
  .skip)))
  (.block 2 (.seq (.region 0 [⟨0, (some 34), none, .faddr 2 (.s 4)⟩, ⟨1, (some 35), none, .load false 1 (.s 34)⟩, ⟨2, (some 36), none, .call ⟨true⟩ (.k (.c (.fn 184 [] []))) [(.s 35), (.k (.c (.int .i64 200))), (.k (.c (.int .i64 4000)))]⟩, ⟨3, (some 37), none, .un .not (.s 36)⟩, ⟨4, (some 38), none, .mv (.s 37)⟩, ⟨5, (some 39), (some (38, false)), .faddr 3 (.s 4)⟩, ⟨6, (some 40), (some (38, false)), .load false 1 (.s 39)⟩, ⟨7, (some 41), (some (38, false)), .mv (.s 5)⟩, ⟨8, (some 42), (some (38, false)), .call ⟨true⟩ (.k (.c (.fn 184 [] []))) [(.s 40), (.k (.c (.int .i64 1))), (.s 41)]⟩, ⟨9, (some 43), (some (38, false)), .un .not (.s 42)⟩, ⟨10, (some 44), none, .pick (.s 38) (.k (.c (.bool true))) (.s 43)⟩, ⟨11, (some 33), none, .mv (.s 44)⟩] [] (some [33, 4, 3, 1, 11, 12, 13]))
  (.cond (.s 33) (.seq (.region 0 [⟨0, (some 2), none, .mv (.k (.c (.int .i64 2)))⟩] [] (some [2]))
  .ret)
  (.seq (.region 0 [⟨0, (some 46), none, .faddr 4 (.s 4)⟩, ⟨1, (some 47), none, .load false 1 (.s 46)⟩, ⟨2, (some 48), none, .len (.s 47)⟩, ⟨3, (some 49), none, .bin .gtr (.s 48) (.k (.c (.int .i64 3)))⟩, ⟨4, (some 45), none, .mv (.s 49)⟩] [] (some [45, 13, 12, 11, 1, 3, 4]))
  (.cond (.s 45) (.seq (.region 0 [⟨0, (some 2), none, .mv (.k (.c (.int .i64 8)))⟩] [] (some [2]))
  .ret)
  (.seq (.region 0 [⟨0, (some 51), none, .faddr 4 (.s 4)⟩, ⟨1, (some 52), none, .load false 1 (.s 51)⟩, ⟨2, (some 53), none, .mv (.s 3)⟩, ⟨3, (some 54), none, .bin .add (.s 53) (.k (.c (.int .i64 1)))⟩, ⟨4, (some 55), none, .faddr 0 (.s 1)⟩, ⟨5, (some 56), none, .faddr 1 (.s 55)⟩, ⟨6, (some 57), none, .load false 1 (.s 56)⟩, ⟨7, (some 58), none, .len (.s 57)⟩, ⟨8, (some 59), none, .call ⟨true⟩ (.k (.c (.fn 186 [] []))) [(.s 52), (.s 54), (.s 58)]⟩, ⟨9, (some 60), none, .un .not (.s 59)⟩, ⟨10, (some 50), none, .mv (.s 60)⟩] [] (some [50, 1, 11, 12, 13]))
  (.cond (.s 50) (.seq (.region 0 [⟨0, (some 2), none, .mv (.k (.c (.int .i64 11)))⟩] [] (some [2]))
  .ret)
  .skip))))))))))))
  (.region 0 [⟨0, (some 61), none, .bin .add (.s 13) (.k (.c (.int .i64 1)))⟩, ⟨1, (some 13), none, .mv (.s 61)⟩] [] (some [12, 11, 1, 13])))))
/-- (kerbstone/roads.check).lanes -/
abbrev f_roads_check_lanes : Nat := 116
def c_roads_check_lanes : CFn := { frz := true, rnd := none, nargs := 1, ntmps := 62, res := [(.slot 2)], code :=
  (.seq (.region 1 [⟨0, (some 1), none, .box 0 5 (.s 0)⟩, ⟨1, (some 2), none, .mv (.k (.c (.int .i64 0)))⟩] [] (some [1]))
  (.seq (.seq (.region 0 [⟨0, (some 9), none, .faddr 0 (.s 1)⟩, ⟨1, (some 10), none, .faddr 1 (.s 9)⟩, ⟨2, (some 11), none, .load false 1 (.s 10)⟩, ⟨3, (some 12), none, .len (.s 11)⟩, ⟨4, (some 13), none, .mv (.k (.c (.int .i64 0)))⟩] [] (some [12, 11, 1, 13]))
  (.block 0 (.loop (some [12, 11, 1, 13]) c_roads_check_lanes_l1)))
  (.seq (.region 0 [⟨0, (some 2), none, .mv (.k (.c (.int .i64 0)))⟩] [] (some [2]))
  .ret))) }
def c_roads_check_joints_l1 : CC := (.seq (.region 0 [⟨0, (some 30), none, .bin .lss (.s 29) (.s 28)⟩] [] (some [30, 29, 28, 10, 11, 12, 27, 4, 5, 1]))
  (.seq (.cond (.s 30) .skip
  (.exit 2))
  (.seq (.block 3 (.seq (.region 0 [⟨0, (some 31), none, .iaddr 1 (.s 27) (.s 29)⟩, ⟨1, (some 32), none, .load false 1 (.s 31)⟩, ⟨2, (some 7), none, .mv (.s 32)⟩] [] (some [29, 28, 10, 11, 12, 27, 4, 5, 1, 7]))
  (.seq (.seq (.region 0 [⟨0, (some 33), none, .faddr 0 (.s 1)⟩, ⟨1, (some 34), none, .faddr 1 (.s 33)⟩, ⟨3, (some 36), none, .mv (.s 7)⟩, ⟨7, (some 40), none, .faddr 0 (.s 4)⟩, ⟨2, (some 35), none, .load false 1 (.s 34)⟩, ⟨4, (some 37), none, .iaddr 5 (.s 35) (.s 36)⟩, ⟨5, (some 38), none, .faddr 0 (.s 37)⟩, ⟨6, (some 39), none, .load false 1 (.s 38)⟩, ⟨8, (some 41), none, .load false 1 (.s 40)⟩, ⟨9, (some 42), none, .bin .neq (.s 39) (.s 41)⟩] [] (some [42, 29, 28, 10, 11, 12, 27, 4, 5, 1, 7]))
  (.cond (.s 42) (.seq (.region 0 [⟨0, (some 2), none, .mv (.k (.c (.int .i64 4)))⟩] [] (some [2]))
  .ret)
  .skip))
  (.seq (.region 0 [⟨0, (some 43), none, .faddr 0 (.s 1)⟩, ⟨1, (some 44), none, .faddr 1 (.s 43)⟩, ⟨3, (some 46), none, .mv (.s 7)⟩, ⟨2, (some 45), none, .load false 1 (.s 44)⟩, ⟨4, (some 47), none, .iaddr 5 (.s 45) (.s 46)⟩, ⟨5, (some 48), none, .faddr 1 (.s 47)⟩, ⟨6, (some 49), none, .faddr 0 (.s 48)⟩, ⟨7, (some 50), none, .load false 1 (.s 49)⟩, ⟨8, (some 51), none, .iaddr 2 (.s 50) (.k (.c (.int .i64 0)))⟩, ⟨9, (some 52), none, .load true 2 (.s 51)⟩, ⟨10, (some 53), none, .load true 2 (.s 5)⟩, ⟨11, (some 54), none, .eqa true [false, false] (.s 52) (.s 53)⟩] [] (some [54, 1, 5, 4, 27, 12, 11, 10, 28, 29]))
  (.cond (.s 54) (.seq (.region 0 [⟨0, (some 2), none, .mv (.k (.c (.int .i64 3)))⟩] [] (some [2]))
  .ret)
  .skip)))))
  (.region 0 [⟨0, (some 55), none, .bin .add (.s 29) (.k (.c (.int .i64 1)))⟩, ⟨1, (some 29), none, .mv (.s 55)⟩] [] (some [29, 28, 10, 11, 12, 27, 4, 5, 1])))))
def c_roads_check_joints_l2 : CC := (.seq (.region 0 [⟨0, (some 13), none, .bin .lss (.s 12) (.s 11)⟩] [] (some [13, 10, 11, 12, 1]))
  (.seq (.cond (.s 13) .skip
  (.exit 0))
  (.seq (.block 1 (.seq (.region 1 [⟨0, (some 14), none, .iaddr 5 (.s 10) (.s 12)⟩, ⟨1, (some 15), none, .load true 5 (.s 14)⟩, ⟨2, (some 4), none, .box 0 5 (.k (.a [(.int .i64 0), .nilslice, (.int .i64 0), (.int .i64 0), .nilslice]))⟩, ⟨3, none, none, .store 5 (.s 4) (.s 15)⟩] [] (some [10, 11, 12, 4, 1]))
  (.seq (.region 1 [⟨0, (some 16), none, .faddr 1 (.s 4)⟩, ⟨1, (some 17), none, .faddr 0 (.s 16)⟩, ⟨2, (some 18), none, .load false 1 (.s 17)⟩, ⟨3, (some 19), none, .faddr 1 (.s 4)⟩, ⟨4, (some 20), none, .faddr 0 (.s 19)⟩, ⟨5, (some 21), none, .load false 1 (.s 20)⟩, ⟨6, (some 22), none, .len (.s 21)⟩, ⟨7, (some 23), none, .bin .sub (.s 22) (.k (.c (.int .i64 1)))⟩, ⟨8, (some 24), none, .iaddr 2 (.s 18) (.s 23)⟩, ⟨9, (some 25), none, .load true 2 (.s 24)⟩, ⟨10, (some 5), none, .box 0 2 (.k (.a [(.int .i64 0), (.int .i64 0)]))⟩, ⟨11, none, none, .store 2 (.s 5) (.s 25)⟩] [] (some [10, 11, 12, 4, 5, 1]))
  (.seq (.region 0 [⟨0, (some 26), none, .faddr 4 (.s 4)⟩, ⟨1, (some 27), none, .load false 1 (.s 26)⟩, ⟨2, (some 28), none, .len (.s 27)⟩, ⟨3, (some 29), none, .mv (.k (.c (.int .i64 0)))⟩] [] (some [29, 28, 10, 11, 12, 27, 4, 5, 1]))
  (.block 2 (.loop (some [29, 28, 10, 11, 12, 27, 4, 5, 1]) c_roads_check_joints_l1))))))
  (.region 0 [⟨0, (some 56), none, .bin .add (.s 12) (.k (.c (.int .i64 1)))⟩, ⟨1, (some 12), none, .mv (.s 56)⟩] [] (some [11, 10, 12, 1])))))
/-- (kerbstone/roads.check).joints -/
abbrev f_roads_check_joints : Nat := 117
def c_roads_check_joints : CFn := { frz := true, rnd := none, nargs := 1, ntmps := 57, res := [(.slot 2)], code :=
  (.seq (.region 1 [⟨0, (some 1), none, .box 0 5 (.s 0)⟩, ⟨1, (some 2), none, .mv (.k (.c (.int .i64 0)))⟩] [] (some [1]))
  (.seq (.seq (.region 0 [⟨0, (some 8), none, .faddr 0 (.s 1)⟩, ⟨1, (some 9), none, .faddr 1 (.s 8)⟩, ⟨2, (some 10), none, .load false 1 (.s 9)⟩, ⟨3, (some 11), none, .len (.s 10)⟩, ⟨4, (some 12), none, .mv (.k (.c (.int .i64 0)))⟩] [] (some [11, 10, 12, 1]))
  (.block 0 (.loop (some [11, 10, 12, 1]) c_roads_check_joints_l2)))
  (.seq (.region 0 [⟨0, (some 2), none, .mv (.k (.c (.int .i64 0)))⟩] [] (some [2]))
  .ret))) }
def c_roads_check_signals_l1 : CC := (.seq (.region 0 [⟨0, (some 11), none, .bin .lss (.s 10) (.s 9)⟩] [] (some [11, 1, 8, 9, 10]))
  (.seq (.cond (.s 11) .skip
  (.exit 0))
  (.seq (.block 1 (.seq (.region 1 [⟨0, (some 12), none, .iaddr 2 (.s 8) (.s 10)⟩, ⟨1, (some 13), none, .load true 2 (.s 12)⟩, ⟨2, (some 4), none, .box 0 2 (.k (.a [(.int .i64 0), .nilslice]))⟩, ⟨3, none, none, .store 2 (.s 4) (.s 13)⟩] [] (some [4, 1, 8, 9, 10]))
  (.seq (.region 0 [⟨0, (some 14), none, .faddr 1 (.s 4)⟩, ⟨1, (some 15), none, .load false 1 (.s 14)⟩, ⟨2, (some 16), none, .len (.s 15)⟩, ⟨3, (some 5), none, .mv (.s 16)⟩] [] (some [4, 1, 8, 9, 10, 5]))
  (.block 2 (.seq (.region 0 [⟨0, (some 18), none, .mv (.s 5)⟩, ⟨1, (some 19), none, .bin .eql (.s 18) (.k (.c (.int .i64 0)))⟩, ⟨2, (some 17), none, .mv (.s 19)⟩] [] (some [17, 4, 1, 8, 9, 10, 5]))
  (.cond (.s 17) (.seq (.region 0 [⟨0, (some 2), none, .mv (.k (.c (.int .i64 6)))⟩] [] (some [2]))
  .ret)
  (.seq (.region 0 [⟨0, (some 21), none, .mv (.s 5)⟩, ⟨1, (some 22), none, .bin .gtr (.s 21) (.k (.c (.int .i64 6)))⟩, ⟨2, (some 20), none, .mv (.s 22)⟩] [] (some [20, 10, 9, 8, 1, 4]))
  (.cond (.s 20) (.seq (.region 0 [⟨0, (some 2), none, .mv (.k (.c (.int .i64 8)))⟩] [] (some [2]))
  .ret)
  (.seq (.region 0 [⟨0, (some 24), none, .faddr 0 (.s 4)⟩, ⟨1, (some 25), none, .load false 1 (.s 24)⟩, ⟨2, (some 26), none, .call ⟨true⟩ (.k (.c (.fn 184 [] []))) [(.s 25), (.k (.c (.int .i64 0))), (.k (.c (.int .i64 1099511627776)))]⟩, ⟨3, (some 27), none, .un .not (.s 26)⟩, ⟨4, (some 23), none, .mv (.s 27)⟩] [] (some [23, 4, 1, 8, 9, 10]))
  (.cond (.s 23) (.seq (.region 0 [⟨0, (some 2), none, .mv (.k (.c (.int .i64 2)))⟩] [] (some [2]))
  .ret)
  (.seq (.region 0 [⟨0, (some 29), none, .faddr 1 (.s 4)⟩, ⟨1, (some 30), none, .load false 1 (.s 29)⟩, ⟨2, (some 31), none, .call ⟨true⟩ (.k (.c (.fn 187 [] []))) [(.s 30), (.k (.c (.fn 188 [] [])))]⟩, ⟨3, (some 28), none, .mv (.s 31)⟩] [] (some [28, 10, 9, 8, 1, 4]))
  (.cond (.s 28) (.seq (.region 0 [⟨0, (some 2), none, .mv (.k (.c (.int .i64 2)))⟩] [] (some [2]))
  .ret)
  (.seq (.region 0 [⟨0, (some 33), none, .faddr 1 (.s 4)⟩, ⟨1, (some 34), none, .load false 1 (.s 33)⟩, ⟨2, (some 35), none, .mkfn 189 [] [(.s 1)]⟩, ⟨3, (some 36), none, .call ⟨true⟩ (.k (.c (.fn 187 [] []))) [(.s 34), (.s 35)]⟩, ⟨4, (some 32), none, .mv (.s 36)⟩] [] (some [32, 1, 8, 9, 10]))
  (.cond (.s 32) (.seq (.region 0 [⟨0, (some 2), none, .mv (.k (.c (.int .i64 11)))⟩] [] (some [2]))
  .ret)
  .skip))))))))))))))
  (.region 0 [⟨0, (some 37), none, .bin .add (.s 10) (.k (.c (.int .i64 1)))⟩, ⟨1, (some 10), none, .mv (.s 37)⟩] [] (some [9, 8, 1, 10])))))
/-- (kerbstone/roads.check).signals -/
abbrev f_roads_check_signals : Nat := 118
def c_roads_check_signals : CFn := { frz := true, rnd := none, nargs := 1, ntmps := 38, res := [(.slot 2)], code :=
  (.seq (.region 1 [⟨0, (some 1), none, .box 0 5 (.s 0)⟩, ⟨1, (some 2), none, .mv (.k (.c (.int .i64 0)))⟩] [] (some [1]))
  (.seq (.seq (.region 0 [⟨0, (some 6), none, .faddr 0 (.s 1)⟩, ⟨1, (some 7), none, .faddr 3 (.s 6)⟩, ⟨2, (some 8), none, .load false 1 (.s 7)⟩, ⟨3, (some 9), none, .len (.s 8)⟩, ⟨4, (some 10), none, .mv (.k (.c (.int .i64 0)))⟩] [] (some [9, 8, 1, 10]))
  (.block 0 (.loop (some [9, 8, 1, 10]) c_roads_check_signals_l1)))
  (.seq (.region 0 [⟨0, (some 2), none, .mv (.k (.c (.int .i64 0)))⟩] [] (some [2]))
  .ret))) }
def c_roads_check_zones_l1 : CC := (.seq (.region 0 [⟨0, (some 45), none, .bin .lss (.s 44) (.s 43)⟩] [] (some [45, 6, 44, 43, 4, 13, 14, 15, 1, 42]))
  (.seq (.cond (.s 45) .skip
  (.exit 3))
  (.seq (.block 4 (.seq (.region 1 [⟨0, (some 46), none, .iaddr 4 (.s 42) (.s 44)⟩, ⟨1, (some 47), none, .load true 4 (.s 46)⟩, ⟨2, (some 8), none, .box 0 4 (.k (.a [(.int .i64 0), (.int .i64 0), (.int .i64 0), (.int .i64 0)]))⟩, ⟨3, none, none, .store 4 (.s 8) (.s 47)⟩] [] (some [6, 8, 44, 43, 4, 13, 14, 15, 1, 42]))
  (.region 1 [⟨0, (some 48), none, .mv (.s 6)⟩, ⟨1, (some 49), none, .faddr 0 (.s 8)⟩, ⟨2, (some 50), none, .load false 1 (.s 49)⟩, ⟨3, (some 51), none, .lit 0 1 [[(.int .i64 0)]] [(0, (.s 50))]⟩, ⟨4, (some 52), none, .append 1 8 (.s 48) (.s 51)⟩, ⟨5, (some 6), none, .mv (.s 52)⟩] [] (some [44, 6, 43, 4, 13, 14, 15, 1, 42]))))
  (.region 0 [⟨0, (some 53), none, .bin .add (.s 44) (.k (.c (.int .i64 1)))⟩, ⟨1, (some 44), none, .mv (.s 53)⟩] [] (some [6, 44, 43, 4, 13, 14, 15, 1, 42])))))
def c_roads_check_zones_l2 : CC := (.seq (.region 0 [⟨0, (some 65), none, .bin .lss (.s 64) (.s 63)⟩] [] (some [65, 1, 62, 15, 14, 13, 63, 64]))
  (.seq (.cond (.s 65) .skip
  (.exit 5))
  (.seq (.block 6 (.seq (.region 1 [⟨0, (some 66), none, .iaddr 4 (.s 62) (.s 64)⟩, ⟨1, (some 67), none, .load true 4 (.s 66)⟩, ⟨2, (some 10), none, .box 0 4 (.k (.a [(.int .i64 0), (.int .i64 0), (.int .i64 0), (.int .i64 0)]))⟩, ⟨3, none, none, .store 4 (.s 10) (.s 67)⟩] [] (some [10, 1, 62, 15, 14, 13, 63, 64]))
  (.seq (.region 0 [⟨0, (some 68), none, .faddr 1 (.s 10)⟩, ⟨1, (some 69), none, .load false 1 (.s 68)⟩, ⟨2, (some 70), none, .bin .lss (.s 69) (.k (.c (.int .i64 0)))⟩, ⟨3, (some 71), none, .mv (.s 70)⟩, ⟨4, (some 72), (some (71, false)), .faddr 1 (.s 10)⟩, ⟨6, (some 74), (some (71, false)), .faddr 2 (.s 10)⟩, ⟨5, (some 73), (some (71, false)), .load false 1 (.s 72)⟩, ⟨7, (some 75), (some (71, false)), .load false 1 (.s 74)⟩, ⟨8, (some 76), (some (71, false)), .bin .geq (.s 73) (.s 75)⟩, ⟨9, (some 77), none, .pick (.s 71) (.k (.c (.bool true))) (.s 76)⟩, ⟨10, (some 78), none, .mv (.s 77)⟩, ⟨11, (some 79), (some (78, false)), .faddr 2 (.s 10)⟩, ⟨13, (some 81), (some (78, false)), .faddr 0 (.s 1)⟩, ⟨15, (some 83), (some (78, false)), .faddr 0 (.s 10)⟩, ⟨12, (some 80), (some (78, false)), .load false 1 (.s 79)⟩, ⟨14, (some 82), (some (78, false)), .load true 5 (.s 81)⟩, ⟨16, (some 84), (some (78, false)), .load false 1 (.s 83)⟩, ⟨17, (some 85), (some (78, false)), .call ⟨true⟩ (.k (.c (.fn 122 [] []))) [(.s 82), (.s 84)]⟩, ⟨18, (some 86), (some (78, false)), .bin .gtr (.s 80) (.s 85)⟩, ⟨19, (some 87), none, .pick (.s 78) (.k (.c (.bool true))) (.s 86)⟩, ⟨20, (some 88), none, .mv (.s 87)⟩, ⟨21, (some 89), (some (88, false)), .faddr 3 (.s 10)⟩, ⟨22, (some 90), (some (88, false)), .load false 1 (.s 89)⟩, ⟨23, (some 91), (some (88, false)), .bin .lss (.s 90) (.k (.c (.int .i64 0)))⟩, ⟨24, (some 92), none, .pick (.s 88) (.k (.c (.bool true))) (.s 91)⟩, ⟨25, (some 93), none, .mv (.s 92)⟩, ⟨26, (some 94), (some (93, false)), .faddr 3 (.s 10)⟩, ⟨27, (some 95), (some (93, false)), .load false 1 (.s 94)⟩, ⟨28, (some 96), (some (93, false)), .bin .gtr (.s 95) (.k (.c (.int .i64 100)))⟩, ⟨29, (some 97), none, .pick (.s 93) (.k (.c (.bool true))) (.s 96)⟩] [(14, 17)] (some [97, 1, 62, 15, 14, 13, 63, 64]))
  (.cond (.s 97) (.seq (.region 0 [⟨0, (some 2), none, .mv (.k (.c (.int .i64 2)))⟩] [] (some [2]))
  .ret)
  .skip))))
  (.region 0 [⟨0, (some 98), none, .bin .add (.s 64) (.k (.c (.int .i64 1)))⟩, ⟨1, (some 64), none, .mv (.s 98)⟩] [] (some [63, 13, 14, 15, 62, 1, 64])))))
def c_roads_check_zones_l3 : CC := (.seq (.region 0 [⟨0, (some 16), none, .bin .lss (.s 15) (.s 14)⟩] [] (some [16, 1, 15, 14, 13]))
  (.seq (.cond (.s 16) .skip
  (.exit 0))
  (.seq (.block 1 (.seq (.region 1 [⟨0, (some 17), none, .iaddr 2 (.s 13) (.s 15)⟩, ⟨1, (some 18), none, .load true 2 (.s 17)⟩, ⟨2, (some 4), none, .box 0 2 (.k (.a [.nilslice, (.int .i64 0)]))⟩, ⟨3, none, none, .store 2 (.s 4) (.s 18)⟩] [] (some [1, 15, 14, 13, 4]))
  (.seq (.seq (.region 0 [⟨0, (some 19), none, .faddr 0 (.s 4)⟩, ⟨1, (some 20), none, .load false 1 (.s 19)⟩, ⟨2, (some 21), none, .len (.s 20)⟩, ⟨3, (some 5), none, .mv (.s 21)⟩] [] (some [1, 15, 14, 13, 4, 5]))
  (.block 2 (.seq (.region 0 [⟨0, (some 23), none, .mv (.s 5)⟩, ⟨1, (some 24), none, .bin .lss (.s 23) (.k (.c (.int .i64 2)))⟩, ⟨2, (some 22), none, .mv (.s 24)⟩] [] (some [22, 1, 15, 14, 13, 4, 5]))
  (.cond (.s 22) (.seq (.region 0 [⟨0, (some 2), none, .mv (.k (.c (.int .i64 6)))⟩] [] (some [2]))
  .ret)
  (.seq (.region 0 [⟨0, (some 26), none, .mv (.s 5)⟩, ⟨1, (some 27), none, .bin .gtr (.s 26) (.k (.c (.int .i64 6)))⟩, ⟨2, (some 25), none, .mv (.s 27)⟩] [] (some [25, 4, 13, 14, 15, 1]))
  (.cond (.s 25) (.seq (.region 0 [⟨0, (some 2), none, .mv (.k (.c (.int .i64 8)))⟩] [] (some [2]))
  .ret)
  (.seq (.region 0 [⟨0, (some 29), none, .faddr 1 (.s 4)⟩, ⟨1, (some 30), none, .load false 1 (.s 29)⟩, ⟨2, (some 31), none, .bin .lss (.s 30) (.k (.c (.int .i64 0)))⟩, ⟨3, (some 32), none, .mv (.s 31)⟩, ⟨4, (some 33), (some (32, false)), .faddr 1 (.s 4)⟩, ⟨5, (some 34), (some (32, false)), .load false 1 (.s 33)⟩, ⟨6, (some 35), (some (32, false)), .faddr 0 (.s 1)⟩, ⟨7, (some 36), (some (32, false)), .faddr 3 (.s 35)⟩, ⟨8, (some 37), (some (32, false)), .load false 1 (.s 36)⟩, ⟨9, (some 38), (some (32, false)), .len (.s 37)⟩, ⟨10, (some 39), (some (32, false)), .bin .gtr (.s 34) (.s 38)⟩, ⟨11, (some 40), none, .pick (.s 32) (.k (.c (.bool true))) (.s 39)⟩, ⟨12, (some 28), none, .mv (.s 40)⟩] [] (some [28, 1, 15, 14, 13, 4]))
  (.cond (.s 28) (.seq (.region 0 [⟨0, (some 2), none, .mv (.k (.c (.int .i64 2)))⟩] [] (some [2]))
  .ret)
  .skip))))))))
  (.seq (.region 1 [⟨0, (some 6), none, .newsl 0 1⟩] [] (some [6, 4, 13, 14, 15, 1]))
  (.seq (.seq (.region 0 [⟨0, (some 41), none, .faddr 0 (.s 4)⟩, ⟨1, (some 42), none, .load false 1 (.s 41)⟩, ⟨2, (some 43), none, .len (.s 42)⟩, ⟨3, (some 44), none, .mv (.k (.c (.int .i64 0)))⟩] [] (some [6, 44, 43, 4, 13, 14, 15, 1, 42]))
  (.block 3 (.loop (some [6, 44, 43, 4, 13, 14, 15, 1, 42]) c_roads_check_zones_l1)))
  (.seq (.seq (.region 0 [⟨0, (some 54), none, .mv (.s 6)⟩, ⟨1, (some 55), none, .faddr 0 (.s 1)⟩, ⟨2, (some 56), none, .faddr 1 (.s 55)⟩, ⟨3, (some 57), none, .load false 1 (.s 56)⟩, ⟨4, (some 58), none, .len (.s 57)⟩, ⟨5, (some 59), none, .call ⟨true⟩ (.k (.c (.fn 186 [] []))) [(.s 54), (.k (.c (.int .i64 0))), (.s 58)]⟩, ⟨6, (some 60), none, .un .not (.s 59)⟩] [] (some [60, 1, 15, 14, 13, 4]))
  (.cond (.s 60) (.seq (.region 0 [⟨0, (some 2), none, .mv (.k (.c (.int .i64 11)))⟩] [] (some [2]))
  .ret)
  .skip))
  (.seq (.region 0 [⟨0, (some 61), none, .faddr 0 (.s 4)⟩, ⟨1, (some 62), none, .load false 1 (.s 61)⟩, ⟨2, (some 63), none, .len (.s 62)⟩, ⟨3, (some 64), none, .mv (.k (.c (.int .i64 0)))⟩] [] (some [63, 13, 14, 15, 62, 1, 64]))
  (.block 5 (.loop (some [63, 13, 14, 15, 62, 1, 64]) c_roads_check_zones_l2)))))))))
  (.region 0 [⟨0, (some 99), none, .bin .add (.s 15) (.k (.c (.int .i64 1)))⟩, ⟨1, (some 15), none, .mv (.s 99)⟩] [] (some [1, 15, 14, 13])))))
/-- (kerbstone/roads.check).zones -/
abbrev f_roads_check_zones : Nat := 119
def c_roads_check_zones : CFn := { frz := true, rnd := none, nargs := 1, ntmps := 100, res := [(.slot 2)], code :=
  (.seq (.region 1 [⟨0, (some 1), none, .box 0 5 (.s 0)⟩, ⟨1, (some 2), none, .mv (.k (.c (.int .i64 0)))⟩] [] (some [1]))
  (.seq (.seq (.region 0 [⟨0, (some 11), none, .faddr 0 (.s 1)⟩, ⟨1, (some 12), none, .faddr 2 (.s 11)⟩, ⟨2, (some 13), none, .load false 1 (.s 12)⟩, ⟨3, (some 14), none, .len (.s 13)⟩, ⟨4, (some 15), none, .mv (.k (.c (.int .i64 0)))⟩] [] (some [1, 15, 14, 13]))
  (.block 0 (.loop (some [1, 15, 14, 13]) c_roads_check_zones_l3)))
  (.seq (.region 0 [⟨0, (some 2), none, .mv (.k (.c (.int .i64 0)))⟩] [] (some [2]))
  .ret))) }
def c_roads_check_works_l1 : CC := (.seq (.region 0 [⟨0, (some 13), none, .bin .lss (.s 12) (.s 11)⟩] [] (some [13, 12, 11, 10, 1]))
  (.seq (.cond (.s 13) .skip
  (.exit 0))
  (.seq (.block 1 (.seq (.region 1 [⟨0, (some 14), none, .iaddr 6 (.s 10) (.s 12)⟩, ⟨1, (some 15), none, .load true 6 (.s 14)⟩, ⟨2, (some 4), none, .box 0 6 (.k (.a [(.int .i64 0), (.int .i64 0), (.int .i64 0), (.int .i64 0), (.int .i64 0), (.int .i64 0)]))⟩, ⟨3, none, none, .store 6 (.s 4) (.s 15)⟩] [] (some [12, 11, 10, 1, 4]))
  (.seq (.seq (.region 0 [⟨0, (some 16), none, .faddr 0 (.s 4)⟩, ⟨1, (some 17), none, .load false 1 (.s 16)⟩, ⟨2, (some 18), none, .bin .lss (.s 17) (.k (.c (.int .i64 0)))⟩, ⟨3, (some 19), none, .mv (.s 18)⟩, ⟨4, (some 20), (some (19, false)), .faddr 0 (.s 4)⟩, ⟨5, (some 21), (some (19, false)), .load false 1 (.s 20)⟩, ⟨6, (some 22), (some (19, false)), .faddr 0 (.s 1)⟩, ⟨7, (some 23), (some (19, false)), .faddr 1 (.s 22)⟩, ⟨8, (some 24), (some (19, false)), .load false 1 (.s 23)⟩, ⟨9, (some 25), (some (19, false)), .len (.s 24)⟩, ⟨10, (some 26), (some (19, false)), .bin .geq (.s 21) (.s 25)⟩, ⟨11, (some 27), none, .pick (.s 19) (.k (.c (.bool true))) (.s 26)⟩] [] (some [27, 12, 11, 10, 1, 4]))
  (.cond (.s 27) (.seq (.region 0 [⟨0, (some 2), none, .mv (.k (.c (.int .i64 7)))⟩] [] (some [2]))
  .ret)
  .skip))
  (.seq (.region 0 [⟨0, (some 29), none, .faddr 0 (.s 1)⟩, ⟨1, (some 30), none, .faddr 1 (.s 29)⟩, ⟨2, (some 31), none, .load false 1 (.s 30)⟩, ⟨3, (some 32), none, .faddr 0 (.s 4)⟩, ⟨4, (some 33), none, .load false 1 (.s 32)⟩, ⟨5, (some 34), none, .iaddr 5 (.s 31) (.s 33)⟩, ⟨6, (some 35), none, .faddr 0 (.s 34)⟩, ⟨7, (some 36), none, .load false 1 (.s 35)⟩, ⟨8, (some 37), none, .call ⟨true⟩ (.k (.c (.fn 55 [] []))) [(.s 36)]⟩, ⟨9, (some 28), none, .mv (.s 37)⟩, ⟨10, (some 38), none, .extract 28 0⟩, ⟨11, (some 39), none, .extract 28 1⟩, ⟨12, (some 40), none, .extract 28 2⟩, ⟨13, (some 5), none, .mv (.s 38)⟩, ⟨14, (some 6), none, .mv (.s 39)⟩, ⟨15, (some 7), none, .mv (.s 40)⟩] [] (some [4, 5, 1, 10, 11, 12]))
  (.seq (.region 0 [⟨0, (some 41), none, .faddr 1 (.s 4)⟩, ⟨1, (some 42), none, .load false 1 (.s 41)⟩, ⟨2, (some 43), none, .bin .lss (.s 42) (.k (.c (.int .i64 0)))⟩, ⟨3, (some 44), none, .mv (.s 43)⟩, ⟨4, (some 45), (some (44, false)), .faddr 1 (.s 4)⟩, ⟨6, (some 47), (some (44, false)), .faddr 2 (.s 4)⟩, ⟨5, (some 46), (some (44, false)), .load false 1 (.s 45)⟩, ⟨7, (some 48), (some (44, false)), .load false 1 (.s 47)⟩, ⟨8, (some 49), (some (44, false)), .bin .gtr (.s 46) (.s 48)⟩, ⟨9, (some 50), none, .pick (.s 44) (.k (.c (.bool true))) (.s 49)⟩, ⟨10, (some 51), none, .mv (.s 50)⟩, ⟨11, (some 52), (some (51, false)), .faddr 2 (.s 4)⟩, ⟨13, (some 54), (some (51, false)), .faddr 0 (.s 1)⟩, ⟨15, (some 56), (some (51, false)), .faddr 0 (.s 4)⟩, ⟨12, (some 53), (some (51, false)), .load false 1 (.s 52)⟩, ⟨14, (some 55), (some (51, false)), .load true 5 (.s 54)⟩, ⟨16, (some 57), (some (51, false)), .load false 1 (.s 56)⟩, ⟨17, (some 58), (some (51, false)), .call ⟨true⟩ (.k (.c (.fn 122 [] []))) [(.s 55), (.s 57)]⟩, ⟨18, (some 59), (some (51, false)), .bin .gtr (.s 53) (.s 58)⟩, ⟨19, (some 60), none, .pick (.s 51) (.k (.c (.bool true))) (.s 59)⟩, ⟨20, (some 61), none, .mv (.s 60)⟩, ⟨21, (some 62), (some (61, false)), .faddr 3 (.s 4)⟩, ⟨22, (some 63), (some (61, false)), .load false 1 (.s 62)⟩, ⟨23, (some 64), (some (61, false)), .bin .lss (.s 63) (.k (.c (.int .i64 0)))⟩, ⟨24, (some 65), none, .pick (.s 61) (.k (.c (.bool true))) (.s 64)⟩, ⟨25, (some 66), none, .mv (.s 65)⟩, ⟨26, (some 67), (some (66, false)), .faddr 3 (.s 4)⟩, ⟨28, (some 69), (some (66, false)), .faddr 4 (.s 4)⟩, ⟨27, (some 68), (some (66, false)), .load false 1 (.s 67)⟩, ⟨29, (some 70), (some (66, false)), .load false 1 (.s 69)⟩, ⟨30, (some 71), (some (66, false)), .bin .geq (.s 68) (.s 70)⟩, ⟨31, (some 72), none, .pick (.s 66) (.k (.c (.bool true))) (.s 71)⟩, ⟨32, (some 73), none, .mv (.s 72)⟩, ⟨33, (some 74), (some (73, false)), .faddr 4 (.s 4)⟩, ⟨34, (some 75), (some (73, false)), .load false 1 (.s 74)⟩, ⟨35, (some 76), (some (73, false)), .bin .gtr (.s 75) (.k (.c (.int .i64 1099511627776)))⟩, ⟨36, (some 77), none, .pick (.s 73) (.k (.c (.bool true))) (.s 76)⟩, ⟨37, (some 78), none, .mv (.s 77)⟩, ⟨38, (some 79), (some (78, false)), .faddr 5 (.s 4)⟩, ⟨40, (some 81), (some (78, false)), .mv (.s 5)⟩, ⟨39, (some 80), (some (78, false)), .load false 1 (.s 79)⟩, ⟨41, (some 82), (some (78, false)), .call ⟨true⟩ (.k (.c (.fn 184 [] []))) [(.s 80), (.k (.c (.int .i64 0))), (.s 81)]⟩, ⟨42, (some 83), (some (78, false)), .un .not (.s 82)⟩, ⟨43, (some 84), none, .pick (.s 78) (.k (.c (.bool true))) (.s 83)⟩] [(14, 17)] (some [84, 1, 10, 11, 12]))
  (.cond (.s 84) (.seq (.region 0 [⟨0, (some 2), none, .mv (.k (.c (.int .i64 2)))⟩] [] (some [2]))
  .ret)
  .skip))))))
  (.region 0 [⟨0, (some 85), none, .bin .add (.s 12) (.k (.c (.int .i64 1)))⟩, ⟨1, (some 12), none, .mv (.s 85)⟩] [] (some [12, 11, 10, 1])))))
/-- (kerbstone/roads.check).works -/
abbrev f_roads_check_works : Nat := 120
def c_roads_check_works : CFn := { frz := true, rnd := none, nargs := 1, ntmps := 86, res := [(.slot 2)], code :=
  (.seq (.region 1 [⟨0, (some 1), none, .box 0 5 (.s 0)⟩, ⟨1, (some 2), none, .mv (.k (.c (.int .i64 0)))⟩] [] (some [1]))
  (.seq (.seq (.region 0 [⟨0, (some 8), none, .faddr 0 (.s 1)⟩, ⟨1, (some 9), none, .faddr 4 (.s 8)⟩, ⟨2, (some 10), none, .load false 1 (.s 9)⟩, ⟨3, (some 11), none, .len (.s 10)⟩, ⟨4, (some 12), none, .mv (.k (.c (.int .i64 0)))⟩] [] (some [12, 11, 10, 1]))
  (.block 0 (.loop (some [12, 11, 10, 1]) c_roads_check_works_l1)))
  (.seq (.region 0 [⟨0, (some 2), none, .mv (.k (.c (.int .i64 0)))⟩] [] (some [2]))
  .ret))) }
/-- kerbstone/roads.is -/
abbrev f_roads_is : Nat := 121
def c_roads_is : CFn := { frz := true, rnd := none, nargs := 2, ntmps := 19, res := [(.slot 4)], code :=
  (.seq (.region 1 [⟨0, (some 2), none, .box 0 5 (.s 0)⟩, ⟨1, (some 4), none, .mv (.k (.c (.bool false)))⟩] [] (some [1, 2]))
  (.seq (.region 0 [⟨0, (some 5), none, .mv (.s 1)⟩, ⟨1, (some 6), none, .bin .geq (.s 5) (.k (.c (.int .i64 0)))⟩, ⟨2, (some 7), none, .mv (.s 6)⟩, ⟨3, (some 8), (some (7, true)), .mv (.s 1)⟩, ⟨4, (some 9), (some (7, true)), .faddr 1 (.s 2)⟩, ⟨5, (some 10), (some (7, true)), .load false 1 (.s 9)⟩, ⟨6, (some 11), (some (7, true)), .len (.s 10)⟩, ⟨7, (some 12), (some (7, true)), .bin .lss (.s 8) (.s 11)⟩, ⟨8, (some 13), none, .pick (.s 7) (.s 12) (.k (.c (.bool false)))⟩, ⟨9, (some 14), none, .mv (.s 13)⟩, ⟨10, (some 15), (some (14, true)), .load true 5 (.s 2)⟩, ⟨11, (some 16), (some (14, true)), .call ⟨true⟩ (.k (.c (.fn 54 [] []))) [(.s 15)]⟩, ⟨12, (some 17), (some (14, true)), .bin .eql (.s 16) (.k (.c (.int .i64 0)))⟩, ⟨13, (some 18), none, .pick (.s 14) (.s 17) (.k (.c (.bool false)))⟩, ⟨14, (some 4), none, .mv (.s 18)⟩] [] (some [4]))
  .ret)) }
/-- kerbstone/roads.long -/
abbrev f_roads_long : Nat := 122
def c_roads_long : CFn := { frz := true, rnd := none, nargs := 2, ntmps := 12, res := [(.slot 4)], code :=
  (.seq (.region 1 [⟨0, (some 2), none, .box 0 5 (.s 0)⟩, ⟨1, (some 4), none, .mv (.k (.c (.int .i64 0)))⟩] [] (some [2, 1]))
  (.seq (.region 0 [⟨0, (some 5), none, .faddr 1 (.s 2)⟩, ⟨1, (some 6), none, .load false 1 (.s 5)⟩, ⟨2, (some 7), none, .mv (.s 1)⟩, ⟨3, (some 8), none, .iaddr 5 (.s 6) (.s 7)⟩, ⟨4, (some 9), none, .faddr 1 (.s 8)⟩, ⟨5, (some 10), none, .load true 1 (.s 9)⟩, ⟨6, (some 11), none, .call ⟨true⟩ (.k (.c (.fn 190 [] []))) [(.s 10)]⟩, ⟨7, (some 4), none, .mv (.s 11)⟩] [] (some [4]))
  .ret)) }
/-- kerbstone/motion.ends[kerbstone/api.Span] -/
abbrev f_motion_ends_Span : Nat := 123
def c_motion_ends_Span : CFn := { frz := true, rnd := none, nargs := 1, ntmps := 35, res := [(.slot 2), (.slot 3), (.slot 4)], code :=
  (.seq (.region 0 [⟨0, (some 2), none, .mv (.k (.c (.int .i64 0)))⟩, ⟨1, (some 3), none, .mv (.k (.c .nilptr))⟩, ⟨2, (some 4), none, .mv (.k (.c .nilptr))⟩] [] (some [0]))
  (.seq (.seq (.region 0 [⟨0, (some 7), none, .mv (.s 0)⟩, ⟨1, (some 8), none, .p1 (.mkif 181) (.s 7)⟩] [] (some [8]))
  (.block 0 (.seq (.region 0 [⟨0, (some 9), none, .p1 (.tass true 143 (.c .nilptr)) (.s 8)⟩, ⟨1, (some 10), none, .extract 9 1⟩, ⟨2, (some 11), none, .extract 9 0⟩] [] (some [10, 8, 11]))
  (.cond (.s 10) (.seq (.region 0 [⟨0, (some 5), none, .mv (.s 11)⟩] [] (some [5]))
  (.seq (.region 0 [⟨0, (some 12), none, .mv (.s 5)⟩, ⟨1, (some 13), none, .nilck (.s 12)⟩, ⟨2, (some 14), none, .faddr 0 (.s 13)⟩, ⟨4, (some 16), none, .mv (.s 5)⟩, ⟨5, (some 17), none, .nilck (.s 16)⟩, ⟨6, (some 18), none, .faddr 1 (.s 17)⟩, ⟨7, (some 19), none, .mv (.s 5)⟩, ⟨8, (some 20), none, .nilck (.s 19)⟩, ⟨9, (some 21), none, .faddr 2 (.s 20)⟩, ⟨3, (some 15), none, .load false 1 (.s 14)⟩, ⟨10, (some 2), none, .mv (.s 15)⟩, ⟨11, (some 3), none, .mv (.s 18)⟩, ⟨12, (some 4), none, .mv (.s 21)⟩] [] (some [2, 3, 4]))
  .ret))
  (.seq (.region 0 [⟨0, (some 22), none, .p1 (.tass true 181 (.c .nilptr)) (.s 8)⟩, ⟨1, (some 23), none, .extract 22 1⟩, ⟨2, (some 24), none, .extract 22 0⟩] [] (some [23, 24]))
  (.cond (.s 23) (.seq (.region 0 [⟨0, (some 6), none, .mv (.s 24)⟩] [] (some [6]))
  (.seq (.region 0 [⟨0, (some 25), none, .mv (.s 6)⟩, ⟨1, (some 26), none, .nilck (.s 25)⟩, ⟨2, (some 27), none, .faddr 0 (.s 26)⟩, ⟨4, (some 29), none, .mv (.s 6)⟩, ⟨5, (some 30), none, .nilck (.s 29)⟩, ⟨6, (some 31), none, .faddr 1 (.s 30)⟩, ⟨7, (some 32), none, .mv (.s 6)⟩, ⟨8, (some 33), none, .nilck (.s 32)⟩, ⟨9, (some 34), none, .faddr 2 (.s 33)⟩, ⟨3, (some 28), none, .load false 1 (.s 27)⟩, ⟨10, (some 2), none, .mv (.s 28)⟩, ⟨11, (some 3), none, .mv (.s 31)⟩, ⟨12, (some 4), none, .mv (.s 34)⟩] [] (some [2, 3, 4]))
  .ret))
  .skip))))))
  (.seq (.region 0 [⟨0, (some 2), none, .mv (.k (.c (.int .i64 0)))⟩, ⟨1, (some 3), none, .mv (.k (.c .nilptr))⟩, ⟨2, (some 4), none, .mv (.k (.c .nilptr))⟩] [] (some [2, 3, 4]))
  .ret))) }
def c_kerbstoneref01_Length_l1 : CC := (.seq (.seq (.region 0 [⟨0, (some 8), none, .mv (.s 5)⟩, ⟨1, (some 9), none, .mv (.s 4)⟩, ⟨2, (some 10), none, .len (.s 9)⟩, ⟨3, (some 11), none, .bin .lss (.s 8) (.s 10)⟩] [] (some [11, 3, 5, 4]))
  (.cond (.s 11) .skip
  (.exit 0)))
  (.seq (.block 1 (.region 0 [⟨0, (some 14), none, .mv (.s 3)⟩, ⟨1, (some 15), none, .mv (.s 4)⟩, ⟨2, (some 16), none, .mv (.s 5)⟩, ⟨3, (some 17), none, .iaddr 1 (.s 15) (.s 16)⟩, ⟨4, (some 18), none, .load false 1 (.s 17)⟩, ⟨5, (some 19), none, .bin .add (.s 14) (.s 18)⟩, ⟨6, (some 3), none, .mv (.s 19)⟩] [] (some [5, 3, 4])))
  (.region 0 [⟨0, (some 12), none, .mv (.s 5)⟩, ⟨1, (some 13), none, .bin .add (.s 12) (.k (.c (.int .i64 1)))⟩, ⟨2, (some 5), none, .mv (.s 13)⟩] [] (some [3, 5, 4]))))
/-- kerbstone/kerbstoneref01.Length -/
abbrev f_kerbstoneref01_Length : Nat := 124
def c_kerbstoneref01_Length : CFn := { frz := true, rnd := none, nargs := 1, ntmps := 21, res := [(.slot 2)], code :=
  (.seq (.region 1 [⟨0, (some 1), none, .box 0 1 (.s 0)⟩, ⟨1, (some 2), none, .mv (.k (.c (.int .i64 0)))⟩] [] (some [1]))
  (.seq (.region 0 [⟨0, (some 3), none, .mv (.k (.c (.int .i64 0)))⟩] [] (some [1, 3]))
  (.seq (.region 0 [⟨0, (some 6), none, .load true 1 (.s 1)⟩, ⟨1, (some 7), none, .call ⟨true⟩ (.k (.c (.fn 165 [] []))) [(.s 6)]⟩, ⟨2, (some 4), none, .mv (.s 7)⟩] [] (some [3, 4]))
  (.seq (.seq (.region 0 [⟨0, (some 5), none, .mv (.k (.c (.int .i64 0)))⟩] [] (some [3, 5, 4]))
  (.block 0 (.loop (some [3, 5, 4]) c_kerbstoneref01_Length_l1)))
  (.seq (.region 0 [⟨0, (some 20), none, .mv (.s 3)⟩, ⟨1, (some 2), none, .mv (.s 20)⟩] [] (some [2]))
  .ret))))) }
/-- kerbstone/roads.Starts -/
abbrev f_roads_Starts : Nat := 135
def c_roads_Starts : CFn := { frz := true, rnd := none, nargs := 2, ntmps := 9, res := [(.slot 4)], code :=
  (.seq (.region 2 [⟨0, (some 2), none, .box 0 5 (.s 0)⟩, ⟨1, (some 4), none, .newsl 1 1⟩] [] (some [2, 1]))
  (.seq (.region 0 [⟨0, (some 5), none, .load true 5 (.s 2)⟩, ⟨1, (some 6), none, .mv (.s 1)⟩, ⟨2, (some 7), none, .call ⟨true⟩ (.k (.c (.fn 197 [] []))) [(.s 5), (.s 6)]⟩, ⟨3, (some 8), none, .field false 6 1 (.s 7)⟩, ⟨4, (some 4), none, .mv (.s 8)⟩] [] (some [4]))
  .ret)) }
def c_slices_IndexFunc_Blob_l1 : CC := (.seq (.region 0 [⟨0, (some 9), none, .bin .lss (.s 8) (.s 7)⟩] [] (some [9, 0, 1, 7, 8]))
  (.seq (.cond (.s 9) .skip
  (.exit 0))
  (.seq (.block 1 (.seq (.region 0 [⟨0, (some 10), none, .mv (.s 8)⟩, ⟨1, (some 5), none, .mv (.s 10)⟩] [] (some [0, 1, 7, 8, 5]))
  (.seq (.region 0 [⟨0, (some 11), none, .mv (.s 1)⟩, ⟨1, (some 12), none, .mv (.s 0)⟩, ⟨2, (some 13), none, .mv (.s 5)⟩, ⟨3, (some 14), none, .iaddr 6 (.s 12) (.s 13)⟩, ⟨4, (some 15), none, .load true 6 (.s 14)⟩, ⟨5, (some 16), none, .call ⟨true⟩ (.s 11) [(.s 15)]⟩] [] (some [16, 0, 1, 7, 8, 5]))
  (.cond (.s 16) (.seq (.region 0 [⟨0, (some 17), none, .mv (.s 5)⟩, ⟨1, (some 4), none, .mv (.s 17)⟩] [] (some [4]))
  .ret)
  .skip))))
  (.region 0 [⟨0, (some 18), none, .bin .add (.s 8) (.k (.c (.int .i64 1)))⟩, ⟨1, (some 8), none, .mv (.s 18)⟩] [] (some [7, 1, 0, 8])))))
/-- slices.IndexFunc[[]kerbstone/api.Blob,kerbstone/api.Blob] -/
abbrev f_slices_IndexFunc_Blob : Nat := 140
def c_slices_IndexFunc_Blob : CFn := { frz := true, rnd := none, nargs := 2, ntmps := 19, res := [(.slot 4)], code :=
  (.seq (.region 0 [⟨0, (some 4), none, .mv (.k (.c (.int .i64 0)))⟩] [] (some [1, 0]))
  (.seq (.seq (.region 0 [⟨0, (some 6), none, .mv (.s 0)⟩, ⟨1, (some 7), none, .len (.s 6)⟩, ⟨2, (some 8), none, .mv (.k (.c (.int .i64 0)))⟩] [] (some [7, 1, 0, 8]))
  (.block 0 (.loop (some [7, 1, 0, 8]) c_slices_IndexFunc_Blob_l1)))
  (.seq (.region 0 [⟨0, (some 4), none, .mv (.k (.c (.int .i64 (-1))))⟩] [] (some [4]))
  .ret))) }
/-- cmp.isNaN[int64] -/
abbrev f_cmp_isNaN_int64 : Nat := 147
def c_cmp_isNaN_int64 : CFn := { frz := true, rnd := none, nargs := 1, ntmps := 6, res := [(.slot 2)], code :=
  (.seq (.region 0 [⟨0, (some 2), none, .mv (.k (.c (.bool false)))⟩] [] (some [0]))
  (.seq (.region 0 [⟨0, (some 3), none, .mv (.s 0)⟩, ⟨1, (some 4), none, .mv (.s 0)⟩, ⟨2, (some 5), none, .bin .neq (.s 3) (.s 4)⟩, ⟨3, (some 2), none, .mv (.s 5)⟩] [] (some [2]))
  .ret)) }
/-- kerbstone/kerbstoneref03.within -/
abbrev f_kerbstoneref03_within : Nat := 148
def c_kerbstoneref03_within : CFn := { frz := true, rnd := none, nargs := 3, ntmps := 15, res := [(.slot 6)], code :=
  (.seq (.region 0 [⟨0, (some 6), none, .mv (.k (.c (.bool false)))⟩] [] (some [1, 0, 2]))
  (.seq (.region 0 [⟨0, (some 7), none, .mv (.s 0)⟩, ⟨1, (some 8), none, .mv (.s 1)⟩, ⟨2, (some 9), none, .bin .geq (.s 7) (.s 8)⟩, ⟨3, (some 10), none, .mv (.s 9)⟩, ⟨4, (some 11), (some (10, true)), .mv (.s 0)⟩, ⟨5, (some 12), (some (10, true)), .mv (.s 2)⟩, ⟨6, (some 13), (some (10, true)), .bin .leq (.s 11) (.s 12)⟩, ⟨7, (some 14), none, .pick (.s 10) (.s 13) (.k (.c (.bool false)))⟩, ⟨8, (some 6), none, .mv (.s 14)⟩] [] (some [6]))
  .ret)) }
/-- kerbstone/kerbstoneref03.checkLane -/
abbrev f_kerbstoneref03_checkLane : Nat := 149
def c_kerbstoneref03_checkLane : CFn := { frz := true, rnd := none, nargs := 2, ntmps := 60, res := [(.slot 4)], code :=
  (.seq (.region 1 [⟨0, (some 2), none, .box 0 5 (.s 0)⟩, ⟨1, (some 4), none, .mv (.k (.c (.int .i64 0)))⟩] [] (some [1, 2]))
  (.seq (.region 1 [⟨0, (some 10), none, .faddr 1 (.s 2)⟩, ⟨1, (some 11), none, .load false 1 (.s 10)⟩, ⟨2, (some 12), none, .mv (.s 1)⟩, ⟨3, (some 13), none, .iaddr 5 (.s 11) (.s 12)⟩, ⟨4, (some 14), none, .load true 5 (.s 13)⟩, ⟨5, (some 5), none, .box 0 5 (.k (.a [(.int .i64 0), .nilslice, (.int .i64 0), (.int .i64 0), .nilslice]))⟩, ⟨6, none, none, .store 5 (.s 5) (.s 14)⟩] [] (some [5, 1, 2]))
  (.seq (.seq (.region 0 [⟨0, (some 15), none, .faddr 0 (.s 5)⟩, ⟨1, (some 16), none, .load false 1 (.s 15)⟩, ⟨2, (some 17), none, .bin .lss (.s 16) (.k (.c (.int .i64 1)))⟩, ⟨3, (some 18), none, .mv (.s 17)⟩, ⟨4, (some 19), (some (18, false)), .faddr 0 (.s 5)⟩, ⟨5, (some 20), (some (18, false)), .load false 1 (.s 19)⟩, ⟨6, (some 21), (some (18, false)), .bin .gtr (.s 20) (.k (.c (.int .i64 3)))⟩, ⟨7, (some 22), none, .pick (.s 18) (.k (.c (.bool true))) (.s 21)⟩] [] (some [22, 5, 1, 2]))
  (.cond (.s 22) (.seq (.region 0 [⟨0, (some 4), none, .mv (.k (.c (.int .i64 4)))⟩] [] (some [4]))
  .ret)
  .skip))
  (.seq (.region 0 [⟨0, (some 23), none, .faddr 1 (.s 5)⟩, ⟨1, (some 24), none, .load true 1 (.s 23)⟩, ⟨2, (some 25), none, .call ⟨true⟩ (.k (.c (.fn 217 [] []))) [(.s 24)]⟩, ⟨3, (some 6), none, .mv (.s 25)⟩] [] (some [2, 1, 5, 6]))
  (.seq (.seq (.region 0 [⟨0, (some 26), none, .mv (.s 6)⟩, ⟨1, (some 27), none, .bin .neq (.s 26) (.k (.c (.int .i64 0)))⟩] [] (some [27, 2, 1, 5, 6]))
  (.cond (.s 27) (.seq (.region 0 [⟨0, (some 28), none, .mv (.s 6)⟩, ⟨1, (some 4), none, .mv (.s 28)⟩] [] (some [4]))
  .ret)
  .skip))
  (.seq (.region 0 [⟨0, (some 30), none, .faddr 0 (.s 5)⟩, ⟨1, (some 31), none, .load false 1 (.s 30)⟩, ⟨2, (some 32), none, .call ⟨true⟩ (.k (.c (.fn 57 [] []))) [(.s 31)]⟩, ⟨3, (some 29), none, .mv (.s 32)⟩, ⟨4, (some 33), none, .extract 29 0⟩, ⟨5, (some 34), none, .extract 29 1⟩, ⟨6, (some 35), none, .extract 29 2⟩, ⟨7, (some 7), none, .mv (.s 33)⟩, ⟨8, (some 8), none, .mv (.s 34)⟩, ⟨9, (some 9), none, .mv (.s 35)⟩] [] (some [7, 5, 1, 2]))
  (.seq (.seq (.region 0 [⟨0, (some 36), none, .faddr 2 (.s 5)⟩, ⟨1, (some 37), none, .load false 1 (.s 36)⟩, ⟨2, (some 38), none, .call ⟨true⟩ (.k (.c (.fn 148 [] []))) [(.s 37), (.k (.c (.int .i64 200))), (.k (.c (.int .i64 4000)))]⟩, ⟨3, (some 39), none, .un .not (.s 38)⟩, ⟨4, (some 40), none, .mv (.s 39)⟩, ⟨5, (some 41), (some (40, false)), .faddr 3 (.s 5)⟩, ⟨6, (some 42), (some (40, false)), .load false 1 (.s 41)⟩, ⟨7, (some 43), (some (40, false)), .mv (.s 7)⟩, ⟨8, (some 44), (some (40, false)), .call ⟨true⟩ (.k (.c (.fn 148 [] []))) [(.s 42), (.k (.c (.int .i64 1))), (.s 43)]⟩, ⟨9, (some 45), (some (40, false)), .un .not (.s 44)⟩, ⟨10, (some 46), none, .pick (.s 40) (.k (.c (.bool true))) (.s 45)⟩] [] (some [46, 5, 1, 2]))
  (.cond (.s 46) (.seq (.region 0 [⟨0, (some 4), none, .mv (.k (.c (.int .i64 2)))⟩] [] (some [4]))
  .ret)
  .skip))
  (.seq (.seq (.region 0 [⟨0, (some 47), none, .faddr 4 (.s 5)⟩, ⟨1, (some 48), none, .load false 1 (.s 47)⟩, ⟨2, (some 49), none, .len (.s 48)⟩, ⟨3, (some 50), none, .bin .gtr (.s 49) (.k (.c (.int .i64 3)))⟩] [] (some [50, 2, 1, 5]))
  (.cond (.s 50) (.seq (.region 0 [⟨0, (some 4), none, .mv (.k (.c (.int .i64 8)))⟩] [] (some [4]))
  .ret)
  .skip))
  (.seq (.seq (.region 0 [⟨0, (some 51), none, .faddr 4 (.s 5)⟩, ⟨1, (some 52), none, .load false 1 (.s 51)⟩, ⟨2, (some 53), none, .mv (.s 1)⟩, ⟨3, (some 54), none, .bin .add (.s 53) (.k (.c (.int .i64 1)))⟩, ⟨4, (some 55), none, .faddr 1 (.s 2)⟩, ⟨5, (some 56), none, .load false 1 (.s 55)⟩, ⟨6, (some 57), none, .len (.s 56)⟩, ⟨7, (some 58), none, .call ⟨true⟩ (.k (.c (.fn 218 [] []))) [(.s 52), (.s 54), (.s 57)]⟩, ⟨8, (some 59), none, .un .not (.s 58)⟩] [] (some [59]))
  (.cond (.s 59) (.seq (.region 0 [⟨0, (some 4), none, .mv (.k (.c (.int .i64 11)))⟩] [] (some [4]))
  .ret)
  .skip))
  (.seq (.region 0 [⟨0, (some 4), none, .mv (.k (.c (.int .i64 0)))⟩] [] (some [4]))
  .ret)))))))))) }
def c_kerbstoneref03_checkNext_l1 : CC := (.seq (.seq (.region 0 [⟨0, (some 19), none, .mv (.s 5)⟩, ⟨1, (some 20), none, .faddr 4 (.s 4)⟩, ⟨2, (some 21), none, .load false 1 (.s 20)⟩, ⟨3, (some 22), none, .len (.s 21)⟩, ⟨4, (some 23), none, .bin .lss (.s 19) (.s 22)⟩] [] (some [23, 5, 3, 1, 4]))
  (.cond (.s 23) .skip
  (.exit 2)))
  (.seq (.block 3 (.seq (.region 1 [⟨0, (some 26), none, .faddr 1 (.s 1)⟩, ⟨2, (some 28), none, .faddr 4 (.s 4)⟩, ⟨4, (some 30), none, .mv (.s 5)⟩, ⟨1, (some 27), none, .load false 1 (.s 26)⟩, ⟨3, (some 29), none, .load false 1 (.s 28)⟩, ⟨5, (some 31), none, .iaddr 1 (.s 29) (.s 30)⟩, ⟨6, (some 32), none, .load false 1 (.s 31)⟩, ⟨7, (some 33), none, .iaddr 5 (.s 27) (.s 32)⟩, ⟨8, (some 34), none, .load true 5 (.s 33)⟩, ⟨9, (some 6), none, .box 0 5 (.k (.a [(.int .i64 0), .nilslice, (.int .i64 0), (.int .i64 0), .nilslice]))⟩, ⟨10, none, none, .store 5 (.s 6) (.s 34)⟩] [(3, 9), (4, 9), (6, 9), (8, 9)] (some [5, 3, 1, 4, 6]))
  (.seq (.seq (.region 0 [⟨0, (some 35), none, .faddr 0 (.s 6)⟩, ⟨1, (some 36), none, .load false 1 (.s 35)⟩, ⟨2, (some 37), none, .faddr 0 (.s 4)⟩, ⟨3, (some 38), none, .load false 1 (.s 37)⟩, ⟨4, (some 39), none, .bin .neq (.s 36) (.s 38)⟩] [] (some [39, 5, 3, 1, 4, 6]))
  (.cond (.s 39) (.seq (.region 0 [⟨0, (some 2), none, .mv (.k (.c (.int .i64 4)))⟩] [] (some [2]))
  .ret)
  .skip))
  (.seq (.region 0 [⟨0, (some 40), none, .faddr 1 (.s 6)⟩, ⟨1, (some 41), none, .faddr 0 (.s 40)⟩, ⟨5, (some 45), none, .faddr 1 (.s 4)⟩, ⟨6, (some 46), none, .faddr 0 (.s 45)⟩, ⟨8, (some 48), none, .faddr 1 (.s 4)⟩, ⟨9, (some 49), none, .faddr 0 (.s 48)⟩, ⟨2, (some 42), none, .load false 1 (.s 41)⟩, ⟨3, (some 43), none, .iaddr 2 (.s 42) (.k (.c (.int .i64 0)))⟩, ⟨4, (some 44), none, .load true 2 (.s 43)⟩, ⟨7, (some 47), none, .load false 1 (.s 46)⟩, ⟨10, (some 50), none, .load false 1 (.s 49)⟩, ⟨11, (some 51), none, .len (.s 50)⟩, ⟨12, (some 52), none, .bin .sub (.s 51) (.k (.c (.int .i64 1)))⟩, ⟨13, (some 53), none, .iaddr 2 (.s 47) (.s 52)⟩, ⟨14, (some 54), none, .load true 2 (.s 53)⟩, ⟨15, (some 55), none, .eqa true [false, false] (.s 44) (.s 54)⟩] [] (some [55, 4, 1, 3, 5]))
  (.cond (.s 55) (.seq (.region 0 [⟨0, (some 2), none, .mv (.k (.c (.int .i64 3)))⟩] [] (some [2]))
  .ret)
  .skip)))))
  (.region 0 [⟨0, (some 24), none, .mv (.s 5)⟩, ⟨1, (some 25), none, .bin .add (.s 24) (.k (.c (.int .i64 1)))⟩, ⟨2, (some 5), none, .mv (.s 25)⟩] [] (some [5, 3, 1, 4]))))
def c_kerbstoneref03_checkNext_l2 : CC := (.seq (.seq (.region 0 [⟨0, (some 7), none, .mv (.s 3)⟩, ⟨1, (some 8), none, .faddr 1 (.s 1)⟩, ⟨2, (some 9), none, .load false 1 (.s 8)⟩, ⟨3, (some 10), none, .len (.s 9)⟩, ⟨4, (some 11), none, .bin .lss (.s 7) (.s 10)⟩] [] (some [11, 3, 1]))
  (.cond (.s 11) .skip
  (.exit 0)))
  (.seq (.block 1 (.seq (.region 1 [⟨0, (some 14), none, .faddr 1 (.s 1)⟩, ⟨1, (some 15), none, .load false 1 (.s 14)⟩, ⟨2, (some 16), none, .mv (.s 3)⟩, ⟨3, (some 17), none, .iaddr 5 (.s 15) (.s 16)⟩, ⟨4, (some 18), none, .load true 5 (.s 17)⟩, ⟨5, (some 4), none, .box 0 5 (.k (.a [(.int .i64 0), .nilslice, (.int .i64 0), (.int .i64 0), .nilslice]))⟩, ⟨6, none, none, .store 5 (.s 4) (.s 18)⟩] [] (some [3, 1, 4]))
  (.seq (.region 0 [⟨0, (some 5), none, .mv (.k (.c (.int .i64 0)))⟩] [] (some [5, 3, 1, 4]))
  (.block 2 (.loop (some [5, 3, 1, 4]) c_kerbstoneref03_checkNext_l1)))))
  (.region 0 [⟨0, (some 12), none, .mv (.s 3)⟩, ⟨1, (some 13), none, .bin .add (.s 12) (.k (.c (.int .i64 1)))⟩, ⟨2, (some 3), none, .mv (.s 13)⟩] [] (some [3, 1]))))
/-- kerbstone/kerbstoneref03.checkNext -/
abbrev f_kerbstoneref03_checkNext : Nat := 150
def c_kerbstoneref03_checkNext : CFn := { frz := true, rnd := none, nargs := 1, ntmps := 56, res := [(.slot 2)], code :=
  (.seq (.region 1 [⟨0, (some 1), none, .box 0 5 (.s 0)⟩, ⟨1, (some 2), none, .mv (.k (.c (.int .i64 0)))⟩] [] (some [1]))
  (.seq (.seq (.region 0 [⟨0, (some 3), none, .mv (.k (.c (.int .i64 0)))⟩] [] (some [3, 1]))
  (.block 0 (.loop (some [3, 1]) c_kerbstoneref03_checkNext_l2)))
  (.seq (.region 0 [⟨0, (some 2), none, .mv (.k (.c (.int .i64 0)))⟩] [] (some [2]))
  .ret))) }
def c_kerbstoneref03_checkSignal_l1 : CC := (.seq (.seq (.region 0 [⟨0, (some 19), none, .mv (.s 6)⟩, ⟨1, (some 20), none, .faddr 1 (.s 3)⟩, ⟨2, (some 21), none, .load false 1 (.s 20)⟩, ⟨3, (some 22), none, .len (.s 21)⟩, ⟨4, (some 23), none, .bin .lss (.s 19) (.s 22)⟩] [] (some [23, 5, 6, 2, 3]))
  (.cond (.s 23) .skip
  (.exit 0)))
  (.seq (.block 1 (.region 0 [⟨0, (some 26), none, .mv (.s 5)⟩, ⟨1, (some 27), none, .mv (.s 26)⟩, ⟨2, (some 28), (some (27, true)), .faddr 1 (.s 3)⟩, ⟨3, (some 29), (some (27, true)), .load false 1 (.s 28)⟩, ⟨4, (some 30), (some (27, true)), .mv (.s 6)⟩, ⟨5, (some 31), (some (27, true)), .iaddr 2 (.s 29) (.s 30)⟩, ⟨6, (some 32), (some (27, true)), .faddr 0 (.s 31)⟩, ⟨7, (some 33), (some (27, true)), .load false 1 (.s 32)⟩, ⟨8, (some 34), (some (27, true)), .call ⟨true⟩ (.k (.c (.fn 148 [] []))) [(.s 33), (.k (.c (.int .i64 1))), (.k (.c (.int .i64 10000)))]⟩, ⟨9, (some 35), none, .pick (.s 27) (.s 34) (.k (.c (.bool false)))⟩, ⟨10, (some 5), none, .mv (.s 35)⟩] [] (some [6, 5, 2, 3])))
  (.region 0 [⟨0, (some 24), none, .mv (.s 6)⟩, ⟨1, (some 25), none, .bin .add (.s 24) (.k (.c (.int .i64 1)))⟩, ⟨2, (some 6), none, .mv (.s 25)⟩] [] (some [5, 6, 2, 3]))))
def c_kerbstoneref03_checkSignal_l2 : CC := (.seq (.seq (.region 0 [⟨0, (some 38), none, .mv (.s 7)⟩, ⟨1, (some 39), none, .faddr 1 (.s 3)⟩, ⟨2, (some 40), none, .load false 1 (.s 39)⟩, ⟨3, (some 41), none, .len (.s 40)⟩, ⟨4, (some 42), none, .bin .lss (.s 38) (.s 41)⟩] [] (some [42, 2, 3, 7]))
  (.cond (.s 42) .skip
  (.exit 2)))
  (.seq (.block 3 (.seq (.region 0 [⟨0, (some 45), none, .faddr 1 (.s 3)⟩, ⟨2, (some 47), none, .mv (.s 7)⟩, ⟨6, (some 51), none, .faddr 1 (.s 2)⟩, ⟨1, (some 46), none, .load false 1 (.s 45)⟩, ⟨3, (some 48), none, .iaddr 2 (.s 46) (.s 47)⟩, ⟨4, (some 49), none, .faddr 1 (.s 48)⟩, ⟨5, (some 50), none, .load false 1 (.s 49)⟩, ⟨7, (some 52), none, .load false 1 (.s 51)⟩, ⟨8, (some 53), none, .len (.s 52)⟩, ⟨9, (some 54), none, .call ⟨true⟩ (.k (.c (.fn 218 [] []))) [(.s 50), (.k (.c (.int .i64 0))), (.s 53)]⟩, ⟨10, (some 55), none, .un .not (.s 54)⟩] [] (some [55, 2, 3, 7]))
  (.cond (.s 55) (.seq (.region 0 [⟨0, (some 4), none, .mv (.k (.c (.int .i64 11)))⟩] [] (some [4]))
  .ret)
  .skip)))
  (.region 0 [⟨0, (some 43), none, .mv (.s 7)⟩, ⟨1, (some 44), none, .bin .add (.s 43) (.k (.c (.int .i64 1)))⟩, ⟨2, (some 7), none, .mv (.s 44)⟩] [] (some [3, 2, 7]))))
/-- kerbstone/kerbstoneref03.checkSignal -/
abbrev f_kerbstoneref03_checkSignal : Nat := 151
def c_kerbstoneref03_checkSignal : CFn := { frz := true, rnd := none, nargs := 2, ntmps := 56, res := [(.slot 4)], code :=
  (.seq (.region 2 [⟨0, (some 2), none, .box 0 5 (.s 0)⟩, ⟨1, (some 3), none, .box 1 2 (.s 1)⟩, ⟨2, (some 4), none, .mv (.k (.c (.int .i64 0)))⟩] [] (some [2, 3]))
  (.seq (.seq (.region 0 [⟨0, (some 8), none, .faddr 1 (.s 3)⟩, ⟨1, (some 9), none, .load false 1 (.s 8)⟩, ⟨2, (some 10), none, .len (.s 9)⟩, ⟨3, (some 11), none, .bin .eql (.s 10) (.k (.c (.int .i64 0)))⟩] [] (some [11, 2, 3]))
  (.cond (.s 11) (.seq (.region 0 [⟨0, (some 4), none, .mv (.k (.c (.int .i64 6)))⟩] [] (some [4]))
  .ret)
  .skip))
  (.seq (.seq (.region 0 [⟨0, (some 12), none, .faddr 1 (.s 3)⟩, ⟨1, (some 13), none, .load false 1 (.s 12)⟩, ⟨2, (some 14), none, .len (.s 13)⟩, ⟨3, (some 15), none, .bin .gtr (.s 14) (.k (.c (.int .i64 6)))⟩] [] (some [15, 3, 2]))
  (.cond (.s 15) (.seq (.region 0 [⟨0, (some 4), none, .mv (.k (.c (.int .i64 8)))⟩] [] (some [4]))
  .ret)
  .skip))
  (.seq (.region 0 [⟨0, (some 16), none, .faddr 0 (.s 3)⟩, ⟨1, (some 17), none, .load false 1 (.s 16)⟩, ⟨2, (some 18), none, .call ⟨true⟩ (.k (.c (.fn 148 [] []))) [(.s 17), (.k (.c (.int .i64 0))), (.k (.c (.int .i64 1099511627776)))]⟩, ⟨3, (some 5), none, .mv (.s 18)⟩] [] (some [5, 2, 3]))
  (.seq (.seq (.region 0 [⟨0, (some 6), none, .mv (.k (.c (.int .i64 0)))⟩] [] (some [5, 6, 2, 3]))
  (.block 0 (.loop (some [5, 6, 2, 3]) c_kerbstoneref03_checkSignal_l1)))
  (.seq (.seq (.region 0 [⟨0, (some 36), none, .mv (.s 5)⟩, ⟨1, (some 37), none, .un .not (.s 36)⟩] [] (some [37, 2, 3]))
  (.cond (.s 37) (.seq (.region 0 [⟨0, (some 4), none, .mv (.k (.c (.int .i64 2)))⟩] [] (some [4]))
  .ret)
  .skip))
  (.seq (.seq (.region 0 [⟨0, (some 7), none, .mv (.k (.c (.int .i64 0)))⟩] [] (some [3, 2, 7]))
  (.block 2 (.loop (some [3, 2, 7]) c_kerbstoneref03_checkSignal_l2)))
  (.seq (.region 0 [⟨0, (some 4), none, .mv (.k (.c (.int .i64 0)))⟩] [] (some [4]))
  .ret)))))))) }
def c_kerbstoneref03_checkZone_l1 : CC := (.seq (.seq (.region 0 [⟨0, (some 28), none, .mv (.s 6)⟩, ⟨1, (some 29), none, .faddr 0 (.s 3)⟩, ⟨2, (some 30), none, .load false 1 (.s 29)⟩, ⟨3, (some 31), none, .len (.s 30)⟩, ⟨4, (some 32), none, .bin .lss (.s 28) (.s 31)⟩] [] (some [32, 5, 6, 2, 3]))
  (.cond (.s 32) .skip
  (.exit 0)))
  (.seq (.block 1 (.region 1 [⟨0, (some 35), none, .mv (.s 5)⟩, ⟨1, (some 36), none, .faddr 0 (.s 3)⟩, ⟨2, (some 37), none, .load false 1 (.s 36)⟩, ⟨3, (some 38), none, .mv (.s 6)⟩, ⟨4, (some 39), none, .iaddr 4 (.s 37) (.s 38)⟩, ⟨5, (some 40), none, .faddr 0 (.s 39)⟩, ⟨6, (some 41), none, .load false 1 (.s 40)⟩, ⟨7, (some 42), none, .lit 0 1 [[(.int .i64 0)]] [(0, (.s 41))]⟩, ⟨8, (some 43), none, .append 1 8 (.s 35) (.s 42)⟩, ⟨9, (some 5), none, .mv (.s 43)⟩] [] (some [6, 5, 2, 3])))
  (.region 0 [⟨0, (some 33), none, .mv (.s 6)⟩, ⟨1, (some 34), none, .bin .add (.s 33) (.k (.c (.int .i64 1)))⟩, ⟨2, (some 6), none, .mv (.s 34)⟩] [] (some [5, 6, 2, 3]))))
def c_kerbstoneref03_checkZone_l2 : CC := (.seq (.seq (.region 0 [⟨0, (some 50), none, .mv (.s 7)⟩, ⟨1, (some 51), none, .faddr 0 (.s 3)⟩, ⟨2, (some 52), none, .load false 1 (.s 51)⟩, ⟨3, (some 53), none, .len (.s 52)⟩, ⟨4, (some 54), none, .bin .lss (.s 50) (.s 53)⟩] [] (some [54, 2, 3, 7]))
  (.cond (.s 54) .skip
  (.exit 2)))
  (.seq (.block 3 (.seq (.region 1 [⟨0, (some 57), none, .faddr 0 (.s 3)⟩, ⟨1, (some 58), none, .load false 1 (.s 57)⟩, ⟨2, (some 59), none, .mv (.s 7)⟩, ⟨3, (some 60), none, .iaddr 4 (.s 58) (.s 59)⟩, ⟨4, (some 61), none, .load true 4 (.s 60)⟩, ⟨5, (some 8), none, .box 0 4 (.k (.a [(.int .i64 0), (.int .i64 0), (.int .i64 0), (.int .i64 0)]))⟩, ⟨6, none, none, .store 4 (.s 8) (.s 61)⟩] [] (some [8, 2, 3, 7]))
  (.seq (.region 0 [⟨0, (some 62), none, .faddr 1 (.s 8)⟩, ⟨1, (some 63), none, .load false 1 (.s 62)⟩, ⟨2, (some 64), none, .bin .lss (.s 63) (.k (.c (.int .i64 0)))⟩, ⟨3, (some 65), none, .mv (.s 64)⟩, ⟨4, (some 66), (some (65, false)), .faddr 1 (.s 8)⟩, ⟨6, (some 68), (some (65, false)), .faddr 2 (.s 8)⟩, ⟨5, (some 67), (some (65, false)), .load false 1 (.s 66)⟩, ⟨7, (some 69), (some (65, false)), .load false 1 (.s 68)⟩, ⟨8, (some 70), (some (65, false)), .bin .geq (.s 67) (.s 69)⟩, ⟨9, (some 71), none, .pick (.s 65) (.k (.c (.bool true))) (.s 70)⟩, ⟨10, (some 72), none, .mv (.s 71)⟩, ⟨11, (some 73), (some (72, false)), .faddr 2 (.s 8)⟩, ⟨13, (some 75), (some (72, false)), .faddr 1 (.s 2)⟩, ⟨15, (some 77), (some (72, false)), .faddr 0 (.s 8)⟩, ⟨12, (some 74), (some (72, false)), .load false 1 (.s 73)⟩, ⟨14, (some 76), (some (72, false)), .load false 1 (.s 75)⟩, ⟨16, (some 78), (some (72, false)), .load false 1 (.s 77)⟩, ⟨17, (some 79), (some (72, false)), .iaddr 5 (.s 76) (.s 78)⟩, ⟨18, (some 80), (some (72, false)), .faddr 1 (.s 79)⟩, ⟨19, (some 81), (some (72, false)), .load true 1 (.s 80)⟩, ⟨20, (some 82), (some (72, false)), .call ⟨true⟩ (.k (.c (.fn 124 [] []))) [(.s 81)]⟩, ⟨21, (some 83), (some (72, false)), .bin .gtr (.s 74) (.s 82)⟩, ⟨22, (some 84), none, .pick (.s 72) (.k (.c (.bool true))) (.s 83)⟩, ⟨23, (some 85), none, .mv (.s 84)⟩, ⟨24, (some 86), (some (85, false)), .faddr 3 (.s 8)⟩, ⟨25, (some 87), (some (85, false)), .load false 1 (.s 86)⟩, ⟨26, (some 88), (some (85, false)), .bin .lss (.s 87) (.k (.c (.int .i64 0)))⟩, ⟨27, (some 89), none, .pick (.s 85) (.k (.c (.bool true))) (.s 88)⟩, ⟨28, (some 90), none, .mv (.s 89)⟩, ⟨29, (some 91), (some (90, false)), .faddr 3 (.s 8)⟩, ⟨30, (some 92), (some (90, false)), .load false 1 (.s 91)⟩, ⟨31, (some 93), (some (90, false)), .bin .gtr (.s 92) (.k (.c (.int .i64 100)))⟩, ⟨32, (some 94), none, .pick (.s 90) (.k (.c (.bool true))) (.s 93)⟩] [(14, 20)] (some [94, 2, 3, 7]))
  (.cond (.s 94) (.seq (.region 0 [⟨0, (some 4), none, .mv (.k (.c (.int .i64 2)))⟩] [] (some [4]))
  .ret)
  .skip))))
  (.region 0 [⟨0, (some 55), none, .mv (.s 7)⟩, ⟨1, (some 56), none, .bin .add (.s 55) (.k (.c (.int .i64 1)))⟩, ⟨2, (some 7), none, .mv (.s 56)⟩] [] (some [3, 2, 7]))))
/-- kerbstone/kerbstoneref03.checkZone -/
abbrev f_kerbstoneref03_checkZone : Nat := 152
def c_kerbstoneref03_checkZone : CFn := { frz := true, rnd := none, nargs := 2, ntmps := 95, res := [(.slot 4)], code :=
  (.seq (.region 2 [⟨0, (some 2), none, .box 0 5 (.s 0)⟩, ⟨1, (some 3), none, .box 1 2 (.s 1)⟩, ⟨2, (some 4), none, .mv (.k (.c (.int .i64 0)))⟩] [] (some [3, 2]))
  (.seq (.seq (.region 0 [⟨0, (some 9), none, .faddr 0 (.s 3)⟩, ⟨1, (some 10), none, .load false 1 (.s 9)⟩, ⟨2, (some 11), none, .len (.s 10)⟩, ⟨3, (some 12), none, .bin .lss (.s 11) (.k (.c (.int .i64 2)))⟩] [] (some [12, 3, 2]))
  (.cond (.s 12) (.seq (.region 0 [⟨0, (some 4), none, .mv (.k (.c (.int .i64 6)))⟩] [] (some [4]))
  .ret)
  .skip))
  (.seq (.seq (.region 0 [⟨0, (some 13), none, .faddr 0 (.s 3)⟩, ⟨1, (some 14), none, .load false 1 (.s 13)⟩, ⟨2, (some 15), none, .len (.s 14)⟩, ⟨3, (some 16), none, .bin .gtr (.s 15) (.k (.c (.int .i64 6)))⟩] [] (some [16, 2, 3]))
  (.cond (.s 16) (.seq (.region 0 [⟨0, (some 4), none, .mv (.k (.c (.int .i64 8)))⟩] [] (some [4]))
  .ret)
  .skip))
  (.seq (.seq (.region 0 [⟨0, (some 17), none, .faddr 1 (.s 3)⟩, ⟨1, (some 18), none, .load false 1 (.s 17)⟩, ⟨2, (some 19), none, .bin .lss (.s 18) (.k (.c (.int .i64 0)))⟩, ⟨3, (some 20), none, .mv (.s 19)⟩, ⟨4, (some 21), (some (20, false)), .faddr 1 (.s 3)⟩, ⟨5, (some 22), (some (20, false)), .load false 1 (.s 21)⟩, ⟨6, (some 23), (some (20, false)), .faddr 3 (.s 2)⟩, ⟨7, (some 24), (some (20, false)), .load false 1 (.s 23)⟩, ⟨8, (some 25), (some (20, false)), .len (.s 24)⟩, ⟨9, (some 26), (some (20, false)), .bin .gtr (.s 22) (.s 25)⟩, ⟨10, (some 27), none, .pick (.s 20) (.k (.c (.bool true))) (.s 26)⟩] [] (some [27, 3, 2]))
  (.cond (.s 27) (.seq (.region 0 [⟨0, (some 4), none, .mv (.k (.c (.int .i64 2)))⟩] [] (some [4]))
  .ret)
  .skip))
  (.seq (.region 1 [⟨0, (some 5), none, .newsl 0 1⟩] [] (some [5, 2, 3]))
  (.seq (.seq (.region 0 [⟨0, (some 6), none, .mv (.k (.c (.int .i64 0)))⟩] [] (some [5, 6, 2, 3]))
  (.block 0 (.loop (some [5, 6, 2, 3]) c_kerbstoneref03_checkZone_l1)))
  (.seq (.seq (.region 0 [⟨0, (some 44), none, .mv (.s 5)⟩, ⟨1, (some 45), none, .faddr 1 (.s 2)⟩, ⟨2, (some 46), none, .load false 1 (.s 45)⟩, ⟨3, (some 47), none, .len (.s 46)⟩, ⟨4, (some 48), none, .call ⟨true⟩ (.k (.c (.fn 218 [] []))) [(.s 44), (.k (.c (.int .i64 0))), (.s 47)]⟩, ⟨5, (some 49), none, .un .not (.s 48)⟩] [] (some [49, 2, 3]))
  (.cond (.s 49) (.seq (.region 0 [⟨0, (some 4), none, .mv (.k (.c (.int .i64 11)))⟩] [] (some [4]))
  .ret)
  .skip))
  (.seq (.seq (.region 0 [⟨0, (some 7), none, .mv (.k (.c (.int .i64 0)))⟩] [] (some [3, 2, 7]))
  (.block 2 (.loop (some [3, 2, 7]) c_kerbstoneref03_checkZone_l2)))
  (.seq (.region 0 [⟨0, (some 4), none, .mv (.k (.c (.int .i64 0)))⟩] [] (some [4]))
  .ret))))))))) }
/-- kerbstone/kerbstoneref03.checkWork -/
abbrev f_kerbstoneref03_checkWork : Nat := 153
def c_kerbstoneref03_checkWork : CFn := { frz := true, rnd := none, nargs := 2, ntmps := 75, res := [(.slot 4)], code :=
  (.seq (.region 2 [⟨0, (some 2), none, .box 0 5 (.s 0)⟩, ⟨1, (some 3), none, .box 1 6 (.s 1)⟩, ⟨2, (some 4), none, .mv (.k (.c (.int .i64 0)))⟩] [] (some [3, 2]))
  (.seq (.seq (.region 0 [⟨0, (some 9), none, .faddr 0 (.s 3)⟩, ⟨1, (some 10), none, .load false 1 (.s 9)⟩, ⟨2, (some 11), none, .bin .lss (.s 10) (.k (.c (.int .i64 0)))⟩, ⟨3, (some 12), none, .mv (.s 11)⟩, ⟨4, (some 13), (some (12, false)), .faddr 0 (.s 3)⟩, ⟨5, (some 14), (some (12, false)), .load false 1 (.s 13)⟩, ⟨6, (some 15), (some (12, false)), .faddr 1 (.s 2)⟩, ⟨7, (some 16), (some (12, false)), .load false 1 (.s 15)⟩, ⟨8, (some 17), (some (12, false)), .len (.s 16)⟩, ⟨9, (some 18), (some (12, false)), .bin .geq (.s 14) (.s 17)⟩, ⟨10, (some 19), none, .pick (.s 12) (.k (.c (.bool true))) (.s 18)⟩] [] (some [19, 3, 2]))
  (.cond (.s 19) (.seq (.region 0 [⟨0, (some 4), none, .mv (.k (.c (.int .i64 7)))⟩] [] (some [4]))
  .ret)
  .skip))
  (.seq (.region 1 [⟨0, (some 20), none, .faddr 1 (.s 2)⟩, ⟨1, (some 21), none, .load false 1 (.s 20)⟩, ⟨2, (some 22), none, .faddr 0 (.s 3)⟩, ⟨3, (some 23), none, .load false 1 (.s 22)⟩, ⟨4, (some 24), none, .iaddr 5 (.s 21) (.s 23)⟩, ⟨5, (some 25), none, .load true 5 (.s 24)⟩, ⟨6, (some 5), none, .box 0 5 (.k (.a [(.int .i64 0), .nilslice, (.int .i64 0), (.int .i64 0), .nilslice]))⟩, ⟨7, none, none, .store 5 (.s 5) (.s 25)⟩] [] (some [5, 3]))
  (.seq (.region 0 [⟨0, (some 27), none, .faddr 0 (.s 5)⟩, ⟨1, (some 28), none, .load false 1 (.s 27)⟩, ⟨2, (some 29), none, .call ⟨true⟩ (.k (.c (.fn 57 [] []))) [(.s 28)]⟩, ⟨3, (some 26), none, .mv (.s 29)⟩, ⟨4, (some 30), none, .extract 26 0⟩, ⟨5, (some 31), none, .extract 26 1⟩, ⟨6, (some 32), none, .extract 26 2⟩, ⟨7, (some 6), none, .mv (.s 30)⟩, ⟨8, (some 7), none, .mv (.s 31)⟩, ⟨9, (some 8), none, .mv (.s 32)⟩] [] (some [5, 3, 6]))
  (.seq (.seq (.region 0 [⟨0, (some 33), none, .faddr 1 (.s 3)⟩, ⟨1, (some 34), none, .load false 1 (.s 33)⟩, ⟨2, (some 35), none, .bin .lss (.s 34) (.k (.c (.int .i64 0)))⟩, ⟨3, (some 36), none, .mv (.s 35)⟩, ⟨4, (some 37), (some (36, false)), .faddr 1 (.s 3)⟩, ⟨6, (some 39), (some (36, false)), .faddr 2 (.s 3)⟩, ⟨5, (some 38), (some (36, false)), .load false 1 (.s 37)⟩, ⟨7, (some 40), (some (36, false)), .load false 1 (.s 39)⟩, ⟨8, (some 41), (some (36, false)), .bin .gtr (.s 38) (.s 40)⟩, ⟨9, (some 42), none, .pick (.s 36) (.k (.c (.bool true))) (.s 41)⟩, ⟨10, (some 43), none, .mv (.s 42)⟩, ⟨11, (some 44), (some (43, false)), .faddr 2 (.s 3)⟩, ⟨13, (some 46), (some (43, false)), .faddr 1 (.s 5)⟩, ⟨12, (some 45), (some (43, false)), .load false 1 (.s 44)⟩, ⟨14, (some 47), (some (43, false)), .load true 1 (.s 46)⟩, ⟨15, (some 48), (some (43, false)), .call ⟨true⟩ (.k (.c (.fn 124 [] []))) [(.s 47)]⟩, ⟨16, (some 49), (some (43, false)), .bin .gtr (.s 45) (.s 48)⟩, ⟨17, (some 50), none, .pick (.s 43) (.k (.c (.bool true))) (.s 49)⟩, ⟨18, (some 51), none, .mv (.s 50)⟩, ⟨19, (some 52), (some (51, false)), .faddr 3 (.s 3)⟩, ⟨20, (some 53), (some (51, false)), .load false 1 (.s 52)⟩, ⟨21, (some 54), (some (51, false)), .bin .lss (.s 53) (.k (.c (.int .i64 0)))⟩, ⟨22, (some 55), none, .pick (.s 51) (.k (.c (.bool true))) (.s 54)⟩, ⟨23, (some 56), none, .mv (.s 55)⟩, ⟨24, (some 57), (some (56, false)), .faddr 3 (.s 3)⟩, ⟨26, (some 59), (some (56, false)), .faddr 4 (.s 3)⟩, ⟨25, (some 58), (some (56, false)), .load false 1 (.s 57)⟩, ⟨27, (some 60), (some (56, false)), .load false 1 (.s 59)⟩, ⟨28, (some 61), (some (56, false)), .bin .geq (.s 58) (.s 60)⟩, ⟨29, (some 62), none, .pick (.s 56) (.k (.c (.bool true))) (.s 61)⟩, ⟨30, (some 63), none, .mv (.s 62)⟩, ⟨31, (some 64), (some (63, false)), .faddr 4 (.s 3)⟩, ⟨32, (some 65), (some (63, false)), .load false 1 (.s 64)⟩, ⟨33, (some 66), (some (63, false)), .bin .gtr (.s 65) (.k (.c (.int .i64 1099511627776)))⟩, ⟨34, (some 67), none, .pick (.s 63) (.k (.c (.bool true))) (.s 66)⟩, ⟨35, (some 68), none, .mv (.s 67)⟩, ⟨36, (some 69), (some (68, false)), .faddr 5 (.s 3)⟩, ⟨38, (some 71), (some (68, false)), .mv (.s 6)⟩, ⟨37, (some 70), (some (68, false)), .load false 1 (.s 69)⟩, ⟨39, (some 72), (some (68, false)), .call ⟨true⟩ (.k (.c (.fn 148 [] []))) [(.s 70), (.k (.c (.int .i64 0))), (.s 71)]⟩, ⟨40, (some 73), (some (68, false)), .un .not (.s 72)⟩, ⟨41, (some 74), none, .pick (.s 68) (.k (.c (.bool true))) (.s 73)⟩] [(13, 15)] (some [74]))
  (.cond (.s 74) (.seq (.region 0 [⟨0, (some 4), none, .mv (.k (.c (.int .i64 2)))⟩] [] (some [4]))
  .ret)
  .skip))
  (.seq (.region 0 [⟨0, (some 4), none, .mv (.k (.c (.int .i64 0)))⟩] [] (some [4]))
  .ret)))))) }
/-- kerbstone/motion.ends[kerbstone/api.Blob] -/
abbrev f_motion_ends_Blob : Nat := 156
def c_motion_ends_Blob : CFn := { frz := true, rnd := none, nargs := 1, ntmps := 35, res := [(.slot 2), (.slot 3), (.slot 4)], code :=
  (.seq (.region 0 [⟨0, (some 2), none, .mv (.k (.c (.int .i64 0)))⟩, ⟨1, (some 3), none, .mv (.k (.c .nilptr))⟩, ⟨2, (some 4), none, .mv (.k (.c .nilptr))⟩] [] (some [0]))
  (.seq (.seq (.region 0 [⟨0, (some 7), none, .mv (.s 0)⟩, ⟨1, (some 8), none, .p1 (.mkif 143) (.s 7)⟩] [] (some [8]))
  (.block 0 (.seq (.region 0 [⟨0, (some 9), none, .p1 (.tass true 143 (.c .nilptr)) (.s 8)⟩, ⟨1, (some 10), none, .extract 9 1⟩, ⟨2, (some 11), none, .extract 9 0⟩] [] (some [10, 8, 11]))
  (.cond (.s 10) (.seq (.region 0 [⟨0, (some 5), none, .mv (.s 11)⟩] [] (some [5]))
  (.seq (.region 0 [⟨0, (some 12), none, .mv (.s 5)⟩, ⟨1, (some 13), none, .nilck (.s 12)⟩, ⟨2, (some 14), none, .faddr 0 (.s 13)⟩, ⟨4, (some 16), none, .mv (.s 5)⟩, ⟨5, (some 17), none, .nilck (.s 16)⟩, ⟨6, (some 18), none, .faddr 1 (.s 17)⟩, ⟨7, (some 19), none, .mv (.s 5)⟩, ⟨8, (some 20), none, .nilck (.s 19)⟩, ⟨9, (some 21), none, .faddr 2 (.s 20)⟩, ⟨3, (some 15), none, .load false 1 (.s 14)⟩, ⟨10, (some 2), none, .mv (.s 15)⟩, ⟨11, (some 3), none, .mv (.s 18)⟩, ⟨12, (some 4), none, .mv (.s 21)⟩] [] (some [2, 3, 4]))
  .ret))
  (.seq (.region 0 [⟨0, (some 22), none, .p1 (.tass true 181 (.c .nilptr)) (.s 8)⟩, ⟨1, (some 23), none, .extract 22 1⟩, ⟨2, (some 24), none, .extract 22 0⟩] [] (some [23, 24]))
  (.cond (.s 23) (.seq (.region 0 [⟨0, (some 6), none, .mv (.s 24)⟩] [] (some [6]))
  (.seq (.region 0 [⟨0, (some 25), none, .mv (.s 6)⟩, ⟨1, (some 26), none, .nilck (.s 25)⟩, ⟨2, (some 27), none, .faddr 0 (.s 26)⟩, ⟨4, (some 29), none, .mv (.s 6)⟩, ⟨5, (some 30), none, .nilck (.s 29)⟩, ⟨6, (some 31), none, .faddr 1 (.s 30)⟩, ⟨7, (some 32), none, .mv (.s 6)⟩, ⟨8, (some 33), none, .nilck (.s 32)⟩, ⟨9, (some 34), none, .faddr 2 (.s 33)⟩, ⟨3, (some 28), none, .load false 1 (.s 27)⟩, ⟨10, (some 2), none, .mv (.s 28)⟩, ⟨11, (some 3), none, .mv (.s 31)⟩, ⟨12, (some 4), none, .mv (.s 34)⟩] [] (some [2, 3, 4]))
  .ret))
  .skip))))))
  (.seq (.region 0 [⟨0, (some 2), none, .mv (.k (.c (.int .i64 0)))⟩, ⟨1, (some 3), none, .mv (.k (.c .nilptr))⟩, ⟨2, (some 4), none, .mv (.k (.c .nilptr))⟩] [] (some [2, 3, 4]))
  .ret))) }
def c_kerbstoneref01_Pieces_l1 : CC := (.seq (.seq (.region 0 [⟨0, (some 9), none, .mv (.s 4)⟩, ⟨1, (some 10), none, .bin .add (.s 9) (.k (.c (.int .i64 1)))⟩, ⟨2, (some 11), none, .faddr 0 (.s 1)⟩, ⟨3, (some 12), none, .load false 1 (.s 11)⟩, ⟨4, (some 13), none, .len (.s 12)⟩, ⟨5, (some 14), none, .bin .lss (.s 10) (.s 13)⟩] [] (some [14, 3, 4, 1]))
  (.cond (.s 14) .skip
  (.exit 0)))
  (.seq (.block 1 (.seq (.region 1 [⟨0, (some 17), none, .faddr 0 (.s 1)⟩, ⟨2, (some 19), none, .mv (.s 4)⟩, ⟨3, (some 20), none, .bin .add (.s 19) (.k (.c (.int .i64 1)))⟩, ⟨6, (some 23), none, .faddr 0 (.s 1)⟩, ⟨8, (some 25), none, .mv (.s 4)⟩, ⟨1, (some 18), none, .load false 1 (.s 17)⟩, ⟨4, (some 21), none, .iaddr 2 (.s 18) (.s 20)⟩, ⟨5, (some 22), none, .load true 2 (.s 21)⟩, ⟨7, (some 24), none, .load false 1 (.s 23)⟩, ⟨9, (some 26), none, .iaddr 2 (.s 24) (.s 25)⟩, ⟨10, (some 27), none, .load true 2 (.s 26)⟩, ⟨11, (some 28), none, .call ⟨true⟩ (.k (.c (.fn 167 [] []))) [(.s 22), (.s 27)]⟩, ⟨12, (some 5), none, .box 0 2 (.k (.a [(.int .i64 0), (.int .i64 0)]))⟩, ⟨13, none, none, .store 2 (.s 5) (.s 28)⟩] [(5, 12), (7, 12), (8, 12), (10, 12), (11, 12)] (some [3, 5, 4, 1]))
  (.region 1 [⟨0, (some 29), none, .mv (.s 3)⟩, ⟨1, (some 30), none, .load true 2 (.s 5)⟩, ⟨2, (some 31), none, .load true 2 (.s 5)⟩, ⟨3, (some 32), none, .call ⟨true⟩ (.k (.c (.fn 220 [] []))) [(.s 30), (.s 31)]⟩, ⟨4, (some 33), none, .call ⟨true⟩ (.k (.c (.fn 225 [] []))) [(.s 32)]⟩, ⟨5, (some 34), none, .lit 0 1 [[(.int .i64 0)]] [(0, (.s 33))]⟩, ⟨6, (some 35), none, .append 1 8 (.s 29) (.s 34)⟩, ⟨7, (some 3), none, .mv (.s 35)⟩] [] (some [4, 3, 1]))))
  (.region 0 [⟨0, (some 15), none, .mv (.s 4)⟩, ⟨1, (some 16), none, .bin .add (.s 15) (.k (.c (.int .i64 1)))⟩, ⟨2, (some 4), none, .mv (.s 16)⟩] [] (some [3, 4, 1]))))
/-- kerbstone/kerbstoneref01.Pieces -/
abbrev f_kerbstoneref01_Pieces : Nat := 165
def c_kerbstoneref01_Pieces : CFn := { frz := true, rnd := none, nargs := 1, ntmps := 37, res := [(.slot 2)], code :=
  (.seq (.region 2 [⟨0, (some 1), none, .box 0 1 (.s 0)⟩, ⟨1, (some 2), none, .newsl 1 1⟩] [] (some [1]))
  (.seq (.seq (.region 0 [⟨0, (some 6), none, .load true 1 (.s 1)⟩, ⟨1, (some 7), none, .call ⟨true⟩ (.k (.c (.fn 217 [] []))) [(.s 6)]⟩, ⟨2, (some 8), none, .bin .neq (.s 7) (.k (.c (.int .i64 0)))⟩] [] (some [8, 1]))
  (.cond (.s 8) (.seq (.region 1 [⟨0, (some 2), none, .newsl 0 1⟩] [] (some [2]))
  .ret)
  .skip))
  (.seq (.region 1 [⟨0, (some 3), none, .newsl 0 1⟩] [] (some [3, 1]))
  (.seq (.seq (.region 0 [⟨0, (some 4), none, .mv (.k (.c (.int .i64 0)))⟩] [] (some [3, 4, 1]))
  (.block 0 (.loop (some [3, 4, 1]) c_kerbstoneref01_Pieces_l1)))
  (.seq (.region 0 [⟨0, (some 36), none, .mv (.s 3)⟩, ⟨1, (some 2), none, .mv (.s 36)⟩] [] (some [2]))
  .ret))))) }
/-- kerbstone/kerbstoneref01.Minus -/
abbrev f_kerbstoneref01_Minus : Nat := 167
def c_kerbstoneref01_Minus : CFn := { frz := true, rnd := none, nargs := 2, ntmps := 16, res := [(.cell 4 true 2)], code :=
  (.seq (.region 3 [⟨0, (some 2), none, .box 0 2 (.s 0)⟩, ⟨1, (some 3), none, .box 1 2 (.s 1)⟩, ⟨2, (some 4), none, .box 2 2 (.k (.a [(.int .i64 0), (.int .i64 0)]))⟩] [] (some [2, 3, 4]))
  (.seq (.region 0 [⟨0, (some 5), none, .faddr 0 (.s 2)⟩, ⟨1, (some 6), none, .load false 1 (.s 5)⟩, ⟨2, (some 7), none, .faddr 0 (.s 3)⟩, ⟨3, (some 8), none, .load false 1 (.s 7)⟩, ⟨4, (some 9), none, .bin .sub (.s 6) (.s 8)⟩, ⟨5, (some 10), none, .faddr 1 (.s 2)⟩, ⟨6, (some 11), none, .load false 1 (.s 10)⟩, ⟨7, (some 12), none, .faddr 1 (.s 3)⟩, ⟨8, (some 13), none, .load false 1 (.s 12)⟩, ⟨9, (some 14), none, .bin .sub (.s 11) (.s 13)⟩, ⟨10, (some 15), none, .build [(.int .i64 0), (.int .i64 0)] [(0, 1, (.s 9)), (1, 1, (.s 14))]⟩, ⟨11, none, none, .store 2 (.s 4) (.s 15)⟩] [] (some [4]))
  .ret)) }
def c_slices_DeleteFunc_Blob_l1 : CC := (.seq (.seq (.region 0 [⟨0, (some 16), none, .mv (.s 6)⟩, ⟨1, (some 17), none, .mv (.s 0)⟩, ⟨2, (some 18), none, .len (.s 17)⟩, ⟨3, (some 19), none, .bin .lss (.s 16) (.s 18)⟩] [] (some [19, 5, 6, 1, 0]))
  (.cond (.s 19) .skip
  (.exit 0)))
  (.seq (.block 1 (.seq (.region 1 [⟨0, (some 22), none, .mv (.s 0)⟩, ⟨1, (some 23), none, .mv (.s 6)⟩, ⟨2, (some 24), none, .iaddr 6 (.s 22) (.s 23)⟩, ⟨3, (some 25), none, .load true 6 (.s 24)⟩, ⟨4, (some 7), none, .box 0 6 (.k (.a [(.int .i64 0), (.int .i64 0), (.int .i64 0), (.int .i64 0), (.int .i64 0), (.int .i64 0)]))⟩, ⟨5, none, none, .store 6 (.s 7) (.s 25)⟩] [] (some [7, 5, 6, 1, 0]))
  (.seq (.region 0 [⟨0, (some 26), none, .mv (.s 1)⟩, ⟨1, (some 27), none, .load true 6 (.s 7)⟩, ⟨2, (some 28), none, .call ⟨true⟩ (.s 26) [(.s 27)]⟩, ⟨3, (some 29), none, .un .not (.s 28)⟩] [] (some [29, 7, 5, 6, 1, 0]))
  (.cond (.s 29) (.seq (.region 0 [⟨0, (some 30), none, .mv (.s 0)⟩, ⟨1, (some 31), none, .mv (.s 5)⟩, ⟨2, (some 32), none, .load true 6 (.s 7)⟩, ⟨3, (some 33), none, .iaddr 6 (.s 30) (.s 31)⟩, ⟨4, none, none, .store 6 (.s 33) (.s 32)⟩] [] (some [5, 6, 1, 0]))
  (.region 0 [⟨0, (some 34), none, .mv (.s 5)⟩, ⟨1, (some 35), none, .bin .add (.s 34) (.k (.c (.int .i64 1)))⟩, ⟨2, (some 5), none, .mv (.s 35)⟩] [] (some [6, 5, 1, 0])))
  .skip))))
  (.region 0 [⟨0, (some 20), none, .mv (.s 6)⟩, ⟨1, (some 21), none, .bin .add (.s 20) (.k (.c (.int .i64 1)))⟩, ⟨2, (some 6), none, .mv (.s 21)⟩] [] (some [5, 6, 1, 0]))))
/-- slices.DeleteFunc[[]kerbstone/api.Blob,kerbstone/api.Blob] -/
abbrev f_slices_DeleteFunc_Blob : Nat := 170
def c_slices_DeleteFunc_Blob : CFn := { frz := false, rnd := none, nargs := 2, ntmps := 42, res := [(.slot 4)], code :=
  (.seq (.region 1 [⟨0, (some 4), none, .newsl 0 6⟩] [] (some [1, 0]))
  (.seq (.region 0 [⟨0, (some 8), none, .mv (.s 0)⟩, ⟨1, (some 9), none, .mv (.s 1)⟩, ⟨2, (some 10), none, .call ⟨true⟩ (.k (.c (.fn 140 [] []))) [(.s 8), (.s 9)]⟩, ⟨3, (some 5), none, .mv (.s 10)⟩] [] (some [1, 5, 0]))
  (.seq (.seq (.region 0 [⟨0, (some 11), none, .mv (.s 5)⟩, ⟨1, (some 12), none, .bin .eql (.s 11) (.k (.c (.int .i64 (-1))))⟩] [] (some [12, 1, 5, 0]))
  (.cond (.s 12) (.seq (.region 0 [⟨0, (some 13), none, .mv (.s 0)⟩, ⟨1, (some 4), none, .mv (.s 13)⟩] [] (some [4]))
  .ret)
  .skip))
  (.seq (.seq (.region 0 [⟨0, (some 14), none, .mv (.s 5)⟩, ⟨1, (some 15), none, .bin .add (.s 14) (.k (.c (.int .i64 1)))⟩, ⟨2, (some 6), none, .mv (.s 15)⟩] [] (some [5, 6, 1, 0]))
  (.block 0 (.loop (some [5, 6, 1, 0]) c_slices_DeleteFunc_Blob_l1)))
  (.seq (.region 0 [⟨0, (some 36), none, .mv (.s 0)⟩, ⟨1, (some 37), none, .mv (.s 5)⟩, ⟨2, (some 38), none, .slice 6 (.s 36) (some (.s 37)) none none⟩, ⟨3, none, none, .clear [(.int .i64 0), (.int .i64 0), (.int .i64 0), (.int .i64 0), (.int .i64 0), (.int .i64 0)] (.s 38)⟩] [] (some [0, 5]))
  (.seq (.region 0 [⟨0, (some 39), none, .mv (.s 0)⟩, ⟨1, (some 40), none, .mv (.s 5)⟩, ⟨2, (some 41), none, .slice 6 (.s 39) none (some (.s 40)) none⟩, ⟨3, (some 4), none, .mv (.s 41)⟩] [] (some [4]))
  .ret)))))) }
/-- kerbstone/motion.Join$1 -/
abbrev f_motion_Join_1 : Nat := 171
def c_motion_Join_1 : CFn := { frz := true, rnd := none, nargs := 1, ntmps := 8, res := [(.slot 2)], code :=
  (.seq (.region 1 [⟨0, (some 1), none, .box 0 6 (.s 0)⟩, ⟨1, (some 2), none, .mv (.k (.c (.bool false)))⟩] [] (some [1]))
  (.seq (.region 0 [⟨0, (some 3), none, .faddr 1 (.s 1)⟩, ⟨1, (some 4), none, .load false 1 (.s 3)⟩, ⟨2, (some 5), none, .faddr 2 (.s 1)⟩, ⟨3, (some 6), none, .load false 1 (.s 5)⟩, ⟨4, (some 7), none, .bin .gtr (.s 4) (.s 6)⟩, ⟨5, (some 2), none, .mv (.s 7)⟩] [] (some [2]))
  .ret)) }
/-- slices.SortStableFunc[[]kerbstone/api.Blob,kerbstone/api.Blob] -/
abbrev f_slices_SortStableFunc_Blob : Nat := 172
def c_slices_SortStableFunc_Blob : CFn := { frz := true, rnd := none, nargs := 2, ntmps := 9, res := [], code :=
  (.region 0 [⟨0, (some 4), none, .mv (.s 0)⟩, ⟨1, (some 5), none, .mv (.s 0)⟩, ⟨2, (some 6), none, .len (.s 5)⟩, ⟨3, (some 7), none, .mv (.s 1)⟩, ⟨4, (some 8), none, .call ⟨false⟩ (.k (.c (.fn 226 [] []))) [(.s 4), (.s 6), (.s 7)]⟩] [] (some [])) }
/-- kerbstone/motion.Join$2 -/
abbrev f_motion_Join_2 : Nat := 173
def c_motion_Join_2 : CFn := { frz := true, rnd := none, nargs := 2, ntmps := 17, res := [(.slot 4)], code :=
  (.seq (.region 2 [⟨0, (some 2), none, .box 0 6 (.s 0)⟩, ⟨1, (some 3), none, .box 1 6 (.s 1)⟩, ⟨2, (some 4), none, .mv (.k (.c (.int .i64 0)))⟩] [] (some [2, 3]))
  (.seq (.region 1 [⟨0, (some 5), none, .faddr 0 (.s 2)⟩, ⟨2, (some 7), none, .faddr 0 (.s 3)⟩, ⟨5, (some 10), none, .faddr 1 (.s 2)⟩, ⟨7, (some 12), none, .faddr 1 (.s 3)⟩, ⟨1, (some 6), none, .load false 1 (.s 5)⟩, ⟨3, (some 8), none, .load false 1 (.s 7)⟩, ⟨6, (some 11), none, .load false 1 (.s 10)⟩, ⟨8, (some 13), none, .load false 1 (.s 12)⟩, ⟨4, (some 9), none, .call ⟨true⟩ (.k (.c (.fn 175 [] []))) [(.s 6), (.s 8)]⟩, ⟨9, (some 14), none, .call ⟨true⟩ (.k (.c (.fn 84 [] []))) [(.s 11), (.s 13)]⟩, ⟨10, (some 15), none, .lit 0 1 [[(.int .i64 0)], [(.int .i64 0)]] [(0, (.s 9)), (1, (.s 14))]⟩, ⟨11, (some 16), none, .call ⟨true⟩ (.k (.c (.fn 174 [] []))) [(.s 15)]⟩, ⟨12, (some 4), none, .mv (.s 16)⟩] [(6, 8), (7, 8)] (some [4]))
  .ret)) }
def c_cmp_Or_int_l1 : CC := (.seq (.region 0 [⟨0, (some 9), none, .bin .lss (.s 8) (.s 7)⟩] [] (some [9, 3, 6, 7, 8]))
  (.seq (.cond (.s 9) .skip
  (.exit 0))
  (.seq (.block 1 (.seq (.region 0 [⟨0, (some 10), none, .iaddr 1 (.s 6) (.s 8)⟩, ⟨1, (some 11), none, .load false 1 (.s 10)⟩, ⟨2, (some 5), none, .mv (.s 11)⟩] [] (some [3, 6, 7, 8, 5]))
  (.seq (.region 0 [⟨0, (some 12), none, .mv (.s 5)⟩, ⟨1, (some 13), none, .mv (.s 3)⟩, ⟨2, (some 14), none, .bin .neq (.s 12) (.s 13)⟩] [] (some [14, 3, 6, 7, 8, 5]))
  (.cond (.s 14) (.seq (.region 0 [⟨0, (some 15), none, .mv (.s 5)⟩, ⟨1, (some 2), none, .mv (.s 15)⟩] [] (some [2]))
  .ret)
  .skip))))
  (.region 0 [⟨0, (some 16), none, .bin .add (.s 8) (.k (.c (.int .i64 1)))⟩, ⟨1, (some 8), none, .mv (.s 16)⟩] [] (some [7, 6, 3, 8])))))
/-- cmp.Or[int] -/
abbrev f_cmp_Or_int : Nat := 174
def c_cmp_Or_int : CFn := { frz := true, rnd := none, nargs := 1, ntmps := 18, res := [(.slot 2)], code :=
  (.seq (.region 0 [⟨0, (some 2), none, .mv (.k (.c (.int .i64 0)))⟩] [] (some [0]))
  (.seq (.region 0 [⟨0, (some 3), none, .mv (.k (.c (.int .i64 0)))⟩] [] (some [0, 3]))
  (.seq (.seq (.region 0 [⟨0, (some 6), none, .mv (.s 0)⟩, ⟨1, (some 7), none, .len (.s 6)⟩, ⟨2, (some 8), none, .mv (.k (.c (.int .i64 0)))⟩] [] (some [7, 6, 3, 8]))
  (.block 0 (.loop (some [7, 6, 3, 8]) c_cmp_Or_int_l1)))
  (.seq (.region 0 [⟨0, (some 17), none, .mv (.s 3)⟩, ⟨1, (some 2), none, .mv (.s 17)⟩] [] (some [2]))
  .ret)))) }
/-- cmp.Compare[int] -/
abbrev f_cmp_Compare_int : Nat := 175
def c_cmp_Compare_int : CFn := { frz := true, rnd := none, nargs := 2, ntmps := 20, res := [(.slot 4)], code :=
  (.seq (.region 0 [⟨0, (some 4), none, .mv (.k (.c (.int .i64 0)))⟩] [] (some [1, 0]))
  (.seq (.region 0 [⟨0, (some 7), none, .mv (.s 0)⟩, ⟨1, (some 8), none, .call ⟨true⟩ (.k (.c (.fn 227 [] []))) [(.s 7)]⟩, ⟨2, (some 5), none, .mv (.s 8)⟩] [] (some [5, 1, 0]))
  (.seq (.region 0 [⟨0, (some 9), none, .mv (.s 1)⟩, ⟨1, (some 10), none, .call ⟨true⟩ (.k (.c (.fn 227 [] []))) [(.s 9)]⟩, ⟨2, (some 6), none, .mv (.s 10)⟩] [] (some [5, 1, 0, 6]))
  (.seq (.seq (.region 0 [⟨0, (some 11), none, .mv (.s 5)⟩] [] (some [11, 1, 0, 6]))
  (.cond (.s 11) (.seq (.seq (.region 0 [⟨0, (some 12), none, .mv (.s 6)⟩] [] (some [12]))
  (.cond (.s 12) (.seq (.region 0 [⟨0, (some 4), none, .mv (.k (.c (.int .i64 0)))⟩] [] (some [4]))
  .ret)
  .skip))
  (.seq (.region 0 [⟨0, (some 4), none, .mv (.k (.c (.int .i64 (-1))))⟩] [] (some [4]))
  .ret))
  .skip))
  (.seq (.seq (.region 0 [⟨0, (some 13), none, .mv (.s 6)⟩] [] (some [13, 0, 1]))
  (.cond (.s 13) (.seq (.region 0 [⟨0, (some 4), none, .mv (.k (.c (.int .i64 1)))⟩] [] (some [4]))
  .ret)
  .skip))
  (.seq (.seq (.region 0 [⟨0, (some 14), none, .mv (.s 0)⟩, ⟨1, (some 15), none, .mv (.s 1)⟩, ⟨2, (some 16), none, .bin .lss (.s 14) (.s 15)⟩] [] (some [16, 1, 0]))
  (.cond (.s 16) (.seq (.region 0 [⟨0, (some 4), none, .mv (.k (.c (.int .i64 (-1))))⟩] [] (some [4]))
  .ret)
  .skip))
  (.seq (.seq (.region 0 [⟨0, (some 17), none, .mv (.s 0)⟩, ⟨1, (some 18), none, .mv (.s 1)⟩, ⟨2, (some 19), none, .bin .gtr (.s 17) (.s 18)⟩] [] (some [19]))
  (.cond (.s 19) (.seq (.region 0 [⟨0, (some 4), none, .mv (.k (.c (.int .i64 1)))⟩] [] (some [4]))
  .ret)
  .skip))
  (.seq (.region 0 [⟨0, (some 4), none, .mv (.k (.c (.int .i64 0)))⟩] [] (some [4]))
  .ret)))))))) }
/-- kerbstone/motion.hull -/
abbrev f_motion_hull : Nat := 176
def c_motion_hull : CFn := { frz := true, rnd := none, nargs := 2, ntmps := 48, res := [(.cell 4 true 6)], code :=
  (.seq (.region 3 [⟨0, (some 2), none, .box 0 6 (.s 0)⟩, ⟨1, (some 3), none, .box 1 6 (.s 1)⟩, ⟨2, (some 4), none, .box 2 6 (.k (.a [(.int .i64 0), (.int .i64 0), (.int .i64 0), (.int .i64 0), (.int .i64 0), (.int .i64 0)]))⟩] [] (some [3, 2, 4]))
  (.seq (.region 0 [⟨0, (some 5), none, .faddr 1 (.s 2)⟩, ⟨2, (some 7), none, .faddr 1 (.s 3)⟩, ⟨5, (some 10), none, .faddr 2 (.s 2)⟩, ⟨7, (some 12), none, .faddr 2 (.s 3)⟩, ⟨10, (some 15), none, .faddr 3 (.s 2)⟩, ⟨12, (some 17), none, .faddr 3 (.s 3)⟩, ⟨15, (some 20), none, .faddr 4 (.s 2)⟩, ⟨17, (some 22), none, .faddr 4 (.s 3)⟩, ⟨1, (some 6), none, .load false 1 (.s 5)⟩, ⟨3, (some 8), none, .load false 1 (.s 7)⟩, ⟨6, (some 11), none, .load false 1 (.s 10)⟩, ⟨8, (some 13), none, .load false 1 (.s 12)⟩, ⟨11, (some 16), none, .load false 1 (.s 15)⟩, ⟨13, (some 18), none, .load false 1 (.s 17)⟩, ⟨16, (some 21), none, .load false 1 (.s 20)⟩, ⟨18, (some 23), none, .load false 1 (.s 22)⟩, ⟨4, (some 9), none, .minmax false [(.s 6), (.s 8)]⟩, ⟨20, (some 25), none, .faddr 1 (.s 2)⟩, ⟨9, (some 14), none, .minmax true [(.s 11), (.s 13)]⟩, ⟨14, (some 19), none, .minmax false [(.s 16), (.s 18)]⟩, ⟨19, (some 24), none, .minmax true [(.s 21), (.s 23)]⟩, ⟨21, none, none, .store 1 (.s 25) (.s 9)⟩, ⟨22, (some 26), none, .faddr 2 (.s 2)⟩, ⟨23, none, none, .store 1 (.s 26) (.s 14)⟩, ⟨24, (some 27), none, .faddr 3 (.s 2)⟩, ⟨25, none, none, .store 1 (.s 27) (.s 19)⟩, ⟨26, (some 28), none, .faddr 4 (.s 2)⟩, ⟨27, none, none, .store 1 (.s 28) (.s 24)⟩] [(11, 21), (13, 21), (13, 23), (15, 21), (15, 23), (15, 25)] (some [3, 2, 4]))
  (.seq (.seq (.region 0 [⟨0, (some 29), none, .faddr 5 (.s 2)⟩, ⟨1, (some 30), none, .load false 1 (.s 29)⟩, ⟨2, (some 31), none, .bin .eql (.s 30) (.k (.c (.int .i64 0)))⟩, ⟨3, (some 32), none, .mv (.s 31)⟩, ⟨4, (some 33), (some (32, false)), .faddr 5 (.s 3)⟩, ⟨5, (some 34), (some (32, false)), .load false 1 (.s 33)⟩, ⟨6, (some 35), (some (32, false)), .bin .eql (.s 34) (.k (.c (.int .i64 0)))⟩, ⟨7, (some 36), none, .pick (.s 32) (.k (.c (.bool true))) (.s 35)⟩] [] (some [36, 3, 2, 4]))
  (.cond (.s 36) (.region 0 [⟨0, (some 37), none, .faddr 5 (.s 2)⟩, ⟨1, none, none, .store 1 (.s 37) (.k (.c (.int .i64 0)))⟩] [] (some [3, 2, 4]))
  .skip))
  (.seq (.seq (.region 0 [⟨0, (some 38), none, .faddr 5 (.s 2)⟩, ⟨1, (some 39), none, .load false 1 (.s 38)⟩, ⟨2, (some 40), none, .bin .neq (.s 39) (.k (.c (.int .i64 0)))⟩] [] (some [40, 3, 2, 4]))
  (.cond (.s 40) (.region 0 [⟨0, (some 41), none, .faddr 5 (.s 2)⟩, ⟨1, (some 42), none, .load false 1 (.s 41)⟩, ⟨2, (some 43), none, .faddr 5 (.s 3)⟩, ⟨3, (some 44), none, .load false 1 (.s 43)⟩, ⟨4, (some 45), none, .minmax true [(.s 42), (.s 44)]⟩, ⟨5, (some 46), none, .faddr 5 (.s 2)⟩, ⟨6, none, none, .store 1 (.s 46) (.s 45)⟩] [] (some [2, 4]))
  .skip))
  (.seq (.region 0 [⟨0, (some 47), none, .load true 6 (.s 2)⟩, ⟨1, none, none, .store 6 (.s 4) (.s 47)⟩] [] (some [4]))
  .ret))))) }
def c_roads_before_l1 : CC := (.seq (.region 0 [⟨0, (some 12), none, .bin .lss (.s 11) (.s 10)⟩] [] (some [12, 5, 11, 10, 9, 1]))
  (.seq (.cond (.s 12) .skip
  (.exit 0))
  (.seq (.block 1 (.seq (.region 1 [⟨0, (some 13), none, .mv (.s 11)⟩, ⟨1, (some 14), none, .iaddr 5 (.s 9) (.s 11)⟩, ⟨2, (some 15), none, .load true 5 (.s 14)⟩, ⟨3, (some 7), none, .box 0 5 (.k (.a [(.int .i64 0), .nilslice, (.int .i64 0), (.int .i64 0), .nilslice]))⟩, ⟨4, (some 6), none, .mv (.s 13)⟩, ⟨5, none, none, .store 5 (.s 7) (.s 15)⟩] [] (some [7, 5, 6, 11, 10, 9, 1]))
  (.seq (.region 0 [⟨0, (some 16), none, .faddr 4 (.s 7)⟩, ⟨1, (some 17), none, .load false 1 (.s 16)⟩, ⟨2, (some 18), none, .mv (.s 1)⟩, ⟨3, (some 19), none, .call ⟨true⟩ (.k (.c (.fn 178 [] []))) [(.s 17), (.s 18)]⟩] [] (some [19, 5, 6, 11, 10, 9, 1]))
  (.cond (.s 19) (.region 1 [⟨0, (some 20), none, .mv (.s 5)⟩, ⟨1, (some 21), none, .mv (.s 6)⟩, ⟨2, (some 22), none, .lit 0 1 [[(.int .i64 0)]] [(0, (.s 21))]⟩, ⟨3, (some 23), none, .append 1 8 (.s 20) (.s 22)⟩, ⟨4, (some 5), none, .mv (.s 23)⟩] [] (some [11, 5, 10, 9, 1]))
  .skip))))
  (.region 0 [⟨0, (some 24), none, .bin .add (.s 11) (.k (.c (.int .i64 1)))⟩, ⟨1, (some 11), none, .mv (.s 24)⟩] [] (some [5, 11, 10, 9, 1])))))
/-- kerbstone/roads.before -/
abbrev f_roads_before : Nat := 177
def c_roads_before : CFn := { frz := true, rnd := none, nargs := 2, ntmps := 26, res := [(.slot 4)], code :=
  (.seq (.region 2 [⟨0, (some 2), none, .box 0 5 (.s 0)⟩, ⟨1, (some 4), none, .newsl 1 1⟩] [] (some [2, 1]))
  (.seq (.region 1 [⟨0, (some 5), none, .newsl 0 1⟩] [] (some [2, 5, 1]))
  (.seq (.seq (.region 0 [⟨0, (some 8), none, .faddr 1 (.s 2)⟩, ⟨1, (some 9), none, .load false 1 (.s 8)⟩, ⟨2, (some 10), none, .len (.s 9)⟩, ⟨3, (some 11), none, .mv (.k (.c (.int .i64 0)))⟩] [] (some [5, 11, 10, 9, 1]))
  (.block 0 (.loop (some [5, 11, 10, 9, 1]) c_roads_before_l1)))
  (.seq (.region 0 [⟨0, (some 25), none, .mv (.s 5)⟩, ⟨1, (some 4), none, .mv (.s 25)⟩] [] (some [4]))
  .ret)))) }
/-- slices.Contains[[]int,int] -/
abbrev f_slices_Contains_int : Nat := 178
def c_slices_Contains_int : CFn := { frz := true, rnd := none, nargs := 2, ntmps := 9, res := [(.slot 4)], code :=
  (.seq (.region 0 [⟨0, (some 4), none, .mv (.k (.c (.bool false)))⟩] [] (some [0, 1]))
  (.seq (.region 0 [⟨0, (some 5), none, .mv (.s 0)⟩, ⟨1, (some 6), none, .mv (.s 1)⟩, ⟨2, (some 7), none, .call ⟨true⟩ (.k (.c (.fn 228 [] []))) [(.s 5), (.s 6)]⟩, ⟨3, (some 8), none, .bin .geq (.s 7) (.k (.c (.int .i64 0)))⟩, ⟨4, (some 4), none, .mv (.s 8)⟩] [] (some [4]))
  .ret)) }
/-- kerbstone/roads.RouteLength -/
abbrev f_roads_RouteLength : Nat := 179
def c_roads_RouteLength : CFn := { frz := true, rnd := none, nargs := 2, ntmps := 9, res := [(.slot 4)], code :=
  (.seq (.region 1 [⟨0, (some 2), none, .box 0 5 (.s 0)⟩, ⟨1, (some 4), none, .mv (.k (.c (.int .i64 0)))⟩] [] (some [2, 1]))
  (.seq (.region 0 [⟨0, (some 5), none, .load true 5 (.s 2)⟩, ⟨1, (some 6), none, .mv (.s 1)⟩, ⟨2, (some 7), none, .call ⟨true⟩ (.k (.c (.fn 197 [] []))) [(.s 5), (.s 6)]⟩, ⟨3, (some 8), none, .field false 7 1 (.s 7)⟩, ⟨4, (some 4), none, .mv (.s 8)⟩] [] (some [4]))
  .ret)) }
end Go.TrRun
