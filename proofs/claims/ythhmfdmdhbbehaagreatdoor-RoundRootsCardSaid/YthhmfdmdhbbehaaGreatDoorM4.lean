/-
  A part of the proof of the statements of this seat (texts that the law's own text leans on): no condition.
-/
import Derived.Test.YthhmfdmdhbbehaaGreatDoorM1
import Derived.Test.YthhmfdmdhbbehaaGreatDoorM3
set_option linter.unusedVariables false
set_option linter.unusedSimpArgs false
/-
  The code of some functions, in the evaluator's form (written by a program from the program's own form).
-/
namespace Go.Cv
def c_law04_RoundBetween : IFn := ⟨[.tmp 6],
(.seq (.reg [⟨some 5, .box 3 (.t 2), none⟩,
⟨some 6, .mov (.c (.bool false)), none⟩] [0, 1, 5] [])
(.seq (.seq (.reg [⟨some 21, .load true 3 (.t 5), none⟩,
⟨some 22, .call false (.f 4) [(.t 21)], none⟩,
⟨some 23, .mov (.t 22), none⟩,
⟨some 24, .mov (.t 0), some (23, false)⟩,
⟨some 25, .mov (.t 1), some (23, false)⟩,
⟨some 26, .load true 3 (.t 5), some (23, false)⟩,
⟨some 27, .bslice 1 3 [(.bool false), .nil, (.int .i64 0)] [(0, 3, (.t 26))], some (23, false)⟩,
⟨some 28, .call false (.f 9) [(.t 24), (.t 25), (.t 27)], some (23, false)⟩,
⟨some 29, .bin .neq (.t 28) (.c (.int .i64 0)), some (23, false)⟩,
⟨some 30, .pick (.t 23) (.c (.bool true)) (.t 29), none⟩,
⟨some 31, .mov (.t 30), none⟩,
⟨some 32, .load true 3 (.t 5), some (31, false)⟩,
⟨some 33, .call false (.f 16) [(.t 32)], some (31, false)⟩,
⟨some 34, .bin .eql (.t 33) (.c (.int .i64 0)), some (31, false)⟩,
⟨some 35, .pick (.t 31) (.c (.bool true)) (.t 34), none⟩] [0, 1, 5, 35] [])
(.cond (.t 35)
(.seq (.reg [⟨some 36, .call false (.f 5) [], none⟩,
⟨some 6, .mov (.t 36), none⟩] [6] [])
.ret)
.skip))
(.seq (.reg [⟨some 38, .mov (.t 0), none⟩,
⟨some 39, .load true 3 (.t 5), none⟩,
⟨some 40, .call false (.f 7) [(.t 38), (.c (.int .u8 5)), (.t 39)], none⟩,
⟨some 37, .mov (.t 40), none⟩,
⟨some 41, .ext (.t 37) 0, none⟩,
⟨some 42, .ext (.t 37) 1, none⟩,
⟨some 43, .ext (.t 37) 2, none⟩,
⟨some 7, .mov (.t 41), none⟩,
⟨some 8, .mov (.t 42), none⟩,
⟨some 9, .mov (.t 43), none⟩] [0, 1, 5, 7, 8, 9] [])
(.seq (.reg [⟨some 45, .mov (.t 0), none⟩,
⟨some 46, .load true 3 (.t 5), none⟩,
⟨some 47, .call false (.f 7) [(.t 45), (.c (.int .u8 4)), (.t 46)], none⟩,
⟨some 44, .mov (.t 47), none⟩,
⟨some 48, .ext (.t 44) 0, none⟩,
⟨some 49, .ext (.t 44) 1, none⟩,
⟨some 50, .ext (.t 44) 2, none⟩,
⟨some 10, .mov (.t 48), none⟩,
⟨some 11, .mov (.t 49), none⟩,
⟨some 12, .mov (.t 50), none⟩] [0, 1, 5, 7, 8, 9, 10, 11, 12] [])
(.seq (.reg [⟨some 52, .mov (.t 0), none⟩,
⟨some 53, .load true 3 (.t 5), none⟩,
⟨some 54, .call false (.f 7) [(.t 52), (.c (.int .u8 3)), (.t 53)], none⟩,
⟨some 51, .mov (.t 54), none⟩,
⟨some 55, .ext (.t 51) 0, none⟩,
⟨some 56, .ext (.t 51) 1, none⟩,
⟨some 57, .ext (.t 51) 2, none⟩,
⟨some 13, .mov (.t 55), none⟩,
⟨some 14, .mov (.t 56), none⟩,
⟨some 15, .mov (.t 57), none⟩] [0, 1, 5, 7, 8, 9, 10, 11, 12, 13, 15] [])
(.seq (.reg [⟨some 59, .mov (.t 0), none⟩,
⟨some 60, .mov (.t 1), none⟩,
⟨some 61, .load true 3 (.t 5), none⟩,
⟨some 62, .call false (.f 7) [(.t 59), (.t 60), (.t 61)], none⟩,
⟨some 58, .mov (.t 62), none⟩,
⟨some 63, .ext (.t 58) 0, none⟩,
⟨some 64, .ext (.t 58) 1, none⟩,
⟨some 65, .ext (.t 58) 2, none⟩,
⟨some 16, .mov (.t 63), none⟩,
⟨some 17, .mov (.t 64), none⟩,
⟨some 18, .mov (.t 65), none⟩] [0, 5, 7, 8, 9, 10, 11, 12, 13, 15, 16, 17, 18] [])
(.seq (.seq (.reg [⟨some 66, .mov (.t 9), none⟩,
⟨some 67, .bin .neq (.t 66) (.c (.int .i64 0)), none⟩,
⟨some 68, .mov (.t 67), none⟩,
⟨some 69, .mov (.t 12), some (68, false)⟩,
⟨some 70, .bin .neq (.t 69) (.c (.int .i64 0)), some (68, false)⟩,
⟨some 71, .pick (.t 68) (.c (.bool true)) (.t 70), none⟩,
⟨some 72, .mov (.t 71), none⟩,
⟨some 73, .mov (.t 15), some (72, false)⟩,
⟨some 74, .bin .neq (.t 73) (.c (.int .i64 0)), some (72, false)⟩,
⟨some 75, .pick (.t 72) (.c (.bool true)) (.t 74), none⟩,
⟨some 76, .mov (.t 75), none⟩,
⟨some 77, .mov (.t 18), some (76, false)⟩,
⟨some 78, .bin .neq (.t 77) (.c (.int .i64 0)), some (76, false)⟩,
⟨some 79, .pick (.t 76) (.c (.bool true)) (.t 78), none⟩,
⟨some 80, .mov (.t 79), none⟩,
⟨some 81, .mov (.t 0), some (80, false)⟩,
⟨some 82, .mov (.t 7), some (80, false)⟩,
⟨some 83, .load true 3 (.t 5), some (80, false)⟩,
⟨some 84, .call false (.f 146) [(.t 81), (.t 82), (.t 83)], some (80, false)⟩,
⟨some 85, .un .not (.t 84), some (80, false)⟩,
⟨some 86, .pick (.t 80) (.c (.bool true)) (.t 85), none⟩,
⟨some 87, .mov (.t 86), none⟩,
⟨some 88, .mov (.t 0), some (87, false)⟩,
⟨some 89, .mov (.t 10), some (87, false)⟩,
⟨some 90, .load true 3 (.t 5), some (87, false)⟩,
⟨some 91, .call false (.f 147) [(.t 88), (.t 89), (.t 90)], some (87, false)⟩,
⟨some 92, .un .not (.t 91), some (87, false)⟩,
⟨some 93, .pick (.t 87) (.c (.bool true)) (.t 92), none⟩] [0, 5, 7, 8, 10, 11, 13, 16, 17, 93] [])
(.cond (.t 93)
(.seq (.reg [⟨some 6, .mov (.c (.bool false)), none⟩] [6] [])
.ret)
.skip))
(.seq (.seq (.reg [⟨some 94, .mov (.t 7), none⟩,
⟨some 95, .mov (.t 10), none⟩,
⟨some 96, .bin .eql (.t 94) (.t 95), none⟩] [0, 5, 7, 8, 10, 11, 13, 16, 17, 96] [])
(.cond (.t 96)
(.seq (.reg [⟨some 97, .mov (.t 8), none⟩,
⟨some 98, .bin .eql (.t 97) (.c (.int .u8 0)), none⟩,
⟨some 99, .mov (.t 98), none⟩,
⟨some 100, .mov (.t 11), some (99, true)⟩,
⟨some 101, .bin .eql (.t 100) (.c (.int .u8 0)), some (99, true)⟩,
⟨some 102, .pick (.t 99) (.t 101) (.c (.bool false)), none⟩,
⟨some 103, .mov (.t 102), none⟩,
⟨some 104, .mov (.t 17), some (103, true)⟩,
⟨some 105, .bin .eql (.t 104) (.c (.int .u8 0)), some (103, true)⟩,
⟨some 106, .pick (.t 103) (.t 105) (.c (.bool false)), none⟩,
⟨some 107, .mov (.t 106), none⟩,
⟨some 108, .mov (.t 16), some (107, true)⟩,
⟨some 109, .mov (.t 7), some (107, true)⟩,
⟨some 110, .bin .eql (.t 108) (.t 109), some (107, true)⟩,
⟨some 111, .pick (.t 107) (.t 110) (.c (.bool false)), none⟩,
⟨some 112, .mov (.t 111), none⟩,
⟨some 113, .mov (.t 13), some (112, true)⟩,
⟨some 114, .mov (.t 7), some (112, true)⟩,
⟨some 115, .bin .eql (.t 113) (.t 114), some (112, true)⟩,
⟨some 116, .pick (.t 112) (.t 115) (.c (.bool false)), none⟩,
⟨some 117, .mov (.t 116), none⟩,
⟨some 118, .call false (.f 5) [], some (117, true)⟩,
⟨some 119, .pick (.t 117) (.t 118) (.c (.bool false)), none⟩,
⟨some 6, .mov (.t 119), none⟩] [6] [])
.ret)
.skip))
(.seq (.reg [⟨some 121, .mov (.t 0), none⟩,
⟨some 122, .mov (.t 7), none⟩,
⟨some 123, .call false (.f 148) [(.t 121), (.t 122)], none⟩,
⟨some 120, .mov (.t 123), none⟩,
⟨some 124, .ext (.t 120) 0, none⟩,
⟨some 125, .ext (.t 120) 1, none⟩,
⟨some 19, .mov (.t 124), none⟩,
⟨some 20, .mov (.t 125), none⟩] [0, 5, 7, 8, 10, 11, 13, 16, 17, 19, 20] [])
(.seq (.seq (.reg [⟨some 126, .mov (.t 7), none⟩,
⟨some 127, .mov (.t 0), none⟩,
⟨some 128, .call false (.f 73) [(.t 127)], none⟩,
⟨some 129, .bin .rem (.t 126) (.t 128), none⟩,
⟨some 130, .bin .eql (.t 129) (.c (.int .u64 0)), none⟩] [0, 5, 7, 8, 10, 11, 13, 16, 17, 19, 20, 130] [])
(.cond (.t 130)
(.reg [⟨some 19, .mov (.c (.int .u64 1)), none⟩,
⟨some 20, .mov (.c (.bool true)), none⟩] [0, 5, 7, 8, 10, 11, 13, 16, 17, 19, 20] [])
.skip))
(.seq (.seq (.reg [⟨some 131, .mov (.t 19), none⟩,
⟨some 132, .mov (.t 0), none⟩,
⟨some 133, .call false (.f 38) [(.t 132), (.c (.int .u64 0)), (.c (.bool true))], none⟩,
⟨some 134, .bin .eql (.t 131) (.t 133), none⟩,
⟨some 135, .mov (.t 134), none⟩,
⟨some 136, .mov (.t 10), some (135, true)⟩,
⟨some 137, .bin .eql (.t 136) (.c (.int .u64 0)), some (135, true)⟩,
⟨some 138, .pick (.t 135) (.t 137) (.c (.bool false)), none⟩] [5, 7, 8, 10, 11, 13, 16, 17, 19, 20, 138] [])
(.cond (.t 138)
(.seq (.reg [⟨some 6, .mov (.c (.bool false)), none⟩] [6] [])
.ret)
.skip))
(.seq (.reg [⟨some 139, .mov (.t 20), none⟩,
⟨some 140, .mov (.t 139), none⟩,
⟨some 141, .mov (.t 19), some (140, true)⟩,
⟨some 142, .mov (.t 10), some (140, true)⟩,
⟨some 143, .bin .eql (.t 141) (.t 142), some (140, true)⟩,
⟨some 144, .pick (.t 140) (.t 143) (.c (.bool false)), none⟩,
⟨some 145, .mov (.t 144), none⟩,
⟨some 146, .mov (.t 8), some (145, true)⟩,
⟨some 147, .bin .and (.t 146) (.c (.int .u8 16)), some (145, true)⟩,
⟨some 148, .bin .gtr (.t 147) (.c (.int .u8 0)), some (145, true)⟩,
⟨some 149, .pick (.t 145) (.t 148) (.c (.bool false)), none⟩,
⟨some 150, .mov (.t 149), none⟩,
⟨some 151, .mov (.t 11), some (150, true)⟩,
⟨some 152, .bin .and (.t 151) (.c (.int .u8 16)), some (150, true)⟩,
⟨some 153, .bin .gtr (.t 152) (.c (.int .u8 0)), some (150, true)⟩,
⟨some 154, .pick (.t 150) (.t 153) (.c (.bool false)), none⟩,
⟨some 155, .mov (.t 154), none⟩,
⟨some 156, .mov (.t 17), some (155, true)⟩,
⟨some 157, .bin .and (.t 156) (.c (.int .u8 16)), some (155, true)⟩,
⟨some 158, .bin .gtr (.t 157) (.c (.int .u8 0)), some (155, true)⟩,
⟨some 159, .pick (.t 155) (.t 158) (.c (.bool false)), none⟩,
⟨some 160, .mov (.t 159), none⟩,
⟨some 161, .mov (.t 16), some (160, true)⟩,
⟨some 162, .mov (.t 7), some (160, true)⟩,
⟨some 163, .bin .eql (.t 161) (.t 162), some (160, true)⟩,
⟨some 164, .mov (.t 163), some (160, true)⟩,
⟨some 165, .mov (.t 16), some (164, false)⟩,
⟨some 166, .mov (.t 10), some (164, false)⟩,
⟨some 167, .bin .eql (.t 165) (.t 166), some (164, false)⟩,
⟨some 168, .pick (.t 164) (.c (.bool true)) (.t 167), some (160, true)⟩,
⟨some 169, .pick (.t 160) (.t 168) (.c (.bool false)), none⟩,
⟨some 170, .mov (.t 169), none⟩,
⟨some 171, .mov (.t 13), some (170, true)⟩,
⟨some 172, .mov (.t 7), some (170, true)⟩,
⟨some 173, .bin .eql (.t 171) (.t 172), some (170, true)⟩,
⟨some 174, .faddr 0 (.t 5), some (170, true)⟩,
⟨some 175, .load false 1 (.t 174), some (170, true)⟩,
⟨some 176, .un .not (.t 175), some (170, true)⟩,
⟨some 177, .eqb false (.t 173) (.t 176), some (170, true)⟩,
⟨some 178, .pick (.t 170) (.t 177) (.c (.bool false)), none⟩,
⟨some 179, .mov (.t 178), none⟩,
⟨some 180, .mov (.t 13), some (179, true)⟩,
⟨some 181, .mov (.t 10), some (179, true)⟩,
⟨some 182, .bin .eql (.t 180) (.t 181), some (179, true)⟩,
⟨some 183, .faddr 0 (.t 5), some (179, true)⟩,
⟨some 184, .load false 1 (.t 183), some (179, true)⟩,
⟨some 185, .eqb false (.t 182) (.t 184), some (179, true)⟩,
⟨some 186, .pick (.t 179) (.t 185) (.c (.bool false)), none⟩,
⟨some 187, .mov (.t 186), none⟩,
⟨some 188, .call false (.f 5) [], some (187, true)⟩,
⟨some 189, .pick (.t 187) (.t 188) (.c (.bool false)), none⟩,
⟨some 6, .mov (.t 189), none⟩] [6] [])
.ret))))))))))))⟩

def c_law04_RoundNearest_b1 : IC :=
(.seq (.reg [⟨some 45, .bin .lss (.t 44) (.t 43), none⟩] [0, 4, 7, 42, 43, 44, 45] [])
(.seq (.cond (.t 45)
.skip
(.exit 0))
(.seq (.block 1
(.seq (.reg [⟨some 46, .iaddr 1 (.t 42) (.t 44), none⟩,
⟨some 47, .load false 1 (.t 46), none⟩,
⟨some 9, .mov (.t 47), none⟩] [0, 4, 7, 9, 42, 43, 44] [])
(.seq (.reg [⟨some 49, .mov (.t 0), none⟩,
⟨some 50, .mov (.t 9), none⟩,
⟨some 51, .load true 3 (.t 4), none⟩,
⟨some 52, .call false (.f 152) [(.t 51)], none⟩,
⟨some 53, .call false (.f 7) [(.t 49), (.t 50), (.t 52)], none⟩,
⟨some 48, .mov (.t 53), none⟩,
⟨some 54, .ext (.t 48) 0, none⟩,
⟨some 55, .ext (.t 48) 1, none⟩,
⟨some 56, .ext (.t 48) 2, none⟩,
⟨some 10, .mov (.t 54), none⟩,
⟨some 11, .mov (.t 55), none⟩,
⟨some 12, .mov (.t 56), none⟩] [0, 4, 7, 10, 11, 12, 42, 43, 44] [])
(.seq (.seq (.reg [⟨some 57, .mov (.t 12), none⟩,
⟨some 58, .bin .neq (.t 57) (.c (.int .i64 0)), none⟩] [0, 4, 7, 10, 11, 42, 43, 44, 58] [])
(.cond (.t 58)
(.seq (.reg [⟨some 6, .mov (.c (.bool false)), none⟩] [6] [])
.ret)
.skip))
(.seq (.seq (.reg [⟨some 59, .mov (.t 11), none⟩,
⟨some 60, .bin .and (.t 59) (.c (.int .u8 4)), none⟩,
⟨some 61, .bin .gtr (.t 60) (.c (.int .u8 0)), none⟩] [0, 4, 7, 10, 42, 43, 44, 61] [])
(.cond (.t 61)
(.exit 1)
.skip))
(.seq (.reg [⟨some 62, .mov (.t 0), none⟩,
⟨some 63, .mov (.t 10), none⟩,
⟨some 64, .call false (.f 150) [(.t 62), (.t 63)], none⟩,
⟨some 65, .un .not (.t 64), none⟩,
⟨some 66, .mov (.t 65), none⟩,
⟨some 67, .mov (.t 0), some (66, false)⟩,
⟨some 68, .mov (.t 10), some (66, false)⟩,
⟨some 69, .call false (.f 151) [(.t 67), (.t 68)], some (66, false)⟩,
⟨some 70, .load true 3 (.t 4), some (66, false)⟩,
⟨some 71, .call false (.f 152) [(.t 70)], some (66, false)⟩,
⟨some 72, .call false (.f 70) [(.t 69), (.t 71)], some (66, false)⟩,
⟨some 73, .call false (.f 37) [(.t 72)], some (66, false)⟩,
⟨some 74, .load true 3 (.t 7), some (66, false)⟩,
⟨some 75, .call false (.f 69) [(.t 73), (.t 74)], some (66, false)⟩,
⟨some 76, .bin .gtr (.t 75) (.c (.int .i64 0)), some (66, false)⟩,
⟨some 77, .pick (.t 66) (.c (.bool true)) (.t 76), none⟩] [0, 4, 7, 42, 43, 44, 77] [])
(.cond (.t 77)
(.seq (.reg [⟨some 6, .mov (.c (.bool false)), none⟩] [6] [])
.ret)
.skip)))))))
(.reg [⟨some 78, .bin .add (.t 44) (.c (.int .i64 1)), none⟩,
⟨some 44, .mov (.t 78), none⟩] [0, 4, 7, 42, 43, 44] []))))
def c_law04_RoundNearest_l1 : IC := .loop [0, 4, 7, 42, 43, 44] c_law04_RoundNearest_b1
def c_law04_RoundNearest : IFn := ⟨[.tmp 6],
(.seq (.reg [⟨some 4, .box 3 (.t 1), none⟩,
⟨some 6, .mov (.c (.bool false)), none⟩] [0, 2, 4] [])
(.seq (.seq (.reg [⟨some 13, .load true 3 (.t 4), none⟩,
⟨some 14, .call false (.f 4) [(.t 13)], none⟩,
⟨some 15, .mov (.t 14), none⟩,
⟨some 16, .mov (.t 0), some (15, false)⟩,
⟨some 17, .load true 3 (.t 4), some (15, false)⟩,
⟨some 18, .bslice 1 3 [(.bool false), .nil, (.int .i64 0)] [(0, 3, (.t 17))], some (15, false)⟩,
⟨some 19, .call false (.f 9) [(.t 16), (.c (.int .u8 1)), (.t 18)], some (15, false)⟩,
⟨some 20, .bin .neq (.t 19) (.c (.int .i64 0)), some (15, false)⟩,
⟨some 21, .pick (.t 15) (.c (.bool true)) (.t 20), none⟩,
⟨some 22, .mov (.t 21), none⟩,
⟨some 23, .mov (.t 0), some (22, false)⟩,
⟨some 24, .mov (.t 2), some (22, false)⟩,
⟨some 25, .call false (.f 149) [(.t 23), (.t 24)], some (22, false)⟩,
⟨some 26, .bin .neq (.t 25) (.c (.int .i64 0)), some (22, false)⟩,
⟨some 27, .pick (.t 22) (.c (.bool true)) (.t 26), none⟩,
⟨some 28, .mov (.t 27), none⟩,
⟨some 29, .mov (.t 0), some (28, false)⟩,
⟨some 30, .mov (.t 2), some (28, false)⟩,
⟨some 31, .call false (.f 150) [(.t 29), (.t 30)], some (28, false)⟩,
⟨some 32, .un .not (.t 31), some (28, false)⟩,
⟨some 33, .pick (.t 28) (.c (.bool true)) (.t 32), none⟩] [0, 2, 4, 33] [])
(.cond (.t 33)
(.seq (.reg [⟨some 34, .call false (.f 5) [], none⟩,
⟨some 6, .mov (.t 34), none⟩] [6] [])
.ret)
.skip))
(.seq (.reg [⟨some 35, .mov (.t 0), none⟩,
⟨some 36, .mov (.t 2), none⟩,
⟨some 37, .call false (.f 151) [(.t 35), (.t 36)], none⟩,
⟨some 38, .load true 3 (.t 4), none⟩,
⟨some 39, .call false (.f 152) [(.t 38)], none⟩,
⟨some 40, .call false (.f 70) [(.t 37), (.t 39)], none⟩,
⟨some 41, .call false (.f 37) [(.t 40)], none⟩,
⟨some 7, .alloc [(.bool false), .nil, (.int .i64 0)], none⟩,
⟨none, .store 3 (.t 7) (.t 41), none⟩] [0, 4, 7] [])
(.seq (.seq (.reg [⟨some 42, .bslice 2 1 [(.int .u8 0)] [(0, 1, (.c (.int .u8 1))), (1, 1, (.c (.int .u8 2)))], none⟩,
⟨some 43, .len (.t 42), none⟩,
⟨some 44, .mov (.c (.int .i64 0)), none⟩] [0, 4, 7, 42, 43, 44] [])
(.block 0
 c_law04_RoundNearest_l1))
(.seq (.reg [⟨some 79, .call false (.f 5) [], none⟩,
⟨some 6, .mov (.t 79), none⟩] [6] [])
.ret)))))⟩

def c_law04_RoundOrder : IFn := ⟨[.tmp 8],
(.seq (.reg [⟨some 6, .box 3 (.t 2), none⟩,
⟨some 7, .box 3 (.t 3), none⟩,
⟨some 8, .mov (.c (.bool false)), none⟩] [0, 1, 6, 7] [])
(.seq (.seq (.reg [⟨some 16, .load true 3 (.t 6), none⟩,
⟨some 17, .call false (.f 4) [(.t 16)], none⟩,
⟨some 18, .mov (.t 17), none⟩,
⟨some 19, .load true 3 (.t 7), some (18, false)⟩,
⟨some 20, .call false (.f 4) [(.t 19)], some (18, false)⟩,
⟨some 21, .pick (.t 18) (.c (.bool true)) (.t 20), none⟩,
⟨some 22, .mov (.t 21), none⟩,
⟨some 23, .mov (.t 0), some (22, false)⟩,
⟨some 24, .mov (.t 1), some (22, false)⟩,
⟨some 25, .load true 3 (.t 6), some (22, false)⟩,
⟨some 26, .load true 3 (.t 7), some (22, false)⟩,
⟨some 27, .bslice 2 3 [(.bool false), .nil, (.int .i64 0)] [(0, 3, (.t 25)), (3, 3, (.t 26))], some (22, false)⟩,
⟨some 28, .call false (.f 9) [(.t 23), (.t 24), (.t 27)], some (22, false)⟩,
⟨some 29, .bin .neq (.t 28) (.c (.int .i64 0)), some (22, false)⟩,
⟨some 30, .pick (.t 22) (.c (.bool true)) (.t 29), none⟩] [0, 1, 6, 7, 30] [])
(.cond (.t 30)
(.seq (.reg [⟨some 31, .call false (.f 5) [], none⟩,
⟨some 8, .mov (.t 31), none⟩] [8] [])
.ret)
.skip))
(.seq (.reg [⟨some 32, .load true 3 (.t 6), none⟩,
⟨some 33, .call false (.f 152) [(.t 32)], none⟩,
⟨some 34, .load true 3 (.t 7), none⟩,
⟨some 35, .call false (.f 152) [(.t 34)], none⟩,
⟨none, .store 3 (.t 6) (.t 33), none⟩,
⟨none, .store 3 (.t 7) (.t 35), none⟩] [0, 1, 6, 7] [])
(.seq (.reg [⟨some 37, .mov (.t 0), none⟩,
⟨some 38, .mov (.t 1), none⟩,
⟨some 39, .load true 3 (.t 6), none⟩,
⟨some 40, .call false (.f 7) [(.t 37), (.t 38), (.t 39)], none⟩,
⟨some 36, .mov (.t 40), none⟩,
⟨some 41, .ext (.t 36) 0, none⟩,
⟨some 42, .ext (.t 36) 1, none⟩,
⟨some 43, .ext (.t 36) 2, none⟩,
⟨some 9, .mov (.t 41), none⟩,
⟨some 10, .mov (.t 42), none⟩,
⟨some 11, .mov (.t 43), none⟩] [0, 1, 6, 7, 9, 11] [])
(.seq (.reg [⟨some 45, .mov (.t 0), none⟩,
⟨some 46, .mov (.t 1), none⟩,
⟨some 47, .load true 3 (.t 7), none⟩,
⟨some 48, .call false (.f 7) [(.t 45), (.t 46), (.t 47)], none⟩,
⟨some 44, .mov (.t 48), none⟩,
⟨some 49, .ext (.t 44) 0, none⟩,
⟨some 50, .ext (.t 44) 1, none⟩,
⟨some 51, .ext (.t 44) 2, none⟩,
⟨some 12, .mov (.t 49), none⟩,
⟨some 13, .mov (.t 50), none⟩,
⟨some 14, .mov (.t 51), none⟩] [0, 6, 7, 9, 11, 12, 14] [])
(.seq (.seq (.reg [⟨some 52, .mov (.t 11), none⟩,
⟨some 53, .bin .neq (.t 52) (.c (.int .i64 0)), none⟩,
⟨some 54, .mov (.t 53), none⟩,
⟨some 55, .mov (.t 14), some (54, false)⟩,
⟨some 56, .bin .neq (.t 55) (.c (.int .i64 0)), some (54, false)⟩,
⟨some 57, .pick (.t 54) (.c (.bool true)) (.t 56), none⟩] [0, 6, 7, 9, 12, 57] [])
(.cond (.t 57)
(.seq (.reg [⟨some 8, .mov (.c (.bool false)), none⟩] [8] [])
.ret)
.skip))
(.seq (.reg [⟨some 58, .load true 3 (.t 6), none⟩,
⟨some 59, .load true 3 (.t 7), none⟩,
⟨some 60, .call false (.f 69) [(.t 58), (.t 59)], none⟩,
⟨some 15, .mov (.t 60), none⟩] [0, 9, 12, 15] [])
(.seq (.reg [⟨some 61, .mov (.t 15), none⟩,
⟨some 62, .bin .lss (.t 61) (.c (.int .i64 0)), none⟩,
⟨some 63, .mov (.t 62), none⟩,
⟨some 64, .mov (.t 0), some (63, false)⟩,
⟨some 65, .mov (.t 9), some (63, false)⟩,
⟨some 66, .mov (.t 12), some (63, false)⟩,
⟨some 67, .call false (.f 153) [(.t 64), (.t 65), (.t 66)], some (63, false)⟩,
⟨some 68, .pick (.t 63) (.c (.bool true)) (.t 67), none⟩,
⟨some 69, .mov (.t 68), none⟩,
⟨some 70, .mov (.t 15), some (69, true)⟩,
⟨some 71, .bin .gtr (.t 70) (.c (.int .i64 0)), some (69, true)⟩,
⟨some 72, .mov (.t 71), some (69, true)⟩,
⟨some 73, .mov (.t 0), some (72, false)⟩,
⟨some 74, .mov (.t 12), some (72, false)⟩,
⟨some 75, .mov (.t 9), some (72, false)⟩,
⟨some 76, .call false (.f 153) [(.t 73), (.t 74), (.t 75)], some (72, false)⟩,
⟨some 77, .pick (.t 72) (.c (.bool true)) (.t 76), some (69, true)⟩,
⟨some 78, .pick (.t 69) (.t 77) (.c (.bool false)), none⟩,
⟨some 79, .mov (.t 78), none⟩,
⟨some 80, .call false (.f 5) [], some (79, true)⟩,
⟨some 81, .pick (.t 79) (.t 80) (.c (.bool false)), none⟩,
⟨some 8, .mov (.t 81), none⟩] [8] [])
.ret))))))))⟩

def c_law04_RoundMirror : IFn := ⟨[.tmp 8],
(.seq (.reg [⟨some 6, .box 3 (.t 2), none⟩,
⟨some 8, .mov (.c (.bool false)), none⟩] [0, 1, 3, 6] [])
(.seq (.seq (.reg [⟨some 19, .load true 3 (.t 6), none⟩,
⟨some 20, .call false (.f 4) [(.t 19)], none⟩,
⟨some 21, .mov (.t 20), none⟩,
⟨some 22, .mov (.t 0), some (21, false)⟩,
⟨some 23, .mov (.t 1), some (21, false)⟩,
⟨some 24, .load true 3 (.t 6), some (21, false)⟩,
⟨some 25, .bslice 1 3 [(.bool false), .nil, (.int .i64 0)] [(0, 3, (.t 24))], some (21, false)⟩,
⟨some 26, .call false (.f 9) [(.t 22), (.t 23), (.t 25)], some (21, false)⟩,
⟨some 27, .bin .neq (.t 26) (.c (.int .i64 0)), some (21, false)⟩,
⟨some 28, .pick (.t 21) (.c (.bool true)) (.t 27), none⟩,
⟨some 29, .mov (.t 28), none⟩,
⟨some 30, .mov (.t 0), some (29, false)⟩,
⟨some 31, .mov (.t 3), some (29, false)⟩,
⟨some 32, .call false (.f 149) [(.t 30), (.t 31)], some (29, false)⟩,
⟨some 33, .bin .neq (.t 32) (.c (.int .i64 0)), some (29, false)⟩,
⟨some 34, .pick (.t 29) (.c (.bool true)) (.t 33), none⟩] [0, 1, 3, 6, 34] [])
(.cond (.t 34)
(.seq (.reg [⟨some 35, .call false (.f 5) [], none⟩,
⟨some 8, .mov (.t 35), none⟩] [8] [])
.ret)
.skip))
(.seq (.reg [⟨some 36, .mov (.t 1), none⟩,
⟨some 9, .mov (.t 36), none⟩] [0, 1, 3, 6, 9] [])
(.seq (.seq (.reg [⟨some 37, .mov (.t 1), none⟩,
⟨some 38, .bin .eql (.t 37) (.c (.int .u8 4)), none⟩] [0, 1, 3, 6, 9, 38] [])
(.cond (.t 38)
(.reg [⟨some 9, .mov (.c (.int .u8 5)), none⟩] [0, 1, 3, 6, 9] [])
.skip))
(.seq (.seq (.reg [⟨some 39, .mov (.t 1), none⟩,
⟨some 40, .bin .eql (.t 39) (.c (.int .u8 5)), none⟩] [0, 1, 3, 6, 9, 40] [])
(.cond (.t 40)
(.reg [⟨some 9, .mov (.c (.int .u8 4)), none⟩] [0, 1, 3, 6, 9] [])
.skip))
(.seq (.reg [⟨some 42, .mov (.t 0), none⟩,
⟨some 43, .mov (.t 1), none⟩,
⟨some 44, .load true 3 (.t 6), none⟩,
⟨some 45, .call false (.f 7) [(.t 42), (.t 43), (.t 44)], none⟩,
⟨some 41, .mov (.t 45), none⟩,
⟨some 46, .ext (.t 41) 0, none⟩,
⟨some 47, .ext (.t 41) 1, none⟩,
⟨some 48, .ext (.t 41) 2, none⟩,
⟨some 10, .mov (.t 46), none⟩,
⟨some 11, .mov (.t 47), none⟩,
⟨some 12, .mov (.t 48), none⟩] [0, 1, 3, 6, 9, 10, 11, 12] [])
(.seq (.reg [⟨some 50, .mov (.t 0), none⟩,
⟨some 51, .mov (.t 9), none⟩,
⟨some 52, .load true 3 (.t 6), none⟩,
⟨some 53, .call false (.f 102) [(.t 52)], none⟩,
⟨some 54, .call false (.f 7) [(.t 50), (.t 51), (.t 53)], none⟩,
⟨some 49, .mov (.t 54), none⟩,
⟨some 55, .ext (.t 49) 0, none⟩,
⟨some 56, .ext (.t 49) 1, none⟩,
⟨some 57, .ext (.t 49) 2, none⟩,
⟨some 13, .mov (.t 55), none⟩,
⟨some 14, .mov (.t 56), none⟩,
⟨some 15, .mov (.t 57), none⟩] [0, 1, 3, 6, 10, 11, 12, 13, 14, 15] [])
(.seq (.seq (.reg [⟨some 58, .mov (.t 12), none⟩,
⟨some 59, .bin .neq (.t 58) (.c (.int .i64 0)), none⟩,
⟨some 60, .mov (.t 59), none⟩,
⟨some 61, .mov (.t 15), some (60, false)⟩,
⟨some 62, .bin .neq (.t 61) (.c (.int .i64 0)), some (60, false)⟩,
⟨some 63, .pick (.t 60) (.c (.bool true)) (.t 62), none⟩,
⟨some 64, .mov (.t 63), none⟩,
⟨some 65, .mov (.t 11), some (64, false)⟩,
⟨some 66, .mov (.t 14), some (64, false)⟩,
⟨some 67, .bin .neq (.t 65) (.t 66), some (64, false)⟩,
⟨some 68, .pick (.t 64) (.c (.bool true)) (.t 67), none⟩] [0, 1, 3, 6, 10, 11, 13, 68] [])
(.cond (.t 68)
(.seq (.reg [⟨some 8, .mov (.c (.bool false)), none⟩] [8] [])
.ret)
.skip))
(.seq (.seq (.reg [⟨some 69, .load true 3 (.t 6), none⟩,
⟨some 70, .call false (.f 16) [(.t 69)], none⟩,
⟨some 71, .bin .eql (.t 70) (.c (.int .i64 0)), none⟩] [0, 1, 3, 10, 11, 13, 71] [])
(.cond (.t 71)
(.seq (.reg [⟨some 72, .mov (.t 10), none⟩,
⟨some 73, .bin .neq (.t 72) (.c (.int .u64 0)), none⟩,
⟨some 74, .mov (.t 73), none⟩,
⟨some 75, .mov (.t 13), some (74, false)⟩,
⟨some 76, .bin .neq (.t 75) (.c (.int .u64 0)), some (74, false)⟩,
⟨some 77, .pick (.t 74) (.c (.bool true)) (.t 76), none⟩,
⟨some 78, .mov (.t 77), none⟩,
⟨some 79, .mov (.t 11), some (78, false)⟩,
⟨some 80, .bin .neq (.t 79) (.c (.int .u8 0)), some (78, false)⟩,
⟨some 81, .pick (.t 78) (.c (.bool true)) (.t 80), none⟩] [0, 1, 3, 81] [])
(.cond (.t 81)
(.seq (.reg [⟨some 8, .mov (.c (.bool false)), none⟩] [8] [])
.ret)
.skip))
(.seq (.reg [⟨some 82, .mov (.t 10), none⟩,
⟨some 83, .mov (.t 0), none⟩,
⟨some 84, .call false (.f 73) [(.t 83)], none⟩,
⟨some 85, .bin .rem (.t 82) (.t 84), none⟩,
⟨some 86, .mov (.t 13), none⟩,
⟨some 87, .mov (.t 0), none⟩,
⟨some 88, .call false (.f 73) [(.t 87)], none⟩,
⟨some 89, .bin .rem (.t 86) (.t 88), none⟩,
⟨some 90, .bin .neq (.t 85) (.t 89), none⟩,
⟨some 91, .mov (.t 90), none⟩,
⟨some 92, .mov (.t 10), some (91, false)⟩,
⟨some 93, .mov (.t 13), some (91, false)⟩,
⟨some 94, .bin .eql (.t 92) (.t 93), some (91, false)⟩,
⟨some 95, .pick (.t 91) (.c (.bool true)) (.t 94), none⟩] [0, 1, 3, 95] [])
(.cond (.t 95)
(.seq (.reg [⟨some 8, .mov (.c (.bool false)), none⟩] [8] [])
.ret)
.skip))))
(.seq (.seq (.reg [⟨some 96, .mov (.t 0), none⟩,
⟨some 97, .mov (.t 3), none⟩,
⟨some 98, .call false (.f 150) [(.t 96), (.t 97)], none⟩,
⟨some 99, .un .not (.t 98), none⟩] [0, 1, 3, 99] [])
(.cond (.t 99)
(.seq (.reg [⟨some 100, .call false (.f 5) [], none⟩,
⟨some 8, .mov (.t 100), none⟩] [8] [])
.ret)
.skip))
(.seq (.reg [⟨some 102, .mov (.t 0), none⟩,
⟨some 103, .mov (.t 1), none⟩,
⟨some 104, .mov (.t 0), none⟩,
⟨some 105, .mov (.t 3), none⟩,
⟨some 106, .call false (.f 151) [(.t 104), (.t 105)], none⟩,
⟨some 107, .call false (.f 7) [(.t 102), (.t 103), (.t 106)], none⟩,
⟨some 101, .mov (.t 107), none⟩,
⟨some 108, .ext (.t 101) 0, none⟩,
⟨some 109, .ext (.t 101) 1, none⟩,
⟨some 110, .ext (.t 101) 2, none⟩,
⟨some 16, .mov (.t 108), none⟩,
⟨some 17, .mov (.t 109), none⟩,
⟨some 18, .mov (.t 110), none⟩] [0, 3, 16, 17, 18] [])
(.seq (.seq (.reg [⟨some 111, .mov (.t 3), none⟩,
⟨some 112, .mov (.t 0), none⟩,
⟨some 113, .call false (.f 73) [(.t 112)], none⟩,
⟨some 114, .bin .eql (.t 111) (.t 113), none⟩] [3, 16, 17, 18, 114] [])
(.cond (.t 114)
(.reg [⟨some 3, .mov (.c (.int .u64 0)), none⟩] [3, 16, 17, 18] [])
.skip))
(.seq (.reg [⟨some 115, .mov (.t 16), none⟩,
⟨some 116, .mov (.t 3), none⟩,
⟨some 117, .bin .eql (.t 115) (.t 116), none⟩,
⟨some 118, .mov (.t 117), none⟩,
⟨some 119, .mov (.t 17), some (118, true)⟩,
⟨some 120, .bin .eql (.t 119) (.c (.int .u8 0)), some (118, true)⟩,
⟨some 121, .pick (.t 118) (.t 120) (.c (.bool false)), none⟩,
⟨some 122, .mov (.t 121), none⟩,
⟨some 123, .mov (.t 18), some (122, true)⟩,
⟨some 124, .bin .eql (.t 123) (.c (.int .i64 0)), some (122, true)⟩,
⟨some 125, .pick (.t 122) (.t 124) (.c (.bool false)), none⟩,
⟨some 126, .mov (.t 125), none⟩,
⟨some 127, .call false (.f 5) [], some (126, true)⟩,
⟨some 128, .pick (.t 126) (.t 127) (.c (.bool false)), none⟩,
⟨some 8, .mov (.t 128), none⟩] [8] [])
.ret)))))))))))))⟩

def c_law04_RoundSquares : IFn := ⟨[.tmp 8],
(.seq (.reg [⟨some 8, .mov (.c (.bool false)), none⟩] [0, 1, 2, 3] [])
(.seq (.seq (.reg [⟨some 17, .mov (.t 0), none⟩,
⟨some 18, .mov (.t 1), none⟩,
⟨some 19, .call false (.f 9) [(.t 17), (.t 18), (.c .nil)], none⟩,
⟨some 20, .bin .neq (.t 19) (.c (.int .i64 0)), none⟩,
⟨some 21, .mov (.t 20), none⟩,
⟨some 22, .mov (.t 0), some (21, false)⟩,
⟨some 23, .mov (.t 2), some (21, false)⟩,
⟨some 24, .call false (.f 149) [(.t 22), (.t 23)], some (21, false)⟩,
⟨some 25, .bin .neq (.t 24) (.c (.int .i64 0)), some (21, false)⟩,
⟨some 26, .pick (.t 21) (.c (.bool true)) (.t 25), none⟩,
⟨some 27, .mov (.t 26), none⟩,
⟨some 28, .mov (.t 0), some (27, false)⟩,
⟨some 29, .mov (.t 3), some (27, false)⟩,
⟨some 30, .call false (.f 149) [(.t 28), (.t 29)], some (27, false)⟩,
⟨some 31, .bin .neq (.t 30) (.c (.int .i64 0)), some (27, false)⟩,
⟨some 32, .pick (.t 27) (.c (.bool true)) (.t 31), none⟩,
⟨some 33, .mov (.t 32), none⟩,
⟨some 34, .mov (.t 0), some (33, false)⟩,
⟨some 35, .mov (.t 2), some (33, false)⟩,
⟨some 36, .call false (.f 150) [(.t 34), (.t 35)], some (33, false)⟩,
⟨some 37, .un .not (.t 36), some (33, false)⟩,
⟨some 38, .pick (.t 33) (.c (.bool true)) (.t 37), none⟩,
⟨some 39, .mov (.t 38), none⟩,
⟨some 40, .mov (.t 0), some (39, false)⟩,
⟨some 41, .mov (.t 3), some (39, false)⟩,
⟨some 42, .call false (.f 150) [(.t 40), (.t 41)], some (39, false)⟩,
⟨some 43, .un .not (.t 42), some (39, false)⟩,
⟨some 44, .pick (.t 39) (.c (.bool true)) (.t 43), none⟩] [0, 1, 2, 3, 44] [])
(.cond (.t 44)
(.seq (.reg [⟨some 45, .call false (.f 5) [], none⟩,
⟨some 8, .mov (.t 45), none⟩] [8] [])
.ret)
.skip))
(.seq (.reg [⟨some 46, .mov (.t 0), none⟩,
⟨some 47, .mov (.t 2), none⟩,
⟨some 48, .call false (.f 151) [(.t 46), (.t 47)], none⟩,
⟨some 49, .mov (.t 0), none⟩,
⟨some 50, .mov (.t 3), none⟩,
⟨some 51, .call false (.f 151) [(.t 49), (.t 50)], none⟩,
⟨some 9, .alloc [(.bool false), .nil, (.int .i64 0)], none⟩,
⟨some 10, .alloc [(.bool false), .nil, (.int .i64 0)], none⟩,
⟨none, .store 3 (.t 9) (.t 48), none⟩,
⟨none, .store 3 (.t 10) (.t 51), none⟩] [0, 1, 2, 9, 10] [])
(.seq (.reg [⟨some 53, .mov (.t 0), none⟩,
⟨some 54, .mov (.t 1), none⟩,
⟨some 55, .load true 3 (.t 9), none⟩,
⟨some 56, .load true 3 (.t 9), none⟩,
⟨some 57, .call false (.f 154) [(.t 55), (.t 56)], none⟩,
⟨some 58, .call false (.f 18) [(.t 53), (.t 54), (.t 57)], none⟩,
⟨some 52, .mov (.t 58), none⟩,
⟨some 59, .ext (.t 52) 0, none⟩,
⟨some 60, .ext (.t 52) 1, none⟩,
⟨some 61, .ext (.t 52) 2, none⟩,
⟨some 11, .mov (.t 59), none⟩,
⟨some 12, .mov (.t 60), none⟩,
⟨some 13, .mov (.t 61), none⟩] [0, 1, 2, 9, 10, 11, 12, 13] [])
(.seq (.seq (.reg [⟨some 62, .mov (.t 11), none⟩,
⟨some 63, .mov (.t 2), none⟩,
⟨some 64, .mov (.t 0), none⟩,
⟨some 65, .call false (.f 73) [(.t 64)], none⟩,
⟨some 66, .bin .rem (.t 63) (.t 65), none⟩,
⟨some 67, .bin .neq (.t 62) (.t 66), none⟩,
⟨some 68, .mov (.t 67), none⟩,
⟨some 69, .mov (.t 12), some (68, false)⟩,
⟨some 70, .bin .neq (.t 69) (.c (.int .u8 0)), some (68, false)⟩,
⟨some 71, .pick (.t 68) (.c (.bool true)) (.t 70), none⟩,
⟨some 72, .mov (.t 71), none⟩,
⟨some 73, .mov (.t 13), some (72, false)⟩,
⟨some 74, .bin .neq (.t 73) (.c (.int .i64 0)), some (72, false)⟩,
⟨some 75, .pick (.t 72) (.c (.bool true)) (.t 74), none⟩] [0, 1, 2, 9, 10, 75] [])
(.cond (.t 75)
(.seq (.reg [⟨some 8, .mov (.c (.bool false)), none⟩] [8] [])
.ret)
.skip))
(.seq (.reg [⟨some 77, .mov (.t 0), none⟩,
⟨some 78, .mov (.t 1), none⟩,
⟨some 79, .load true 3 (.t 9), none⟩,
⟨some 80, .load true 3 (.t 10), none⟩,
⟨some 81, .call false (.f 154) [(.t 79), (.t 80)], none⟩,
⟨some 82, .load true 3 (.t 10), none⟩,
⟨some 83, .call false (.f 15) [(.t 77), (.t 78), (.t 81), (.t 82)], none⟩,
⟨some 76, .mov (.t 83), none⟩,
⟨some 84, .ext (.t 76) 0, none⟩,
⟨some 85, .ext (.t 76) 1, none⟩,
⟨some 86, .ext (.t 76) 2, none⟩,
⟨some 14, .mov (.t 84), none⟩,
⟨some 15, .mov (.t 85), none⟩,
⟨some 16, .mov (.t 86), none⟩] [0, 2, 10, 14, 15, 16] [])
(.seq (.seq (.reg [⟨some 87, .load true 3 (.t 10), none⟩,
⟨some 88, .call false (.f 16) [(.t 87)], none⟩,
⟨some 89, .bin .eql (.t 88) (.c (.int .i64 0)), none⟩] [0, 2, 14, 15, 16, 89] [])
(.cond (.t 89)
(.seq (.reg [⟨some 90, .mov (.t 14), none⟩,
⟨some 91, .mov (.t 15), none⟩,
⟨some 92, .mov (.t 16), none⟩,
⟨some 93, .call false (.f 11) [(.t 90), (.t 91), (.t 92), (.c (.int .i64 11))], none⟩,
⟨some 94, .mov (.t 93), none⟩,
⟨some 95, .call false (.f 5) [], some (94, true)⟩,
⟨some 96, .pick (.t 94) (.t 95) (.c (.bool false)), none⟩,
⟨some 8, .mov (.t 96), none⟩] [8] [])
.ret)
.skip))
(.seq (.seq (.reg [⟨some 97, .mov (.t 2), none⟩,
⟨some 98, .mov (.t 0), none⟩,
⟨some 99, .call false (.f 73) [(.t 98)], none⟩,
⟨some 100, .bin .eql (.t 97) (.t 99), none⟩] [2, 14, 15, 16, 100] [])
(.cond (.t 100)
(.reg [⟨some 2, .mov (.c (.int .u64 0)), none⟩] [2, 14, 15, 16] [])
.skip))
(.seq (.reg [⟨some 101, .mov (.t 14), none⟩,
⟨some 102, .mov (.t 2), none⟩,
⟨some 103, .bin .eql (.t 101) (.t 102), none⟩,
⟨some 104, .mov (.t 103), none⟩,
⟨some 105, .mov (.t 15), some (104, true)⟩,
⟨some 106, .bin .eql (.t 105) (.c (.int .u8 0)), some (104, true)⟩,
⟨some 107, .pick (.t 104) (.t 106) (.c (.bool false)), none⟩,
⟨some 108, .mov (.t 107), none⟩,
⟨some 109, .mov (.t 16), some (108, true)⟩,
⟨some 110, .bin .eql (.t 109) (.c (.int .i64 0)), some (108, true)⟩,
⟨some 111, .pick (.t 108) (.t 110) (.c (.bool false)), none⟩,
⟨some 112, .mov (.t 111), none⟩,
⟨some 113, .call false (.f 5) [], some (112, true)⟩,
⟨some 114, .pick (.t 112) (.t 113) (.c (.bool false)), none⟩,
⟨some 8, .mov (.t 114), none⟩] [8] [])
.ret)))))))))⟩

def c_law04_under : IFn := ⟨[.tmp 6],
(.seq (.reg [⟨some 5, .box 3 (.t 2), none⟩,
⟨some 6, .mov (.c (.bool false)), none⟩] [0, 1, 5] [])
(.seq (.seq (.reg [⟨some 7, .mov (.t 0), none⟩,
⟨some 8, .mov (.t 1), none⟩,
⟨some 9, .call false (.f 155) [(.t 7), (.t 8)], none⟩,
⟨some 10, .bin .eql (.t 9) (.c (.int .u8 4)), none⟩] [0, 1, 5, 10] [])
(.cond (.t 10)
(.seq (.reg [⟨some 11, .mov (.t 1), none⟩,
⟨some 12, .mov (.t 0), none⟩,
⟨some 13, .call false (.f 30) [(.t 12), (.c (.bool true))], none⟩,
⟨some 14, .bin .eql (.t 11) (.t 13), none⟩,
⟨some 6, .mov (.t 14), none⟩] [6] [])
.ret)
.skip))
(.seq (.reg [⟨some 15, .mov (.t 0), none⟩,
⟨some 16, .mov (.t 1), none⟩,
⟨some 17, .call false (.f 151) [(.t 15), (.t 16)], none⟩,
⟨some 18, .load true 3 (.t 5), none⟩,
⟨some 19, .call false (.f 69) [(.t 17), (.t 18)], none⟩,
⟨some 20, .bin .leq (.t 19) (.c (.int .i64 0)), none⟩,
⟨some 6, .mov (.t 20), none⟩] [6] [])
.ret)))⟩

def c_law04_over : IFn := ⟨[.tmp 6],
(.seq (.reg [⟨some 5, .box 3 (.t 2), none⟩,
⟨some 6, .mov (.c (.bool false)), none⟩] [0, 1, 5] [])
(.seq (.seq (.reg [⟨some 7, .mov (.t 0), none⟩,
⟨some 8, .mov (.t 1), none⟩,
⟨some 9, .call false (.f 155) [(.t 7), (.t 8)], none⟩,
⟨some 10, .bin .eql (.t 9) (.c (.int .u8 4)), none⟩] [0, 1, 5, 10] [])
(.cond (.t 10)
(.seq (.reg [⟨some 11, .mov (.t 1), none⟩,
⟨some 12, .mov (.t 0), none⟩,
⟨some 13, .call false (.f 30) [(.t 12), (.c (.bool false))], none⟩,
⟨some 14, .bin .eql (.t 11) (.t 13), none⟩,
⟨some 6, .mov (.t 14), none⟩] [6] [])
.ret)
.skip))
(.seq (.reg [⟨some 15, .mov (.t 0), none⟩,
⟨some 16, .mov (.t 1), none⟩,
⟨some 17, .call false (.f 151) [(.t 15), (.t 16)], none⟩,
⟨some 18, .load true 3 (.t 5), none⟩,
⟨some 19, .call false (.f 69) [(.t 17), (.t 18)], none⟩,
⟨some 20, .bin .geq (.t 19) (.c (.int .i64 0)), none⟩,
⟨some 6, .mov (.t 20), none⟩] [6] [])
.ret)))⟩

def c_ref03_Up : IFn := ⟨[.tmp 4, .tmp 5],
(.seq (.reg [⟨some 4, .mov (.c (.int .u64 0)), none⟩,
⟨some 5, .mov (.c (.bool false)), none⟩] [0, 1] [])
(.seq (.reg [⟨some 8, .mov (.t 0), none⟩,
⟨some 9, .mov (.t 1), none⟩,
⟨some 10, .call false (.f 155) [(.t 8), (.t 9)], none⟩,
⟨some 6, .mov (.t 10), none⟩] [0, 1, 6] [])
(.seq (.reg [⟨some 11, .mov (.t 0), none⟩,
⟨some 12, .mov (.t 1), none⟩,
⟨some 13, .call false (.f 156) [(.t 11), (.t 12)], none⟩,
⟨some 14, .field false 0 1 (.t 13), none⟩,
⟨some 7, .mov (.t 14), none⟩] [0, 1, 6, 7] [])
(.seq (.seq (.reg [⟨some 15, .mov (.t 6), none⟩,
⟨some 16, .bin .eql (.t 15) (.c (.int .u8 5)), none⟩] [0, 1, 6, 7, 16] [])
(.cond (.t 16)
(.seq (.reg [⟨some 17, .mov (.t 0), none⟩,
⟨some 18, .call false (.f 157) [(.t 17)], none⟩,
⟨some 4, .mov (.t 18), none⟩,
⟨some 5, .mov (.c (.bool true)), none⟩] [4, 5] [])
.ret)
.skip))
(.seq (.seq (.reg [⟨some 19, .mov (.t 6), none⟩,
⟨some 20, .bin .eql (.t 19) (.c (.int .u8 4)), none⟩,
⟨some 21, .mov (.t 20), none⟩,
⟨some 22, .mov (.t 7), some (21, true)⟩,
⟨some 23, .un .not (.t 22), some (21, true)⟩,
⟨some 24, .pick (.t 21) (.t 23) (.c (.bool false)), none⟩] [1, 6, 7, 24] [])
(.cond (.t 24)
(.seq (.reg [⟨some 4, .mov (.c (.int .u64 0)), none⟩,
⟨some 5, .mov (.c (.bool false)), none⟩] [4, 5] [])
.ret)
.skip))
(.seq (.seq (.reg [⟨some 25, .mov (.t 6), none⟩,
⟨some 26, .bin .eql (.t 25) (.c (.int .u8 1)), none⟩] [1, 7, 26] [])
(.cond (.t 26)
(.seq (.reg [⟨some 4, .mov (.c (.int .u64 1)), none⟩,
⟨some 5, .mov (.c (.bool true)), none⟩] [4, 5] [])
.ret)
.skip))
(.seq (.seq (.reg [⟨some 27, .mov (.t 7), none⟩] [1, 27] [])
(.cond (.t 27)
(.seq (.reg [⟨some 28, .mov (.t 1), none⟩,
⟨some 29, .bin .sub (.t 28) (.c (.int .u64 1)), none⟩,
⟨some 4, .mov (.t 29), none⟩,
⟨some 5, .mov (.c (.bool true)), none⟩] [4, 5] [])
.ret)
.skip))
(.seq (.reg [⟨some 30, .mov (.t 1), none⟩,
⟨some 31, .bin .add (.t 30) (.c (.int .u64 1)), none⟩,
⟨some 4, .mov (.t 31), none⟩,
⟨some 5, .mov (.c (.bool true)), none⟩] [4, 5] [])
.ret))))))))⟩

def c_ref03_Good : IFn := ⟨[.tmp 4],
(.seq (.reg [⟨some 4, .mov (.c (.int .i64 0)), none⟩] [0, 1] [])
(.seq (.seq (.reg [⟨some 5, .mov (.t 0), none⟩,
⟨some 6, .call false (.f 27) [(.t 5)], none⟩,
⟨some 7, .un .not (.t 6), none⟩] [0, 1, 7] [])
(.cond (.t 7)
(.seq (.reg [⟨some 4, .mov (.c (.int .i64 4)), none⟩] [4] [])
.ret)
.skip))
(.seq (.seq (.reg [⟨some 8, .mov (.t 0), none⟩,
⟨some 9, .bin .eql (.t 8) (.c (.int .u8 1)), none⟩,
⟨some 10, .mov (.t 9), none⟩,
⟨some 11, .mov (.t 1), some (10, true)⟩,
⟨some 12, .bin .geq (.t 11) (.c (.int .u64 4294967296)), some (10, true)⟩,
⟨some 13, .pick (.t 10) (.t 12) (.c (.bool false)), none⟩] [13] [])
(.cond (.t 13)
(.seq (.reg [⟨some 4, .mov (.c (.int .i64 6)), none⟩] [4] [])
.ret)
.skip))
(.seq (.reg [⟨some 4, .mov (.c (.int .i64 0)), none⟩] [4] [])
.ret))))⟩

def c_ref03_Finite : IFn := ⟨[.tmp 4],
(.seq (.reg [⟨some 4, .mov (.c (.bool false)), none⟩] [0, 1] [])
(.seq (.reg [⟨some 6, .mov (.t 0), none⟩,
⟨some 7, .mov (.t 1), none⟩,
⟨some 8, .call false (.f 155) [(.t 6), (.t 7)], none⟩,
⟨some 5, .mov (.t 8), none⟩] [5] [])
(.seq (.reg [⟨some 9, .mov (.t 5), none⟩,
⟨some 10, .bin .neq (.t 9) (.c (.int .u8 4)), none⟩,
⟨some 11, .mov (.t 10), none⟩,
⟨some 12, .mov (.t 5), some (11, true)⟩,
⟨some 13, .bin .neq (.t 12) (.c (.int .u8 5)), some (11, true)⟩,
⟨some 14, .pick (.t 11) (.t 13) (.c (.bool false)), none⟩,
⟨some 4, .mov (.t 14), none⟩] [4] [])
.ret)))⟩

def c_ref03_Value : IFn := ⟨[.cell 4 true 3],
(.seq (.reg [⟨some 4, .alloc [(.bool false), .nil, (.int .i64 0)], none⟩] [0, 1, 4] [])
(.seq (.reg [⟨some 6, .mov (.t 0), none⟩,
⟨some 7, .mov (.t 1), none⟩,
⟨some 8, .call false (.f 156) [(.t 6), (.t 7)], none⟩,
⟨some 5, .alloc [(.bool false), (.int .i64 0), (.int .u64 0)], none⟩,
⟨none, .store 3 (.t 5) (.t 8), none⟩] [0, 4, 5] [])
(.seq (.seq (.reg [⟨some 9, .faddr 1 (.t 5), none⟩,
⟨some 10, .load false 1 (.t 9), none⟩,
⟨some 11, .bin .eql (.t 10) (.c (.int .i64 0)), none⟩] [0, 4, 5, 11] [])
(.cond (.t 11)
(.seq (.reg [⟨some 12, .faddr 0 (.t 5), none⟩,
⟨some 13, .load false 1 (.t 12), none⟩,
⟨some 14, .faddr 2 (.t 5), none⟩,
⟨some 15, .load false 1 (.t 14), none⟩,
⟨some 16, .call false (.f 46) [(.t 15)], none⟩,
⟨some 17, .mov (.t 0), none⟩,
⟨some 18, .call false (.f 33) [(.t 17)], none⟩,
⟨some 19, .call false (.f 45) [(.t 13), (.t 16), (.t 18)], none⟩,
⟨none, .store 3 (.t 4) (.t 19), none⟩] [4] [])
.ret)
.skip))
(.seq (.reg [⟨some 20, .faddr 0 (.t 5), none⟩,
⟨some 21, .load false 1 (.t 20), none⟩,
⟨some 22, .mov (.t 0), none⟩,
⟨some 23, .call false (.f 31) [(.t 22)], none⟩,
⟨some 24, .bin .shl (.c (.int .u64 1)) (.t 23), none⟩,
⟨some 25, .faddr 2 (.t 5), none⟩,
⟨some 26, .load false 1 (.t 25), none⟩,
⟨some 27, .bin .add (.t 24) (.t 26), none⟩,
⟨some 28, .call false (.f 46) [(.t 27)], none⟩,
⟨some 29, .faddr 1 (.t 5), none⟩,
⟨some 30, .load false 1 (.t 29), none⟩,
⟨some 31, .bin .sub (.t 30) (.c (.int .i64 1)), none⟩,
⟨some 32, .mov (.t 0), none⟩,
⟨some 33, .call false (.f 33) [(.t 32)], none⟩,
⟨some 34, .bin .add (.t 31) (.t 33), none⟩,
⟨some 35, .call false (.f 45) [(.t 21), (.t 28), (.t 34)], none⟩,
⟨none, .store 3 (.t 4) (.t 35), none⟩] [4] [])
.ret))))⟩

def c_law04_small : IFn := ⟨[.cell 2 true 3],
(.seq (.reg [⟨some 1, .box 3 (.t 0), none⟩,
⟨some 2, .alloc [(.bool false), .nil, (.int .i64 0)], none⟩] [1, 2] [])
(.seq (.seq (.reg [⟨some 3, .faddr 1 (.t 1), none⟩,
⟨some 4, .load false 1 (.t 3), none⟩,
⟨some 5, .len (.t 4), none⟩,
⟨some 6, .bin .gtr (.t 5) (.c (.int .i64 0)), none⟩] [1, 2, 6] [])
(.cond (.t 6)
(.reg [⟨some 7, .faddr 2 (.t 1), none⟩,
⟨some 8, .load false 1 (.t 7), none⟩,
⟨some 9, .bin .rem (.t 8) (.c (.int .i64 1200)), none⟩,
⟨some 10, .faddr 2 (.t 1), none⟩,
⟨none, .store 1 (.t 10) (.t 9), none⟩] [1, 2] [])
.skip))
(.seq (.reg [⟨some 11, .load true 3 (.t 1), none⟩,
⟨none, .store 3 (.t 2) (.t 11), none⟩] [2] [])
.ret)))⟩

def c_law04_above : IFn := ⟨[.tmp 6],
(.seq (.reg [⟨some 6, .mov (.c (.bool false)), none⟩] [0, 1, 2] [])
(.seq (.seq (.reg [⟨some 7, .mov (.t 1), none⟩,
⟨some 8, .mov (.t 0), none⟩,
⟨some 9, .call false (.f 30) [(.t 8), (.c (.bool false))], none⟩,
⟨some 10, .bin .eql (.t 7) (.t 9), none⟩,
⟨some 11, .mov (.t 10), none⟩,
⟨some 12, .mov (.t 2), some (11, false)⟩,
⟨some 13, .mov (.t 0), some (11, false)⟩,
⟨some 14, .call false (.f 30) [(.t 13), (.c (.bool true))], some (11, false)⟩,
⟨some 15, .bin .eql (.t 12) (.t 14), some (11, false)⟩,
⟨some 16, .pick (.t 11) (.c (.bool true)) (.t 15), none⟩] [0, 1, 2, 16] [])
(.cond (.t 16)
(.seq (.reg [⟨some 6, .mov (.c (.bool true)), none⟩] [6] [])
.ret)
.skip))
(.seq (.seq (.reg [⟨some 17, .mov (.t 1), none⟩,
⟨some 18, .mov (.t 0), none⟩,
⟨some 19, .call false (.f 30) [(.t 18), (.c (.bool true))], none⟩,
⟨some 20, .bin .eql (.t 17) (.t 19), none⟩,
⟨some 21, .mov (.t 20), none⟩,
⟨some 22, .mov (.t 2), some (21, false)⟩,
⟨some 23, .mov (.t 0), some (21, false)⟩,
⟨some 24, .call false (.f 30) [(.t 23), (.c (.bool false))], some (21, false)⟩,
⟨some 25, .bin .eql (.t 22) (.t 24), some (21, false)⟩,
⟨some 26, .pick (.t 21) (.c (.bool true)) (.t 25), none⟩] [0, 1, 2, 26] [])
(.cond (.t 26)
(.seq (.reg [⟨some 27, .mov (.t 1), none⟩,
⟨some 28, .mov (.t 2), none⟩,
⟨some 29, .bin .eql (.t 27) (.t 28), none⟩,
⟨some 6, .mov (.t 29), none⟩] [6] [])
.ret)
.skip))
(.seq (.reg [⟨some 30, .mov (.t 0), none⟩,
⟨some 31, .mov (.t 1), none⟩,
⟨some 32, .call false (.f 151) [(.t 30), (.t 31)], none⟩,
⟨some 33, .mov (.t 0), none⟩,
⟨some 34, .mov (.t 2), none⟩,
⟨some 35, .call false (.f 151) [(.t 33), (.t 34)], none⟩,
⟨some 36, .call false (.f 69) [(.t 32), (.t 35)], none⟩,
⟨some 37, .bin .geq (.t 36) (.c (.int .i64 0)), none⟩,
⟨some 6, .mov (.t 37), none⟩] [6] [])
.ret))))⟩

def c_ref02_Mul : IFn := ⟨[.cell 4 true 3],
(.seq (.reg [⟨some 2, .box 3 (.t 0), none⟩,
⟨some 3, .box 3 (.t 1), none⟩,
⟨some 4, .alloc [(.bool false), .nil, (.int .i64 0)], none⟩] [2, 3, 4] [])
(.seq (.reg [⟨some 5, .faddr 0 (.t 2), none⟩,
⟨some 6, .load false 1 (.t 5), none⟩,
⟨some 7, .faddr 0 (.t 3), none⟩,
⟨some 8, .load false 1 (.t 7), none⟩,
⟨some 9, .eqb true (.t 6) (.t 8), none⟩,
⟨some 10, .faddr 1 (.t 2), none⟩,
⟨some 11, .load false 1 (.t 10), none⟩,
⟨some 12, .faddr 1 (.t 3), none⟩,
⟨some 13, .load false 1 (.t 12), none⟩,
⟨some 14, .call false (.f 158) [(.t 11), (.t 13)], none⟩,
⟨some 15, .faddr 2 (.t 2), none⟩,
⟨some 16, .load false 1 (.t 15), none⟩,
⟨some 17, .faddr 2 (.t 3), none⟩,
⟨some 18, .load false 1 (.t 17), none⟩,
⟨some 19, .bin .add (.t 16) (.t 18), none⟩,
⟨some 20, .call false (.f 45) [(.t 9), (.t 14), (.t 19)], none⟩,
⟨none, .store 3 (.t 4) (.t 20), none⟩] [4] [])
.ret))⟩

def c_ref03_Class : IFn := ⟨[.tmp 4],
(.seq (.reg [⟨some 4, .mov (.c (.int .u8 0)), none⟩] [0, 1] [])
(.seq (.reg [⟨some 6, .mov (.t 0), none⟩,
⟨some 7, .mov (.t 1), none⟩,
⟨some 8, .call false (.f 156) [(.t 6), (.t 7)], none⟩,
⟨some 5, .alloc [(.bool false), (.int .i64 0), (.int .u64 0)], none⟩,
⟨none, .store 3 (.t 5) (.t 8), none⟩] [0, 5] [])
(.seq (.seq (.reg [⟨some 9, .faddr 1 (.t 5), none⟩,
⟨some 10, .load false 1 (.t 9), none⟩,
⟨some 11, .bin .eql (.t 10) (.c (.int .i64 0)), none⟩,
⟨some 12, .mov (.t 11), none⟩,
⟨some 13, .faddr 2 (.t 5), some (12, true)⟩,
⟨some 14, .load false 1 (.t 13), some (12, true)⟩,
⟨some 15, .bin .eql (.t 14) (.c (.int .u64 0)), some (12, true)⟩,
⟨some 16, .pick (.t 12) (.t 15) (.c (.bool false)), none⟩] [0, 5, 16] [])
(.cond (.t 16)
(.seq (.reg [⟨some 4, .mov (.c (.int .u8 1)), none⟩] [4] [])
.ret)
.skip))
(.seq (.seq (.reg [⟨some 17, .faddr 1 (.t 5), none⟩,
⟨some 18, .load false 1 (.t 17), none⟩,
⟨some 19, .bin .eql (.t 18) (.c (.int .i64 0)), none⟩] [0, 5, 19] [])
(.cond (.t 19)
(.seq (.reg [⟨some 4, .mov (.c (.int .u8 2)), none⟩] [4] [])
.ret)
.skip))
(.seq (.seq (.reg [⟨some 20, .faddr 1 (.t 5), none⟩,
⟨some 21, .load false 1 (.t 20), none⟩,
⟨some 22, .mov (.t 0), none⟩,
⟨some 23, .call false (.f 63) [(.t 22)], none⟩,
⟨some 24, .bin .lss (.t 21) (.t 23), none⟩] [5, 24] [])
(.cond (.t 24)
(.seq (.reg [⟨some 4, .mov (.c (.int .u8 3)), none⟩] [4] [])
.ret)
.skip))
(.seq (.seq (.reg [⟨some 25, .faddr 2 (.t 5), none⟩,
⟨some 26, .load false 1 (.t 25), none⟩,
⟨some 27, .bin .eql (.t 26) (.c (.int .u64 0)), none⟩] [27] [])
(.cond (.t 27)
(.seq (.reg [⟨some 4, .mov (.c (.int .u8 4)), none⟩] [4] [])
.ret)
.skip))
(.seq (.reg [⟨some 4, .mov (.c (.int .u8 5)), none⟩] [4] [])
.ret)))))))⟩

def c_ref03_Split : IFn := ⟨[.cell 4 true 3],
(.seq (.reg [⟨some 4, .alloc [(.bool false), (.int .i64 0), (.int .u64 0)], none⟩] [0, 1, 4] [])
(.seq (.reg [⟨some 6, .mov (.t 1), none⟩,
⟨some 7, .mov (.t 0), none⟩,
⟨some 8, .call false (.f 73) [(.t 7)], none⟩,
⟨some 9, .bin .geq (.t 6) (.t 8), none⟩,
⟨some 10, .build [(.bool false), (.int .i64 0), (.int .u64 0)] [(0, 1, (.t 9))], none⟩,
⟨some 5, .alloc [(.bool false), (.int .i64 0), (.int .u64 0)], none⟩,
⟨none, .store 3 (.t 5) (.t 10), none⟩] [0, 1, 4, 5] [])
(.seq (.reg [⟨some 11, .mov (.t 1), none⟩,
⟨some 12, .mov (.t 0), none⟩,
⟨some 13, .call false (.f 73) [(.t 12)], none⟩,
⟨some 14, .bin .rem (.t 11) (.t 13), none⟩,
⟨some 1, .mov (.t 14), none⟩] [0, 1, 4, 5] [])
(.seq (.reg [⟨some 15, .mov (.t 1), none⟩,
⟨some 16, .mov (.t 0), none⟩,
⟨some 17, .call false (.f 31) [(.t 16)], none⟩,
⟨some 18, .bin .shl (.c (.int .u64 1)) (.t 17), none⟩,
⟨some 19, .bin .rem (.t 15) (.t 18), none⟩,
⟨some 20, .faddr 2 (.t 5), none⟩,
⟨none, .store 1 (.t 20) (.t 19), none⟩] [0, 1, 4, 5] [])
(.seq (.reg [⟨some 21, .mov (.t 1), none⟩,
⟨some 22, .mov (.t 0), none⟩,
⟨some 23, .call false (.f 31) [(.t 22)], none⟩,
⟨some 24, .bin .shr (.t 21) (.t 23), none⟩,
⟨some 25, .cvt .i64 (.t 24), none⟩,
⟨some 26, .faddr 1 (.t 5), none⟩,
⟨none, .store 1 (.t 26) (.t 25), none⟩] [4, 5] [])
(.seq (.reg [⟨some 27, .load true 3 (.t 5), none⟩,
⟨none, .store 3 (.t 4) (.t 27), none⟩] [4] [])
.ret))))))⟩

def c_ref03_None : IFn := ⟨[.tmp 2],
(.seq (.reg [⟨some 2, .mov (.c (.int .u64 0)), none⟩] [0] [])
(.seq (.reg [⟨some 3, .mov (.t 0), none⟩,
⟨some 4, .mov (.t 0), none⟩,
⟨some 5, .call false (.f 63) [(.t 4)], none⟩,
⟨some 6, .mov (.t 0), none⟩,
⟨some 7, .call false (.f 31) [(.t 6)], none⟩,
⟨some 8, .bin .sub (.t 7) (.c (.int .i64 1)), none⟩,
⟨some 9, .bin .shl (.c (.int .u64 1)) (.t 8), none⟩,
⟨some 10, .build [(.bool false), (.int .i64 0), (.int .u64 0)] [(1, 1, (.t 5)), (2, 1, (.t 9))], none⟩,
⟨some 11, .call false (.f 62) [(.t 3), (.t 10)], none⟩,
⟨some 2, .mov (.t 11), none⟩] [2] [])
.ret))⟩

def c_ref01_Mul_b1 : IC :=
(.seq (.seq (.reg [⟨some 39, .mov (.t 10), none⟩,
⟨some 40, .mov (.t 8), none⟩,
⟨some 41, .bin .leq (.t 39) (.t 40), none⟩,
⟨some 42, .mov (.t 41), none⟩,
⟨some 43, .mov (.t 10), some (42, true)⟩,
⟨some 44, .mov (.t 0), some (42, true)⟩,
⟨some 45, .len (.t 44), some (42, true)⟩,
⟨some 46, .bin .lss (.t 43) (.t 45), some (42, true)⟩,
⟨some 47, .pick (.t 42) (.t 46) (.c (.bool false)), none⟩] [0, 1, 5, 6, 7, 8, 10, 47] [])
(.cond (.t 47)
.skip
(.exit 2)))
(.seq (.block 3
(.seq (.reg [⟨some 50, .mov (.t 0), none⟩,
⟨some 51, .mov (.t 10), none⟩,
⟨some 52, .iaddr 1 (.t 50) (.t 51), none⟩,
⟨some 53, .load false 1 (.t 52), none⟩,
⟨some 54, .cvt .u64 (.t 53), none⟩,
⟨some 55, .mov (.t 1), none⟩,
⟨some 56, .mov (.t 8), none⟩,
⟨some 57, .mov (.t 10), none⟩,
⟨some 58, .bin .sub (.t 56) (.t 57), none⟩,
⟨some 59, .iaddr 1 (.t 55) (.t 58), none⟩,
⟨some 60, .load false 1 (.t 59), none⟩,
⟨some 61, .cvt .u64 (.t 60), none⟩,
⟨some 62, .bin .mul (.t 54) (.t 61), none⟩,
⟨some 11, .mov (.t 62), none⟩] [0, 1, 5, 6, 7, 8, 10, 11] [])
(.seq (.reg [⟨some 63, .mov (.t 6), none⟩,
⟨some 64, .mov (.t 11), none⟩,
⟨some 65, .bin .add (.t 63) (.t 64), none⟩,
⟨some 6, .mov (.t 65), none⟩] [0, 1, 5, 6, 7, 8, 10, 11] [])
(.seq (.reg [⟨some 66, .mov (.t 6), none⟩,
⟨some 67, .mov (.t 11), none⟩,
⟨some 68, .bin .lss (.t 66) (.t 67), none⟩] [0, 1, 5, 6, 7, 8, 10, 68] [])
(.cond (.t 68)
(.reg [⟨some 69, .mov (.t 7), none⟩,
⟨some 70, .bin .add (.t 69) (.c (.int .u64 1)), none⟩,
⟨some 7, .mov (.t 70), none⟩] [0, 1, 5, 6, 7, 8, 10] [])
.skip)))))
(.reg [⟨some 48, .mov (.t 10), none⟩,
⟨some 49, .bin .add (.t 48) (.c (.int .i64 1)), none⟩,
⟨some 10, .mov (.t 49), none⟩] [0, 1, 5, 6, 7, 8, 10] [])))
def c_ref01_Mul_l1 : IC := .loop [0, 1, 5, 6, 7, 8, 10] c_ref01_Mul_b1
def c_ref01_Mul_b2 : IC :=
(.seq (.seq (.reg [⟨some 20, .mov (.t 8), none⟩,
⟨some 21, .mov (.t 0), none⟩,
⟨some 22, .len (.t 21), none⟩,
⟨some 23, .mov (.t 1), none⟩,
⟨some 24, .len (.t 23), none⟩,
⟨some 25, .bin .add (.t 22) (.t 24), none⟩,
⟨some 26, .bin .lss (.t 20) (.t 25), none⟩] [0, 1, 5, 6, 7, 8, 26] [])
(.cond (.t 26)
.skip
(.exit 0)))
(.seq (.block 1
(.seq (.reg [⟨some 9, .mov (.c (.int .i64 0)), none⟩] [0, 1, 5, 6, 7, 8, 9] [])
(.seq (.seq (.reg [⟨some 29, .mov (.t 8), none⟩,
⟨some 30, .mov (.t 1), none⟩,
⟨some 31, .len (.t 30), none⟩,
⟨some 32, .bin .geq (.t 29) (.t 31), none⟩] [0, 1, 5, 6, 7, 8, 9, 32] [])
(.cond (.t 32)
(.reg [⟨some 33, .mov (.t 8), none⟩,
⟨some 34, .mov (.t 1), none⟩,
⟨some 35, .len (.t 34), none⟩,
⟨some 36, .bin .sub (.t 33) (.t 35), none⟩,
⟨some 37, .bin .add (.t 36) (.c (.int .i64 1)), none⟩,
⟨some 9, .mov (.t 37), none⟩] [0, 1, 5, 6, 7, 8, 9] [])
.skip))
(.seq (.seq (.reg [⟨some 38, .mov (.t 9), none⟩,
⟨some 10, .mov (.t 38), none⟩] [0, 1, 5, 6, 7, 8, 10] [])
(.block 2
 c_ref01_Mul_l1))
(.seq (.reg [⟨some 71, .mov (.t 5), none⟩,
⟨some 72, .mov (.t 6), none⟩,
⟨some 73, .cvt .u32 (.t 72), none⟩,
⟨some 74, .bslice 1 1 [(.int .u32 0)] [(0, 1, (.t 73))], none⟩,
⟨some 75, .app 1 4 (.t 71) (.t 74), none⟩,
⟨some 5, .mov (.t 75), none⟩] [0, 1, 5, 6, 7, 8] [])
(.seq (.reg [⟨some 76, .mov (.t 6), none⟩,
⟨some 77, .bin .shr (.t 76) (.c (.int .u64 32)), none⟩,
⟨some 78, .mov (.t 7), none⟩,
⟨some 79, .bin .shl (.t 78) (.c (.int .u64 32)), none⟩,
⟨some 80, .bin .or (.t 77) (.t 79), none⟩,
⟨some 6, .mov (.t 80), none⟩] [0, 1, 5, 6, 7, 8] [])
(.reg [⟨some 81, .mov (.t 7), none⟩,
⟨some 82, .bin .shr (.t 81) (.c (.int .u64 32)), none⟩,
⟨some 7, .mov (.t 82), none⟩] [0, 1, 5, 6, 7, 8] [])))))))
(.reg [⟨some 27, .mov (.t 8), none⟩,
⟨some 28, .bin .add (.t 27) (.c (.int .i64 1)), none⟩,
⟨some 8, .mov (.t 28), none⟩] [0, 1, 5, 6, 7, 8] [])))
def c_ref01_Mul_l2 : IC := .loop [0, 1, 5, 6, 7, 8] c_ref01_Mul_b2
def c_ref01_Mul : IFn := ⟨[.tmp 4],
(.seq (.reg [⟨some 4, .mov (.c .nil), none⟩] [0, 1] [])
(.seq (.seq (.reg [⟨some 12, .mov (.t 0), none⟩,
⟨some 13, .len (.t 12), none⟩,
⟨some 14, .bin .eql (.t 13) (.c (.int .i64 0)), none⟩,
⟨some 15, .mov (.t 14), none⟩,
⟨some 16, .mov (.t 1), some (15, false)⟩,
⟨some 17, .len (.t 16), some (15, false)⟩,
⟨some 18, .bin .eql (.t 17) (.c (.int .i64 0)), some (15, false)⟩,
⟨some 19, .pick (.t 15) (.c (.bool true)) (.t 18), none⟩] [0, 1, 19] [])
(.cond (.t 19)
(.seq (.reg [⟨some 4, .mov (.c .nil), none⟩] [4] [])
.ret)
.skip))
(.seq (.reg [⟨some 5, .mov (.c .nil), none⟩] [0, 1, 5] [])
(.seq (.reg [⟨some 6, .mov (.c (.int .u64 0)), none⟩] [0, 1, 5, 6] [])
(.seq (.reg [⟨some 7, .mov (.c (.int .u64 0)), none⟩] [0, 1, 5, 6, 7] [])
(.seq (.seq (.reg [⟨some 8, .mov (.c (.int .i64 0)), none⟩] [0, 1, 5, 6, 7, 8] [])
(.block 0
 c_ref01_Mul_l2))
(.seq (.reg [⟨some 83, .mov (.t 5), none⟩,
⟨some 84, .call false (.f 85) [(.t 83)], none⟩,
⟨some 4, .mov (.t 84), none⟩] [4] [])
.ret)))))))⟩

structure HasF (gdb : Nat) (T : Tbl) : Prop where
  law04_RoundBetween : T 141 = some c_law04_RoundBetween
  law04_RoundNearest : T 142 = some c_law04_RoundNearest
  law04_RoundOrder : T 143 = some c_law04_RoundOrder
  law04_RoundMirror : T 144 = some c_law04_RoundMirror
  law04_RoundSquares : T 145 = some c_law04_RoundSquares
  law04_under : T 146 = some c_law04_under
  law04_over : T 147 = some c_law04_over
  ref03_Up : T 148 = some c_ref03_Up
  ref03_Good : T 149 = some c_ref03_Good
  ref03_Finite : T 150 = some c_ref03_Finite
  ref03_Value : T 151 = some c_ref03_Value
  law04_small : T 152 = some c_law04_small
  law04_above : T 153 = some c_law04_above
  ref02_Mul : T 154 = some c_ref02_Mul
  ref03_Class : T 155 = some c_ref03_Class
  ref03_Split : T 156 = some c_ref03_Split
  ref03_None : T 157 = some c_ref03_None
  ref01_Mul : T 158 = some c_ref01_Mul
end Go.Cv

/-
  The table of all code texts (written by a program).
-/
set_option maxRecDepth 100000
namespace Go.Cv
def tblL (gdb : Nat) : List (Option IFn) := [none,
 some c_law04_RoundExact,
 some c_law04_RoundQuotients,
 some c_law04_RoundRoots,
 some c_law04_long,
 some c_law04_known,
 some c_law04_lent,
 some c_round_Round,
 some c_round_Over,
 some c_law04_opens,
 some c_ref04_Over,
 some c_law04_refused,
 some c_ref04_Round,
 some c_law04_told,
 some c_ref02_Same,
 some c_round_Quo,
 some c_ref02_Sign,
 some c_ref04_Quo,
 some c_round_Root,
 some c_ref04_Root,
 some c_ref02_Int,
 some c_round_open,
 some c_dyad_Sign,
 some c_round_partOf,
 some c_round_part_word,
 some c_word_Greatest,
 some c_word_Inf,
 some c_ref03_Is,
 some c_ref04_Is,
 some c_ref02_May,
 some c_ref03_Inf,
 some c_ref03_Frac,
 some c_ref02_Top,
 some c_ref03_Low,
 some c_ref04_Taken,
 some c_ref03_Wide,
 some c_ref03_Of,
 some c_ref02_Abs,
 some c_ref03_Signed,
 some c_ref01_Same,
 some c_dyad_Quo,
 some c_ref02_Quo,
 some c_ref04_Beyond,
 some c_dyad_Root,
 some c_ref02_Root,
 some c_ref02_Form,
 some c_ref01_Of,
 some c_round_formOf,
 some c_dyad_May,
 some c_nat_Len,
 some c_nat_Shift,
 some c_nat_Num,
 some c_round_part_units,
 some c_bits_Len64,
 some c_dyad_Make,
 some c_nat_Of,
 some c_word_Of,
 some c_word_Zero,
 some c_word_named,
 some c_word_Greatest_1,
 some c_word_shape_inf,
 some c_ref01_May,
 some c_ref03_Join,
 some c_ref03_Most,
 some c_ref01_Len,
 some c_ref02_Shift,
 some c_ref02_Floor,
 some c_ref02_Add,
 some c_ref02_Two,
 some c_ref02_Cmp,
 some c_ref02_Sub,
 some c_ref04_half,
 some c_ref01_Up,
 some c_ref03_Sign,
 some c_dyad_both,
 some c_dyad_asked,
 some c_dyad_wide,
 some c_nat_QuoRem,
 some c_dyad_made,
 some c_ref01_QuoRem,
 some c_ref02_Cut,
 some c_nat_Root,
 some c_ref01_Root,
 some c_ref01_Low,
 some c_ref01_Down,
 some c_ref01_Trim,
 some c_nat_May,
 some c_dyad_inside,
 some c_bits_Len32,
 some c_nat_down,
 some c_nat_Low,
 some c_nat_up,
 some c_round_btoi,
 some c_round_up,
 some c_nat_trim,
 some c_word_open,
 some c_word_shape_low,
 some c_word_shape_join,
 some c_word_Zero_1,
 some c_ref01_Add,
 some c_ref01_Cmp,
 some c_ref01_Sub,
 some c_ref02_Neg,
 some c_nat_Sub,
 some c_nat_Cmp,
 some c_nat_Add,
 some c_nat_all,
 some c_nat_cmp,
 some c_nat_small,
 some c_nat_long,
 some c_ref01_byDigit,
 some c_ref01_Bit,
 some c_bits_Add32,
 some c_nat_mul,
 some (c_bits_TrailingZeros32 gdb),
 some c_word_shapeOf,
 some c_nat_sub,
 some c_nat_bound,
 some c_bits_Div32,
 some c_bits_LeadingZeros32,
 some c_nat_step,
 some c_bits_Sub32,
 none,
 none,
 none,
 none,
 none,
 none,
 none,
 none,
 none,
 none,
 none,
 none,
 none,
 none,
 none,
 none,
 none,
 none,
 none,
 some c_law04_RoundBetween,
 some c_law04_RoundNearest,
 some c_law04_RoundOrder,
 some c_law04_RoundMirror,
 some c_law04_RoundSquares,
 some c_law04_under,
 some c_law04_over,
 some c_ref03_Up,
 some c_ref03_Good,
 some c_ref03_Finite,
 some c_ref03_Value,
 some c_law04_small,
 some c_law04_above,
 some c_ref02_Mul,
 some c_ref03_Class,
 some c_ref03_Split,
 some c_ref03_None,
 some c_ref01_Mul]
def tbl (gdb : Nat) : Tbl := fun n => (tblL gdb).getD n none
theorem hasA (gdb : Nat) : HasA gdb (tbl gdb) := ⟨rfl, rfl, rfl, rfl, rfl, rfl, rfl, rfl, rfl, rfl, rfl, rfl, rfl, rfl, rfl, rfl, rfl, rfl, rfl, rfl, rfl, rfl, rfl, rfl, rfl, rfl, rfl, rfl, rfl⟩
theorem hasB (gdb : Nat) : HasB gdb (tbl gdb) := ⟨rfl, rfl, rfl, rfl, rfl, rfl, rfl, rfl, rfl, rfl, rfl, rfl, rfl, rfl, rfl⟩
theorem hasC (gdb : Nat) : HasC gdb (tbl gdb) := ⟨rfl, rfl, rfl, rfl, rfl, rfl, rfl, rfl, rfl, rfl, rfl, rfl, rfl, rfl, rfl, rfl, rfl, rfl, rfl, rfl, rfl, rfl, rfl, rfl, rfl, rfl, rfl⟩
theorem hasD (gdb : Nat) : HasD gdb (tbl gdb) := ⟨rfl, rfl, rfl, rfl, rfl, rfl, rfl, rfl, rfl, rfl, rfl, rfl, rfl, rfl, rfl, rfl, rfl, rfl, rfl, rfl, rfl, rfl⟩
theorem hasE (gdb : Nat) : HasE gdb (tbl gdb) := ⟨rfl, rfl, rfl, rfl, rfl, rfl, rfl, rfl, rfl, rfl, rfl, rfl, rfl, rfl, rfl, rfl, rfl, rfl, rfl, rfl, rfl, rfl, rfl, rfl, rfl, rfl, rfl, rfl⟩
theorem hasF (gdb : Nat) : HasF gdb (tbl gdb) := ⟨rfl, rfl, rfl, rfl, rfl, rfl, rfl, rfl, rfl, rfl, rfl, rfl, rfl, rfl, rfl, rfl, rfl, rfl⟩
end Go.Cv
