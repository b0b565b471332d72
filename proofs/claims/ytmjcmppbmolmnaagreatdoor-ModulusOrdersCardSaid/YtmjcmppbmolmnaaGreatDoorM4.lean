/-
  A part of the proof of the statements of this seat (texts that the law's own text leans on): no condition.
-/
import Derived.Test.YtmjcmppbmolmnaaGreatDoorM1
import Derived.Test.YtmjcmppbmolmnaaGreatDoorM3
set_option linter.unusedVariables false
set_option linter.unusedSimpArgs false
/-
  The code of some functions, in the evaluator's form (written by a program from the program's own form).
-/
namespace Go.Cv
def c_law13_ModulusSizes : IFn := ⟨[.tmp 6],
(.seq (.reg [⟨some 5, .box 2 (.t 2), none⟩,
⟨some 6, .mov (.c (.bool false)), none⟩] [0, 1, 5] [])
(.seq (.reg [⟨some 19, .mov (.t 0), none⟩,
⟨some 20, .mov (.t 1), none⟩,
⟨some 21, .load true 2 (.t 5), none⟩,
⟨some 22, .call false (.f 169) [(.t 19), (.t 20), (.t 21)], none⟩,
⟨some 18, .mov (.t 22), none⟩,
⟨some 23, .ext (.t 18) 0, none⟩,
⟨some 24, .ext (.t 18) 1, none⟩,
⟨some 25, .ext (.t 18) 2, none⟩,
⟨some 7, .mov (.t 23), none⟩,
⟨some 8, .mov (.t 24), none⟩,
⟨some 9, .mov (.t 25), none⟩] [0, 1, 5, 7, 8, 9] [])
(.seq (.reg [⟨some 27, .mov (.t 0), none⟩,
⟨some 28, .mov (.t 1), none⟩,
⟨some 29, .load true 2 (.t 5), none⟩,
⟨some 30, .call false (.f 171) [(.t 27), (.t 28), (.t 29)], none⟩,
⟨some 26, .mov (.t 30), none⟩,
⟨some 31, .ext (.t 26) 0, none⟩,
⟨some 32, .ext (.t 26) 1, none⟩,
⟨some 33, .ext (.t 26) 2, none⟩,
⟨some 10, .mov (.t 31), none⟩,
⟨some 11, .mov (.t 32), none⟩,
⟨some 12, .mov (.t 33), none⟩] [0, 1, 5, 7, 8, 9, 10, 11, 12] [])
(.seq (.seq (.reg [⟨some 34, .mov (.t 0), none⟩,
⟨some 35, .mov (.t 1), none⟩,
⟨some 36, .load true 2 (.t 5), none⟩,
⟨some 37, .bslice 1 2 [(.int .u64 0), (.int .u64 0)] [(0, 2, (.t 36))], none⟩,
⟨some 38, .call false (.f 167) [(.t 34), (.t 35), (.t 37)], none⟩,
⟨some 13, .mov (.t 38), none⟩] [0, 1, 5, 7, 8, 9, 10, 11, 12, 13] [])
(.seq (.reg [⟨some 39, .mov (.t 13), none⟩,
⟨some 40, .bin .neq (.t 39) (.c (.int .i64 0)), none⟩] [0, 1, 5, 7, 8, 9, 10, 11, 12, 13, 40] [])
(.cond (.t 40)
(.seq (.reg [⟨some 41, .mov (.t 7), none⟩,
⟨some 42, .bin .eql (.t 41) (.c (.int .u64 0)), none⟩,
⟨some 43, .mov (.t 42), none⟩,
⟨some 44, .mov (.t 8), some (43, true)⟩,
⟨some 45, .bin .eql (.t 44) (.c (.int .u8 0)), some (43, true)⟩,
⟨some 46, .pick (.t 43) (.t 45) (.c (.bool false)), none⟩,
⟨some 47, .mov (.t 46), none⟩,
⟨some 48, .mov (.t 9), some (47, true)⟩,
⟨some 49, .mov (.t 13), some (47, true)⟩,
⟨some 50, .bin .eql (.t 48) (.t 49), some (47, true)⟩,
⟨some 51, .pick (.t 47) (.t 50) (.c (.bool false)), none⟩,
⟨some 52, .mov (.t 51), none⟩,
⟨some 53, .mov (.t 10), some (52, true)⟩,
⟨some 54, .bin .eql (.t 53) (.c (.int .u64 0)), some (52, true)⟩,
⟨some 55, .pick (.t 52) (.t 54) (.c (.bool false)), none⟩,
⟨some 56, .mov (.t 55), none⟩,
⟨some 57, .mov (.t 11), some (56, true)⟩,
⟨some 58, .bin .eql (.t 57) (.c (.int .u8 0)), some (56, true)⟩,
⟨some 59, .pick (.t 56) (.t 58) (.c (.bool false)), none⟩,
⟨some 60, .mov (.t 59), none⟩,
⟨some 61, .mov (.t 12), some (60, true)⟩,
⟨some 62, .mov (.t 13), some (60, true)⟩,
⟨some 63, .bin .eql (.t 61) (.t 62), some (60, true)⟩,
⟨some 64, .pick (.t 60) (.t 63) (.c (.bool false)), none⟩,
⟨some 65, .mov (.t 64), none⟩,
⟨some 66, .call false (.f 168) [], some (65, true)⟩,
⟨some 67, .pick (.t 65) (.t 66) (.c (.bool false)), none⟩,
⟨some 6, .mov (.t 67), none⟩] [6] [])
.ret)
.skip)))
(.seq (.reg [⟨some 69, .mov (.t 0), none⟩,
⟨some 70, .mov (.t 1), none⟩,
⟨some 71, .load true 2 (.t 5), none⟩,
⟨some 72, .call false (.f 227) [(.t 69), (.t 70), (.t 71)], none⟩,
⟨some 68, .mov (.t 72), none⟩,
⟨some 73, .ext (.t 68) 0, none⟩,
⟨some 74, .ext (.t 68) 1, none⟩,
⟨some 14, .mov (.t 73), none⟩,
⟨some 15, .mov (.t 74), none⟩] [0, 1, 5, 7, 8, 9, 10, 11, 12, 14, 15] [])
(.seq (.reg [⟨some 76, .mov (.t 0), none⟩,
⟨some 77, .mov (.t 1), none⟩,
⟨some 78, .load true 2 (.t 5), none⟩,
⟨some 79, .call false (.f 228) [(.t 76), (.t 77), (.t 78)], none⟩,
⟨some 75, .mov (.t 79), none⟩,
⟨some 80, .ext (.t 75) 0, none⟩,
⟨some 81, .ext (.t 75) 1, none⟩,
⟨some 16, .mov (.t 80), none⟩,
⟨some 17, .mov (.t 81), none⟩] [7, 8, 9, 10, 11, 12, 14, 15, 16, 17] [])
(.seq (.reg [⟨some 82, .mov (.t 7), none⟩,
⟨some 83, .mov (.t 14), none⟩,
⟨some 84, .bin .eql (.t 82) (.t 83), none⟩,
⟨some 85, .mov (.t 84), none⟩,
⟨some 86, .mov (.t 8), some (85, true)⟩,
⟨some 87, .mov (.t 15), some (85, true)⟩,
⟨some 88, .bin .eql (.t 86) (.t 87), some (85, true)⟩,
⟨some 89, .pick (.t 85) (.t 88) (.c (.bool false)), none⟩,
⟨some 90, .mov (.t 89), none⟩,
⟨some 91, .mov (.t 9), some (90, true)⟩,
⟨some 92, .bin .eql (.t 91) (.c (.int .i64 0)), some (90, true)⟩,
⟨some 93, .pick (.t 90) (.t 92) (.c (.bool false)), none⟩,
⟨some 94, .mov (.t 93), none⟩,
⟨some 95, .mov (.t 10), some (94, true)⟩,
⟨some 96, .mov (.t 16), some (94, true)⟩,
⟨some 97, .bin .eql (.t 95) (.t 96), some (94, true)⟩,
⟨some 98, .pick (.t 94) (.t 97) (.c (.bool false)), none⟩,
⟨some 99, .mov (.t 98), none⟩,
⟨some 100, .mov (.t 11), some (99, true)⟩,
⟨some 101, .mov (.t 17), some (99, true)⟩,
⟨some 102, .bin .eql (.t 100) (.t 101), some (99, true)⟩,
⟨some 103, .pick (.t 99) (.t 102) (.c (.bool false)), none⟩,
⟨some 104, .mov (.t 103), none⟩,
⟨some 105, .mov (.t 12), some (104, true)⟩,
⟨some 106, .bin .eql (.t 105) (.c (.int .i64 0)), some (104, true)⟩,
⟨some 107, .pick (.t 104) (.t 106) (.c (.bool false)), none⟩,
⟨some 108, .mov (.t 107), none⟩,
⟨some 109, .call false (.f 168) [], some (108, true)⟩,
⟨some 110, .pick (.t 108) (.t 109) (.c (.bool false)), none⟩,
⟨some 6, .mov (.t 110), none⟩] [6] [])
.ret)))))))⟩

def c_law13_ModulusOrders : IFn := ⟨[.tmp 6],
(.seq (.reg [⟨some 4, .box 2 (.t 1), none⟩,
⟨some 5, .box 2 (.t 2), none⟩,
⟨some 6, .mov (.c (.bool false)), none⟩] [0, 4, 5] [])
(.seq (.reg [⟨some 11, .mov (.t 0), none⟩,
⟨some 12, .load true 2 (.t 4), none⟩,
⟨some 13, .load true 2 (.t 5), none⟩,
⟨some 14, .call false (.f 174) [(.t 11), (.t 12), (.t 13)], none⟩,
⟨some 10, .mov (.t 14), none⟩,
⟨some 15, .ext (.t 10) 0, none⟩,
⟨some 16, .ext (.t 10) 1, none⟩,
⟨some 7, .mov (.t 15), none⟩,
⟨some 8, .mov (.t 16), none⟩] [0, 4, 5, 7, 8] [])
(.seq (.seq (.reg [⟨some 17, .mov (.t 0), none⟩,
⟨some 18, .load true 2 (.t 4), none⟩,
⟨some 19, .load true 2 (.t 5), none⟩,
⟨some 20, .bslice 2 2 [(.int .u64 0), (.int .u64 0)] [(0, 2, (.t 18)), (2, 2, (.t 19))], none⟩,
⟨some 21, .call false (.f 185) [(.t 17), (.t 20)], none⟩,
⟨some 9, .mov (.t 21), none⟩] [0, 4, 5, 7, 8, 9] [])
(.seq (.reg [⟨some 22, .mov (.t 9), none⟩,
⟨some 23, .bin .neq (.t 22) (.c (.int .i64 0)), none⟩] [0, 4, 5, 7, 8, 9, 23] [])
(.cond (.t 23)
(.seq (.reg [⟨some 24, .mov (.t 7), none⟩,
⟨some 25, .bin .eql (.t 24) (.c (.int .u8 0)), none⟩,
⟨some 26, .mov (.t 25), none⟩,
⟨some 27, .mov (.t 8), some (26, true)⟩,
⟨some 28, .mov (.t 9), some (26, true)⟩,
⟨some 29, .bin .eql (.t 27) (.t 28), some (26, true)⟩,
⟨some 30, .pick (.t 26) (.t 29) (.c (.bool false)), none⟩,
⟨some 31, .mov (.t 30), none⟩,
⟨some 32, .call false (.f 168) [], some (31, true)⟩,
⟨some 33, .pick (.t 31) (.t 32) (.c (.bool false)), none⟩,
⟨some 6, .mov (.t 33), none⟩] [6] [])
.ret)
.skip)))
(.seq (.reg [⟨some 34, .mov (.t 7), none⟩,
⟨some 35, .mov (.t 0), none⟩,
⟨some 36, .load true 2 (.t 4), none⟩,
⟨some 37, .load true 2 (.t 5), none⟩,
⟨some 38, .call false (.f 229) [(.t 35), (.t 36), (.t 37)], none⟩,
⟨some 39, .bin .eql (.t 34) (.t 38), none⟩,
⟨some 40, .mov (.t 39), none⟩,
⟨some 41, .mov (.t 8), some (40, true)⟩,
⟨some 42, .bin .eql (.t 41) (.c (.int .i64 0)), some (40, true)⟩,
⟨some 43, .pick (.t 40) (.t 42) (.c (.bool false)), none⟩,
⟨some 44, .mov (.t 43), none⟩,
⟨some 45, .call false (.f 168) [], some (44, true)⟩,
⟨some 46, .pick (.t 44) (.t 45) (.c (.bool false)), none⟩,
⟨some 6, .mov (.t 46), none⟩] [6] [])
.ret))))⟩

def c_ref13_Abs : IFn := ⟨[.tmp 6, .tmp 7],
(.seq (.reg [⟨some 5, .box 2 (.t 2), none⟩,
⟨some 6, .mov (.c (.int .u64 0)), none⟩,
⟨some 7, .mov (.c (.int .u8 0)), none⟩] [0, 1, 5] [])
(.seq (.reg [⟨some 11, .mov (.t 0), none⟩,
⟨some 12, .load true 2 (.t 5), none⟩,
⟨some 13, .call false (.f 235) [(.t 11), (.t 12)], none⟩,
⟨some 10, .mov (.t 13), none⟩,
⟨some 14, .ext (.t 10) 0, none⟩,
⟨some 15, .ext (.t 10) 1, none⟩,
⟨some 8, .mov (.t 14), none⟩,
⟨some 9, .mov (.t 15), none⟩] [0, 1, 5, 8, 9] [])
(.seq (.seq (.reg [⟨some 16, .mov (.t 9), none⟩] [0, 1, 5, 8, 16] [])
(.cond (.t 16)
(.seq (.reg [⟨some 17, .mov (.t 8), none⟩,
⟨some 6, .mov (.t 17), none⟩,
⟨some 7, .mov (.c (.int .u8 0)), none⟩] [6, 7] [])
.ret)
.skip))
(.seq (.reg [⟨some 18, .mov (.t 0), none⟩,
⟨some 19, .mov (.t 1), none⟩,
⟨some 20, .mov (.t 0), none⟩,
⟨some 21, .load true 2 (.t 5), none⟩,
⟨some 22, .call false (.f 236) [(.t 20), (.t 21)], none⟩,
⟨some 23, .call false (.f 19) [(.t 18), (.t 19), (.t 22)], none⟩,
⟨some 24, .ext (.t 23) 0, none⟩,
⟨some 25, .ext (.t 23) 1, none⟩,
⟨some 6, .mov (.t 24), none⟩,
⟨some 7, .mov (.t 25), none⟩] [6, 7] [])
.ret))))⟩

def c_ref13_Norm : IFn := ⟨[.tmp 6, .tmp 7],
(.seq (.reg [⟨some 5, .box 2 (.t 2), none⟩,
⟨some 6, .mov (.c (.int .u64 0)), none⟩,
⟨some 7, .mov (.c (.int .u8 0)), none⟩] [0, 1, 5] [])
(.seq (.reg [⟨some 11, .mov (.t 0), none⟩,
⟨some 12, .load true 2 (.t 5), none⟩,
⟨some 13, .call false (.f 235) [(.t 11), (.t 12)], none⟩,
⟨some 10, .mov (.t 13), none⟩,
⟨some 14, .ext (.t 10) 0, none⟩,
⟨some 15, .ext (.t 10) 1, none⟩,
⟨some 8, .mov (.t 14), none⟩,
⟨some 9, .mov (.t 15), none⟩] [0, 1, 5, 8, 9] [])
(.seq (.seq (.reg [⟨some 16, .mov (.t 9), none⟩] [0, 1, 5, 8, 16] [])
(.cond (.t 16)
(.seq (.reg [⟨some 17, .mov (.t 8), none⟩,
⟨some 6, .mov (.t 17), none⟩,
⟨some 7, .mov (.c (.int .u8 0)), none⟩] [6, 7] [])
.ret)
.skip))
(.seq (.reg [⟨some 18, .mov (.t 0), none⟩,
⟨some 19, .mov (.t 1), none⟩,
⟨some 20, .mov (.t 0), none⟩,
⟨some 21, .load true 2 (.t 5), none⟩,
⟨some 22, .call false (.f 236) [(.t 20), (.t 21)], none⟩,
⟨some 23, .call false (.f 12) [(.t 18), (.t 19), (.t 22)], none⟩,
⟨some 24, .ext (.t 23) 0, none⟩,
⟨some 25, .ext (.t 23) 1, none⟩,
⟨some 6, .mov (.t 24), none⟩,
⟨some 7, .mov (.t 25), none⟩] [6, 7] [])
.ret))))⟩

def c_ref13_Cmp : IFn := ⟨[.tmp 6],
(.seq (.reg [⟨some 4, .box 2 (.t 1), none⟩,
⟨some 5, .box 2 (.t 2), none⟩,
⟨some 6, .mov (.c (.int .u8 0)), none⟩] [0, 4, 5] [])
(.seq (.reg [⟨some 10, .mov (.t 0), none⟩,
⟨some 11, .load true 2 (.t 4), none⟩,
⟨some 12, .call false (.f 237) [(.t 10), (.t 11)], none⟩,
⟨some 13, .mov (.t 0), none⟩,
⟨some 14, .load true 2 (.t 5), none⟩,
⟨some 15, .call false (.f 237) [(.t 13), (.t 14)], none⟩,
⟨some 7, .mov (.t 12), none⟩,
⟨some 8, .mov (.t 15), none⟩] [0, 4, 5, 7, 8] [])
(.seq (.seq (.reg [⟨some 16, .mov (.t 7), none⟩,
⟨some 17, .bin .eql (.t 16) (.c (.int .u8 4)), none⟩,
⟨some 18, .mov (.t 17), none⟩,
⟨some 19, .mov (.t 8), some (18, false)⟩,
⟨some 20, .bin .eql (.t 19) (.c (.int .u8 4)), some (18, false)⟩,
⟨some 21, .pick (.t 18) (.c (.bool true)) (.t 20), none⟩] [0, 4, 5, 7, 8, 21] [])
(.cond (.t 21)
(.seq (.reg [⟨some 6, .mov (.c (.int .u8 4)), none⟩] [6] [])
.ret)
.skip))
(.seq (.seq (.reg [⟨some 22, .mov (.t 7), none⟩,
⟨some 23, .bin .eql (.t 22) (.c (.int .u8 3)), none⟩,
⟨some 24, .mov (.t 23), none⟩,
⟨some 25, .mov (.t 8), some (24, true)⟩,
⟨some 26, .bin .eql (.t 25) (.c (.int .u8 3)), some (24, true)⟩,
⟨some 27, .pick (.t 24) (.t 26) (.c (.bool false)), none⟩] [0, 4, 5, 7, 8, 27] [])
(.cond (.t 27)
(.seq (.reg [⟨some 6, .mov (.c (.int .u8 2)), none⟩] [6] [])
.ret)
.skip))
(.seq (.seq (.reg [⟨some 28, .mov (.t 7), none⟩,
⟨some 29, .bin .eql (.t 28) (.c (.int .u8 3)), none⟩] [0, 4, 5, 8, 29] [])
(.cond (.t 29)
(.seq (.reg [⟨some 6, .mov (.c (.int .u8 3)), none⟩] [6] [])
.ret)
.skip))
(.seq (.seq (.reg [⟨some 30, .mov (.t 8), none⟩,
⟨some 31, .bin .eql (.t 30) (.c (.int .u8 3)), none⟩] [0, 4, 5, 31] [])
(.cond (.t 31)
(.seq (.reg [⟨some 6, .mov (.c (.int .u8 1)), none⟩] [6] [])
.ret)
.skip))
(.seq (.reg [⟨some 32, .mov (.t 0), none⟩,
⟨some 33, .load true 2 (.t 4), none⟩,
⟨some 34, .call false (.f 236) [(.t 32), (.t 33)], none⟩,
⟨some 35, .mov (.t 0), none⟩,
⟨some 36, .load true 2 (.t 5), none⟩,
⟨some 37, .call false (.f 236) [(.t 35), (.t 36)], none⟩,
⟨some 38, .call false (.f 69) [(.t 34), (.t 37)], none⟩,
⟨some 9, .mov (.t 38), none⟩] [9] [])
(.seq (.seq (.reg [⟨some 39, .mov (.t 9), none⟩,
⟨some 40, .bin .lss (.t 39) (.c (.int .i64 0)), none⟩] [9, 40] [])
(.cond (.t 40)
(.seq (.reg [⟨some 6, .mov (.c (.int .u8 1)), none⟩] [6] [])
.ret)
.skip))
(.seq (.seq (.reg [⟨some 41, .mov (.t 9), none⟩,
⟨some 42, .bin .gtr (.t 41) (.c (.int .i64 0)), none⟩] [42] [])
(.cond (.t 42)
(.seq (.reg [⟨some 6, .mov (.c (.int .u8 3)), none⟩] [6] [])
.ret)
.skip))
(.seq (.reg [⟨some 6, .mov (.c (.int .u8 2)), none⟩] [6] [])
.ret))))))))))⟩

def c_ref13_ends : IFn := ⟨[.tmp 4, .tmp 5],
(.seq (.reg [⟨some 3, .box 2 (.t 1), none⟩,
⟨some 4, .mov (.c (.int .u64 0)), none⟩,
⟨some 5, .mov (.c (.bool false)), none⟩] [0, 3] [])
(.seq (.reg [⟨some 7, .mov (.t 0), none⟩,
⟨some 8, .load true 2 (.t 3), none⟩,
⟨some 9, .call false (.f 237) [(.t 7), (.t 8)], none⟩,
⟨some 6, .mov (.t 9), none⟩] [0, 6] [])
(.seq (.seq (.reg [⟨some 10, .mov (.t 6), none⟩,
⟨some 11, .bin .eql (.t 10) (.c (.int .u8 3)), none⟩] [0, 6, 11] [])
(.cond (.t 11)
(.seq (.reg [⟨some 12, .mov (.t 0), none⟩,
⟨some 13, .call false (.f 30) [(.t 12), (.c (.bool false))], none⟩,
⟨some 4, .mov (.t 13), none⟩,
⟨some 5, .mov (.c (.bool true)), none⟩] [4, 5] [])
.ret)
.skip))
(.seq (.seq (.reg [⟨some 14, .mov (.t 6), none⟩,
⟨some 15, .bin .eql (.t 14) (.c (.int .u8 4)), none⟩] [0, 15] [])
(.cond (.t 15)
(.seq (.reg [⟨some 16, .mov (.t 0), none⟩,
⟨some 17, .call false (.f 157) [(.t 16)], none⟩,
⟨some 4, .mov (.t 17), none⟩,
⟨some 5, .mov (.c (.bool true)), none⟩] [4, 5] [])
.ret)
.skip))
(.seq (.reg [⟨some 4, .mov (.c (.int .u64 0)), none⟩,
⟨some 5, .mov (.c (.bool false)), none⟩] [4, 5] [])
.ret)))))⟩

def c_ref13_Square : IFn := ⟨[.cell 4 true 3],
(.seq (.reg [⟨some 3, .box 2 (.t 1), none⟩,
⟨some 4, .alloc [(.bool false), .nil, (.int .i64 0)], none⟩] [0, 3, 4] [])
(.seq (.reg [⟨some 7, .mov (.t 0), none⟩,
⟨some 8, .faddr 0 (.t 3), none⟩,
⟨some 9, .load false 1 (.t 8), none⟩,
⟨some 10, .call false (.f 151) [(.t 7), (.t 9)], none⟩,
⟨some 11, .mov (.t 0), none⟩,
⟨some 12, .faddr 1 (.t 3), none⟩,
⟨some 13, .load false 1 (.t 12), none⟩,
⟨some 14, .call false (.f 151) [(.t 11), (.t 13)], none⟩,
⟨some 5, .alloc [(.bool false), .nil, (.int .i64 0)], none⟩,
⟨some 6, .alloc [(.bool false), .nil, (.int .i64 0)], none⟩,
⟨none, .store 3 (.t 5) (.t 10), none⟩,
⟨none, .store 3 (.t 6) (.t 14), none⟩] [4, 5, 6] [])
(.seq (.reg [⟨some 15, .load true 3 (.t 5), none⟩,
⟨some 16, .load true 3 (.t 5), none⟩,
⟨some 17, .call false (.f 154) [(.t 15), (.t 16)], none⟩,
⟨some 18, .load true 3 (.t 6), none⟩,
⟨some 19, .load true 3 (.t 6), none⟩,
⟨some 20, .call false (.f 154) [(.t 18), (.t 19)], none⟩,
⟨some 21, .call false (.f 67) [(.t 17), (.t 20)], none⟩,
⟨none, .store 3 (.t 4) (.t 21), none⟩] [4] [])
.ret)))⟩

def c_ref10_Class : IFn := ⟨[.tmp 4],
(.seq (.reg [⟨some 3, .box 2 (.t 1), none⟩,
⟨some 4, .mov (.c (.int .u8 0)), none⟩] [0, 3] [])
(.seq (.reg [⟨some 7, .mov (.t 0), none⟩,
⟨some 8, .faddr 0 (.t 3), none⟩,
⟨some 9, .load false 1 (.t 8), none⟩,
⟨some 10, .call false (.f 155) [(.t 7), (.t 9)], none⟩,
⟨some 11, .mov (.t 0), none⟩,
⟨some 12, .faddr 1 (.t 3), none⟩,
⟨some 13, .load false 1 (.t 12), none⟩,
⟨some 14, .call false (.f 155) [(.t 11), (.t 13)], none⟩,
⟨some 5, .mov (.t 10), none⟩,
⟨some 6, .mov (.t 14), none⟩] [5, 6] [])
(.seq (.seq (.reg [⟨some 15, .mov (.t 5), none⟩,
⟨some 16, .bin .eql (.t 15) (.c (.int .u8 4)), none⟩,
⟨some 17, .mov (.t 16), none⟩,
⟨some 18, .mov (.t 6), some (17, false)⟩,
⟨some 19, .bin .eql (.t 18) (.c (.int .u8 4)), some (17, false)⟩,
⟨some 20, .pick (.t 17) (.c (.bool true)) (.t 19), none⟩] [5, 6, 20] [])
(.cond (.t 20)
(.seq (.reg [⟨some 4, .mov (.c (.int .u8 3)), none⟩] [4] [])
.ret)
.skip))
(.seq (.seq (.reg [⟨some 21, .mov (.t 5), none⟩,
⟨some 22, .bin .eql (.t 21) (.c (.int .u8 5)), none⟩,
⟨some 23, .mov (.t 22), none⟩,
⟨some 24, .mov (.t 6), some (23, false)⟩,
⟨some 25, .bin .eql (.t 24) (.c (.int .u8 5)), some (23, false)⟩,
⟨some 26, .pick (.t 23) (.c (.bool true)) (.t 25), none⟩] [5, 6, 26] [])
(.cond (.t 26)
(.seq (.reg [⟨some 4, .mov (.c (.int .u8 4)), none⟩] [4] [])
.ret)
.skip))
(.seq (.seq (.reg [⟨some 27, .mov (.t 5), none⟩,
⟨some 28, .bin .eql (.t 27) (.c (.int .u8 1)), none⟩,
⟨some 29, .mov (.t 28), none⟩,
⟨some 30, .mov (.t 6), some (29, true)⟩,
⟨some 31, .bin .eql (.t 30) (.c (.int .u8 1)), some (29, true)⟩,
⟨some 32, .pick (.t 29) (.t 31) (.c (.bool false)), none⟩] [32] [])
(.cond (.t 32)
(.seq (.reg [⟨some 4, .mov (.c (.int .u8 1)), none⟩] [4] [])
.ret)
.skip))
(.seq (.reg [⟨some 4, .mov (.c (.int .u8 2)), none⟩] [4] [])
.ret))))))⟩

structure HasH (gdb : Nat) (T : Tbl) : Prop where
  law13_ModulusSizes : T 215 = some c_law13_ModulusSizes
  law13_ModulusOrders : T 216 = some c_law13_ModulusOrders
  ref13_Abs : T 227 = some c_ref13_Abs
  ref13_Norm : T 228 = some c_ref13_Norm
  ref13_Cmp : T 229 = some c_ref13_Cmp
  ref13_ends : T 235 = some c_ref13_ends
  ref13_Square : T 236 = some c_ref13_Square
  ref10_Class : T 237 = some c_ref10_Class
end Go.Cv

/-
  The table of all code texts (written by a program).
-/
set_option maxRecDepth 100000
namespace Go.Cv
def tblL (gdb : Nat) : List (Option IFn) := [none,
 none,
 none,
 none,
 none,
 none,
 none,
 some c_round_Round,
 some c_round_Over,
 none,
 some c_ref04_Over,
 none,
 some c_ref04_Round,
 none,
 some c_ref02_Same,
 none,
 some c_ref02_Sign,
 none,
 some c_round_Root,
 some c_ref04_Root,
 none,
 some c_round_open,
 some c_dyad_Sign,
 some c_round_partOf,
 some c_round_part_word,
 some c_word_Greatest,
 some c_word_Inf,
 some c_ref03_Is,
 some c_ref04_Is,
 none,
 some c_ref03_Inf,
 some c_ref03_Frac,
 some c_ref02_Top,
 some c_ref03_Low,
 some c_ref04_Taken,
 some c_ref03_Wide,
 some c_ref03_Of,
 some c_ref02_Abs,
 some c_ref03_Signed,
 some c_ref01_Same,
 none,
 none,
 some c_ref04_Beyond,
 some c_dyad_Root,
 some c_ref02_Root,
 some c_ref02_Form,
 some c_ref01_Of,
 some c_round_formOf,
 some c_dyad_May,
 some c_nat_Len,
 some c_nat_Shift,
 some c_nat_Num,
 some c_round_part_units,
 some c_bits_Len64,
 some c_dyad_Make,
 some c_nat_Of,
 some c_word_Of,
 some c_word_Zero,
 some c_word_named,
 some c_word_Greatest_1,
 some c_word_shape_inf,
 none,
 some c_ref03_Join,
 some c_ref03_Most,
 some c_ref01_Len,
 some c_ref02_Shift,
 some c_ref02_Floor,
 some c_ref02_Add,
 some c_ref02_Two,
 some c_ref02_Cmp,
 some c_ref02_Sub,
 some c_ref04_half,
 some c_ref01_Up,
 some c_ref03_Sign,
 some c_dyad_both,
 some c_dyad_asked,
 none,
 some c_nat_QuoRem,
 some c_dyad_made,
 none,
 some c_ref02_Cut,
 some c_nat_Root,
 some c_ref01_Root,
 some c_ref01_Low,
 some c_ref01_Down,
 some c_ref01_Trim,
 some c_nat_May,
 some c_dyad_inside,
 some c_bits_Len32,
 some c_nat_down,
 some c_nat_Low,
 some c_nat_up,
 some c_round_btoi,
 some c_round_up,
 some c_nat_trim,
 some c_word_open,
 some c_word_shape_low,
 some c_word_shape_join,
 some c_word_Zero_1,
 some c_ref01_Add,
 some c_ref01_Cmp,
 some c_ref01_Sub,
 some c_ref02_Neg,
 some c_nat_Sub,
 some c_nat_Cmp,
 some c_nat_Add,
 some c_nat_all,
 some c_nat_cmp,
 some c_nat_small,
 some c_nat_long,
 none,
 some c_ref01_Bit,
 some c_bits_Add32,
 some c_nat_mul,
 some (c_bits_TrailingZeros32 gdb),
 some c_word_shapeOf,
 some c_nat_sub,
 some c_nat_bound,
 some c_bits_Div32,
 some c_bits_LeadingZeros32,
 some c_nat_step,
 some c_bits_Sub32,
 none,
 none,
 none,
 none,
 none,
 none,
 none,
 none,
 none,
 none,
 none,
 none,
 none,
 none,
 none,
 none,
 none,
 none,
 none,
 none,
 none,
 none,
 none,
 none,
 none,
 none,
 none,
 some c_ref03_Good,
 none,
 some c_ref03_Value,
 none,
 none,
 some c_ref02_Mul,
 some c_ref03_Class,
 some c_ref03_Split,
 some c_ref03_None,
 some c_ref01_Mul,
 none,
 none,
 none,
 some c_ref05_Opens,
 none,
 none,
 none,
 none,
 some c_law13_opens,
 some c_law13_known,
 some c_modulus_Abs,
 none,
 some c_modulus_Norm,
 none,
 none,
 some c_modulus_Cmp,
 none,
 none,
 none,
 none,
 none,
 none,
 none,
 some c_dyad_Mul,
 none,
 none,
 some c_ref10_Good,
 some c_modulus_told,
 none,
 none,
 some c_pair_Class,
 some c_dyad_Cmp,
 some c_modulus_square,
 none,
 some c_word_Class,
 some c_word_Value,
 some c_dyad_Add,
 some c_word_None,
 some c_nat_Mul,
 none,
 some c_dyad_sizes,
 some c_word_shape_split,
 some c_word_shape_class,
 some c_word_finite,
 some c_dyad_add,
 some c_word_shape_none,
 some c_dyad_own,
 some c_dyad_Top,
 some c_dyad_edge,
 some c_dyad_join,
 some c_dyad_halved,
 none,
 none,
 none,
 none,
 none,
 some c_law13_ModulusSizes,
 some c_law13_ModulusOrders,
 none,
 none,
 none,
 none,
 none,
 none,
 none,
 none,
 none,
 none,
 some c_ref13_Abs,
 some c_ref13_Norm,
 some c_ref13_Cmp,
 none,
 none,
 none,
 none,
 none,
 some c_ref13_ends,
 some c_ref13_Square,
 some c_ref10_Class]
def tbl (gdb : Nat) : Tbl := fun n => (tblL gdb).getD n none
theorem hasA (gdb : Nat) : HasA gdb (tbl gdb) := ⟨rfl, rfl, rfl, rfl, rfl, rfl, rfl, rfl, rfl, rfl, rfl, rfl, rfl, rfl, rfl, rfl, rfl, rfl, rfl, rfl, rfl, rfl, rfl, rfl, rfl, rfl, rfl, rfl, rfl⟩
theorem hasB (gdb : Nat) : HasB gdb (tbl gdb) := ⟨rfl, rfl, rfl, rfl, rfl, rfl, rfl, rfl, rfl, rfl, rfl, rfl⟩
theorem hasC (gdb : Nat) : HasC gdb (tbl gdb) := ⟨rfl, rfl, rfl, rfl, rfl, rfl, rfl, rfl, rfl, rfl, rfl, rfl, rfl, rfl, rfl, rfl, rfl, rfl, rfl, rfl, rfl, rfl⟩
theorem hasD (gdb : Nat) : HasD gdb (tbl gdb) := ⟨rfl, rfl, rfl, rfl, rfl, rfl, rfl, rfl, rfl, rfl, rfl, rfl, rfl, rfl, rfl, rfl, rfl, rfl, rfl, rfl, rfl, rfl⟩
theorem hasE (gdb : Nat) : HasE gdb (tbl gdb) := ⟨rfl, rfl, rfl, rfl, rfl, rfl, rfl, rfl, rfl, rfl, rfl, rfl, rfl, rfl, rfl, rfl, rfl⟩
theorem hasF (gdb : Nat) : HasF gdb (tbl gdb) := ⟨rfl, rfl, rfl, rfl, rfl, rfl, rfl⟩
theorem hasG (gdb : Nat) : HasG gdb (tbl gdb) := ⟨rfl, rfl, rfl, rfl, rfl, rfl, rfl, rfl, rfl, rfl, rfl, rfl, rfl, rfl, rfl, rfl, rfl, rfl, rfl, rfl, rfl, rfl, rfl, rfl, rfl, rfl, rfl, rfl⟩
theorem hasH (gdb : Nat) : HasH gdb (tbl gdb) := ⟨rfl, rfl, rfl, rfl, rfl, rfl, rfl, rfl⟩
end Go.Cv
