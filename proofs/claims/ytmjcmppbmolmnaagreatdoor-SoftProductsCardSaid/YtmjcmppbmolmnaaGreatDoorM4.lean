/-
  A part of the proof of the statements of this seat (texts that the law's own text leans on): no condition.
-/
import Derived.Test.YtmjcmppbmolmnaaGreatDoorM1
import Derived.Test.YtmjcmppbmolmnaaGreatDoorM3
set_option linter.unusedVariables false
set_option linter.unusedSimpArgs false
/-
  The code of some functions, in the evaluator's form (written by a program from the program's own form).
-/
namespace Go.Cv
def c_ref05_Opens_b1 : IC :=
(.seq (.seq (.reg [⟨some 14, .mov (.t 7), none⟩,
⟨some 15, .mov (.t 2), none⟩,
⟨some 16, .len (.t 15), none⟩,
⟨some 17, .bin .lss (.t 14) (.t 16), none⟩] [0, 2, 7, 17] [])
(.cond (.t 17)
.skip
(.exit 0)))
(.seq (.block 1
(.seq (.reg [⟨some 20, .mov (.t 0), none⟩,
⟨some 21, .mov (.t 2), none⟩,
⟨some 22, .mov (.t 7), none⟩,
⟨some 23, .iaddr 1 (.t 21) (.t 22), none⟩,
⟨some 24, .load false 1 (.t 23), none⟩,
⟨some 25, .call false (.f 149) [(.t 20), (.t 24)], none⟩,
⟨some 26, .bin .neq (.t 25) (.c (.int .i64 0)), none⟩] [0, 2, 7, 26] [])
(.cond (.t 26)
(.seq (.reg [⟨some 6, .mov (.c (.int .i64 6)), none⟩] [6] [])
.ret)
.skip)))
(.reg [⟨some 18, .mov (.t 7), none⟩,
⟨some 19, .bin .add (.t 18) (.c (.int .i64 1)), none⟩,
⟨some 7, .mov (.t 19), none⟩] [0, 2, 7] [])))
def c_ref05_Opens_l1 : IC := .loop [0, 2, 7] c_ref05_Opens_b1
def c_ref05_Opens : IFn := ⟨[.tmp 6],
(.seq (.reg [⟨some 6, .mov (.c (.int .i64 0)), none⟩] [0, 1, 2] [])
(.seq (.seq (.reg [⟨some 8, .mov (.t 0), none⟩,
⟨some 9, .call false (.f 27) [(.t 8)], none⟩,
⟨some 10, .un .not (.t 9), none⟩] [0, 1, 2, 10] [])
(.cond (.t 10)
(.seq (.reg [⟨some 6, .mov (.c (.int .i64 4)), none⟩] [6] [])
.ret)
.skip))
(.seq (.seq (.reg [⟨some 11, .mov (.t 1), none⟩,
⟨some 12, .call false (.f 28) [(.t 11)], none⟩,
⟨some 13, .un .not (.t 12), none⟩] [0, 2, 13] [])
(.cond (.t 13)
(.seq (.reg [⟨some 6, .mov (.c (.int .i64 5)), none⟩] [6] [])
.ret)
.skip))
(.seq (.seq (.reg [⟨some 7, .mov (.c (.int .i64 0)), none⟩] [0, 2, 7] [])
(.block 0
 c_ref05_Opens_l1))
(.seq (.reg [⟨some 6, .mov (.c (.int .i64 0)), none⟩] [6] [])
.ret)))))⟩

def c_law05_known : IFn := ⟨[.tmp 0],
(.seq (.reg [⟨some 0, .mov (.c (.bool false)), none⟩] [] [])
(.seq (.reg [⟨some 8, .call false (.f 164) [(.c (.int .u8 1)), (.c (.int .u8 1)), (.c (.int .u64 1065353216)), (.c (.int .u64 1065353216))], none⟩,
⟨some 7, .mov (.t 8), none⟩,
⟨some 9, .ext (.t 7) 0, none⟩,
⟨some 10, .ext (.t 7) 1, none⟩,
⟨some 11, .ext (.t 7) 2, none⟩,
⟨some 1, .mov (.t 9), none⟩,
⟨some 2, .mov (.t 10), none⟩,
⟨some 3, .mov (.t 11), none⟩] [1, 2, 3] [])
(.seq (.reg [⟨some 13, .call false (.f 175) [(.c (.int .u8 1)), (.c (.int .u8 1)), (.c (.int .u64 1065353216)), (.c (.int .u64 813694976)), (.c (.int .u64 1065353216))], none⟩,
⟨some 12, .mov (.t 13), none⟩,
⟨some 14, .ext (.t 12) 0, none⟩,
⟨some 15, .ext (.t 12) 1, none⟩,
⟨some 16, .ext (.t 12) 2, none⟩,
⟨some 4, .mov (.t 14), none⟩,
⟨some 5, .mov (.t 15), none⟩,
⟨some 6, .mov (.t 16), none⟩] [1, 2, 3, 4, 5, 6] [])
(.seq (.reg [⟨some 17, .mov (.t 1), none⟩,
⟨some 18, .bin .eql (.t 17) (.c (.int .u64 1073741824)), none⟩,
⟨some 19, .mov (.t 18), none⟩,
⟨some 20, .mov (.t 2), some (19, true)⟩,
⟨some 21, .bin .eql (.t 20) (.c (.int .u8 0)), some (19, true)⟩,
⟨some 22, .pick (.t 19) (.t 21) (.c (.bool false)), none⟩,
⟨some 23, .mov (.t 22), none⟩,
⟨some 24, .mov (.t 3), some (23, true)⟩,
⟨some 25, .bin .eql (.t 24) (.c (.int .i64 0)), some (23, true)⟩,
⟨some 26, .pick (.t 23) (.t 25) (.c (.bool false)), none⟩,
⟨some 27, .mov (.t 26), none⟩,
⟨some 28, .mov (.t 4), some (27, true)⟩,
⟨some 29, .bin .eql (.t 28) (.c (.int .u64 1065353216)), some (27, true)⟩,
⟨some 30, .pick (.t 27) (.t 29) (.c (.bool false)), none⟩,
⟨some 31, .mov (.t 30), none⟩,
⟨some 32, .mov (.t 5), some (31, true)⟩,
⟨some 33, .bin .eql (.t 32) (.c (.int .u8 16)), some (31, true)⟩,
⟨some 34, .pick (.t 31) (.t 33) (.c (.bool false)), none⟩,
⟨some 35, .mov (.t 34), none⟩,
⟨some 36, .mov (.t 6), some (35, true)⟩,
⟨some 37, .bin .eql (.t 36) (.c (.int .i64 0)), some (35, true)⟩,
⟨some 38, .pick (.t 35) (.t 37) (.c (.bool false)), none⟩,
⟨some 0, .mov (.t 38), none⟩] [0] [])
.ret))))⟩

def c_soft_Add : IFn := ⟨[.tmp 8, .tmp 9, .tmp 10],
(.seq (.reg [⟨some 8, .mov (.c (.int .u64 0)), none⟩,
⟨some 9, .mov (.c (.int .u8 0)), none⟩,
⟨some 10, .mov (.c (.int .i64 0)), none⟩] [0, 1, 2, 3] [])
(.seq (.reg [⟨some 14, .mov (.t 0), none⟩,
⟨some 15, .mov (.t 1), none⟩,
⟨some 16, .mov (.t 2), none⟩,
⟨some 17, .mov (.t 3), none⟩,
⟨some 18, .bslice 2 1 [(.int .u64 0)] [(0, 1, (.t 16)), (1, 1, (.t 17))], none⟩,
⟨some 19, .call false (.f 176) [(.t 14), (.t 15), (.t 18)], none⟩,
⟨some 13, .mov (.t 19), none⟩,
⟨some 20, .ext (.t 13) 0, none⟩,
⟨some 21, .ext (.t 13) 1, none⟩,
⟨some 11, .mov (.t 20), none⟩,
⟨some 12, .mov (.t 21), none⟩] [0, 1, 11, 12] [])
(.seq (.seq (.reg [⟨some 22, .mov (.t 12), none⟩,
⟨some 23, .bin .neq (.t 22) (.c (.int .i64 0)), none⟩] [0, 1, 11, 12, 23] [])
(.cond (.t 23)
(.seq (.reg [⟨some 24, .mov (.t 12), none⟩,
⟨some 8, .mov (.c (.int .u64 0)), none⟩,
⟨some 9, .mov (.c (.int .u8 0)), none⟩,
⟨some 10, .mov (.t 24), none⟩] [8, 9, 10] [])
.ret)
.skip))
(.seq (.reg [⟨some 25, .mov (.t 0), none⟩,
⟨some 26, .mov (.t 1), none⟩,
⟨some 27, .build [(.int .u8 0), (.int .u8 0)] [(0, 1, (.t 25)), (1, 1, (.t 26))], none⟩,
⟨some 28, .mov (.t 11), none⟩,
⟨some 29, .iaddr 5 (.t 28) (.c (.int .i64 0)), none⟩,
⟨some 30, .load true 5 (.t 29), none⟩,
⟨some 31, .mov (.t 11), none⟩,
⟨some 32, .iaddr 5 (.t 31) (.c (.int .i64 1)), none⟩,
⟨some 33, .load true 5 (.t 32), none⟩,
⟨some 34, .call false (.f 177) [(.t 27), (.t 30), (.t 33)], none⟩,
⟨some 35, .ext (.t 34) 0, none⟩,
⟨some 36, .ext (.t 34) 1, none⟩,
⟨some 37, .ext (.t 34) 2, none⟩,
⟨some 8, .mov (.t 35), none⟩,
⟨some 9, .mov (.t 36), none⟩,
⟨some 10, .mov (.t 37), none⟩] [8, 9, 10] [])
.ret))))⟩

def c_soft_Mul : IFn := ⟨[.tmp 8, .tmp 9, .tmp 10],
(.seq (.reg [⟨some 8, .mov (.c (.int .u64 0)), none⟩,
⟨some 9, .mov (.c (.int .u8 0)), none⟩,
⟨some 10, .mov (.c (.int .i64 0)), none⟩] [0, 1, 2, 3] [])
(.seq (.reg [⟨some 20, .mov (.t 0), none⟩,
⟨some 21, .mov (.t 1), none⟩,
⟨some 22, .mov (.t 2), none⟩,
⟨some 23, .mov (.t 3), none⟩,
⟨some 24, .bslice 2 1 [(.int .u64 0)] [(0, 1, (.t 22)), (1, 1, (.t 23))], none⟩,
⟨some 25, .call false (.f 176) [(.t 20), (.t 21), (.t 24)], none⟩,
⟨some 19, .mov (.t 25), none⟩,
⟨some 26, .ext (.t 19) 0, none⟩,
⟨some 27, .ext (.t 19) 1, none⟩,
⟨some 11, .mov (.t 26), none⟩,
⟨some 12, .mov (.t 27), none⟩] [0, 1, 11, 12] [])
(.seq (.seq (.reg [⟨some 28, .mov (.t 12), none⟩,
⟨some 29, .bin .neq (.t 28) (.c (.int .i64 0)), none⟩] [0, 1, 11, 12, 29] [])
(.cond (.t 29)
(.seq (.reg [⟨some 30, .mov (.t 12), none⟩,
⟨some 8, .mov (.c (.int .u64 0)), none⟩,
⟨some 9, .mov (.c (.int .u8 0)), none⟩,
⟨some 10, .mov (.t 30), none⟩] [8, 9, 10] [])
.ret)
.skip))
(.seq (.reg [⟨some 31, .mov (.t 0), none⟩,
⟨some 32, .mov (.t 1), none⟩,
⟨some 33, .build [(.int .u8 0), (.int .u8 0)] [(0, 1, (.t 31)), (1, 1, (.t 32))], none⟩,
⟨some 34, .mov (.t 11), none⟩,
⟨some 35, .iaddr 5 (.t 34) (.c (.int .i64 0)), none⟩,
⟨some 36, .load true 5 (.t 35), none⟩,
⟨some 37, .mov (.t 11), none⟩,
⟨some 38, .iaddr 5 (.t 37) (.c (.int .i64 1)), none⟩,
⟨some 39, .load true 5 (.t 38), none⟩,
⟨some 13, .alloc [(.int .u8 0), (.int .u8 0)], none⟩,
⟨some 14, .alloc [(.int .u8 0), (.bool false), (.bool false), .nil, (.int .i64 0)], none⟩,
⟨some 15, .alloc [(.int .u8 0), (.bool false), (.bool false), .nil, (.int .i64 0)], none⟩,
⟨none, .store 2 (.t 13) (.t 33), none⟩,
⟨none, .store 5 (.t 14) (.t 36), none⟩,
⟨none, .store 5 (.t 15) (.t 39), none⟩] [11, 13, 14, 15] [(5, 12), (8, 12), (8, 13)])
(.seq (.reg [⟨some 40, .faddr 1 (.t 14), none⟩,
⟨some 41, .load false 1 (.t 40), none⟩,
⟨some 42, .faddr 1 (.t 15), none⟩,
⟨some 43, .load false 1 (.t 42), none⟩,
⟨some 44, .eqb true (.t 41) (.t 43), none⟩,
⟨some 16, .mov (.t 44), none⟩] [11, 13, 14, 15, 16] [])
(.seq (.block 0
(.seq (.reg [⟨some 46, .mov (.t 11), none⟩,
⟨some 47, .call false (.f 178) [(.c (.int .u8 5)), (.t 46)], none⟩,
⟨some 45, .mov (.t 47), none⟩] [11, 13, 14, 15, 16, 45] [])
(.cond (.t 45)
(.seq (.reg [⟨some 48, .load true 2 (.t 13), none⟩,
⟨some 49, .call false (.f 179) [(.t 48), (.c (.int .u8 0))], none⟩,
⟨some 50, .ext (.t 49) 0, none⟩,
⟨some 51, .ext (.t 49) 1, none⟩,
⟨some 52, .ext (.t 49) 2, none⟩,
⟨some 8, .mov (.t 50), none⟩,
⟨some 9, .mov (.t 51), none⟩,
⟨some 10, .mov (.t 52), none⟩] [8, 9, 10] [])
.ret)
(.seq (.reg [⟨some 54, .mov (.t 11), none⟩,
⟨some 55, .call false (.f 178) [(.c (.int .u8 4)), (.t 54)], none⟩,
⟨some 56, .mov (.t 55), none⟩,
⟨some 57, .mov (.t 11), some (56, true)⟩,
⟨some 58, .call false (.f 178) [(.c (.int .u8 1)), (.t 57)], some (56, true)⟩,
⟨some 59, .pick (.t 56) (.t 58) (.c (.bool false)), none⟩,
⟨some 53, .mov (.t 59), none⟩] [11, 13, 14, 15, 16, 53] [])
(.cond (.t 53)
(.seq (.reg [⟨some 60, .load true 2 (.t 13), none⟩,
⟨some 61, .call false (.f 179) [(.t 60), (.c (.int .u8 1))], none⟩,
⟨some 62, .ext (.t 61) 0, none⟩,
⟨some 63, .ext (.t 61) 1, none⟩,
⟨some 64, .ext (.t 61) 2, none⟩,
⟨some 8, .mov (.t 62), none⟩,
⟨some 9, .mov (.t 63), none⟩,
⟨some 10, .mov (.t 64), none⟩] [8, 9, 10] [])
.ret)
(.seq (.reg [⟨some 66, .mov (.t 11), none⟩,
⟨some 67, .call false (.f 178) [(.c (.int .u8 4)), (.t 66)], none⟩,
⟨some 65, .mov (.t 67), none⟩] [11, 13, 14, 15, 16, 65] [])
(.cond (.t 65)
(.seq (.reg [⟨some 68, .load true 2 (.t 13), none⟩,
⟨some 69, .mov (.t 16), none⟩,
⟨some 70, .call false (.f 180) [(.t 68), (.t 69), (.c (.int .u8 0))], none⟩,
⟨some 71, .ext (.t 70) 0, none⟩,
⟨some 72, .ext (.t 70) 1, none⟩,
⟨some 73, .ext (.t 70) 2, none⟩,
⟨some 8, .mov (.t 71), none⟩,
⟨some 9, .mov (.t 72), none⟩,
⟨some 10, .mov (.t 73), none⟩] [8, 9, 10] [])
.ret)
(.seq (.reg [⟨some 75, .mov (.t 11), none⟩,
⟨some 76, .call false (.f 178) [(.c (.int .u8 1)), (.t 75)], none⟩,
⟨some 74, .mov (.t 76), none⟩] [13, 14, 15, 16, 74] [])
(.cond (.t 74)
(.seq (.reg [⟨some 77, .load true 2 (.t 13), none⟩,
⟨some 78, .mov (.t 16), none⟩,
⟨some 79, .call false (.f 181) [(.t 77), (.t 78)], none⟩,
⟨some 80, .ext (.t 79) 0, none⟩,
⟨some 81, .ext (.t 79) 1, none⟩,
⟨some 82, .ext (.t 79) 2, none⟩,
⟨some 8, .mov (.t 80), none⟩,
⟨some 9, .mov (.t 81), none⟩,
⟨some 10, .mov (.t 82), none⟩] [8, 9, 10] [])
.ret)
.skip)))))))))
(.seq (.reg [⟨some 84, .faddr 2 (.t 14), none⟩,
⟨some 85, .load true 3 (.t 84), none⟩,
⟨some 86, .faddr 2 (.t 15), none⟩,
⟨some 87, .load true 3 (.t 86), none⟩,
⟨some 88, .call false (.f 182) [(.t 85), (.t 87)], none⟩,
⟨some 83, .mov (.t 88), none⟩,
⟨some 89, .ext (.t 83) 0, none⟩,
⟨some 90, .ext (.t 83) 1, none⟩,
⟨some 17, .alloc [(.bool false), .nil, (.int .i64 0)], none⟩,
⟨none, .store 3 (.t 17) (.t 89), none⟩,
⟨some 18, .mov (.t 90), none⟩] [13, 17] [])
(.seq (.reg [⟨some 91, .load true 2 (.t 13), none⟩,
⟨some 92, .load true 3 (.t 17), none⟩,
⟨some 93, .call false (.f 183) [(.t 91), (.t 92)], none⟩,
⟨some 94, .ext (.t 93) 0, none⟩,
⟨some 95, .ext (.t 93) 1, none⟩,
⟨some 96, .ext (.t 93) 2, none⟩,
⟨some 8, .mov (.t 94), none⟩,
⟨some 9, .mov (.t 95), none⟩,
⟨some 10, .mov (.t 96), none⟩] [8, 9, 10] [])
.ret))))))))⟩

def c_soft_MulAdd : IFn := ⟨[.tmp 10, .tmp 11, .tmp 12],
(.seq (.reg [⟨some 10, .mov (.c (.int .u64 0)), none⟩,
⟨some 11, .mov (.c (.int .u8 0)), none⟩,
⟨some 12, .mov (.c (.int .i64 0)), none⟩] [0, 1, 2, 3, 4] [])
(.seq (.reg [⟨some 21, .mov (.t 0), none⟩,
⟨some 22, .mov (.t 1), none⟩,
⟨some 23, .mov (.t 2), none⟩,
⟨some 24, .mov (.t 3), none⟩,
⟨some 25, .mov (.t 4), none⟩,
⟨some 26, .bslice 3 1 [(.int .u64 0)] [(0, 1, (.t 23)), (1, 1, (.t 24)), (2, 1, (.t 25))], none⟩,
⟨some 27, .call false (.f 176) [(.t 21), (.t 22), (.t 26)], none⟩,
⟨some 20, .mov (.t 27), none⟩,
⟨some 28, .ext (.t 20) 0, none⟩,
⟨some 29, .ext (.t 20) 1, none⟩,
⟨some 13, .mov (.t 28), none⟩,
⟨some 14, .mov (.t 29), none⟩] [0, 1, 13, 14] [])
(.seq (.seq (.reg [⟨some 30, .mov (.t 14), none⟩,
⟨some 31, .bin .neq (.t 30) (.c (.int .i64 0)), none⟩] [0, 1, 13, 14, 31] [])
(.cond (.t 31)
(.seq (.reg [⟨some 32, .mov (.t 14), none⟩,
⟨some 10, .mov (.c (.int .u64 0)), none⟩,
⟨some 11, .mov (.c (.int .u8 0)), none⟩,
⟨some 12, .mov (.t 32), none⟩] [10, 11, 12] [])
.ret)
.skip))
(.seq (.reg [⟨some 33, .mov (.t 0), none⟩,
⟨some 34, .mov (.t 1), none⟩,
⟨some 35, .build [(.int .u8 0), (.int .u8 0)] [(0, 1, (.t 33)), (1, 1, (.t 34))], none⟩,
⟨some 36, .mov (.t 13), none⟩,
⟨some 37, .iaddr 5 (.t 36) (.c (.int .i64 0)), none⟩,
⟨some 38, .load true 5 (.t 37), none⟩,
⟨some 39, .mov (.t 13), none⟩,
⟨some 40, .iaddr 5 (.t 39) (.c (.int .i64 1)), none⟩,
⟨some 41, .load true 5 (.t 40), none⟩,
⟨some 42, .mov (.t 13), none⟩,
⟨some 43, .iaddr 5 (.t 42) (.c (.int .i64 2)), none⟩,
⟨some 44, .load true 5 (.t 43), none⟩,
⟨some 15, .alloc [(.int .u8 0), (.int .u8 0)], none⟩,
⟨some 16, .alloc [(.int .u8 0), (.bool false), (.bool false), .nil, (.int .i64 0)], none⟩,
⟨some 17, .alloc [(.int .u8 0), (.bool false), (.bool false), .nil, (.int .i64 0)], none⟩,
⟨some 18, .alloc [(.int .u8 0), (.bool false), (.bool false), .nil, (.int .i64 0)], none⟩,
⟨none, .store 2 (.t 15) (.t 35), none⟩,
⟨none, .store 5 (.t 16) (.t 38), none⟩,
⟨none, .store 5 (.t 17) (.t 41), none⟩,
⟨none, .store 5 (.t 18) (.t 44), none⟩] [13, 15, 16, 17, 18] [(5, 16), (8, 16), (11, 16), (8, 17), (11, 17), (11, 18)])
(.seq (.reg [⟨some 45, .faddr 1 (.t 16), none⟩,
⟨some 46, .load false 1 (.t 45), none⟩,
⟨some 47, .faddr 1 (.t 17), none⟩,
⟨some 48, .load false 1 (.t 47), none⟩,
⟨some 49, .eqb true (.t 46) (.t 48), none⟩,
⟨some 50, .build [(.int .u8 0), (.bool false), (.bool false), .nil, (.int .i64 0)] [(0, 1, (.c (.int .u8 3))), (1, 1, (.t 49))], none⟩,
⟨some 19, .alloc [(.int .u8 0), (.bool false), (.bool false), .nil, (.int .i64 0)], none⟩,
⟨none, .store 5 (.t 19) (.t 50), none⟩] [13, 15, 16, 17, 18, 19] [])
(.seq (.block 0
(.seq (.reg [⟨some 61, .mov (.t 13), none⟩,
⟨some 62, .call false (.f 178) [(.c (.int .u8 5)), (.t 61)], none⟩,
⟨some 60, .mov (.t 62), none⟩] [15, 16, 17, 18, 19, 60] [])
(.cond (.t 60)
(.seq (.reg [⟨some 63, .load true 2 (.t 15), none⟩,
⟨some 64, .call false (.f 179) [(.t 63), (.c (.int .u8 0))], none⟩,
⟨some 65, .ext (.t 64) 0, none⟩,
⟨some 66, .ext (.t 64) 1, none⟩,
⟨some 67, .ext (.t 64) 2, none⟩,
⟨some 10, .mov (.t 65), none⟩,
⟨some 11, .mov (.t 66), none⟩,
⟨some 12, .mov (.t 67), none⟩] [10, 11, 12] [])
.ret)
(.seq (.reg [⟨some 69, .load true 5 (.t 16), none⟩,
⟨some 70, .load true 5 (.t 17), none⟩,
⟨some 71, .bslice 2 5 [(.int .u8 0), (.bool false), (.bool false), .nil, (.int .i64 0)] [(0, 5, (.t 69)), (5, 5, (.t 70))], none⟩,
⟨some 72, .call false (.f 178) [(.c (.int .u8 4)), (.t 71)], none⟩,
⟨some 73, .mov (.t 72), none⟩,
⟨some 74, .load true 5 (.t 16), some (73, true)⟩,
⟨some 75, .load true 5 (.t 17), some (73, true)⟩,
⟨some 76, .bslice 2 5 [(.int .u8 0), (.bool false), (.bool false), .nil, (.int .i64 0)] [(0, 5, (.t 74)), (5, 5, (.t 75))], some (73, true)⟩,
⟨some 77, .call false (.f 178) [(.c (.int .u8 1)), (.t 76)], some (73, true)⟩,
⟨some 78, .pick (.t 73) (.t 77) (.c (.bool false)), none⟩,
⟨some 68, .mov (.t 78), none⟩] [15, 16, 17, 18, 19, 68] [])
(.cond (.t 68)
(.seq (.reg [⟨some 79, .load true 2 (.t 15), none⟩,
⟨some 80, .call false (.f 179) [(.t 79), (.c (.int .u8 1))], none⟩,
⟨some 81, .ext (.t 80) 0, none⟩,
⟨some 82, .ext (.t 80) 1, none⟩,
⟨some 83, .ext (.t 80) 2, none⟩,
⟨some 10, .mov (.t 81), none⟩,
⟨some 11, .mov (.t 82), none⟩,
⟨some 12, .mov (.t 83), none⟩] [10, 11, 12] [])
.ret)
(.seq (.reg [⟨some 85, .load true 5 (.t 16), none⟩,
⟨some 86, .load true 5 (.t 17), none⟩,
⟨some 87, .bslice 2 5 [(.int .u8 0), (.bool false), (.bool false), .nil, (.int .i64 0)] [(0, 5, (.t 85)), (5, 5, (.t 86))], none⟩,
⟨some 88, .call false (.f 178) [(.c (.int .u8 4)), (.t 87)], none⟩,
⟨some 84, .mov (.t 88), none⟩] [15, 16, 17, 18, 19, 84] [])
(.cond (.t 84)
(.reg [⟨some 89, .faddr 0 (.t 19), none⟩,
⟨none, .store 1 (.t 89) (.c (.int .u8 4)), none⟩] [15, 18, 19] [])
(.seq (.reg [⟨some 91, .load true 5 (.t 16), none⟩,
⟨some 92, .load true 5 (.t 17), none⟩,
⟨some 93, .bslice 2 5 [(.int .u8 0), (.bool false), (.bool false), .nil, (.int .i64 0)] [(0, 5, (.t 91)), (5, 5, (.t 92))], none⟩,
⟨some 94, .call false (.f 178) [(.c (.int .u8 1)), (.t 93)], none⟩,
⟨some 90, .mov (.t 94), none⟩] [15, 16, 17, 18, 19, 90] [])
(.cond (.t 90)
(.reg [⟨some 95, .faddr 0 (.t 19), none⟩,
⟨none, .store 1 (.t 95) (.c (.int .u8 1)), none⟩] [15, 18, 19] [])
(.reg [⟨some 52, .faddr 2 (.t 16), none⟩,
⟨some 53, .load true 3 (.t 52), none⟩,
⟨some 54, .faddr 2 (.t 17), none⟩,
⟨some 55, .load true 3 (.t 54), none⟩,
⟨some 56, .call false (.f 182) [(.t 53), (.t 55)], none⟩,
⟨some 51, .mov (.t 56), none⟩,
⟨some 57, .ext (.t 51) 0, none⟩,
⟨some 58, .ext (.t 51) 1, none⟩,
⟨some 59, .faddr 2 (.t 19), none⟩,
⟨none, .store 3 (.t 59) (.t 57), none⟩] [15, 18, 19] []))))))))))
(.seq (.reg [⟨some 96, .load true 2 (.t 15), none⟩,
⟨some 97, .load true 5 (.t 19), none⟩,
⟨some 98, .load true 5 (.t 18), none⟩,
⟨some 99, .call false (.f 177) [(.t 96), (.t 97), (.t 98)], none⟩,
⟨some 100, .ext (.t 99) 0, none⟩,
⟨some 101, .ext (.t 99) 1, none⟩,
⟨some 102, .ext (.t 99) 2, none⟩,
⟨some 10, .mov (.t 100), none⟩,
⟨some 11, .mov (.t 101), none⟩,
⟨some 12, .mov (.t 102), none⟩] [10, 11, 12] [])
.ret)))))))⟩

def c_soft_open_b1 : IC :=
(.seq (.reg [⟨some 34, .bin .lss (.t 33) (.t 32), none⟩] [0, 10, 31, 32, 33, 34] [])
(.seq (.cond (.t 34)
.skip
(.exit 0))
(.seq (.block 1
(.seq (.reg [⟨some 35, .iaddr 1 (.t 31) (.t 33), none⟩,
⟨some 36, .load false 1 (.t 35), none⟩,
⟨some 12, .mov (.t 36), none⟩] [0, 10, 12, 31, 32, 33] [])
(.seq (.reg [⟨some 38, .mov (.t 0), none⟩,
⟨some 39, .mov (.t 12), none⟩,
⟨some 40, .call false (.f 192) [(.t 38), (.t 39)], none⟩,
⟨some 37, .mov (.t 40), none⟩,
⟨some 41, .ext (.t 37) 0, none⟩,
⟨some 42, .ext (.t 37) 1, none⟩,
⟨some 13, .alloc [(.bool false), (.int .i64 0), (.int .u64 0)], none⟩,
⟨none, .store 3 (.t 13) (.t 41), none⟩,
⟨some 14, .mov (.t 42), none⟩] [0, 10, 12, 13, 14, 31, 32, 33] [])
(.seq (.seq (.reg [⟨some 43, .mov (.t 14), none⟩,
⟨some 44, .bin .neq (.t 43) (.c (.int .i64 0)), none⟩] [0, 10, 12, 13, 14, 31, 32, 33, 44] [])
(.cond (.t 44)
(.seq (.reg [⟨some 45, .mov (.t 14), none⟩,
⟨some 6, .mov (.c .nil), none⟩,
⟨some 7, .mov (.t 45), none⟩] [6, 7] [])
.ret)
.skip))
(.seq (.reg [⟨some 47, .mov (.t 0), none⟩,
⟨some 48, .mov (.t 12), none⟩,
⟨some 49, .call false (.f 193) [(.t 47), (.t 48)], none⟩,
⟨some 46, .mov (.t 49), none⟩,
⟨some 50, .ext (.t 46) 0, none⟩,
⟨some 51, .ext (.t 46) 1, none⟩,
⟨some 15, .mov (.t 50), none⟩,
⟨some 16, .mov (.t 51), none⟩] [0, 10, 12, 13, 15, 31, 32, 33] [])
(.seq (.reg [⟨some 53, .mov (.t 0), none⟩,
⟨some 54, .mov (.t 12), none⟩,
⟨some 55, .call false (.f 194) [(.t 53), (.t 54)], none⟩,
⟨some 52, .mov (.t 55), none⟩,
⟨some 56, .ext (.t 52) 0, none⟩,
⟨some 57, .ext (.t 52) 1, none⟩,
⟨some 17, .alloc [(.bool false), .nil, (.int .i64 0)], none⟩,
⟨none, .store 3 (.t 17) (.t 56), none⟩,
⟨some 18, .mov (.t 57), none⟩] [0, 10, 13, 15, 17, 31, 32, 33] [])
(.reg [⟨some 58, .mov (.t 10), none⟩,
⟨some 59, .mov (.t 15), none⟩,
⟨some 60, .faddr 0 (.t 13), none⟩,
⟨some 61, .load false 1 (.t 60), none⟩,
⟨some 62, .load true 3 (.t 17), none⟩,
⟨some 63, .build [(.int .u8 0), (.bool false), (.bool false), .nil, (.int .i64 0)] [(0, 1, (.t 59)), (1, 1, (.t 61)), (2, 3, (.t 62))], none⟩,
⟨some 64, .bslice 1 5 [(.int .u8 0), (.bool false), (.bool false), .nil, (.int .i64 0)] [(0, 5, (.t 63))], none⟩,
⟨some 65, .app 5 48 (.t 58) (.t 64), none⟩,
⟨some 10, .mov (.t 65), none⟩] [0, 10, 31, 32, 33] [])))))))
(.reg [⟨some 66, .bin .add (.t 33) (.c (.int .i64 1)), none⟩,
⟨some 33, .mov (.t 66), none⟩] [0, 10, 31, 32, 33] []))))
def c_soft_open_l1 : IC := .loop [0, 10, 31, 32, 33] c_soft_open_b1
def c_soft_open : IFn := ⟨[.tmp 6, .tmp 7],
(.seq (.reg [⟨some 6, .mov (.c .nil), none⟩,
⟨some 7, .mov (.c (.int .i64 0)), none⟩] [0, 1, 2] [])
(.seq (.seq (.reg [⟨some 20, .mov (.t 0), none⟩,
⟨some 21, .mov (.t 1), none⟩,
⟨some 22, .call false (.f 8) [(.t 20), (.t 21), (.c (.bool false))], none⟩,
⟨some 19, .mov (.t 22), none⟩,
⟨some 23, .ext (.t 19) 0, none⟩,
⟨some 24, .ext (.t 19) 1, none⟩,
⟨some 8, .mov (.t 23), none⟩,
⟨some 9, .mov (.t 24), none⟩] [0, 2, 9] [])
(.seq (.reg [⟨some 25, .mov (.t 9), none⟩,
⟨some 26, .bin .neq (.t 25) (.c (.int .i64 0)), none⟩] [0, 2, 9, 26] [])
(.cond (.t 26)
(.seq (.reg [⟨some 27, .mov (.t 9), none⟩,
⟨some 6, .mov (.c .nil), none⟩,
⟨some 7, .mov (.t 27), none⟩] [6, 7] [])
.ret)
.skip)))
(.seq (.reg [⟨some 28, .mov (.t 2), none⟩,
⟨some 29, .len (.t 28), none⟩,
⟨some 30, .mk 5 48 [(.int .u8 0), (.bool false), (.bool false), .nil, (.int .i64 0)] (.c (.int .i64 0)) (.t 29), none⟩,
⟨some 10, .mov (.t 30), none⟩] [0, 2, 10] [])
(.seq (.seq (.reg [⟨some 31, .mov (.t 2), none⟩,
⟨some 32, .len (.t 31), none⟩,
⟨some 33, .mov (.c (.int .i64 0)), none⟩] [0, 10, 31, 32, 33] [])
(.block 0
 c_soft_open_l1))
(.seq (.reg [⟨some 67, .mov (.t 10), none⟩,
⟨some 6, .mov (.t 67), none⟩,
⟨some 7, .mov (.c (.int .i64 0)), none⟩] [6, 7] [])
.ret)))))⟩

def c_soft_desk_add : IFn := ⟨[.tmp 6, .tmp 7, .tmp 8],
(.seq (.reg [⟨some 3, .box 2 (.t 0), none⟩,
⟨some 4, .box 5 (.t 1), none⟩,
⟨some 5, .box 5 (.t 2), none⟩,
⟨some 6, .mov (.c (.int .u64 0)), none⟩,
⟨some 7, .mov (.c (.int .u8 0)), none⟩,
⟨some 8, .mov (.c (.int .i64 0)), none⟩] [3, 4, 5] [])
(.seq (.block 0
(.seq (.reg [⟨some 12, .load true 5 (.t 4), none⟩,
⟨some 13, .load true 5 (.t 5), none⟩,
⟨some 14, .bslice 2 5 [(.int .u8 0), (.bool false), (.bool false), .nil, (.int .i64 0)] [(0, 5, (.t 12)), (5, 5, (.t 13))], none⟩,
⟨some 15, .call false (.f 178) [(.c (.int .u8 5)), (.t 14)], none⟩,
⟨some 11, .mov (.t 15), none⟩] [3, 4, 5, 11] [])
(.cond (.t 11)
(.seq (.reg [⟨some 16, .load true 2 (.t 3), none⟩,
⟨some 17, .call false (.f 179) [(.t 16), (.c (.int .u8 0))], none⟩,
⟨some 18, .ext (.t 17) 0, none⟩,
⟨some 19, .ext (.t 17) 1, none⟩,
⟨some 20, .ext (.t 17) 2, none⟩,
⟨some 6, .mov (.t 18), none⟩,
⟨some 7, .mov (.t 19), none⟩,
⟨some 8, .mov (.t 20), none⟩] [6, 7, 8] [])
.ret)
(.seq (.reg [⟨some 22, .faddr 0 (.t 4), none⟩,
⟨some 23, .load false 1 (.t 22), none⟩,
⟨some 24, .bin .eql (.t 23) (.c (.int .u8 4)), none⟩,
⟨some 25, .mov (.t 24), none⟩,
⟨some 26, .faddr 0 (.t 5), some (25, true)⟩,
⟨some 27, .load false 1 (.t 26), some (25, true)⟩,
⟨some 28, .bin .eql (.t 27) (.c (.int .u8 4)), some (25, true)⟩,
⟨some 29, .pick (.t 25) (.t 28) (.c (.bool false)), none⟩,
⟨some 30, .mov (.t 29), none⟩,
⟨some 31, .faddr 1 (.t 4), some (30, true)⟩,
⟨some 32, .load false 1 (.t 31), some (30, true)⟩,
⟨some 33, .faddr 1 (.t 5), some (30, true)⟩,
⟨some 34, .load false 1 (.t 33), some (30, true)⟩,
⟨some 35, .eqb true (.t 32) (.t 34), some (30, true)⟩,
⟨some 36, .pick (.t 30) (.t 35) (.c (.bool false)), none⟩,
⟨some 21, .mov (.t 36), none⟩] [3, 4, 5, 21] [])
(.cond (.t 21)
(.seq (.reg [⟨some 37, .load true 2 (.t 3), none⟩,
⟨some 38, .call false (.f 179) [(.t 37), (.c (.int .u8 1))], none⟩,
⟨some 39, .ext (.t 38) 0, none⟩,
⟨some 40, .ext (.t 38) 1, none⟩,
⟨some 41, .ext (.t 38) 2, none⟩,
⟨some 6, .mov (.t 39), none⟩,
⟨some 7, .mov (.t 40), none⟩,
⟨some 8, .mov (.t 41), none⟩] [6, 7, 8] [])
.ret)
(.seq (.reg [⟨some 43, .faddr 0 (.t 4), none⟩,
⟨some 44, .load false 1 (.t 43), none⟩,
⟨some 45, .bin .eql (.t 44) (.c (.int .u8 4)), none⟩,
⟨some 42, .mov (.t 45), none⟩] [3, 4, 5, 42] [])
(.cond (.t 42)
(.seq (.reg [⟨some 46, .load true 2 (.t 3), none⟩,
⟨some 47, .faddr 1 (.t 4), none⟩,
⟨some 48, .load false 1 (.t 47), none⟩,
⟨some 49, .call false (.f 180) [(.t 46), (.t 48), (.c (.int .u8 0))], none⟩,
⟨some 50, .ext (.t 49) 0, none⟩,
⟨some 51, .ext (.t 49) 1, none⟩,
⟨some 52, .ext (.t 49) 2, none⟩,
⟨some 6, .mov (.t 50), none⟩,
⟨some 7, .mov (.t 51), none⟩,
⟨some 8, .mov (.t 52), none⟩] [6, 7, 8] [])
.ret)
(.seq (.reg [⟨some 54, .faddr 0 (.t 5), none⟩,
⟨some 55, .load false 1 (.t 54), none⟩,
⟨some 56, .bin .eql (.t 55) (.c (.int .u8 4)), none⟩,
⟨some 53, .mov (.t 56), none⟩] [3, 4, 5, 53] [])
(.cond (.t 53)
(.seq (.reg [⟨some 57, .load true 2 (.t 3), none⟩,
⟨some 58, .faddr 1 (.t 5), none⟩,
⟨some 59, .load false 1 (.t 58), none⟩,
⟨some 60, .call false (.f 180) [(.t 57), (.t 59), (.c (.int .u8 0))], none⟩,
⟨some 61, .ext (.t 60) 0, none⟩,
⟨some 62, .ext (.t 60) 1, none⟩,
⟨some 63, .ext (.t 60) 2, none⟩,
⟨some 6, .mov (.t 61), none⟩,
⟨some 7, .mov (.t 62), none⟩,
⟨some 8, .mov (.t 63), none⟩] [6, 7, 8] [])
.ret)
(.seq (.reg [⟨some 65, .faddr 0 (.t 4), none⟩,
⟨some 66, .load false 1 (.t 65), none⟩,
⟨some 67, .bin .eql (.t 66) (.c (.int .u8 1)), none⟩,
⟨some 68, .mov (.t 67), none⟩,
⟨some 69, .faddr 0 (.t 5), some (68, true)⟩,
⟨some 70, .load false 1 (.t 69), some (68, true)⟩,
⟨some 71, .bin .eql (.t 70) (.c (.int .u8 1)), some (68, true)⟩,
⟨some 72, .pick (.t 68) (.t 71) (.c (.bool false)), none⟩,
⟨some 73, .mov (.t 72), none⟩,
⟨some 74, .faddr 1 (.t 4), some (73, true)⟩,
⟨some 75, .load false 1 (.t 74), some (73, true)⟩,
⟨some 76, .faddr 1 (.t 5), some (73, true)⟩,
⟨some 77, .load false 1 (.t 76), some (73, true)⟩,
⟨some 78, .eqb false (.t 75) (.t 77), some (73, true)⟩,
⟨some 79, .pick (.t 73) (.t 78) (.c (.bool false)), none⟩,
⟨some 64, .mov (.t 79), none⟩] [3, 4, 5, 64] [])
(.cond (.t 64)
(.seq (.reg [⟨some 80, .load true 2 (.t 3), none⟩,
⟨some 81, .faddr 1 (.t 4), none⟩,
⟨some 82, .load false 1 (.t 81), none⟩,
⟨some 83, .call false (.f 181) [(.t 80), (.t 82)], none⟩,
⟨some 84, .ext (.t 83) 0, none⟩,
⟨some 85, .ext (.t 83) 1, none⟩,
⟨some 86, .ext (.t 83) 2, none⟩,
⟨some 6, .mov (.t 84), none⟩,
⟨some 7, .mov (.t 85), none⟩,
⟨some 8, .mov (.t 86), none⟩] [6, 7, 8] [])
.ret)
.skip)))))))))))
(.seq (.reg [⟨some 88, .faddr 2 (.t 4), none⟩,
⟨some 89, .load true 3 (.t 88), none⟩,
⟨some 90, .faddr 2 (.t 5), none⟩,
⟨some 91, .load true 3 (.t 90), none⟩,
⟨some 92, .call false (.f 195) [(.t 89), (.t 91)], none⟩,
⟨some 87, .mov (.t 92), none⟩,
⟨some 93, .ext (.t 87) 0, none⟩,
⟨some 94, .ext (.t 87) 1, none⟩,
⟨some 9, .alloc [(.bool false), .nil, (.int .i64 0)], none⟩,
⟨none, .store 3 (.t 9) (.t 93), none⟩,
⟨some 10, .mov (.t 94), none⟩] [3, 9] [])
(.seq (.reg [⟨some 95, .load true 2 (.t 3), none⟩,
⟨some 96, .load true 3 (.t 9), none⟩,
⟨some 97, .call false (.f 183) [(.t 95), (.t 96)], none⟩,
⟨some 98, .ext (.t 97) 0, none⟩,
⟨some 99, .ext (.t 97) 1, none⟩,
⟨some 100, .ext (.t 97) 2, none⟩,
⟨some 6, .mov (.t 98), none⟩,
⟨some 7, .mov (.t 99), none⟩,
⟨some 8, .mov (.t 100), none⟩] [6, 7, 8] [])
.ret))))⟩

def c_soft_has_b1 : IC :=
(.seq (.reg [⟨some 10, .bin .lss (.t 9) (.t 8), none⟩] [0, 7, 8, 9, 10] [])
(.seq (.cond (.t 10)
.skip
(.exit 0))
(.seq (.block 1
(.seq (.reg [⟨some 11, .iaddr 5 (.t 7) (.t 9), none⟩,
⟨some 12, .load true 5 (.t 11), none⟩,
⟨some 6, .alloc [(.int .u8 0), (.bool false), (.bool false), .nil, (.int .i64 0)], none⟩,
⟨none, .store 5 (.t 6) (.t 12), none⟩] [0, 6, 7, 8, 9] [])
(.seq (.reg [⟨some 13, .faddr 0 (.t 6), none⟩,
⟨some 14, .load false 1 (.t 13), none⟩,
⟨some 15, .mov (.t 0), none⟩,
⟨some 16, .bin .eql (.t 14) (.t 15), none⟩] [0, 7, 8, 9, 16] [])
(.cond (.t 16)
(.seq (.reg [⟨some 4, .mov (.c (.bool true)), none⟩] [4] [])
.ret)
.skip))))
(.reg [⟨some 17, .bin .add (.t 9) (.c (.int .i64 1)), none⟩,
⟨some 9, .mov (.t 17), none⟩] [0, 7, 8, 9] []))))
def c_soft_has_l1 : IC := .loop [0, 7, 8, 9] c_soft_has_b1
def c_soft_has : IFn := ⟨[.tmp 4],
(.seq (.reg [⟨some 4, .mov (.c (.bool false)), none⟩] [0, 1] [])
(.seq (.seq (.reg [⟨some 7, .mov (.t 1), none⟩,
⟨some 8, .len (.t 7), none⟩,
⟨some 9, .mov (.c (.int .i64 0)), none⟩] [0, 7, 8, 9] [])
(.block 0
 c_soft_has_l1))
(.seq (.reg [⟨some 4, .mov (.c (.bool false)), none⟩] [4] [])
.ret)))⟩

def c_soft_desk_none : IFn := ⟨[.tmp 4, .tmp 5, .tmp 6],
(.seq (.reg [⟨some 2, .box 2 (.t 0), none⟩,
⟨some 4, .mov (.c (.int .u64 0)), none⟩,
⟨some 5, .mov (.c (.int .u8 0)), none⟩,
⟨some 6, .mov (.c (.int .i64 0)), none⟩] [1, 2] [])
(.seq (.reg [⟨some 10, .faddr 0 (.t 2), none⟩,
⟨some 11, .load false 1 (.t 10), none⟩,
⟨some 12, .call false (.f 196) [(.t 11)], none⟩,
⟨some 9, .mov (.t 12), none⟩,
⟨some 13, .ext (.t 9) 0, none⟩,
⟨some 14, .ext (.t 9) 1, none⟩,
⟨some 7, .mov (.t 13), none⟩,
⟨some 8, .mov (.t 14), none⟩] [1, 7, 8] [])
(.seq (.reg [⟨some 15, .mov (.t 7), none⟩,
⟨some 16, .mov (.t 1), none⟩,
⟨some 17, .mov (.t 8), none⟩,
⟨some 4, .mov (.t 15), none⟩,
⟨some 5, .mov (.t 16), none⟩,
⟨some 6, .mov (.t 17), none⟩] [4, 5, 6] [])
.ret)))⟩

def c_soft_desk_inf : IFn := ⟨[.tmp 6, .tmp 7, .tmp 8],
(.seq (.reg [⟨some 3, .box 2 (.t 0), none⟩,
⟨some 6, .mov (.c (.int .u64 0)), none⟩,
⟨some 7, .mov (.c (.int .u8 0)), none⟩,
⟨some 8, .mov (.c (.int .i64 0)), none⟩] [1, 2, 3] [])
(.seq (.reg [⟨some 12, .faddr 0 (.t 3), none⟩,
⟨some 13, .load false 1 (.t 12), none⟩,
⟨some 14, .mov (.t 1), none⟩,
⟨some 15, .call false (.f 26) [(.t 13), (.t 14)], none⟩,
⟨some 11, .mov (.t 15), none⟩,
⟨some 16, .ext (.t 11) 0, none⟩,
⟨some 17, .ext (.t 11) 1, none⟩,
⟨some 9, .mov (.t 16), none⟩,
⟨some 10, .mov (.t 17), none⟩] [2, 9, 10] [])
(.seq (.reg [⟨some 18, .mov (.t 9), none⟩,
⟨some 19, .mov (.t 2), none⟩,
⟨some 20, .mov (.t 10), none⟩,
⟨some 6, .mov (.t 18), none⟩,
⟨some 7, .mov (.t 19), none⟩,
⟨some 8, .mov (.t 20), none⟩] [6, 7, 8] [])
.ret)))⟩

def c_soft_desk_zero : IFn := ⟨[.tmp 4, .tmp 5, .tmp 6],
(.seq (.reg [⟨some 2, .box 2 (.t 0), none⟩,
⟨some 4, .mov (.c (.int .u64 0)), none⟩,
⟨some 5, .mov (.c (.int .u8 0)), none⟩,
⟨some 6, .mov (.c (.int .i64 0)), none⟩] [1, 2] [])
(.seq (.reg [⟨some 10, .faddr 0 (.t 2), none⟩,
⟨some 11, .load false 1 (.t 10), none⟩,
⟨some 12, .mov (.t 1), none⟩,
⟨some 13, .call false (.f 57) [(.t 11), (.t 12)], none⟩,
⟨some 9, .mov (.t 13), none⟩,
⟨some 14, .ext (.t 9) 0, none⟩,
⟨some 15, .ext (.t 9) 1, none⟩,
⟨some 7, .mov (.t 14), none⟩,
⟨some 8, .mov (.t 15), none⟩] [7, 8] [])
(.seq (.reg [⟨some 16, .mov (.t 7), none⟩,
⟨some 17, .mov (.t 8), none⟩,
⟨some 4, .mov (.t 16), none⟩,
⟨some 5, .mov (.c (.int .u8 0)), none⟩,
⟨some 6, .mov (.t 17), none⟩] [4, 5, 6] [])
.ret)))⟩

def c_dyad_Mul : IFn := ⟨[.cell 4 true 3, .tmp 5],
(.seq (.reg [⟨some 2, .box 3 (.t 0), none⟩,
⟨some 3, .box 3 (.t 1), none⟩,
⟨some 4, .alloc [(.bool false), .nil, (.int .i64 0)], none⟩,
⟨some 5, .mov (.c (.int .i64 0)), none⟩] [2, 3, 4] [])
(.seq (.seq (.reg [⟨some 8, .load true 3 (.t 2), none⟩,
⟨some 9, .load true 3 (.t 3), none⟩,
⟨some 10, .bslice 2 3 [(.bool false), .nil, (.int .i64 0)] [(0, 3, (.t 8)), (3, 3, (.t 9))], none⟩,
⟨some 11, .call false (.f 74) [(.t 10)], none⟩,
⟨some 12, .un .not (.t 11), none⟩] [2, 3, 4, 12] [])
(.cond (.t 12)
(.seq (.reg [⟨some 13, .build [(.bool false), .nil, (.int .i64 0)] [], none⟩,
⟨none, .store 3 (.t 4) (.t 13), none⟩,
⟨some 5, .mov (.c (.int .i64 2)), none⟩] [4, 5] [])
.ret)
.skip))
(.seq (.reg [⟨some 15, .faddr 1 (.t 2), none⟩,
⟨some 16, .load false 1 (.t 15), none⟩,
⟨some 17, .faddr 1 (.t 3), none⟩,
⟨some 18, .load false 1 (.t 17), none⟩,
⟨some 19, .call false (.f 197) [(.t 16), (.t 18)], none⟩,
⟨some 14, .mov (.t 19), none⟩,
⟨some 20, .ext (.t 14) 0, none⟩,
⟨some 21, .ext (.t 14) 1, none⟩,
⟨some 6, .mov (.t 20), none⟩,
⟨some 7, .mov (.t 21), none⟩] [2, 3, 4, 6, 7] [])
(.seq (.seq (.reg [⟨some 22, .mov (.t 7), none⟩,
⟨some 23, .bin .neq (.t 22) (.c (.int .i64 0)), none⟩] [2, 3, 4, 6, 7, 23] [])
(.cond (.t 23)
(.seq (.reg [⟨some 24, .build [(.bool false), .nil, (.int .i64 0)] [], none⟩,
⟨some 25, .mov (.t 7), none⟩,
⟨none, .store 3 (.t 4) (.t 24), none⟩,
⟨some 5, .mov (.t 25), none⟩] [4, 5] [])
.ret)
.skip))
(.seq (.reg [⟨some 26, .faddr 0 (.t 2), none⟩,
⟨some 27, .load false 1 (.t 26), none⟩,
⟨some 28, .faddr 0 (.t 3), none⟩,
⟨some 29, .load false 1 (.t 28), none⟩,
⟨some 30, .eqb true (.t 27) (.t 29), none⟩,
⟨some 31, .mov (.t 6), none⟩,
⟨some 32, .faddr 2 (.t 2), none⟩,
⟨some 33, .load false 1 (.t 32), none⟩,
⟨some 34, .faddr 2 (.t 3), none⟩,
⟨some 35, .load false 1 (.t 34), none⟩,
⟨some 36, .bin .add (.t 33) (.t 35), none⟩,
⟨some 37, .call false (.f 54) [(.t 30), (.t 31), (.t 36)], none⟩,
⟨some 38, .ext (.t 37) 0, none⟩,
⟨some 39, .ext (.t 37) 1, none⟩,
⟨none, .store 3 (.t 4) (.t 38), none⟩,
⟨some 5, .mov (.t 39), none⟩] [4, 5] [])
.ret)))))⟩

def c_soft_desk_sum : IFn := ⟨[.tmp 4, .tmp 5, .tmp 6],
(.seq (.reg [⟨some 2, .box 2 (.t 0), none⟩,
⟨some 3, .box 3 (.t 1), none⟩,
⟨some 4, .mov (.c (.int .u64 0)), none⟩,
⟨some 5, .mov (.c (.int .u8 0)), none⟩,
⟨some 6, .mov (.c (.int .i64 0)), none⟩] [2, 3] [])
(.seq (.seq (.reg [⟨some 7, .load true 3 (.t 3), none⟩,
⟨some 8, .call false (.f 22) [(.t 7)], none⟩,
⟨some 9, .bin .eql (.t 8) (.c (.int .i64 0)), none⟩] [2, 3, 9] [])
(.cond (.t 9)
(.seq (.reg [⟨some 10, .load true 2 (.t 2), none⟩,
⟨some 11, .faddr 1 (.t 2), none⟩,
⟨some 12, .load false 1 (.t 11), none⟩,
⟨some 13, .bin .eql (.t 12) (.c (.int .u8 5)), none⟩,
⟨some 14, .call false (.f 181) [(.t 10), (.t 13)], none⟩,
⟨some 15, .ext (.t 14) 0, none⟩,
⟨some 16, .ext (.t 14) 1, none⟩,
⟨some 17, .ext (.t 14) 2, none⟩,
⟨some 4, .mov (.t 15), none⟩,
⟨some 5, .mov (.t 16), none⟩,
⟨some 6, .mov (.t 17), none⟩] [4, 5, 6] [])
.ret)
.skip))
(.seq (.reg [⟨some 18, .faddr 0 (.t 2), none⟩,
⟨some 19, .load false 1 (.t 18), none⟩,
⟨some 20, .faddr 1 (.t 2), none⟩,
⟨some 21, .load false 1 (.t 20), none⟩,
⟨some 22, .load true 3 (.t 3), none⟩,
⟨some 23, .call false (.f 7) [(.t 19), (.t 21), (.t 22)], none⟩,
⟨some 24, .ext (.t 23) 0, none⟩,
⟨some 25, .ext (.t 23) 1, none⟩,
⟨some 26, .ext (.t 23) 2, none⟩,
⟨some 4, .mov (.t 24), none⟩,
⟨some 5, .mov (.t 25), none⟩,
⟨some 6, .mov (.t 26), none⟩] [4, 5, 6] [])
.ret)))⟩

def c_word_Split : IFn := ⟨[.cell 4 true 3, .tmp 5],
(.seq (.reg [⟨some 4, .alloc [(.bool false), (.int .i64 0), (.int .u64 0)], none⟩,
⟨some 5, .mov (.c (.int .i64 0)), none⟩] [0, 1, 4] [])
(.seq (.reg [⟨some 9, .mov (.t 0), none⟩,
⟨some 10, .mov (.t 1), none⟩,
⟨some 11, .bslice 1 1 [(.int .u64 0)] [(0, 1, (.t 10))], none⟩,
⟨some 12, .call false (.f 95) [(.t 9), (.t 11)], none⟩,
⟨some 8, .mov (.t 12), none⟩,
⟨some 13, .ext (.t 8) 0, none⟩,
⟨some 14, .ext (.t 8) 1, none⟩,
⟨some 6, .alloc [(.int .i64 0), (.int .i64 0), (.int .u64 0)], none⟩,
⟨none, .store 3 (.t 6) (.t 13), none⟩,
⟨some 7, .mov (.t 14), none⟩] [1, 4, 6, 7] [])
(.seq (.seq (.reg [⟨some 15, .mov (.t 7), none⟩,
⟨some 16, .bin .neq (.t 15) (.c (.int .i64 0)), none⟩] [1, 4, 6, 7, 16] [])
(.cond (.t 16)
(.seq (.reg [⟨some 17, .build [(.bool false), (.int .i64 0), (.int .u64 0)] [], none⟩,
⟨some 18, .mov (.t 7), none⟩,
⟨none, .store 3 (.t 4) (.t 17), none⟩,
⟨some 5, .mov (.t 18), none⟩] [4, 5] [])
.ret)
.skip))
(.seq (.reg [⟨some 19, .load true 3 (.t 6), none⟩,
⟨some 20, .mov (.t 1), none⟩,
⟨some 21, .call false (.f 200) [(.t 19), (.t 20)], none⟩,
⟨none, .store 3 (.t 4) (.t 21), none⟩,
⟨some 5, .mov (.c (.int .i64 0)), none⟩] [4, 5] [])
.ret))))⟩

def c_word_Class : IFn := ⟨[.tmp 4, .tmp 5],
(.seq (.reg [⟨some 4, .mov (.c (.int .u8 0)), none⟩,
⟨some 5, .mov (.c (.int .i64 0)), none⟩] [0, 1] [])
(.seq (.reg [⟨some 9, .mov (.t 0), none⟩,
⟨some 10, .mov (.t 1), none⟩,
⟨some 11, .bslice 1 1 [(.int .u64 0)] [(0, 1, (.t 10))], none⟩,
⟨some 12, .call false (.f 95) [(.t 9), (.t 11)], none⟩,
⟨some 8, .mov (.t 12), none⟩,
⟨some 13, .ext (.t 8) 0, none⟩,
⟨some 14, .ext (.t 8) 1, none⟩,
⟨some 6, .alloc [(.int .i64 0), (.int .i64 0), (.int .u64 0)], none⟩,
⟨none, .store 3 (.t 6) (.t 13), none⟩,
⟨some 7, .mov (.t 14), none⟩] [1, 6, 7] [])
(.seq (.seq (.reg [⟨some 15, .mov (.t 7), none⟩,
⟨some 16, .bin .neq (.t 15) (.c (.int .i64 0)), none⟩] [1, 6, 7, 16] [])
(.cond (.t 16)
(.seq (.reg [⟨some 17, .mov (.t 7), none⟩,
⟨some 4, .mov (.c (.int .u8 0)), none⟩,
⟨some 5, .mov (.t 17), none⟩] [4, 5] [])
.ret)
.skip))
(.seq (.reg [⟨some 18, .load true 3 (.t 6), none⟩,
⟨some 19, .mov (.t 1), none⟩,
⟨some 20, .call false (.f 201) [(.t 18), (.t 19)], none⟩,
⟨some 4, .mov (.t 20), none⟩,
⟨some 5, .mov (.c (.int .i64 0)), none⟩] [4, 5] [])
.ret))))⟩

def c_word_Value : IFn := ⟨[.cell 4 true 3, .tmp 5],
(.seq (.reg [⟨some 4, .alloc [(.bool false), .nil, (.int .i64 0)], none⟩,
⟨some 5, .mov (.c (.int .i64 0)), none⟩] [0, 1, 4] [])
(.seq (.reg [⟨some 10, .mov (.t 0), none⟩,
⟨some 11, .mov (.t 1), none⟩,
⟨some 12, .call false (.f 202) [(.t 10), (.t 11)], none⟩,
⟨some 9, .mov (.t 12), none⟩,
⟨some 13, .ext (.t 9) 0, none⟩,
⟨some 14, .ext (.t 9) 1, none⟩,
⟨some 6, .alloc [(.int .i64 0), (.int .i64 0), (.int .u64 0)], none⟩,
⟨none, .store 3 (.t 6) (.t 13), none⟩,
⟨some 7, .mov (.t 14), none⟩] [1, 4, 6, 7] [])
(.seq (.seq (.reg [⟨some 15, .mov (.t 7), none⟩,
⟨some 16, .bin .neq (.t 15) (.c (.int .i64 0)), none⟩] [1, 4, 6, 7, 16] [])
(.cond (.t 16)
(.seq (.reg [⟨some 17, .build [(.bool false), .nil, (.int .i64 0)] [], none⟩,
⟨some 18, .mov (.t 7), none⟩,
⟨none, .store 3 (.t 4) (.t 17), none⟩,
⟨some 5, .mov (.t 18), none⟩] [4, 5] [])
.ret)
.skip))
(.seq (.reg [⟨some 19, .load true 3 (.t 6), none⟩,
⟨some 20, .mov (.t 1), none⟩,
⟨some 21, .call false (.f 200) [(.t 19), (.t 20)], none⟩,
⟨some 8, .alloc [(.bool false), (.int .i64 0), (.int .u64 0)], none⟩,
⟨none, .store 3 (.t 8) (.t 21), none⟩] [4, 6, 8] [])
(.seq (.seq (.reg [⟨some 22, .faddr 1 (.t 8), none⟩,
⟨some 23, .load false 1 (.t 22), none⟩,
⟨some 24, .bin .gtr (.t 23) (.c (.int .i64 0)), none⟩] [4, 6, 8, 24] [])
(.cond (.t 24)
(.reg [⟨some 25, .faddr 2 (.t 8), none⟩,
⟨some 26, .load false 1 (.t 25), none⟩,
⟨some 27, .faddr 0 (.t 6), none⟩,
⟨some 28, .load false 1 (.t 27), none⟩,
⟨some 29, .bin .shl (.c (.int .u64 1)) (.t 28), none⟩,
⟨some 30, .bin .or (.t 26) (.t 29), none⟩,
⟨some 31, .faddr 2 (.t 8), none⟩,
⟨none, .store 1 (.t 31) (.t 30), none⟩] [4, 6, 8] [])
.skip))
(.seq (.reg [⟨some 32, .faddr 0 (.t 8), none⟩,
⟨some 33, .load false 1 (.t 32), none⟩,
⟨some 34, .faddr 2 (.t 8), none⟩,
⟨some 35, .load false 1 (.t 34), none⟩,
⟨some 36, .call false (.f 55) [(.t 35)], none⟩,
⟨some 37, .faddr 1 (.t 8), none⟩,
⟨some 38, .load false 1 (.t 37), none⟩,
⟨some 39, .mm true (.t 38) [(.c (.int .i64 1))], none⟩,
⟨some 40, .bin .sub (.t 39) (.c (.int .i64 1)), none⟩,
⟨some 41, .load true 3 (.t 6), none⟩,
⟨some 42, .call false (.f 96) [(.t 41)], none⟩,
⟨some 43, .bin .add (.t 40) (.t 42), none⟩,
⟨some 44, .call false (.f 54) [(.t 33), (.t 36), (.t 43)], none⟩,
⟨some 45, .ext (.t 44) 0, none⟩,
⟨some 46, .ext (.t 44) 1, none⟩,
⟨none, .store 3 (.t 4) (.t 45), none⟩,
⟨some 5, .mov (.t 46), none⟩] [4, 5] [])
.ret))))))⟩

def c_dyad_Add : IFn := ⟨[.cell 4 true 3, .tmp 5],
(.seq (.reg [⟨some 2, .box 3 (.t 0), none⟩,
⟨some 3, .box 3 (.t 1), none⟩,
⟨some 4, .alloc [(.bool false), .nil, (.int .i64 0)], none⟩,
⟨some 5, .mov (.c (.int .i64 0)), none⟩] [2, 3, 4] [])
(.seq (.seq (.reg [⟨some 6, .load true 3 (.t 2), none⟩,
⟨some 7, .load true 3 (.t 3), none⟩,
⟨some 8, .bslice 2 3 [(.bool false), .nil, (.int .i64 0)] [(0, 3, (.t 6)), (3, 3, (.t 7))], none⟩,
⟨some 9, .call false (.f 74) [(.t 8)], none⟩,
⟨some 10, .un .not (.t 9), none⟩] [2, 3, 4, 10] [])
(.cond (.t 10)
(.seq (.reg [⟨some 11, .build [(.bool false), .nil, (.int .i64 0)] [], none⟩,
⟨none, .store 3 (.t 4) (.t 11), none⟩,
⟨some 5, .mov (.c (.int .i64 2)), none⟩] [4, 5] [])
.ret)
.skip))
(.seq (.reg [⟨some 12, .load true 3 (.t 2), none⟩,
⟨some 13, .load true 3 (.t 3), none⟩,
⟨some 14, .call false (.f 203) [(.t 12), (.t 13)], none⟩,
⟨some 15, .ext (.t 14) 0, none⟩,
⟨some 16, .ext (.t 14) 1, none⟩,
⟨none, .store 3 (.t 4) (.t 15), none⟩,
⟨some 5, .mov (.t 16), none⟩] [4, 5] [])
.ret)))⟩

def c_word_None : IFn := ⟨[.tmp 2, .tmp 3],
(.seq (.reg [⟨some 2, .mov (.c (.int .u64 0)), none⟩,
⟨some 3, .mov (.c (.int .i64 0)), none⟩] [0] [])
(.seq (.reg [⟨some 4, .mov (.t 0), none⟩,
⟨some 5, .call false (.f 58) [(.t 4), (.c (.bool false)), (.f 204)], none⟩,
⟨some 6, .ext (.t 5) 0, none⟩,
⟨some 7, .ext (.t 5) 1, none⟩,
⟨some 2, .mov (.t 6), none⟩,
⟨some 3, .mov (.t 7), none⟩] [2, 3] [])
.ret))⟩

def c_nat_Mul : IFn := ⟨[.tmp 4, .tmp 5],
(.seq (.reg [⟨some 4, .mov (.c .nil), none⟩,
⟨some 5, .mov (.c (.int .i64 0)), none⟩] [0, 1] [])
(.seq (.seq (.reg [⟨some 6, .mov (.t 0), none⟩,
⟨some 7, .mov (.t 1), none⟩,
⟨some 8, .bslice 2 1 [.nil] [(0, 1, (.t 6)), (1, 1, (.t 7))], none⟩,
⟨some 9, .call false (.f 106) [(.t 8)], none⟩,
⟨some 10, .un .not (.t 9), none⟩] [0, 1, 10] [])
(.cond (.t 10)
(.seq (.reg [⟨some 4, .mov (.c .nil), none⟩,
⟨some 5, .mov (.c (.int .i64 2)), none⟩] [4, 5] [])
.ret)
.skip))
(.seq (.seq (.reg [⟨some 11, .mov (.t 0), none⟩,
⟨some 12, .len (.t 11), none⟩,
⟨some 13, .bin .gtr (.t 12) (.c (.int .i64 0)), none⟩,
⟨some 14, .mov (.t 13), none⟩,
⟨some 15, .mov (.t 1), some (14, true)⟩,
⟨some 16, .len (.t 15), some (14, true)⟩,
⟨some 17, .bin .gtr (.t 16) (.c (.int .i64 0)), some (14, true)⟩,
⟨some 18, .pick (.t 14) (.t 17) (.c (.bool false)), none⟩,
⟨some 19, .mov (.t 18), none⟩,
⟨some 20, .mov (.t 0), some (19, true)⟩,
⟨some 21, .len (.t 20), some (19, true)⟩,
⟨some 22, .mov (.t 1), some (19, true)⟩,
⟨some 23, .len (.t 22), some (19, true)⟩,
⟨some 24, .bin .add (.t 21) (.t 23), some (19, true)⟩,
⟨some 25, .bin .sub (.t 24) (.c (.int .i64 1)), some (19, true)⟩,
⟨some 26, .bin .gtr (.t 25) (.c (.int .i64 4096)), some (19, true)⟩,
⟨some 27, .pick (.t 19) (.t 26) (.c (.bool false)), none⟩] [0, 1, 27] [])
(.cond (.t 27)
(.seq (.reg [⟨some 4, .mov (.c .nil), none⟩,
⟨some 5, .mov (.c (.int .i64 3)), none⟩] [4, 5] [])
.ret)
.skip))
(.seq (.reg [⟨some 28, .mov (.t 0), none⟩,
⟨some 29, .mov (.t 1), none⟩,
⟨some 30, .call false (.f 113) [(.t 28), (.t 29)], none⟩,
⟨some 31, .call false (.f 117) [(.t 30)], none⟩,
⟨some 32, .ext (.t 31) 0, none⟩,
⟨some 33, .ext (.t 31) 1, none⟩,
⟨some 4, .mov (.t 32), none⟩,
⟨some 5, .mov (.t 33), none⟩] [4, 5] [])
.ret))))⟩

def c_word_shape_split : IFn := ⟨[.cell 4 true 3],
(.seq (.reg [⟨some 2, .box 3 (.t 0), none⟩,
⟨some 4, .alloc [(.bool false), (.int .i64 0), (.int .u64 0)], none⟩] [1, 2, 4] [])
(.seq (.reg [⟨some 6, .mov (.t 1), none⟩,
⟨some 7, .faddr 2 (.t 2), none⟩,
⟨some 8, .load false 1 (.t 7), none⟩,
⟨some 9, .bin .andNot (.t 6) (.t 8), none⟩,
⟨some 5, .mov (.t 9), none⟩] [1, 2, 4, 5] [])
(.seq (.reg [⟨some 10, .mov (.t 1), none⟩,
⟨some 11, .faddr 2 (.t 2), none⟩,
⟨some 12, .load false 1 (.t 11), none⟩,
⟨some 13, .bin .and (.t 10) (.t 12), none⟩,
⟨some 14, .bin .neq (.t 13) (.c (.int .u64 0)), none⟩,
⟨some 15, .mov (.t 5), none⟩,
⟨some 16, .faddr 0 (.t 2), none⟩,
⟨some 17, .load false 1 (.t 16), none⟩,
⟨some 18, .bin .shr (.t 15) (.t 17), none⟩,
⟨some 19, .cvt .i64 (.t 18), none⟩,
⟨some 20, .mov (.t 5), none⟩,
⟨some 21, .faddr 0 (.t 2), none⟩,
⟨some 22, .load false 1 (.t 21), none⟩,
⟨some 23, .bin .shl (.c (.int .u64 1)) (.t 22), none⟩,
⟨some 24, .bin .sub (.t 23) (.c (.int .u64 1)), none⟩,
⟨some 25, .bin .and (.t 20) (.t 24), none⟩,
⟨some 26, .build [(.bool false), (.int .i64 0), (.int .u64 0)] [(0, 1, (.t 14)), (1, 1, (.t 19)), (2, 1, (.t 25))], none⟩,
⟨none, .store 3 (.t 4) (.t 26), none⟩] [4] [])
.ret)))⟩

def c_word_shape_class : IFn := ⟨[.tmp 4],
(.seq (.reg [⟨some 2, .box 3 (.t 0), none⟩,
⟨some 4, .mov (.c (.int .u8 0)), none⟩] [1, 2] [])
(.seq (.reg [⟨some 6, .mov (.t 1), none⟩,
⟨some 7, .faddr 2 (.t 2), none⟩,
⟨some 8, .load false 1 (.t 7), none⟩,
⟨some 9, .bin .andNot (.t 6) (.t 8), none⟩,
⟨some 5, .mov (.t 9), none⟩] [2, 5] [])
(.seq (.block 0
(.seq (.reg [⟨some 11, .mov (.t 5), none⟩,
⟨some 12, .bin .eql (.t 11) (.c (.int .u64 0)), none⟩,
⟨some 10, .mov (.t 12), none⟩] [2, 5, 10] [])
(.cond (.t 10)
(.seq (.reg [⟨some 4, .mov (.c (.int .u8 1)), none⟩] [4] [])
.ret)
(.seq (.reg [⟨some 14, .mov (.t 5), none⟩,
⟨some 15, .faddr 0 (.t 2), none⟩,
⟨some 16, .load false 1 (.t 15), none⟩,
⟨some 17, .bin .shl (.c (.int .u64 1)) (.t 16), none⟩,
⟨some 18, .bin .lss (.t 14) (.t 17), none⟩,
⟨some 13, .mov (.t 18), none⟩] [2, 5, 13] [])
(.cond (.t 13)
(.seq (.reg [⟨some 4, .mov (.c (.int .u8 2)), none⟩] [4] [])
.ret)
(.seq (.reg [⟨some 20, .mov (.t 5), none⟩,
⟨some 21, .load true 3 (.t 2), none⟩,
⟨some 22, .call false (.f 60) [(.t 21)], none⟩,
⟨some 23, .bin .lss (.t 20) (.t 22), none⟩,
⟨some 19, .mov (.t 23), none⟩] [2, 5, 19] [])
(.cond (.t 19)
(.seq (.reg [⟨some 4, .mov (.c (.int .u8 3)), none⟩] [4] [])
.ret)
(.seq (.reg [⟨some 25, .mov (.t 5), none⟩,
⟨some 26, .load true 3 (.t 2), none⟩,
⟨some 27, .call false (.f 60) [(.t 26)], none⟩,
⟨some 28, .bin .eql (.t 25) (.t 27), none⟩,
⟨some 24, .mov (.t 28), none⟩] [24] [])
(.cond (.t 24)
(.seq (.reg [⟨some 4, .mov (.c (.int .u8 4)), none⟩] [4] [])
.ret)
.skip)))))))))
(.seq (.reg [⟨some 4, .mov (.c (.int .u8 5)), none⟩] [4] [])
.ret))))⟩

def c_word_finite : IFn := ⟨[.cell 4 true 3, .tmp 5],
(.seq (.reg [⟨some 4, .alloc [(.int .i64 0), (.int .i64 0), (.int .u64 0)], none⟩,
⟨some 5, .mov (.c (.int .i64 0)), none⟩] [0, 1, 4] [])
(.seq (.reg [⟨some 9, .mov (.t 0), none⟩,
⟨some 10, .mov (.t 1), none⟩,
⟨some 11, .bslice 1 1 [(.int .u64 0)] [(0, 1, (.t 10))], none⟩,
⟨some 12, .call false (.f 95) [(.t 9), (.t 11)], none⟩,
⟨some 8, .mov (.t 12), none⟩,
⟨some 13, .ext (.t 8) 0, none⟩,
⟨some 14, .ext (.t 8) 1, none⟩,
⟨some 6, .alloc [(.int .i64 0), (.int .i64 0), (.int .u64 0)], none⟩,
⟨none, .store 3 (.t 6) (.t 13), none⟩,
⟨some 7, .mov (.t 14), none⟩] [1, 4, 6, 7] [])
(.seq (.seq (.reg [⟨some 15, .mov (.t 7), none⟩,
⟨some 16, .bin .eql (.t 15) (.c (.int .i64 0)), none⟩,
⟨some 17, .mov (.t 16), none⟩,
⟨some 18, .load true 3 (.t 6), some (17, true)⟩,
⟨some 19, .mov (.t 1), some (17, true)⟩,
⟨some 20, .call false (.f 201) [(.t 18), (.t 19)], some (17, true)⟩,
⟨some 21, .bin .geq (.t 20) (.c (.int .u8 4)), some (17, true)⟩,
⟨some 22, .pick (.t 17) (.t 21) (.c (.bool false)), none⟩] [4, 6, 7, 22] [])
(.cond (.t 22)
(.reg [⟨some 7, .mov (.c (.int .i64 7)), none⟩] [4, 6, 7] [])
.skip))
(.seq (.reg [⟨some 23, .load true 3 (.t 6), none⟩,
⟨some 24, .mov (.t 7), none⟩,
⟨none, .store 3 (.t 4) (.t 23), none⟩,
⟨some 5, .mov (.t 24), none⟩] [4, 5] [])
.ret))))⟩

def c_dyad_add : IFn := ⟨[.cell 4 true 3, .tmp 5],
(.seq (.reg [⟨some 2, .box 3 (.t 0), none⟩,
⟨some 3, .box 3 (.t 1), none⟩,
⟨some 4, .alloc [(.bool false), .nil, (.int .i64 0)], none⟩,
⟨some 5, .mov (.c (.int .i64 0)), none⟩] [2, 3, 4] [])
(.seq (.block 0
(.seq (.reg [⟨some 11, .faddr 1 (.t 2), none⟩,
⟨some 12, .load false 1 (.t 11), none⟩,
⟨some 13, .len (.t 12), none⟩,
⟨some 14, .bin .eql (.t 13) (.c (.int .i64 0)), none⟩,
⟨some 10, .mov (.t 14), none⟩] [2, 3, 4, 10] [])
(.cond (.t 10)
(.seq (.reg [⟨some 15, .load true 3 (.t 3), none⟩,
⟨some 16, .call false (.f 205) [(.t 15)], none⟩,
⟨none, .store 3 (.t 4) (.t 16), none⟩,
⟨some 5, .mov (.c (.int .i64 0)), none⟩] [4, 5] [])
.ret)
(.seq (.reg [⟨some 18, .faddr 1 (.t 3), none⟩,
⟨some 19, .load false 1 (.t 18), none⟩,
⟨some 20, .len (.t 19), none⟩,
⟨some 21, .bin .eql (.t 20) (.c (.int .i64 0)), none⟩,
⟨some 17, .mov (.t 21), none⟩] [2, 3, 4, 17] [])
(.cond (.t 17)
(.seq (.reg [⟨some 22, .load true 3 (.t 2), none⟩,
⟨some 23, .call false (.f 205) [(.t 22)], none⟩,
⟨none, .store 3 (.t 4) (.t 23), none⟩,
⟨some 5, .mov (.c (.int .i64 0)), none⟩] [4, 5] [])
.ret)
.skip)))))
(.seq (.seq (.reg [⟨some 24, .faddr 2 (.t 2), none⟩,
⟨some 25, .load false 1 (.t 24), none⟩,
⟨some 26, .faddr 2 (.t 3), none⟩,
⟨some 27, .load false 1 (.t 26), none⟩,
⟨some 28, .bin .lss (.t 25) (.t 27), none⟩] [2, 3, 4, 28] [])
(.cond (.t 28)
(.reg [⟨some 29, .load true 3 (.t 3), none⟩,
⟨some 30, .load true 3 (.t 2), none⟩,
⟨none, .store 3 (.t 2) (.t 29), none⟩,
⟨none, .store 3 (.t 3) (.t 30), none⟩] [2, 3, 4] [])
.skip))
(.seq (.seq (.reg [⟨some 31, .faddr 2 (.t 2), none⟩,
⟨some 32, .load false 1 (.t 31), none⟩,
⟨some 33, .faddr 2 (.t 3), none⟩,
⟨some 34, .load false 1 (.t 33), none⟩,
⟨some 35, .bin .sub (.t 32) (.t 34), none⟩,
⟨some 36, .faddr 1 (.t 2), none⟩,
⟨some 37, .load false 1 (.t 36), none⟩,
⟨some 38, .call false (.f 49) [(.t 37)], none⟩,
⟨some 39, .bin .add (.t 35) (.t 38), none⟩,
⟨some 40, .bin .gtr (.t 39) (.c (.int .i64 131073)), none⟩] [2, 3, 4, 40] [])
(.cond (.t 40)
(.seq (.reg [⟨some 41, .build [(.bool false), .nil, (.int .i64 0)] [], none⟩,
⟨none, .store 3 (.t 4) (.t 41), none⟩,
⟨some 5, .mov (.c (.int .i64 3)), none⟩] [4, 5] [])
.ret)
.skip))
(.seq (.reg [⟨some 42, .faddr 2 (.t 2), none⟩,
⟨some 43, .load false 1 (.t 42), none⟩,
⟨some 44, .faddr 2 (.t 3), none⟩,
⟨some 45, .load false 1 (.t 44), none⟩,
⟨some 46, .bin .sub (.t 43) (.t 45), none⟩,
⟨some 6, .mov (.t 46), none⟩] [2, 3, 4, 6] [])
(.seq (.seq (.reg [⟨some 47, .mov (.t 6), none⟩,
⟨some 48, .faddr 1 (.t 2), none⟩,
⟨some 49, .load false 1 (.t 48), none⟩,
⟨some 50, .call false (.f 49) [(.t 49)], none⟩,
⟨some 51, .bin .add (.t 47) (.t 50), none⟩,
⟨some 52, .bin .gtr (.t 51) (.c (.int .i64 131072)), none⟩] [2, 3, 4, 6, 52] [])
(.cond (.t 52)
(.seq (.reg [⟨some 53, .load true 3 (.t 2), none⟩,
⟨some 54, .load true 3 (.t 3), none⟩,
⟨some 55, .mov (.t 6), none⟩,
⟨some 56, .call false (.f 207) [(.t 53), (.t 54), (.t 55)], none⟩,
⟨some 57, .ext (.t 56) 0, none⟩,
⟨some 58, .ext (.t 56) 1, none⟩,
⟨none, .store 3 (.t 4) (.t 57), none⟩,
⟨some 5, .mov (.t 58), none⟩] [4, 5] [])
.ret)
.skip))
(.seq (.reg [⟨some 60, .faddr 1 (.t 2), none⟩,
⟨some 61, .load false 1 (.t 60), none⟩,
⟨some 62, .mov (.t 6), none⟩,
⟨some 63, .call false (.f 50) [(.t 61), (.t 62)], none⟩,
⟨some 59, .mov (.t 63), none⟩,
⟨some 64, .ext (.t 59) 0, none⟩,
⟨some 65, .ext (.t 59) 1, none⟩,
⟨some 66, .ext (.t 59) 2, none⟩,
⟨some 7, .mov (.t 64), none⟩,
⟨some 8, .mov (.t 65), none⟩,
⟨some 9, .mov (.t 66), none⟩] [2, 3, 4, 7] [])
(.seq (.reg [⟨some 67, .faddr 0 (.t 2), none⟩,
⟨some 68, .load false 1 (.t 67), none⟩,
⟨some 69, .mov (.t 7), none⟩,
⟨some 70, .faddr 0 (.t 3), none⟩,
⟨some 71, .load false 1 (.t 70), none⟩,
⟨some 72, .faddr 1 (.t 3), none⟩,
⟨some 73, .load false 1 (.t 72), none⟩,
⟨some 74, .faddr 2 (.t 3), none⟩,
⟨some 75, .load false 1 (.t 74), none⟩,
⟨some 76, .call false (.f 208) [(.t 68), (.t 69), (.t 71), (.t 73), (.t 75)], none⟩,
⟨some 77, .ext (.t 76) 0, none⟩,
⟨some 78, .ext (.t 76) 1, none⟩,
⟨none, .store 3 (.t 4) (.t 77), none⟩,
⟨some 5, .mov (.t 78), none⟩] [4, 5] [])
.ret))))))))⟩

def c_word_shape_none : IFn := ⟨[.tmp 2],
(.seq (.reg [⟨some 1, .box 3 (.t 0), none⟩,
⟨some 2, .mov (.c (.int .u64 0)), none⟩] [1] [])
(.seq (.reg [⟨some 3, .load true 3 (.t 1), none⟩,
⟨some 4, .call false (.f 60) [(.t 3)], none⟩,
⟨some 5, .faddr 0 (.t 1), none⟩,
⟨some 6, .load false 1 (.t 5), none⟩,
⟨some 7, .bin .sub (.t 6) (.c (.int .i64 1)), none⟩,
⟨some 8, .bin .shl (.c (.int .u64 1)) (.t 7), none⟩,
⟨some 9, .bin .or (.t 4) (.t 8), none⟩,
⟨some 2, .mov (.t 9), none⟩] [2] [])
.ret))⟩

def c_dyad_own : IFn := ⟨[.cell 2 true 3],
(.seq (.reg [⟨some 1, .box 3 (.t 0), none⟩,
⟨some 2, .alloc [(.bool false), .nil, (.int .i64 0)], none⟩] [1, 2] [])
(.seq (.reg [⟨some 3, .faddr 1 (.t 1), none⟩,
⟨some 4, .load false 1 (.t 3), none⟩,
⟨some 5, .app 1 4 (.c .nil) (.t 4), none⟩,
⟨some 6, .faddr 1 (.t 1), none⟩,
⟨none, .store 1 (.t 6) (.t 5), none⟩] [1, 2] [])
(.seq (.reg [⟨some 7, .load true 3 (.t 1), none⟩,
⟨none, .store 3 (.t 2) (.t 7), none⟩] [2] [])
.ret)))⟩

def c_dyad_edge : IFn := ⟨[.cell 6 true 3, .tmp 7],
(.seq (.reg [⟨some 3, .box 3 (.t 0), none⟩,
⟨some 4, .box 3 (.t 1), none⟩,
⟨some 6, .alloc [(.bool false), .nil, (.int .i64 0)], none⟩,
⟨some 7, .mov (.c (.int .i64 0)), none⟩] [2, 3, 4, 6] [])
(.seq (.seq (.reg [⟨some 17, .faddr 0 (.t 3), none⟩,
⟨some 18, .load false 1 (.t 17), none⟩,
⟨some 19, .faddr 0 (.t 4), none⟩,
⟨some 20, .load false 1 (.t 19), none⟩,
⟨some 21, .eqb false (.t 18) (.t 20), none⟩] [2, 3, 4, 6, 21] [])
(.cond (.t 21)
(.seq (.reg [⟨some 22, .build [(.bool false), .nil, (.int .i64 0)] [], none⟩,
⟨none, .store 3 (.t 6) (.t 22), none⟩,
⟨some 7, .mov (.c (.int .i64 3)), none⟩] [6, 7] [])
.ret)
.skip))
(.seq (.reg [⟨some 24, .faddr 1 (.t 3), none⟩,
⟨some 25, .load false 1 (.t 24), none⟩,
⟨some 26, .mov (.t 2), none⟩,
⟨some 27, .bin .sub (.t 26) (.c (.int .i64 1)), none⟩,
⟨some 28, .call false (.f 50) [(.t 25), (.t 27)], none⟩,
⟨some 23, .mov (.t 28), none⟩,
⟨some 29, .ext (.t 23) 0, none⟩,
⟨some 30, .ext (.t 23) 1, none⟩,
⟨some 31, .ext (.t 23) 2, none⟩,
⟨some 8, .mov (.t 29), none⟩,
⟨some 9, .mov (.t 30), none⟩,
⟨some 10, .mov (.t 31), none⟩] [3, 4, 6, 8] [])
(.seq (.reg [⟨some 33, .faddr 1 (.t 4), none⟩,
⟨some 34, .load false 1 (.t 33), none⟩,
⟨some 35, .call false (.f 50) [(.t 34), (.c (.int .i64 (-1)))], none⟩,
⟨some 32, .mov (.t 35), none⟩,
⟨some 36, .ext (.t 32) 0, none⟩,
⟨some 37, .ext (.t 32) 1, none⟩,
⟨some 38, .ext (.t 32) 2, none⟩,
⟨some 11, .mov (.t 36), none⟩,
⟨some 12, .mov (.t 37), none⟩,
⟨some 13, .mov (.t 38), none⟩] [3, 4, 6, 8, 11] [])
(.seq (.reg [⟨some 40, .mov (.t 8), none⟩,
⟨some 41, .mov (.t 11), none⟩,
⟨some 42, .call false (.f 103) [(.t 40), (.t 41)], none⟩,
⟨some 39, .mov (.t 42), none⟩,
⟨some 43, .ext (.t 39) 0, none⟩,
⟨some 44, .ext (.t 39) 1, none⟩,
⟨some 14, .mov (.t 43), none⟩,
⟨some 15, .mov (.t 44), none⟩] [3, 4, 6, 14, 15] [])
(.seq (.seq (.reg [⟨some 45, .mov (.t 15), none⟩,
⟨some 46, .bin .neq (.t 45) (.c (.int .i64 0)), none⟩] [3, 4, 6, 14, 46] [])
(.cond (.t 46)
(.seq (.reg [⟨some 47, .build [(.bool false), .nil, (.int .i64 0)] [], none⟩,
⟨none, .store 3 (.t 6) (.t 47), none⟩,
⟨some 7, .mov (.c (.int .i64 3)), none⟩] [6, 7] [])
.ret)
.skip))
(.seq (.reg [⟨some 49, .mov (.t 14), none⟩,
⟨some 50, .mov (.t 14), none⟩,
⟨some 51, .call false (.f 105) [(.t 49), (.t 50)], none⟩,
⟨some 48, .mov (.t 51), none⟩,
⟨some 52, .ext (.t 48) 0, none⟩,
⟨some 53, .ext (.t 48) 1, none⟩,
⟨some 16, .mov (.t 52), none⟩,
⟨some 15, .mov (.t 53), none⟩] [3, 4, 6, 14, 15, 16] [])
(.seq (.seq (.reg [⟨some 54, .mov (.t 15), none⟩,
⟨some 55, .bin .eql (.t 54) (.c (.int .i64 0)), none⟩] [3, 4, 6, 14, 16, 55] [])
(.cond (.t 55)
(.seq (.reg [⟨some 57, .mov (.t 16), none⟩,
⟨some 58, .call false (.f 55) [(.c (.int .u64 1))], none⟩,
⟨some 59, .call false (.f 103) [(.t 57), (.t 58)], none⟩,
⟨some 56, .mov (.t 59), none⟩,
⟨some 60, .ext (.t 56) 0, none⟩,
⟨some 61, .ext (.t 56) 1, none⟩,
⟨some 16, .mov (.t 60), none⟩] [3, 4, 6, 16] [])
(.seq (.reg [⟨some 62, .faddr 0 (.t 3), none⟩,
⟨some 63, .load false 1 (.t 62), none⟩,
⟨some 64, .mov (.t 16), none⟩,
⟨some 65, .faddr 2 (.t 4), none⟩,
⟨some 66, .load false 1 (.t 65), none⟩,
⟨some 67, .call false (.f 54) [(.t 63), (.t 64), (.t 66)], none⟩,
⟨some 68, .ext (.t 67) 0, none⟩,
⟨some 69, .ext (.t 67) 1, none⟩,
⟨none, .store 3 (.t 6) (.t 68), none⟩,
⟨some 7, .mov (.t 69), none⟩] [6, 7] [])
.ret))
.skip))
(.seq (.seq (.reg [⟨some 70, .mov (.t 14), none⟩,
⟨some 71, .call false (.f 49) [(.t 70)], none⟩,
⟨some 72, .mov (.t 14), none⟩,
⟨some 73, .call false (.f 90) [(.t 72)], none⟩,
⟨some 74, .bin .add (.t 73) (.c (.int .i64 1)), none⟩,
⟨some 75, .bin .eql (.t 71) (.t 74), none⟩] [3, 4, 6, 14, 75] [])
(.cond (.t 75)
(.seq (.reg [⟨some 77, .mov (.t 14), none⟩,
⟨some 78, .call false (.f 55) [(.c (.int .u64 1))], none⟩,
⟨some 79, .call false (.f 103) [(.t 77), (.t 78)], none⟩,
⟨some 76, .mov (.t 79), none⟩,
⟨some 80, .ext (.t 76) 0, none⟩,
⟨some 81, .ext (.t 76) 1, none⟩,
⟨some 16, .mov (.t 80), none⟩] [3, 4, 6, 14, 16] [])
(.seq (.reg [⟨some 83, .mov (.t 16), none⟩,
⟨some 84, .mov (.t 14), none⟩,
⟨some 85, .call false (.f 105) [(.t 83), (.t 84)], none⟩,
⟨some 82, .mov (.t 85), none⟩,
⟨some 86, .ext (.t 82) 0, none⟩,
⟨some 87, .ext (.t 82) 1, none⟩,
⟨some 16, .mov (.t 86), none⟩] [3, 4, 6, 16] [])
(.seq (.reg [⟨some 88, .faddr 0 (.t 3), none⟩,
⟨some 89, .load false 1 (.t 88), none⟩,
⟨some 90, .mov (.t 16), none⟩,
⟨some 91, .faddr 2 (.t 4), none⟩,
⟨some 92, .load false 1 (.t 91), none⟩,
⟨some 93, .call false (.f 54) [(.t 89), (.t 90), (.t 92)], none⟩,
⟨some 94, .ext (.t 93) 0, none⟩,
⟨some 95, .ext (.t 93) 1, none⟩,
⟨none, .store 3 (.t 6) (.t 94), none⟩,
⟨some 7, .mov (.t 95), none⟩] [6, 7] [])
.ret)))
.skip))
(.seq (.reg [⟨some 96, .build [(.bool false), .nil, (.int .i64 0)] [], none⟩,
⟨none, .store 3 (.t 6) (.t 96), none⟩,
⟨some 7, .mov (.c (.int .i64 3)), none⟩] [6, 7] [])
.ret))))))))))⟩

def c_dyad_join : IFn := ⟨[.cell 10 true 3, .tmp 11],
(.seq (.reg [⟨some 10, .alloc [(.bool false), .nil, (.int .i64 0)], none⟩,
⟨some 11, .mov (.c (.int .i64 0)), none⟩] [0, 1, 2, 3, 4, 10] [])
(.seq (.seq (.reg [⟨some 18, .mov (.t 0), none⟩,
⟨some 19, .mov (.t 2), none⟩,
⟨some 20, .eqb false (.t 18) (.t 19), none⟩] [0, 1, 2, 3, 4, 10, 20] [])
(.cond (.t 20)
(.seq (.reg [⟨some 22, .mov (.t 1), none⟩,
⟨some 23, .mov (.t 3), none⟩,
⟨some 24, .call false (.f 105) [(.t 22), (.t 23)], none⟩,
⟨some 21, .mov (.t 24), none⟩,
⟨some 25, .ext (.t 21) 0, none⟩,
⟨some 26, .ext (.t 21) 1, none⟩,
⟨some 12, .mov (.t 25), none⟩,
⟨some 13, .mov (.t 26), none⟩] [0, 1, 3, 4, 10, 12, 13] [])
(.seq (.seq (.reg [⟨some 27, .mov (.t 13), none⟩,
⟨some 28, .bin .neq (.t 27) (.c (.int .i64 0)), none⟩] [0, 1, 3, 4, 10, 12, 28] [])
(.cond (.t 28)
(.seq (.reg [⟨some 29, .mov (.t 0), none⟩,
⟨some 30, .mov (.t 1), none⟩,
⟨some 31, .mov (.t 3), none⟩,
⟨some 32, .mov (.t 4), none⟩,
⟨some 33, .call false (.f 209) [(.t 29), (.t 30), (.t 31), (.t 32)], none⟩,
⟨some 34, .ext (.t 33) 0, none⟩,
⟨some 35, .ext (.t 33) 1, none⟩,
⟨none, .store 3 (.t 10) (.t 34), none⟩,
⟨some 11, .mov (.t 35), none⟩] [10, 11] [])
.ret)
.skip))
(.seq (.reg [⟨some 36, .mov (.t 0), none⟩,
⟨some 37, .mov (.t 12), none⟩,
⟨some 38, .mov (.t 4), none⟩,
⟨some 39, .call false (.f 54) [(.t 36), (.t 37), (.t 38)], none⟩,
⟨some 40, .ext (.t 39) 0, none⟩,
⟨some 41, .ext (.t 39) 1, none⟩,
⟨none, .store 3 (.t 10) (.t 40), none⟩,
⟨some 11, .mov (.t 41), none⟩] [10, 11] [])
.ret)))
.skip))
(.seq (.seq (.reg [⟨some 43, .mov (.t 1), none⟩,
⟨some 44, .mov (.t 3), none⟩,
⟨some 45, .call false (.f 104) [(.t 43), (.t 44)], none⟩,
⟨some 42, .mov (.t 45), none⟩,
⟨some 46, .ext (.t 42) 0, none⟩,
⟨some 47, .ext (.t 42) 1, none⟩,
⟨some 14, .mov (.t 46), none⟩,
⟨some 15, .mov (.t 47), none⟩] [0, 1, 2, 3, 4, 10, 14] [])
(.seq (.reg [⟨some 48, .mov (.t 14), none⟩,
⟨some 49, .bin .lss (.t 48) (.c (.int .i64 0)), none⟩] [0, 1, 2, 3, 4, 10, 49] [])
(.cond (.t 49)
(.reg [⟨some 50, .mov (.t 2), none⟩,
⟨some 51, .mov (.t 3), none⟩,
⟨some 52, .mov (.t 1), none⟩,
⟨some 0, .mov (.t 50), none⟩,
⟨some 1, .mov (.t 51), none⟩,
⟨some 3, .mov (.t 52), none⟩] [0, 1, 3, 4, 10] [])
.skip)))
(.seq (.reg [⟨some 54, .mov (.t 1), none⟩,
⟨some 55, .mov (.t 3), none⟩,
⟨some 56, .call false (.f 103) [(.t 54), (.t 55)], none⟩,
⟨some 53, .mov (.t 56), none⟩,
⟨some 57, .ext (.t 53) 0, none⟩,
⟨some 58, .ext (.t 53) 1, none⟩,
⟨some 16, .mov (.t 57), none⟩,
⟨some 17, .mov (.t 58), none⟩] [0, 4, 10, 16] [])
(.seq (.reg [⟨some 59, .mov (.t 0), none⟩,
⟨some 60, .mov (.t 16), none⟩,
⟨some 61, .mov (.t 4), none⟩,
⟨some 62, .call false (.f 54) [(.t 59), (.t 60), (.t 61)], none⟩,
⟨some 63, .ext (.t 62) 0, none⟩,
⟨some 64, .ext (.t 62) 1, none⟩,
⟨none, .store 3 (.t 10) (.t 63), none⟩,
⟨some 11, .mov (.t 64), none⟩] [10, 11] [])
.ret)))))⟩

def c_dyad_halved : IFn := ⟨[.cell 8 true 3, .tmp 9],
(.seq (.reg [⟨some 8, .alloc [(.bool false), .nil, (.int .i64 0)], none⟩,
⟨some 9, .mov (.c (.int .i64 0)), none⟩] [0, 1, 2, 3, 8] [])
(.seq (.seq (.reg [⟨some 18, .mov (.t 1), none⟩,
⟨some 19, .iaddr 1 (.t 18) (.c (.int .i64 0)), none⟩,
⟨some 20, .load false 1 (.t 19), none⟩,
⟨some 21, .bin .and (.t 20) (.c (.int .u32 1)), none⟩,
⟨some 22, .mov (.t 2), none⟩,
⟨some 23, .iaddr 1 (.t 22) (.c (.int .i64 0)), none⟩,
⟨some 24, .load false 1 (.t 23), none⟩,
⟨some 25, .bin .and (.t 24) (.c (.int .u32 1)), none⟩,
⟨some 26, .bin .neq (.t 21) (.t 25), none⟩] [0, 1, 2, 3, 8, 26] [])
(.cond (.t 26)
(.seq (.reg [⟨some 27, .build [(.bool false), .nil, (.int .i64 0)] [], none⟩,
⟨none, .store 3 (.t 8) (.t 27), none⟩,
⟨some 9, .mov (.c (.int .i64 3)), none⟩] [8, 9] [])
.ret)
.skip))
(.seq (.reg [⟨some 29, .mov (.t 1), none⟩,
⟨some 30, .call false (.f 50) [(.t 29), (.c (.int .i64 (-1)))], none⟩,
⟨some 28, .mov (.t 30), none⟩,
⟨some 31, .ext (.t 28) 0, none⟩,
⟨some 32, .ext (.t 28) 1, none⟩,
⟨some 33, .ext (.t 28) 2, none⟩,
⟨some 10, .mov (.t 31), none⟩,
⟨some 11, .mov (.t 32), none⟩,
⟨some 12, .mov (.t 33), none⟩] [0, 1, 2, 3, 8, 10] [])
(.seq (.reg [⟨some 35, .mov (.t 2), none⟩,
⟨some 36, .call false (.f 50) [(.t 35), (.c (.int .i64 (-1)))], none⟩,
⟨some 34, .mov (.t 36), none⟩,
⟨some 37, .ext (.t 34) 0, none⟩,
⟨some 38, .ext (.t 34) 1, none⟩,
⟨some 39, .ext (.t 34) 2, none⟩,
⟨some 13, .mov (.t 37), none⟩,
⟨some 14, .mov (.t 38), none⟩,
⟨some 15, .mov (.t 39), none⟩] [0, 1, 3, 8, 10, 13] [])
(.seq (.reg [⟨some 41, .mov (.t 10), none⟩,
⟨some 42, .mov (.t 13), none⟩,
⟨some 43, .call false (.f 105) [(.t 41), (.t 42)], none⟩,
⟨some 40, .mov (.t 43), none⟩,
⟨some 44, .ext (.t 40) 0, none⟩,
⟨some 45, .ext (.t 40) 1, none⟩,
⟨some 16, .mov (.t 44), none⟩,
⟨some 17, .mov (.t 45), none⟩] [0, 1, 3, 8, 16] [])
(.seq (.seq (.reg [⟨some 46, .mov (.t 1), none⟩,
⟨some 47, .iaddr 1 (.t 46) (.c (.int .i64 0)), none⟩,
⟨some 48, .load false 1 (.t 47), none⟩,
⟨some 49, .bin .and (.t 48) (.c (.int .u32 1)), none⟩,
⟨some 50, .bin .eql (.t 49) (.c (.int .u32 1)), none⟩] [0, 3, 8, 16, 50] [])
(.cond (.t 50)
(.reg [⟨some 52, .mov (.t 16), none⟩,
⟨some 53, .call false (.f 55) [(.c (.int .u64 1))], none⟩,
⟨some 54, .call false (.f 105) [(.t 52), (.t 53)], none⟩,
⟨some 51, .mov (.t 54), none⟩,
⟨some 55, .ext (.t 51) 0, none⟩,
⟨some 56, .ext (.t 51) 1, none⟩,
⟨some 16, .mov (.t 55), none⟩] [0, 3, 8, 16] [])
.skip))
(.seq (.reg [⟨some 57, .mov (.t 0), none⟩,
⟨some 58, .mov (.t 16), none⟩,
⟨some 59, .mov (.t 3), none⟩,
⟨some 60, .bin .add (.t 59) (.c (.int .i64 1)), none⟩,
⟨some 61, .call false (.f 54) [(.t 57), (.t 58), (.t 60)], none⟩,
⟨some 62, .ext (.t 61) 0, none⟩,
⟨some 63, .ext (.t 61) 1, none⟩,
⟨none, .store 3 (.t 8) (.t 62), none⟩,
⟨some 9, .mov (.t 63), none⟩] [8, 9] [])
.ret)))))))⟩

structure HasG (gdb : Nat) (T : Tbl) : Prop where
  ref05_Opens : T 162 = some c_ref05_Opens
  law05_known : T 163 = some c_law05_known
  soft_Add : T 164 = some c_soft_Add
  soft_Mul : T 165 = some c_soft_Mul
  soft_MulAdd : T 175 = some c_soft_MulAdd
  soft_open : T 176 = some c_soft_open
  soft_desk_add : T 177 = some c_soft_desk_add
  soft_has : T 178 = some c_soft_has
  soft_desk_none : T 179 = some c_soft_desk_none
  soft_desk_inf : T 180 = some c_soft_desk_inf
  soft_desk_zero : T 181 = some c_soft_desk_zero
  dyad_Mul : T 182 = some c_dyad_Mul
  soft_desk_sum : T 183 = some c_soft_desk_sum
  word_Split : T 192 = some c_word_Split
  word_Class : T 193 = some c_word_Class
  word_Value : T 194 = some c_word_Value
  dyad_Add : T 195 = some c_dyad_Add
  word_None : T 196 = some c_word_None
  nat_Mul : T 197 = some c_nat_Mul
  word_shape_split : T 200 = some c_word_shape_split
  word_shape_class : T 201 = some c_word_shape_class
  word_finite : T 202 = some c_word_finite
  dyad_add : T 203 = some c_dyad_add
  word_shape_none : T 204 = some c_word_shape_none
  dyad_own : T 205 = some c_dyad_own
  dyad_edge : T 207 = some c_dyad_edge
  dyad_join : T 208 = some c_dyad_join
  dyad_halved : T 209 = some c_dyad_halved
end Go.Cv

/-
  The code of some functions, in the evaluator's form (written by a program from the program's own form).
-/
namespace Go.Cv
def c_law05_SoftProducts : IFn := ⟨[.tmp 8],
(.seq (.reg [⟨some 8, .mov (.c (.bool false)), none⟩] [0, 1, 2, 3] [])
(.seq (.reg [⟨some 21, .mov (.t 0), none⟩,
⟨some 22, .mov (.t 1), none⟩,
⟨some 23, .mov (.t 2), none⟩,
⟨some 24, .mov (.t 3), none⟩,
⟨some 25, .call false (.f 165) [(.t 21), (.t 22), (.t 23), (.t 24)], none⟩,
⟨some 20, .mov (.t 25), none⟩,
⟨some 26, .ext (.t 20) 0, none⟩,
⟨some 27, .ext (.t 20) 1, none⟩,
⟨some 28, .ext (.t 20) 2, none⟩,
⟨some 9, .mov (.t 26), none⟩,
⟨some 10, .mov (.t 27), none⟩,
⟨some 11, .mov (.t 28), none⟩] [0, 1, 2, 3, 9, 10, 11] [])
(.seq (.reg [⟨some 30, .mov (.t 0), none⟩,
⟨some 31, .mov (.t 1), none⟩,
⟨some 32, .mov (.t 2), none⟩,
⟨some 33, .mov (.t 3), none⟩,
⟨some 34, .call false (.f 221) [(.t 30), (.t 31), (.t 32), (.t 33)], none⟩,
⟨some 29, .mov (.t 34), none⟩,
⟨some 35, .ext (.t 29) 0, none⟩,
⟨some 36, .ext (.t 29) 1, none⟩,
⟨some 37, .ext (.t 29) 2, none⟩,
⟨some 12, .mov (.t 35), none⟩,
⟨some 13, .mov (.t 36), none⟩,
⟨some 14, .mov (.t 37), none⟩] [0, 1, 2, 3, 9, 10, 11, 12, 13, 14] [])
(.seq (.reg [⟨some 38, .mov (.t 0), none⟩,
⟨some 39, .mov (.t 1), none⟩,
⟨some 40, .mov (.t 2), none⟩,
⟨some 41, .mov (.t 3), none⟩,
⟨some 42, .bslice 2 1 [(.int .u64 0)] [(0, 1, (.t 40)), (1, 1, (.t 41))], none⟩,
⟨some 43, .call false (.f 162) [(.t 38), (.t 39), (.t 42)], none⟩,
⟨some 15, .mov (.t 43), none⟩] [0, 1, 2, 3, 9, 10, 11, 12, 13, 14, 15] [])
(.seq (.seq (.reg [⟨some 44, .mov (.t 15), none⟩,
⟨some 45, .bin .neq (.t 44) (.c (.int .i64 0)), none⟩] [0, 1, 2, 3, 9, 10, 11, 12, 13, 14, 15, 45] [])
(.cond (.t 45)
(.seq (.reg [⟨some 46, .mov (.t 9), none⟩,
⟨some 47, .mov (.t 10), none⟩,
⟨some 48, .mov (.t 11), none⟩,
⟨some 49, .mov (.t 15), none⟩,
⟨some 50, .call false (.f 217) [(.t 46), (.t 47), (.t 48), (.c (.int .u64 0)), (.c (.int .u8 0)), (.t 49)], none⟩,
⟨some 51, .mov (.t 50), none⟩,
⟨some 52, .mov (.t 12), some (51, true)⟩,
⟨some 53, .mov (.t 13), some (51, true)⟩,
⟨some 54, .mov (.t 14), some (51, true)⟩,
⟨some 55, .mov (.t 15), some (51, true)⟩,
⟨some 56, .call false (.f 217) [(.t 52), (.t 53), (.t 54), (.c (.int .u64 0)), (.c (.int .u8 0)), (.t 55)], some (51, true)⟩,
⟨some 57, .pick (.t 51) (.t 56) (.c (.bool false)), none⟩,
⟨some 58, .mov (.t 57), none⟩,
⟨some 59, .call false (.f 163) [], some (58, true)⟩,
⟨some 60, .pick (.t 58) (.t 59) (.c (.bool false)), none⟩,
⟨some 8, .mov (.t 60), none⟩] [8] [])
.ret)
.skip))
(.seq (.reg [⟨some 62, .mov (.t 0), none⟩,
⟨some 63, .mov (.t 1), none⟩,
⟨some 64, .mov (.t 2), none⟩,
⟨some 65, .mov (.t 3), none⟩,
⟨some 66, .call false (.f 222) [(.t 62), (.t 63), (.t 64), (.t 65)], none⟩,
⟨some 61, .mov (.t 66), none⟩,
⟨some 67, .ext (.t 61) 0, none⟩,
⟨some 68, .ext (.t 61) 1, none⟩,
⟨some 16, .mov (.t 67), none⟩,
⟨some 17, .mov (.t 68), none⟩] [0, 1, 2, 3, 9, 10, 11, 12, 13, 14, 16, 17] [])
(.seq (.reg [⟨some 70, .mov (.t 0), none⟩,
⟨some 71, .mov (.t 1), none⟩,
⟨some 72, .mov (.t 2), none⟩,
⟨some 73, .mov (.t 3), none⟩,
⟨some 74, .call false (.f 223) [(.t 70), (.t 71), (.t 72), (.t 73)], none⟩,
⟨some 69, .mov (.t 74), none⟩,
⟨some 75, .ext (.t 69) 0, none⟩,
⟨some 76, .ext (.t 69) 1, none⟩,
⟨some 18, .mov (.t 75), none⟩,
⟨some 19, .mov (.t 76), none⟩] [9, 10, 11, 12, 13, 14, 16, 17, 18, 19] [])
(.seq (.reg [⟨some 77, .mov (.t 9), none⟩,
⟨some 78, .mov (.t 10), none⟩,
⟨some 79, .mov (.t 11), none⟩,
⟨some 80, .mov (.t 16), none⟩,
⟨some 81, .mov (.t 17), none⟩,
⟨some 82, .call false (.f 217) [(.t 77), (.t 78), (.t 79), (.t 80), (.t 81), (.c (.int .i64 0))], none⟩,
⟨some 83, .mov (.t 82), none⟩,
⟨some 84, .mov (.t 12), some (83, true)⟩,
⟨some 85, .mov (.t 13), some (83, true)⟩,
⟨some 86, .mov (.t 14), some (83, true)⟩,
⟨some 87, .mov (.t 18), some (83, true)⟩,
⟨some 88, .mov (.t 19), some (83, true)⟩,
⟨some 89, .call false (.f 217) [(.t 84), (.t 85), (.t 86), (.t 87), (.t 88), (.c (.int .i64 0))], some (83, true)⟩,
⟨some 90, .pick (.t 83) (.t 89) (.c (.bool false)), none⟩,
⟨some 91, .mov (.t 90), none⟩,
⟨some 92, .call false (.f 163) [], some (91, true)⟩,
⟨some 93, .pick (.t 91) (.t 92) (.c (.bool false)), none⟩,
⟨some 8, .mov (.t 93), none⟩] [8] [])
.ret))))))))⟩

def c_law05_is : IFn := ⟨[.tmp 12],
(.seq (.reg [⟨some 12, .mov (.c (.bool false)), none⟩] [0, 1, 2, 3, 4, 5] [])
(.seq (.seq (.reg [⟨some 13, .mov (.t 5), none⟩,
⟨some 14, .bin .neq (.t 13) (.c (.int .i64 0)), none⟩] [0, 1, 2, 3, 4, 5, 14] [])
(.cond (.t 14)
(.seq (.reg [⟨some 15, .mov (.t 0), none⟩,
⟨some 16, .bin .eql (.t 15) (.c (.int .u64 0)), none⟩,
⟨some 17, .mov (.t 16), none⟩,
⟨some 18, .mov (.t 1), some (17, true)⟩,
⟨some 19, .bin .eql (.t 18) (.c (.int .u8 0)), some (17, true)⟩,
⟨some 20, .pick (.t 17) (.t 19) (.c (.bool false)), none⟩,
⟨some 21, .mov (.t 20), none⟩,
⟨some 22, .mov (.t 2), some (21, true)⟩,
⟨some 23, .mov (.t 5), some (21, true)⟩,
⟨some 24, .bin .eql (.t 22) (.t 23), some (21, true)⟩,
⟨some 25, .pick (.t 21) (.t 24) (.c (.bool false)), none⟩,
⟨some 12, .mov (.t 25), none⟩] [12] [])
.ret)
.skip))
(.seq (.reg [⟨some 26, .mov (.t 0), none⟩,
⟨some 27, .mov (.t 3), none⟩,
⟨some 28, .bin .eql (.t 26) (.t 27), none⟩,
⟨some 29, .mov (.t 28), none⟩,
⟨some 30, .mov (.t 1), some (29, true)⟩,
⟨some 31, .mov (.t 4), some (29, true)⟩,
⟨some 32, .bin .eql (.t 30) (.t 31), some (29, true)⟩,
⟨some 33, .pick (.t 29) (.t 32) (.c (.bool false)), none⟩,
⟨some 34, .mov (.t 33), none⟩,
⟨some 35, .mov (.t 2), some (34, true)⟩,
⟨some 36, .bin .eql (.t 35) (.c (.int .i64 0)), some (34, true)⟩,
⟨some 37, .pick (.t 34) (.t 36) (.c (.bool false)), none⟩,
⟨some 12, .mov (.t 37), none⟩] [12] [])
.ret)))⟩

def c_soft_Div : IFn := ⟨[.tmp 8, .tmp 9, .tmp 10],
(.seq (.reg [⟨some 8, .mov (.c (.int .u64 0)), none⟩,
⟨some 9, .mov (.c (.int .u8 0)), none⟩,
⟨some 10, .mov (.c (.int .i64 0)), none⟩] [0, 1, 2, 3] [])
(.seq (.reg [⟨some 18, .mov (.t 0), none⟩,
⟨some 19, .mov (.t 1), none⟩,
⟨some 20, .mov (.t 2), none⟩,
⟨some 21, .mov (.t 3), none⟩,
⟨some 22, .bslice 2 1 [(.int .u64 0)] [(0, 1, (.t 20)), (1, 1, (.t 21))], none⟩,
⟨some 23, .call false (.f 176) [(.t 18), (.t 19), (.t 22)], none⟩,
⟨some 17, .mov (.t 23), none⟩,
⟨some 24, .ext (.t 17) 0, none⟩,
⟨some 25, .ext (.t 17) 1, none⟩,
⟨some 11, .mov (.t 24), none⟩,
⟨some 12, .mov (.t 25), none⟩] [0, 1, 11, 12] [])
(.seq (.seq (.reg [⟨some 26, .mov (.t 12), none⟩,
⟨some 27, .bin .neq (.t 26) (.c (.int .i64 0)), none⟩] [0, 1, 11, 12, 27] [])
(.cond (.t 27)
(.seq (.reg [⟨some 28, .mov (.t 12), none⟩,
⟨some 8, .mov (.c (.int .u64 0)), none⟩,
⟨some 9, .mov (.c (.int .u8 0)), none⟩,
⟨some 10, .mov (.t 28), none⟩] [8, 9, 10] [])
.ret)
.skip))
(.seq (.reg [⟨some 29, .mov (.t 0), none⟩,
⟨some 30, .mov (.t 1), none⟩,
⟨some 31, .build [(.int .u8 0), (.int .u8 0)] [(0, 1, (.t 29)), (1, 1, (.t 30))], none⟩,
⟨some 32, .mov (.t 11), none⟩,
⟨some 33, .iaddr 5 (.t 32) (.c (.int .i64 0)), none⟩,
⟨some 34, .load true 5 (.t 33), none⟩,
⟨some 35, .mov (.t 11), none⟩,
⟨some 36, .iaddr 5 (.t 35) (.c (.int .i64 1)), none⟩,
⟨some 37, .load true 5 (.t 36), none⟩,
⟨some 13, .alloc [(.int .u8 0), (.int .u8 0)], none⟩,
⟨some 14, .alloc [(.int .u8 0), (.bool false), (.bool false), .nil, (.int .i64 0)], none⟩,
⟨some 15, .alloc [(.int .u8 0), (.bool false), (.bool false), .nil, (.int .i64 0)], none⟩,
⟨none, .store 2 (.t 13) (.t 31), none⟩,
⟨none, .store 5 (.t 14) (.t 34), none⟩,
⟨none, .store 5 (.t 15) (.t 37), none⟩] [0, 1, 11, 13, 14, 15] [(5, 12), (8, 12), (8, 13)])
(.seq (.reg [⟨some 38, .faddr 1 (.t 14), none⟩,
⟨some 39, .load false 1 (.t 38), none⟩,
⟨some 40, .faddr 1 (.t 15), none⟩,
⟨some 41, .load false 1 (.t 40), none⟩,
⟨some 42, .eqb true (.t 39) (.t 41), none⟩,
⟨some 16, .mov (.t 42), none⟩] [0, 1, 11, 13, 14, 15, 16] [])
(.seq (.block 0
(.seq (.reg [⟨some 44, .mov (.t 11), none⟩,
⟨some 45, .call false (.f 178) [(.c (.int .u8 5)), (.t 44)], none⟩,
⟨some 43, .mov (.t 45), none⟩] [0, 1, 13, 14, 15, 16, 43] [])
(.cond (.t 43)
(.seq (.reg [⟨some 46, .load true 2 (.t 13), none⟩,
⟨some 47, .call false (.f 179) [(.t 46), (.c (.int .u8 0))], none⟩,
⟨some 48, .ext (.t 47) 0, none⟩,
⟨some 49, .ext (.t 47) 1, none⟩,
⟨some 50, .ext (.t 47) 2, none⟩,
⟨some 8, .mov (.t 48), none⟩,
⟨some 9, .mov (.t 49), none⟩,
⟨some 10, .mov (.t 50), none⟩] [8, 9, 10] [])
.ret)
(.seq (.reg [⟨some 52, .faddr 0 (.t 14), none⟩,
⟨some 53, .load false 1 (.t 52), none⟩,
⟨some 54, .faddr 0 (.t 15), none⟩,
⟨some 55, .load false 1 (.t 54), none⟩,
⟨some 56, .bin .eql (.t 53) (.t 55), none⟩,
⟨some 57, .mov (.t 56), none⟩,
⟨some 58, .faddr 0 (.t 14), some (57, true)⟩,
⟨some 59, .load false 1 (.t 58), some (57, true)⟩,
⟨some 60, .bin .eql (.t 59) (.c (.int .u8 1)), some (57, true)⟩,
⟨some 61, .mov (.t 60), some (57, true)⟩,
⟨some 62, .faddr 0 (.t 14), some (61, false)⟩,
⟨some 63, .load false 1 (.t 62), some (61, false)⟩,
⟨some 64, .bin .eql (.t 63) (.c (.int .u8 4)), some (61, false)⟩,
⟨some 65, .pick (.t 61) (.c (.bool true)) (.t 64), some (57, true)⟩,
⟨some 66, .pick (.t 57) (.t 65) (.c (.bool false)), none⟩,
⟨some 51, .mov (.t 66), none⟩] [0, 1, 13, 14, 15, 16, 51] [])
(.cond (.t 51)
(.seq (.reg [⟨some 67, .load true 2 (.t 13), none⟩,
⟨some 68, .call false (.f 179) [(.t 67), (.c (.int .u8 1))], none⟩,
⟨some 69, .ext (.t 68) 0, none⟩,
⟨some 70, .ext (.t 68) 1, none⟩,
⟨some 71, .ext (.t 68) 2, none⟩,
⟨some 8, .mov (.t 69), none⟩,
⟨some 9, .mov (.t 70), none⟩,
⟨some 10, .mov (.t 71), none⟩] [8, 9, 10] [])
.ret)
(.seq (.reg [⟨some 73, .faddr 0 (.t 14), none⟩,
⟨some 74, .load false 1 (.t 73), none⟩,
⟨some 75, .bin .eql (.t 74) (.c (.int .u8 4)), none⟩,
⟨some 72, .mov (.t 75), none⟩] [0, 1, 13, 14, 15, 16, 72] [])
(.cond (.t 72)
(.seq (.reg [⟨some 76, .load true 2 (.t 13), none⟩,
⟨some 77, .mov (.t 16), none⟩,
⟨some 78, .call false (.f 180) [(.t 76), (.t 77), (.c (.int .u8 0))], none⟩,
⟨some 79, .ext (.t 78) 0, none⟩,
⟨some 80, .ext (.t 78) 1, none⟩,
⟨some 81, .ext (.t 78) 2, none⟩,
⟨some 8, .mov (.t 79), none⟩,
⟨some 9, .mov (.t 80), none⟩,
⟨some 10, .mov (.t 81), none⟩] [8, 9, 10] [])
.ret)
(.seq (.reg [⟨some 83, .faddr 0 (.t 15), none⟩,
⟨some 84, .load false 1 (.t 83), none⟩,
⟨some 85, .bin .eql (.t 84) (.c (.int .u8 1)), none⟩,
⟨some 82, .mov (.t 85), none⟩] [0, 1, 13, 14, 15, 16, 82] [])
(.cond (.t 82)
(.seq (.reg [⟨some 86, .load true 2 (.t 13), none⟩,
⟨some 87, .mov (.t 16), none⟩,
⟨some 88, .call false (.f 180) [(.t 86), (.t 87), (.c (.int .u8 2))], none⟩,
⟨some 89, .ext (.t 88) 0, none⟩,
⟨some 90, .ext (.t 88) 1, none⟩,
⟨some 91, .ext (.t 88) 2, none⟩,
⟨some 8, .mov (.t 89), none⟩,
⟨some 9, .mov (.t 90), none⟩,
⟨some 10, .mov (.t 91), none⟩] [8, 9, 10] [])
.ret)
(.seq (.reg [⟨some 93, .faddr 0 (.t 14), none⟩,
⟨some 94, .load false 1 (.t 93), none⟩,
⟨some 95, .bin .eql (.t 94) (.c (.int .u8 1)), none⟩,
⟨some 96, .mov (.t 95), none⟩,
⟨some 97, .faddr 0 (.t 15), some (96, false)⟩,
⟨some 98, .load false 1 (.t 97), some (96, false)⟩,
⟨some 99, .bin .eql (.t 98) (.c (.int .u8 4)), some (96, false)⟩,
⟨some 100, .pick (.t 96) (.c (.bool true)) (.t 99), none⟩,
⟨some 92, .mov (.t 100), none⟩] [0, 1, 13, 14, 15, 16, 92] [])
(.cond (.t 92)
(.seq (.reg [⟨some 101, .load true 2 (.t 13), none⟩,
⟨some 102, .mov (.t 16), none⟩,
⟨some 103, .call false (.f 181) [(.t 101), (.t 102)], none⟩,
⟨some 104, .ext (.t 103) 0, none⟩,
⟨some 105, .ext (.t 103) 1, none⟩,
⟨some 106, .ext (.t 103) 2, none⟩,
⟨some 8, .mov (.t 104), none⟩,
⟨some 9, .mov (.t 105), none⟩,
⟨some 10, .mov (.t 106), none⟩] [8, 9, 10] [])
.ret)
.skip)))))))))))
(.seq (.reg [⟨some 107, .mov (.t 0), none⟩,
⟨some 108, .mov (.t 1), none⟩,
⟨some 109, .faddr 2 (.t 14), none⟩,
⟨some 110, .load true 3 (.t 109), none⟩,
⟨some 111, .faddr 2 (.t 15), none⟩,
⟨some 112, .load true 3 (.t 111), none⟩,
⟨some 113, .call false (.f 15) [(.t 107), (.t 108), (.t 110), (.t 112)], none⟩,
⟨some 114, .ext (.t 113) 0, none⟩,
⟨some 115, .ext (.t 113) 1, none⟩,
⟨some 116, .ext (.t 113) 2, none⟩,
⟨some 8, .mov (.t 114), none⟩,
⟨some 9, .mov (.t 115), none⟩,
⟨some 10, .mov (.t 116), none⟩] [8, 9, 10] [])
.ret)))))))⟩

def c_ref05_Mul : IFn := ⟨[.tmp 8, .tmp 9],
(.seq (.reg [⟨some 8, .mov (.c (.int .u64 0)), none⟩,
⟨some 9, .mov (.c (.int .u8 0)), none⟩] [0, 1, 2, 3] [])
(.seq (.seq (.reg [⟨some 11, .mov (.t 0), none⟩,
⟨some 12, .mov (.t 2), none⟩,
⟨some 13, .call false (.f 230) [(.t 11), (.t 12)], none⟩,
⟨some 14, .mov (.t 13), none⟩,
⟨some 15, .mov (.t 0), some (14, false)⟩,
⟨some 16, .mov (.t 3), some (14, false)⟩,
⟨some 17, .call false (.f 230) [(.t 15), (.t 16)], some (14, false)⟩,
⟨some 18, .pick (.t 14) (.c (.bool true)) (.t 17), none⟩] [0, 1, 2, 3, 18] [])
(.cond (.t 18)
(.seq (.reg [⟨some 19, .mov (.t 0), none⟩,
⟨some 20, .call false (.f 157) [(.t 19)], none⟩,
⟨some 8, .mov (.t 20), none⟩,
⟨some 9, .mov (.c (.int .u8 0)), none⟩] [8, 9] [])
.ret)
.skip))
(.seq (.seq (.reg [⟨some 21, .mov (.t 0), none⟩,
⟨some 22, .mov (.t 2), none⟩,
⟨some 23, .call false (.f 231) [(.t 21), (.t 22)], none⟩,
⟨some 24, .mov (.t 23), none⟩,
⟨some 25, .mov (.t 0), some (24, true)⟩,
⟨some 26, .mov (.t 3), some (24, true)⟩,
⟨some 27, .call false (.f 232) [(.t 25), (.t 26)], some (24, true)⟩,
⟨some 28, .pick (.t 24) (.t 27) (.c (.bool false)), none⟩,
⟨some 29, .mov (.t 28), none⟩,
⟨some 30, .mov (.t 0), some (29, false)⟩,
⟨some 31, .mov (.t 2), some (29, false)⟩,
⟨some 32, .call false (.f 232) [(.t 30), (.t 31)], some (29, false)⟩,
⟨some 33, .mov (.t 32), some (29, false)⟩,
⟨some 34, .mov (.t 0), some (33, true)⟩,
⟨some 35, .mov (.t 3), some (33, true)⟩,
⟨some 36, .call false (.f 231) [(.t 34), (.t 35)], some (33, true)⟩,
⟨some 37, .pick (.t 33) (.t 36) (.c (.bool false)), some (29, false)⟩,
⟨some 38, .pick (.t 29) (.c (.bool true)) (.t 37), none⟩] [0, 1, 2, 3, 38] [])
(.cond (.t 38)
(.seq (.reg [⟨some 39, .mov (.t 0), none⟩,
⟨some 40, .call false (.f 157) [(.t 39)], none⟩,
⟨some 8, .mov (.t 40), none⟩,
⟨some 9, .mov (.c (.int .u8 1)), none⟩] [8, 9] [])
.ret)
.skip))
(.seq (.reg [⟨some 41, .mov (.t 0), none⟩,
⟨some 42, .mov (.t 2), none⟩,
⟨some 43, .call false (.f 233) [(.t 41), (.t 42)], none⟩,
⟨some 44, .mov (.t 0), none⟩,
⟨some 45, .mov (.t 3), none⟩,
⟨some 46, .call false (.f 233) [(.t 44), (.t 45)], none⟩,
⟨some 47, .eqb true (.t 43) (.t 46), none⟩,
⟨some 10, .mov (.t 47), none⟩] [0, 1, 2, 3, 10] [])
(.seq (.seq (.reg [⟨some 48, .mov (.t 0), none⟩,
⟨some 49, .mov (.t 2), none⟩,
⟨some 50, .call false (.f 231) [(.t 48), (.t 49)], none⟩,
⟨some 51, .mov (.t 50), none⟩,
⟨some 52, .mov (.t 0), some (51, false)⟩,
⟨some 53, .mov (.t 3), some (51, false)⟩,
⟨some 54, .call false (.f 231) [(.t 52), (.t 53)], some (51, false)⟩,
⟨some 55, .pick (.t 51) (.c (.bool true)) (.t 54), none⟩] [0, 1, 2, 3, 10, 55] [])
(.cond (.t 55)
(.seq (.reg [⟨some 56, .mov (.t 0), none⟩,
⟨some 57, .mov (.t 10), none⟩,
⟨some 58, .call false (.f 30) [(.t 56), (.t 57)], none⟩,
⟨some 8, .mov (.t 58), none⟩,
⟨some 9, .mov (.c (.int .u8 0)), none⟩] [8, 9] [])
.ret)
.skip))
(.seq (.seq (.reg [⟨some 59, .mov (.t 0), none⟩,
⟨some 60, .mov (.t 2), none⟩,
⟨some 61, .call false (.f 232) [(.t 59), (.t 60)], none⟩,
⟨some 62, .mov (.t 61), none⟩,
⟨some 63, .mov (.t 0), some (62, false)⟩,
⟨some 64, .mov (.t 3), some (62, false)⟩,
⟨some 65, .call false (.f 232) [(.t 63), (.t 64)], some (62, false)⟩,
⟨some 66, .pick (.t 62) (.c (.bool true)) (.t 65), none⟩] [0, 1, 2, 3, 10, 66] [])
(.cond (.t 66)
(.seq (.reg [⟨some 67, .mov (.t 0), none⟩,
⟨some 68, .mov (.t 10), none⟩,
⟨some 69, .call false (.f 38) [(.t 67), (.c (.int .u64 0)), (.t 68)], none⟩,
⟨some 8, .mov (.t 69), none⟩,
⟨some 9, .mov (.c (.int .u8 0)), none⟩] [8, 9] [])
.ret)
.skip))
(.seq (.reg [⟨some 70, .mov (.t 0), none⟩,
⟨some 71, .mov (.t 1), none⟩,
⟨some 72, .mov (.t 0), none⟩,
⟨some 73, .mov (.t 2), none⟩,
⟨some 74, .call false (.f 151) [(.t 72), (.t 73)], none⟩,
⟨some 75, .mov (.t 0), none⟩,
⟨some 76, .mov (.t 3), none⟩,
⟨some 77, .call false (.f 151) [(.t 75), (.t 76)], none⟩,
⟨some 78, .call false (.f 154) [(.t 74), (.t 77)], none⟩,
⟨some 79, .call false (.f 12) [(.t 70), (.t 71), (.t 78)], none⟩,
⟨some 80, .ext (.t 79) 0, none⟩,
⟨some 81, .ext (.t 79) 1, none⟩,
⟨some 8, .mov (.t 80), none⟩,
⟨some 9, .mov (.t 81), none⟩] [8, 9] [])
.ret)))))))⟩

def c_ref05_Div : IFn := ⟨[.tmp 8, .tmp 9],
(.seq (.reg [⟨some 8, .mov (.c (.int .u64 0)), none⟩,
⟨some 9, .mov (.c (.int .u8 0)), none⟩] [0, 1, 2, 3] [])
(.seq (.seq (.reg [⟨some 11, .mov (.t 0), none⟩,
⟨some 12, .mov (.t 2), none⟩,
⟨some 13, .call false (.f 230) [(.t 11), (.t 12)], none⟩,
⟨some 14, .mov (.t 13), none⟩,
⟨some 15, .mov (.t 0), some (14, false)⟩,
⟨some 16, .mov (.t 3), some (14, false)⟩,
⟨some 17, .call false (.f 230) [(.t 15), (.t 16)], some (14, false)⟩,
⟨some 18, .pick (.t 14) (.c (.bool true)) (.t 17), none⟩] [0, 1, 2, 3, 18] [])
(.cond (.t 18)
(.seq (.reg [⟨some 19, .mov (.t 0), none⟩,
⟨some 20, .call false (.f 157) [(.t 19)], none⟩,
⟨some 8, .mov (.t 20), none⟩,
⟨some 9, .mov (.c (.int .u8 0)), none⟩] [8, 9] [])
.ret)
.skip))
(.seq (.seq (.reg [⟨some 21, .mov (.t 0), none⟩,
⟨some 22, .mov (.t 2), none⟩,
⟨some 23, .call false (.f 231) [(.t 21), (.t 22)], none⟩,
⟨some 24, .mov (.t 23), none⟩,
⟨some 25, .mov (.t 0), some (24, true)⟩,
⟨some 26, .mov (.t 3), some (24, true)⟩,
⟨some 27, .call false (.f 231) [(.t 25), (.t 26)], some (24, true)⟩,
⟨some 28, .pick (.t 24) (.t 27) (.c (.bool false)), none⟩,
⟨some 29, .mov (.t 28), none⟩,
⟨some 30, .mov (.t 0), some (29, false)⟩,
⟨some 31, .mov (.t 2), some (29, false)⟩,
⟨some 32, .call false (.f 232) [(.t 30), (.t 31)], some (29, false)⟩,
⟨some 33, .mov (.t 32), some (29, false)⟩,
⟨some 34, .mov (.t 0), some (33, true)⟩,
⟨some 35, .mov (.t 3), some (33, true)⟩,
⟨some 36, .call false (.f 232) [(.t 34), (.t 35)], some (33, true)⟩,
⟨some 37, .pick (.t 33) (.t 36) (.c (.bool false)), some (29, false)⟩,
⟨some 38, .pick (.t 29) (.c (.bool true)) (.t 37), none⟩] [0, 1, 2, 3, 38] [])
(.cond (.t 38)
(.seq (.reg [⟨some 39, .mov (.t 0), none⟩,
⟨some 40, .call false (.f 157) [(.t 39)], none⟩,
⟨some 8, .mov (.t 40), none⟩,
⟨some 9, .mov (.c (.int .u8 1)), none⟩] [8, 9] [])
.ret)
.skip))
(.seq (.reg [⟨some 41, .mov (.t 0), none⟩,
⟨some 42, .mov (.t 2), none⟩,
⟨some 43, .call false (.f 233) [(.t 41), (.t 42)], none⟩,
⟨some 44, .mov (.t 0), none⟩,
⟨some 45, .mov (.t 3), none⟩,
⟨some 46, .call false (.f 233) [(.t 44), (.t 45)], none⟩,
⟨some 47, .eqb true (.t 43) (.t 46), none⟩,
⟨some 10, .mov (.t 47), none⟩] [0, 1, 2, 3, 10] [])
(.seq (.seq (.reg [⟨some 48, .mov (.t 0), none⟩,
⟨some 49, .mov (.t 2), none⟩,
⟨some 50, .call false (.f 231) [(.t 48), (.t 49)], none⟩] [0, 1, 2, 3, 10, 50] [])
(.cond (.t 50)
(.seq (.reg [⟨some 51, .mov (.t 0), none⟩,
⟨some 52, .mov (.t 10), none⟩,
⟨some 53, .call false (.f 30) [(.t 51), (.t 52)], none⟩,
⟨some 8, .mov (.t 53), none⟩,
⟨some 9, .mov (.c (.int .u8 0)), none⟩] [8, 9] [])
.ret)
.skip))
(.seq (.seq (.reg [⟨some 54, .mov (.t 0), none⟩,
⟨some 55, .mov (.t 3), none⟩,
⟨some 56, .call false (.f 231) [(.t 54), (.t 55)], none⟩,
⟨some 57, .mov (.t 56), none⟩,
⟨some 58, .mov (.t 0), some (57, false)⟩,
⟨some 59, .mov (.t 2), some (57, false)⟩,
⟨some 60, .call false (.f 232) [(.t 58), (.t 59)], some (57, false)⟩,
⟨some 61, .pick (.t 57) (.c (.bool true)) (.t 60), none⟩] [0, 1, 2, 3, 10, 61] [])
(.cond (.t 61)
(.seq (.reg [⟨some 62, .mov (.t 0), none⟩,
⟨some 63, .mov (.t 10), none⟩,
⟨some 64, .call false (.f 38) [(.t 62), (.c (.int .u64 0)), (.t 63)], none⟩,
⟨some 8, .mov (.t 64), none⟩,
⟨some 9, .mov (.c (.int .u8 0)), none⟩] [8, 9] [])
.ret)
.skip))
(.seq (.seq (.reg [⟨some 65, .mov (.t 0), none⟩,
⟨some 66, .mov (.t 3), none⟩,
⟨some 67, .call false (.f 232) [(.t 65), (.t 66)], none⟩] [0, 1, 2, 3, 10, 67] [])
(.cond (.t 67)
(.seq (.reg [⟨some 68, .mov (.t 0), none⟩,
⟨some 69, .mov (.t 10), none⟩,
⟨some 70, .call false (.f 30) [(.t 68), (.t 69)], none⟩,
⟨some 8, .mov (.t 70), none⟩,
⟨some 9, .mov (.c (.int .u8 2)), none⟩] [8, 9] [])
.ret)
.skip))
(.seq (.reg [⟨some 71, .mov (.t 0), none⟩,
⟨some 72, .mov (.t 1), none⟩,
⟨some 73, .mov (.t 0), none⟩,
⟨some 74, .mov (.t 2), none⟩,
⟨some 75, .call false (.f 151) [(.t 73), (.t 74)], none⟩,
⟨some 76, .mov (.t 0), none⟩,
⟨some 77, .mov (.t 3), none⟩,
⟨some 78, .call false (.f 151) [(.t 76), (.t 77)], none⟩,
⟨some 79, .call false (.f 17) [(.t 71), (.t 72), (.t 75), (.t 78)], none⟩,
⟨some 80, .ext (.t 79) 0, none⟩,
⟨some 81, .ext (.t 79) 1, none⟩,
⟨some 8, .mov (.t 80), none⟩,
⟨some 9, .mov (.t 81), none⟩] [8, 9] [])
.ret))))))))⟩

def c_ref05_nan : IFn := ⟨[.tmp 4],
(.seq (.reg [⟨some 4, .mov (.c (.bool false)), none⟩] [0, 1] [])
(.seq (.reg [⟨some 5, .mov (.t 0), none⟩,
⟨some 6, .mov (.t 1), none⟩,
⟨some 7, .call false (.f 155) [(.t 5), (.t 6)], none⟩,
⟨some 8, .bin .eql (.t 7) (.c (.int .u8 5)), none⟩,
⟨some 4, .mov (.t 8), none⟩] [4] [])
.ret))⟩

def c_ref05_inf : IFn := ⟨[.tmp 4],
(.seq (.reg [⟨some 4, .mov (.c (.bool false)), none⟩] [0, 1] [])
(.seq (.reg [⟨some 5, .mov (.t 0), none⟩,
⟨some 6, .mov (.t 1), none⟩,
⟨some 7, .call false (.f 155) [(.t 5), (.t 6)], none⟩,
⟨some 8, .bin .eql (.t 7) (.c (.int .u8 4)), none⟩,
⟨some 4, .mov (.t 8), none⟩] [4] [])
.ret))⟩

def c_ref05_zero : IFn := ⟨[.tmp 4],
(.seq (.reg [⟨some 4, .mov (.c (.bool false)), none⟩] [0, 1] [])
(.seq (.reg [⟨some 5, .mov (.t 0), none⟩,
⟨some 6, .mov (.t 1), none⟩,
⟨some 7, .call false (.f 155) [(.t 5), (.t 6)], none⟩,
⟨some 8, .bin .eql (.t 7) (.c (.int .u8 1)), none⟩,
⟨some 4, .mov (.t 8), none⟩] [4] [])
.ret))⟩

def c_ref05_neg : IFn := ⟨[.tmp 4],
(.seq (.reg [⟨some 4, .mov (.c (.bool false)), none⟩] [0, 1] [])
(.seq (.reg [⟨some 5, .mov (.t 1), none⟩,
⟨some 6, .mov (.t 0), none⟩,
⟨some 7, .call false (.f 73) [(.t 6)], none⟩,
⟨some 8, .bin .geq (.t 5) (.t 7), none⟩,
⟨some 4, .mov (.t 8), none⟩] [4] [])
.ret))⟩

structure HasH (gdb : Nat) (T : Tbl) : Prop where
  law05_SoftProducts : T 212 = some c_law05_SoftProducts
  law05_is : T 217 = some c_law05_is
  soft_Div : T 221 = some c_soft_Div
  ref05_Mul : T 222 = some c_ref05_Mul
  ref05_Div : T 223 = some c_ref05_Div
  ref05_nan : T 230 = some c_ref05_nan
  ref05_inf : T 231 = some c_ref05_inf
  ref05_zero : T 232 = some c_ref05_zero
  ref05_neg : T 233 = some c_ref05_neg
end Go.Cv

/-
  The code of some functions, in the evaluator's form (written by a program from the program's own form).
-/
namespace Go.Cv
end Go.Cv

/-
  The table of all code texts (written by a program).
-/
set_option maxRecDepth 100000
namespace Go.Cv
def tblL (gdb : Nat) : List (Option IFn) := [none,
 none,
 none,
 none,
 none,
 none,
 none,
 some c_round_Round,
 some c_round_Over,
 none,
 some c_ref04_Over,
 none,
 some c_ref04_Round,
 none,
 some c_ref02_Same,
 some c_round_Quo,
 some c_ref02_Sign,
 some c_ref04_Quo,
 none,
 none,
 none,
 some c_round_open,
 some c_dyad_Sign,
 some c_round_partOf,
 some c_round_part_word,
 some c_word_Greatest,
 some c_word_Inf,
 some c_ref03_Is,
 some c_ref04_Is,
 none,
 some c_ref03_Inf,
 some c_ref03_Frac,
 some c_ref02_Top,
 some c_ref03_Low,
 some c_ref04_Taken,
 some c_ref03_Wide,
 some c_ref03_Of,
 some c_ref02_Abs,
 some c_ref03_Signed,
 some c_ref01_Same,
 some c_dyad_Quo,
 some c_ref02_Quo,
 some c_ref04_Beyond,
 none,
 none,
 some c_ref02_Form,
 some c_ref01_Of,
 some c_round_formOf,
 some c_dyad_May,
 some c_nat_Len,
 some c_nat_Shift,
 some c_nat_Num,
 some c_round_part_units,
 some c_bits_Len64,
 some c_dyad_Make,
 some c_nat_Of,
 some c_word_Of,
 some c_word_Zero,
 some c_word_named,
 some c_word_Greatest_1,
 some c_word_shape_inf,
 none,
 some c_ref03_Join,
 some c_ref03_Most,
 some c_ref01_Len,
 some c_ref02_Shift,
 some c_ref02_Floor,
 some c_ref02_Add,
 some c_ref02_Two,
 some c_ref02_Cmp,
 some c_ref02_Sub,
 some c_ref04_half,
 some c_ref01_Up,
 some c_ref03_Sign,
 some c_dyad_both,
 some c_dyad_asked,
 some c_dyad_wide,
 some c_nat_QuoRem,
 some c_dyad_made,
 some c_ref01_QuoRem,
 some c_ref02_Cut,
 none,
 none,
 some c_ref01_Low,
 some c_ref01_Down,
 some c_ref01_Trim,
 some c_nat_May,
 some c_dyad_inside,
 some c_bits_Len32,
 some c_nat_down,
 some c_nat_Low,
 some c_nat_up,
 some c_round_btoi,
 some c_round_up,
 some c_nat_trim,
 some c_word_open,
 some c_word_shape_low,
 some c_word_shape_join,
 some c_word_Zero_1,
 some c_ref01_Add,
 some c_ref01_Cmp,
 some c_ref01_Sub,
 some c_ref02_Neg,
 some c_nat_Sub,
 some c_nat_Cmp,
 some c_nat_Add,
 some c_nat_all,
 some c_nat_cmp,
 some c_nat_small,
 some c_nat_long,
 some c_ref01_byDigit,
 some c_ref01_Bit,
 some c_bits_Add32,
 some c_nat_mul,
 some (c_bits_TrailingZeros32 gdb),
 some c_word_shapeOf,
 some c_nat_sub,
 some c_nat_bound,
 some c_bits_Div32,
 some c_bits_LeadingZeros32,
 some c_nat_step,
 some c_bits_Sub32,
 none,
 none,
 none,
 none,
 none,
 none,
 none,
 none,
 none,
 none,
 none,
 none,
 none,
 none,
 none,
 none,
 none,
 none,
 none,
 none,
 none,
 none,
 none,
 none,
 none,
 none,
 none,
 some c_ref03_Good,
 none,
 some c_ref03_Value,
 none,
 none,
 some c_ref02_Mul,
 some c_ref03_Class,
 some c_ref03_Split,
 some c_ref03_None,
 some c_ref01_Mul,
 none,
 none,
 none,
 some c_ref05_Opens,
 some c_law05_known,
 some c_soft_Add,
 some c_soft_Mul,
 none,
 none,
 none,
 none,
 none,
 none,
 none,
 none,
 none,
 some c_soft_MulAdd,
 some c_soft_open,
 some c_soft_desk_add,
 some c_soft_has,
 some c_soft_desk_none,
 some c_soft_desk_inf,
 some c_soft_desk_zero,
 some c_dyad_Mul,
 some c_soft_desk_sum,
 none,
 none,
 none,
 none,
 none,
 none,
 none,
 none,
 some c_word_Split,
 some c_word_Class,
 some c_word_Value,
 some c_dyad_Add,
 some c_word_None,
 some c_nat_Mul,
 none,
 none,
 some c_word_shape_split,
 some c_word_shape_class,
 some c_word_finite,
 some c_dyad_add,
 some c_word_shape_none,
 some c_dyad_own,
 none,
 some c_dyad_edge,
 some c_dyad_join,
 some c_dyad_halved,
 none,
 none,
 some c_law05_SoftProducts,
 none,
 none,
 none,
 none,
 some c_law05_is,
 none,
 none,
 none,
 some c_soft_Div,
 some c_ref05_Mul,
 some c_ref05_Div,
 none,
 none,
 none,
 none,
 none,
 none,
 some c_ref05_nan,
 some c_ref05_inf,
 some c_ref05_zero,
 some c_ref05_neg,
 none,
 none,
 none,
 none,
 none,
 none,
 none,
 none,
 none,
 none,
 none,
 none,
 none,
 none,
 none,
 none,
 none,
 none,
 none,
 none,
 none,
 none,
 none,
 none,
 none,
 none,
 none,
 none,
 none,
 none,
 none,
 none,
 none,
 none,
 none,
 none,
 none,
 none,
 none,
 none,
 none,
 none,
 none,
 none,
 none,
 none,
 none,
 none,
 none,
 none,
 none,
 none,
 none,
 none,
 none,
 none,
 none,
 none,
 none,
 none,
 none,
 none,
 none,
 none,
 none,
 none,
 none,
 none,
 none,
 none,
 none,
 none,
 none,
 none,
 none,
 none,
 none,
 none,
 none,
 none,
 none,
 none]
def tbl (gdb : Nat) : Tbl := fun n => (tblL gdb).getD n none
theorem hasA (gdb : Nat) : HasA gdb (tbl gdb) := ⟨rfl, rfl, rfl, rfl, rfl, rfl, rfl, rfl, rfl, rfl, rfl, rfl, rfl, rfl, rfl, rfl, rfl, rfl, rfl, rfl, rfl, rfl, rfl, rfl, rfl, rfl, rfl, rfl⟩
theorem hasB (gdb : Nat) : HasB gdb (tbl gdb) := ⟨rfl, rfl, rfl, rfl, rfl, rfl, rfl, rfl, rfl, rfl, rfl, rfl, rfl⟩
theorem hasC (gdb : Nat) : HasC gdb (tbl gdb) := ⟨rfl, rfl, rfl, rfl, rfl, rfl, rfl, rfl, rfl, rfl, rfl, rfl, rfl, rfl, rfl, rfl, rfl, rfl, rfl, rfl, rfl, rfl, rfl⟩
theorem hasD (gdb : Nat) : HasD gdb (tbl gdb) := ⟨rfl, rfl, rfl, rfl, rfl, rfl, rfl, rfl, rfl, rfl, rfl, rfl, rfl, rfl, rfl, rfl, rfl, rfl, rfl, rfl, rfl, rfl⟩
theorem hasE (gdb : Nat) : HasE gdb (tbl gdb) := ⟨rfl, rfl, rfl, rfl, rfl, rfl, rfl, rfl, rfl, rfl, rfl, rfl, rfl, rfl, rfl, rfl, rfl⟩
theorem hasF (gdb : Nat) : HasF gdb (tbl gdb) := ⟨rfl, rfl, rfl, rfl, rfl, rfl, rfl⟩
theorem hasG (gdb : Nat) : HasG gdb (tbl gdb) := ⟨rfl, rfl, rfl, rfl, rfl, rfl, rfl, rfl, rfl, rfl, rfl, rfl, rfl, rfl, rfl, rfl, rfl, rfl, rfl, rfl, rfl, rfl, rfl, rfl, rfl, rfl, rfl, rfl⟩
theorem hasH (gdb : Nat) : HasH gdb (tbl gdb) := ⟨rfl, rfl, rfl, rfl, rfl, rfl, rfl, rfl, rfl⟩
end Go.Cv
