/-
  A part of the proof of the statements of this seat (texts that the law's own text leans on): no condition.
-/
import Derived.Test.YtmjcmppbmolmnaaGreatDoorM1
set_option linter.unusedVariables false
set_option linter.unusedSimpArgs false
/-
  The code of some functions, in the evaluator's form (written by a program from the program's own form).
-/
namespace Go.Cv
def c_strtab0 : List Nat := [0, 1, 2, 2, 3, 3, 3, 3, 4, 4, 4, 4, 4, 4, 4, 4, 5, 5, 5, 5, 5, 5, 5, 5, 5, 5, 5, 5, 5, 5, 5, 5, 6, 6, 6, 6, 6, 6, 6, 6, 6, 6, 6, 6, 6, 6, 6, 6, 6, 6, 6, 6, 6, 6, 6, 6, 6, 6, 6, 6, 6, 6, 6, 6, 7, 7, 7, 7, 7, 7, 7, 7, 7, 7, 7, 7, 7, 7, 7, 7, 7, 7, 7, 7, 7, 7, 7, 7, 7, 7, 7, 7, 7, 7, 7, 7, 7, 7, 7, 7, 7, 7, 7, 7, 7, 7, 7, 7, 7, 7, 7, 7, 7, 7, 7, 7, 7, 7, 7, 7, 7, 7, 7, 7, 7, 7, 7, 7, 8, 8, 8, 8, 8, 8, 8, 8, 8, 8, 8, 8, 8, 8, 8, 8, 8, 8, 8, 8, 8, 8, 8, 8, 8, 8, 8, 8, 8, 8, 8, 8, 8, 8, 8, 8, 8, 8, 8, 8, 8, 8, 8, 8, 8, 8, 8, 8, 8, 8, 8, 8, 8, 8, 8, 8, 8, 8, 8, 8, 8, 8, 8, 8, 8, 8, 8, 8, 8, 8, 8, 8, 8, 8, 8, 8, 8, 8, 8, 8, 8, 8, 8, 8, 8, 8, 8, 8, 8, 8, 8, 8, 8, 8, 8, 8, 8, 8, 8, 8, 8, 8, 8, 8, 8, 8, 8, 8, 8, 8, 8, 8, 8, 8, 8, 8, 8, 8, 8, 8, 8, 8, 8, 8, 8, 8, 8, 8]
def c_nat_Len : IFn := ⟨[.tmp 2],
(.seq (.reg [⟨some 2, .mov (.c (.int .i64 0)), none⟩] [0] [])
(.seq (.seq (.reg [⟨some 3, .mov (.t 0), none⟩,
⟨some 4, .call false (.f 86) [(.t 3)], none⟩,
⟨some 5, .un .not (.t 4), none⟩,
⟨some 6, .mov (.t 5), none⟩,
⟨some 7, .mov (.t 0), some (6, false)⟩,
⟨some 8, .len (.t 7), some (6, false)⟩,
⟨some 9, .bin .eql (.t 8) (.c (.int .i64 0)), some (6, false)⟩,
⟨some 10, .pick (.t 6) (.c (.bool true)) (.t 9), none⟩] [0, 10] [])
(.cond (.t 10)
(.seq (.reg [⟨some 2, .mov (.c (.int .i64 0)), none⟩] [2] [])
.ret)
.skip))
(.seq (.reg [⟨some 11, .mov (.t 0), none⟩,
⟨some 12, .len (.t 11), none⟩,
⟨some 13, .bin .sub (.t 12) (.c (.int .i64 1)), none⟩,
⟨some 14, .bin .mul (.c (.int .i64 32)) (.t 13), none⟩,
⟨some 15, .mov (.t 0), none⟩,
⟨some 16, .mov (.t 0), none⟩,
⟨some 17, .len (.t 16), none⟩,
⟨some 18, .bin .sub (.t 17) (.c (.int .i64 1)), none⟩,
⟨some 19, .iaddr 1 (.t 15) (.t 18), none⟩,
⟨some 20, .load false 1 (.t 19), none⟩,
⟨some 21, .call false (.f 88) [(.t 20)], none⟩,
⟨some 22, .bin .add (.t 14) (.t 21), none⟩,
⟨some 2, .mov (.t 22), none⟩] [2] [])
.ret)))⟩

def c_nat_Shift : IFn := ⟨[.tmp 4, .tmp 5, .tmp 6],
(.seq (.reg [⟨some 4, .mov (.c .nil), none⟩,
⟨some 5, .mov (.c (.bool false)), none⟩,
⟨some 6, .mov (.c (.int .i64 0)), none⟩] [0, 1] [])
(.seq (.block 0
(.seq (.reg [⟨some 8, .mov (.t 0), none⟩,
⟨some 9, .call false (.f 86) [(.t 8)], none⟩,
⟨some 10, .un .not (.t 9), none⟩,
⟨some 7, .mov (.t 10), none⟩] [0, 1, 7] [])
(.cond (.t 7)
(.seq (.reg [⟨some 4, .mov (.c .nil), none⟩,
⟨some 5, .mov (.c (.bool false)), none⟩,
⟨some 6, .mov (.c (.int .i64 2)), none⟩] [4, 5, 6] [])
.ret)
(.seq (.reg [⟨some 12, .mov (.t 0), none⟩,
⟨some 13, .len (.t 12), none⟩,
⟨some 14, .bin .eql (.t 13) (.c (.int .i64 0)), none⟩,
⟨some 11, .mov (.t 14), none⟩] [0, 1, 11] [])
(.cond (.t 11)
(.seq (.reg [⟨some 4, .mov (.c .nil), none⟩,
⟨some 5, .mov (.c (.bool false)), none⟩,
⟨some 6, .mov (.c (.int .i64 0)), none⟩] [4, 5, 6] [])
.ret)
(.seq (.reg [⟨some 16, .mov (.t 1), none⟩,
⟨some 17, .bin .lss (.t 16) (.c (.int .i64 (-131072))), none⟩,
⟨some 15, .mov (.t 17), none⟩] [0, 1, 15] [])
(.cond (.t 15)
(.seq (.reg [⟨some 4, .mov (.c .nil), none⟩,
⟨some 5, .mov (.c (.bool true)), none⟩,
⟨some 6, .mov (.c (.int .i64 0)), none⟩] [4, 5, 6] [])
.ret)
(.seq (.reg [⟨some 19, .mov (.t 1), none⟩,
⟨some 20, .bin .lss (.t 19) (.c (.int .i64 0)), none⟩,
⟨some 18, .mov (.t 20), none⟩] [0, 1, 18] [])
(.cond (.t 18)
(.seq (.reg [⟨some 21, .mov (.t 0), none⟩,
⟨some 22, .mov (.t 1), none⟩,
⟨some 23, .un .neg (.t 22), none⟩,
⟨some 24, .call false (.f 89) [(.t 21), (.t 23)], none⟩,
⟨some 25, .mov (.t 0), none⟩,
⟨some 26, .call false (.f 90) [(.t 25)], none⟩,
⟨some 27, .mov (.t 1), none⟩,
⟨some 28, .un .neg (.t 27), none⟩,
⟨some 29, .bin .lss (.t 26) (.t 28), none⟩,
⟨some 4, .mov (.t 24), none⟩,
⟨some 5, .mov (.t 29), none⟩,
⟨some 6, .mov (.c (.int .i64 0)), none⟩] [4, 5, 6] [])
.ret)
(.seq (.reg [⟨some 31, .mov (.t 1), none⟩,
⟨some 32, .mov (.t 0), none⟩,
⟨some 33, .call false (.f 49) [(.t 32)], none⟩,
⟨some 34, .bin .sub (.c (.int .i64 131072)) (.t 33), none⟩,
⟨some 35, .bin .gtr (.t 31) (.t 34), none⟩,
⟨some 30, .mov (.t 35), none⟩] [0, 1, 30] [])
(.cond (.t 30)
(.seq (.reg [⟨some 4, .mov (.c .nil), none⟩,
⟨some 5, .mov (.c (.bool false)), none⟩,
⟨some 6, .mov (.c (.int .i64 3)), none⟩] [4, 5, 6] [])
.ret)
.skip)))))))))))
(.seq (.reg [⟨some 36, .mov (.t 0), none⟩,
⟨some 37, .mov (.t 1), none⟩,
⟨some 38, .call false (.f 91) [(.t 36), (.t 37)], none⟩,
⟨some 4, .mov (.t 38), none⟩,
⟨some 5, .mov (.c (.bool false)), none⟩,
⟨some 6, .mov (.c (.int .i64 0)), none⟩] [4, 5, 6] [])
.ret)))⟩

def c_nat_Num_b1 : IC :=
(.seq (.reg [⟨some 18, .bin .lss (.t 17) (.t 16), none⟩] [4, 15, 16, 17, 18] [])
(.seq (.cond (.t 18)
.skip
(.exit 0))
(.seq (.block 1
(.seq (.reg [⟨some 19, .mov (.t 17), none⟩,
⟨some 20, .iaddr 1 (.t 15) (.t 17), none⟩,
⟨some 21, .load false 1 (.t 20), none⟩,
⟨some 5, .mov (.t 19), none⟩,
⟨some 6, .mov (.t 21), none⟩] [4, 5, 6, 15, 16, 17] [])
(.reg [⟨some 22, .mov (.t 4), none⟩,
⟨some 23, .mov (.t 6), none⟩,
⟨some 24, .cvt .u64 (.t 23), none⟩,
⟨some 25, .mov (.t 5), none⟩,
⟨some 26, .bin .mul (.c (.int .i64 32)) (.t 25), none⟩,
⟨some 27, .bin .shl (.t 24) (.t 26), none⟩,
⟨some 28, .bin .or (.t 22) (.t 27), none⟩,
⟨some 4, .mov (.t 28), none⟩] [4, 15, 16, 17] [])))
(.reg [⟨some 29, .bin .add (.t 17) (.c (.int .i64 1)), none⟩,
⟨some 17, .mov (.t 29), none⟩] [4, 15, 16, 17] []))))
def c_nat_Num_l1 : IC := .loop [4, 15, 16, 17] c_nat_Num_b1
def c_nat_Num : IFn := ⟨[.tmp 2, .tmp 3],
(.seq (.reg [⟨some 2, .mov (.c (.int .u64 0)), none⟩,
⟨some 3, .mov (.c (.bool false)), none⟩] [0] [])
(.seq (.seq (.reg [⟨some 7, .mov (.t 0), none⟩,
⟨some 8, .call false (.f 86) [(.t 7)], none⟩,
⟨some 9, .un .not (.t 8), none⟩,
⟨some 10, .mov (.t 9), none⟩,
⟨some 11, .mov (.t 0), some (10, false)⟩,
⟨some 12, .len (.t 11), some (10, false)⟩,
⟨some 13, .bin .gtr (.t 12) (.c (.int .i64 2)), some (10, false)⟩,
⟨some 14, .pick (.t 10) (.c (.bool true)) (.t 13), none⟩] [0, 14] [])
(.cond (.t 14)
(.seq (.reg [⟨some 2, .mov (.c (.int .u64 0)), none⟩,
⟨some 3, .mov (.c (.bool false)), none⟩] [2, 3] [])
.ret)
.skip))
(.seq (.reg [⟨some 4, .mov (.c (.int .u64 0)), none⟩] [0, 4] [])
(.seq (.seq (.reg [⟨some 15, .mov (.t 0), none⟩,
⟨some 16, .len (.t 15), none⟩,
⟨some 17, .mov (.c (.int .i64 0)), none⟩] [4, 15, 16, 17] [])
(.block 0
 c_nat_Num_l1))
(.seq (.reg [⟨some 30, .mov (.t 4), none⟩,
⟨some 2, .mov (.t 30), none⟩,
⟨some 3, .mov (.c (.bool true)), none⟩] [2, 3] [])
.ret)))))⟩

def c_bits_Len64 : IFn := ⟨[.tmp 2],
(.seq (.reg [⟨some 2, .mov (.c (.int .i64 0)), none⟩] [0, 2] [])
(.seq (.seq (.reg [⟨some 3, .mov (.t 0), none⟩,
⟨some 4, .bin .geq (.t 3) (.c (.int .u64 4294967296)), none⟩] [0, 2, 4] [])
(.cond (.t 4)
(.seq (.reg [⟨some 5, .mov (.t 0), none⟩,
⟨some 6, .bin .shr (.t 5) (.c (.int .u64 32)), none⟩,
⟨some 0, .mov (.t 6), none⟩] [0] [])
(.reg [⟨some 2, .mov (.c (.int .i64 32)), none⟩] [0, 2] []))
.skip))
(.seq (.seq (.reg [⟨some 7, .mov (.t 0), none⟩,
⟨some 8, .bin .geq (.t 7) (.c (.int .u64 65536)), none⟩] [0, 2, 8] [])
(.cond (.t 8)
(.seq (.reg [⟨some 9, .mov (.t 0), none⟩,
⟨some 10, .bin .shr (.t 9) (.c (.int .u64 16)), none⟩,
⟨some 0, .mov (.t 10), none⟩] [0, 2] [])
(.reg [⟨some 11, .mov (.t 2), none⟩,
⟨some 12, .bin .add (.t 11) (.c (.int .i64 16)), none⟩,
⟨some 2, .mov (.t 12), none⟩] [0, 2] []))
.skip))
(.seq (.seq (.reg [⟨some 13, .mov (.t 0), none⟩,
⟨some 14, .bin .geq (.t 13) (.c (.int .u64 256)), none⟩] [0, 2, 14] [])
(.cond (.t 14)
(.seq (.reg [⟨some 15, .mov (.t 0), none⟩,
⟨some 16, .bin .shr (.t 15) (.c (.int .u64 8)), none⟩,
⟨some 0, .mov (.t 16), none⟩] [0, 2] [])
(.reg [⟨some 17, .mov (.t 2), none⟩,
⟨some 18, .bin .add (.t 17) (.c (.int .i64 8)), none⟩,
⟨some 2, .mov (.t 18), none⟩] [0, 2] []))
.skip))
(.seq (.reg [⟨some 19, .mov (.t 2), none⟩,
⟨some 20, .mov (.t 0), none⟩,
⟨some 21, .cvt .u8 (.t 20), none⟩,
⟨some 22, .strix c_strtab0 (.t 21), none⟩,
⟨some 23, .cvt .i64 (.t 22), none⟩,
⟨some 24, .bin .add (.t 19) (.t 23), none⟩,
⟨some 2, .mov (.t 24), none⟩] [2] [])
.ret)))))⟩

def c_nat_Of : IFn := ⟨[.tmp 2],
(.seq (.reg [⟨some 2, .mov (.c .nil), none⟩] [0] [])
(.seq (.reg [⟨some 3, .mov (.t 0), none⟩,
⟨some 4, .cvt .u32 (.t 3), none⟩,
⟨some 5, .mov (.t 0), none⟩,
⟨some 6, .bin .shr (.t 5) (.c (.int .u64 32)), none⟩,
⟨some 7, .cvt .u32 (.t 6), none⟩,
⟨some 8, .bslice 2 1 [(.int .u32 0)] [(0, 1, (.t 4)), (1, 1, (.t 7))], none⟩,
⟨some 9, .call false (.f 94) [(.t 8)], none⟩,
⟨some 2, .mov (.t 9), none⟩] [2] [])
.ret))⟩

def c_nat_QuoRem : IFn := ⟨[.tmp 4, .tmp 5, .tmp 6],
(.seq (.reg [⟨some 4, .mov (.c .nil), none⟩,
⟨some 5, .mov (.c .nil), none⟩,
⟨some 6, .mov (.c (.int .i64 0)), none⟩] [0, 1] [])
(.seq (.seq (.reg [⟨some 9, .mov (.t 0), none⟩,
⟨some 10, .mov (.t 1), none⟩,
⟨some 11, .bslice 2 1 [.nil] [(0, 1, (.t 9)), (1, 1, (.t 10))], none⟩,
⟨some 12, .call false (.f 106) [(.t 11)], none⟩,
⟨some 13, .un .not (.t 12), none⟩] [0, 1, 13] [])
(.cond (.t 13)
(.seq (.reg [⟨some 4, .mov (.c .nil), none⟩,
⟨some 5, .mov (.c .nil), none⟩,
⟨some 6, .mov (.c (.int .i64 2)), none⟩] [4, 5, 6] [])
.ret)
.skip))
(.seq (.block 0
(.seq (.reg [⟨some 15, .mov (.t 1), none⟩,
⟨some 16, .len (.t 15), none⟩,
⟨some 17, .bin .eql (.t 16) (.c (.int .i64 0)), none⟩,
⟨some 14, .mov (.t 17), none⟩] [0, 1, 14] [])
(.cond (.t 14)
(.seq (.reg [⟨some 4, .mov (.c .nil), none⟩,
⟨some 5, .mov (.c .nil), none⟩,
⟨some 6, .mov (.c (.int .i64 11)), none⟩] [4, 5, 6] [])
.ret)
(.seq (.reg [⟨some 19, .mov (.t 0), none⟩,
⟨some 20, .mov (.t 1), none⟩,
⟨some 21, .call false (.f 107) [(.t 19), (.t 20)], none⟩,
⟨some 22, .bin .lss (.t 21) (.c (.int .i64 0)), none⟩,
⟨some 18, .mov (.t 22), none⟩] [0, 1, 18] [])
(.cond (.t 18)
(.seq (.reg [⟨some 23, .mov (.t 0), none⟩,
⟨some 24, .app 1 4 (.c .nil) (.t 23), none⟩,
⟨some 4, .mov (.c .nil), none⟩,
⟨some 5, .mov (.t 24), none⟩,
⟨some 6, .mov (.c (.int .i64 0)), none⟩] [4, 5, 6] [])
.ret)
(.seq (.reg [⟨some 26, .mov (.t 1), none⟩,
⟨some 27, .len (.t 26), none⟩,
⟨some 28, .bin .eql (.t 27) (.c (.int .i64 1)), none⟩,
⟨some 25, .mov (.t 28), none⟩] [0, 1, 25] [])
(.cond (.t 25)
(.seq (.reg [⟨some 30, .mov (.t 0), none⟩,
⟨some 31, .mov (.t 1), none⟩,
⟨some 32, .iaddr 1 (.t 31) (.c (.int .i64 0)), none⟩,
⟨some 33, .load false 1 (.t 32), none⟩,
⟨some 34, .call false (.f 108) [(.t 30), (.t 33)], none⟩,
⟨some 29, .mov (.t 34), none⟩,
⟨some 35, .ext (.t 29) 0, none⟩,
⟨some 36, .ext (.t 29) 1, none⟩,
⟨some 7, .mov (.t 35), none⟩,
⟨some 8, .mov (.t 36), none⟩] [7, 8] [])
(.seq (.reg [⟨some 37, .mov (.t 7), none⟩,
⟨some 38, .mov (.t 8), none⟩,
⟨some 39, .bslice 1 1 [(.int .u32 0)] [(0, 1, (.t 38))], none⟩,
⟨some 40, .call false (.f 94) [(.t 39)], none⟩,
⟨some 4, .mov (.t 37), none⟩,
⟨some 5, .mov (.t 40), none⟩,
⟨some 6, .mov (.c (.int .i64 0)), none⟩] [4, 5, 6] [])
.ret))
.skip)))))))
(.seq (.reg [⟨some 42, .mov (.t 0), none⟩,
⟨some 43, .mov (.t 1), none⟩,
⟨some 44, .call false (.f 109) [(.t 42), (.t 43)], none⟩,
⟨some 41, .mov (.t 44), none⟩,
⟨some 45, .ext (.t 41) 0, none⟩,
⟨some 46, .ext (.t 41) 1, none⟩,
⟨some 4, .mov (.t 45), none⟩,
⟨some 5, .mov (.t 46), none⟩] [4, 5] [])
(.seq (.reg [⟨some 47, .mov (.t 4), none⟩,
⟨some 48, .mov (.t 5), none⟩,
⟨some 4, .mov (.t 47), none⟩,
⟨some 5, .mov (.t 48), none⟩,
⟨some 6, .mov (.c (.int .i64 0)), none⟩] [4, 5, 6] [])
.ret)))))⟩

def c_nat_Root_b1 : IC :=
(.seq (.reg [⟨some 44, .bin .lss (.t 43) (.t 42), none⟩] [0, 5, 6, 9, 10, 42, 43, 44] [])
(.seq (.cond (.t 44)
.skip
(.exit 2))
(.seq (.block 3
(.seq (.reg [⟨some 45, .mov (.t 43), none⟩,
⟨some 11, .mov (.t 45), none⟩] [0, 5, 6, 9, 10, 11, 42, 43] [])
(.seq (.reg [⟨some 12, .mov (.c (.int .u32 0)), none⟩,
⟨some 13, .mov (.c (.int .u32 0)), none⟩] [0, 5, 6, 9, 10, 11, 12, 13, 42, 43] [])
(.seq (.seq (.reg [⟨some 46, .mov (.t 11), none⟩,
⟨some 47, .mov (.t 6), none⟩,
⟨some 48, .len (.t 47), none⟩,
⟨some 49, .bin .lss (.t 46) (.t 48), none⟩] [0, 5, 6, 9, 10, 11, 12, 13, 42, 43, 49] [])
(.cond (.t 49)
(.reg [⟨some 50, .mov (.t 6), none⟩,
⟨some 51, .mov (.t 11), none⟩,
⟨some 52, .iaddr 1 (.t 50) (.t 51), none⟩,
⟨some 53, .load false 1 (.t 52), none⟩,
⟨some 12, .mov (.t 53), none⟩] [0, 5, 6, 9, 10, 11, 12, 13, 42, 43] [])
.skip))
(.seq (.seq (.reg [⟨some 54, .mov (.t 11), none⟩,
⟨some 55, .mov (.t 5), none⟩,
⟨some 56, .len (.t 55), none⟩,
⟨some 57, .bin .lss (.t 54) (.t 56), none⟩] [0, 5, 6, 9, 10, 11, 12, 13, 42, 43, 57] [])
(.cond (.t 57)
(.reg [⟨some 58, .mov (.t 5), none⟩,
⟨some 59, .mov (.t 11), none⟩,
⟨some 60, .iaddr 1 (.t 58) (.t 59), none⟩,
⟨some 61, .load false 1 (.t 60), none⟩,
⟨some 13, .mov (.t 61), none⟩] [0, 5, 6, 9, 10, 11, 12, 13, 42, 43] [])
.skip))
(.reg [⟨some 63, .mov (.t 9), none⟩,
⟨some 64, .mov (.t 11), none⟩,
⟨some 65, .mov (.t 12), none⟩,
⟨some 66, .mov (.t 13), none⟩,
⟨some 67, .mov (.t 10), none⟩,
⟨some 68, .call false (.f 112) [(.t 65), (.t 66), (.t 67)], none⟩,
⟨some 62, .mov (.t 68), none⟩,
⟨some 69, .ext (.t 62) 0, none⟩,
⟨some 70, .ext (.t 62) 1, none⟩,
⟨some 71, .iaddr 1 (.t 63) (.t 64), none⟩,
⟨none, .store 1 (.t 71) (.t 69), none⟩,
⟨some 10, .mov (.t 70), none⟩] [0, 5, 6, 9, 10, 42, 43] []))))))
(.reg [⟨some 72, .bin .add (.t 43) (.c (.int .i64 1)), none⟩,
⟨some 43, .mov (.t 72), none⟩] [0, 5, 6, 9, 10, 42, 43] []))))
def c_nat_Root_l1 : IC := .loop [0, 5, 6, 9, 10, 42, 43] c_nat_Root_b1
def c_nat_Root_b2 : IC :=
(.block 1
(.seq (.reg [⟨some 28, .mov (.t 0), none⟩,
⟨some 29, .mov (.t 5), none⟩,
⟨some 30, .call false (.f 77) [(.t 28), (.t 29)], none⟩,
⟨some 27, .mov (.t 30), none⟩,
⟨some 31, .ext (.t 27) 0, none⟩,
⟨some 32, .ext (.t 27) 1, none⟩,
⟨some 33, .ext (.t 27) 2, none⟩,
⟨some 6, .mov (.t 31), none⟩,
⟨some 7, .mov (.t 32), none⟩,
⟨some 8, .mov (.t 33), none⟩] [0, 5, 6] [])
(.seq (.reg [⟨some 34, .mov (.t 6), none⟩,
⟨some 35, .len (.t 34), none⟩,
⟨some 36, .mov (.t 5), none⟩,
⟨some 37, .len (.t 36), none⟩,
⟨some 38, .mm true (.t 35) [(.t 37)], none⟩,
⟨some 39, .bin .add (.t 38) (.c (.int .i64 1)), none⟩,
⟨some 40, .mk 1 4 [(.int .u32 0)] (.t 39) (.t 39), none⟩,
⟨some 9, .mov (.t 40), none⟩] [0, 5, 6, 9] [])
(.seq (.reg [⟨some 10, .mov (.c (.int .u32 0)), none⟩] [0, 5, 6, 9, 10] [])
(.seq (.seq (.reg [⟨some 41, .mov (.t 9), none⟩,
⟨some 42, .len (.t 41), none⟩,
⟨some 43, .mov (.c (.int .i64 0)), none⟩] [0, 5, 6, 9, 10, 42, 43] [])
(.block 2
 c_nat_Root_l1))
(.seq (.reg [⟨some 73, .mov (.t 9), none⟩,
⟨some 74, .call false (.f 94) [(.t 73)], none⟩,
⟨some 75, .call false (.f 89) [(.t 74), (.c (.int .i64 1))], none⟩,
⟨some 14, .mov (.t 75), none⟩] [0, 5, 14] [])
(.seq (.seq (.reg [⟨some 76, .mov (.t 14), none⟩,
⟨some 77, .mov (.t 5), none⟩,
⟨some 78, .call false (.f 107) [(.t 76), (.t 77)], none⟩,
⟨some 79, .bin .geq (.t 78) (.c (.int .i64 0)), none⟩] [0, 5, 14, 79] [])
(.cond (.t 79)
(.seq (.reg [⟨some 80, .mov (.t 5), none⟩,
⟨some 81, .mov (.t 5), none⟩,
⟨some 82, .mov (.t 5), none⟩,
⟨some 83, .call false (.f 113) [(.t 81), (.t 82)], none⟩,
⟨some 84, .mov (.t 0), none⟩,
⟨some 85, .call false (.f 107) [(.t 83), (.t 84)], none⟩,
⟨some 86, .bin .eql (.t 85) (.c (.int .i64 0)), none⟩,
⟨some 2, .mov (.t 80), none⟩,
⟨some 3, .mov (.t 86), none⟩,
⟨some 4, .mov (.c (.int .i64 0)), none⟩] [2, 3, 4] [])
.ret)
.skip))
(.reg [⟨some 87, .mov (.t 14), none⟩,
⟨some 5, .mov (.t 87), none⟩] [0, 5] []))))))))
def c_nat_Root_l2 : IC := .loop [0, 5] c_nat_Root_b2
def c_nat_Root : IFn := ⟨[.tmp 2, .tmp 3, .tmp 4],
(.seq (.reg [⟨some 2, .mov (.c .nil), none⟩,
⟨some 3, .mov (.c (.bool false)), none⟩,
⟨some 4, .mov (.c (.int .i64 0)), none⟩] [0] [])
(.seq (.seq (.reg [⟨some 15, .mov (.t 0), none⟩,
⟨some 16, .call false (.f 86) [(.t 15)], none⟩,
⟨some 17, .un .not (.t 16), none⟩] [0, 17] [])
(.cond (.t 17)
(.seq (.reg [⟨some 2, .mov (.c .nil), none⟩,
⟨some 3, .mov (.c (.bool false)), none⟩,
⟨some 4, .mov (.c (.int .i64 2)), none⟩] [2, 3, 4] [])
.ret)
.skip))
(.seq (.seq (.reg [⟨some 18, .mov (.t 0), none⟩,
⟨some 19, .len (.t 18), none⟩,
⟨some 20, .bin .eql (.t 19) (.c (.int .i64 0)), none⟩] [0, 20] [])
(.cond (.t 20)
(.seq (.reg [⟨some 2, .mov (.c .nil), none⟩,
⟨some 3, .mov (.c (.bool true)), none⟩,
⟨some 4, .mov (.c (.int .i64 0)), none⟩] [2, 3, 4] [])
.ret)
.skip))
(.seq (.reg [⟨some 21, .bslice 1 1 [(.int .u32 0)] [(0, 1, (.c (.int .u32 1)))], none⟩,
⟨some 22, .mov (.t 0), none⟩,
⟨some 23, .call false (.f 49) [(.t 22)], none⟩,
⟨some 24, .bin .add (.t 23) (.c (.int .i64 1)), none⟩,
⟨some 25, .bin .quo (.t 24) (.c (.int .i64 2)), none⟩,
⟨some 26, .call false (.f 91) [(.t 21), (.t 25)], none⟩,
⟨some 5, .mov (.t 26), none⟩] [0, 5] [])
(.block 0
 c_nat_Root_l2)))))⟩

def c_nat_May : IFn := ⟨[.tmp 2],
(.seq (.reg [⟨some 2, .mov (.c (.bool false)), none⟩] [0] [])
(.seq (.reg [⟨some 3, .mov (.t 0), none⟩,
⟨some 4, .len (.t 3), none⟩,
⟨some 5, .bin .leq (.t 4) (.c (.int .i64 4096)), none⟩,
⟨some 6, .mov (.t 5), none⟩,
⟨some 7, .mov (.t 0), some (6, true)⟩,
⟨some 8, .len (.t 7), some (6, true)⟩,
⟨some 9, .bin .eql (.t 8) (.c (.int .i64 0)), some (6, true)⟩,
⟨some 10, .mov (.t 9), some (6, true)⟩,
⟨some 11, .mov (.t 0), some (10, false)⟩,
⟨some 12, .mov (.t 0), some (10, false)⟩,
⟨some 13, .len (.t 12), some (10, false)⟩,
⟨some 14, .bin .sub (.t 13) (.c (.int .i64 1)), some (10, false)⟩,
⟨some 15, .iaddr 1 (.t 11) (.t 14), some (10, false)⟩,
⟨some 16, .load false 1 (.t 15), some (10, false)⟩,
⟨some 17, .bin .neq (.t 16) (.c (.int .u32 0)), some (10, false)⟩,
⟨some 18, .pick (.t 10) (.c (.bool true)) (.t 17), some (6, true)⟩,
⟨some 19, .pick (.t 6) (.t 18) (.c (.bool false)), none⟩,
⟨some 2, .mov (.t 19), none⟩] [2] [])
.ret))⟩

def c_bits_Len32 : IFn := ⟨[.tmp 2],
(.seq (.reg [⟨some 2, .mov (.c (.int .i64 0)), none⟩] [0, 2] [])
(.seq (.seq (.reg [⟨some 3, .mov (.t 0), none⟩,
⟨some 4, .bin .geq (.t 3) (.c (.int .u32 65536)), none⟩] [0, 2, 4] [])
(.cond (.t 4)
(.seq (.reg [⟨some 5, .mov (.t 0), none⟩,
⟨some 6, .bin .shr (.t 5) (.c (.int .u64 16)), none⟩,
⟨some 0, .mov (.t 6), none⟩] [0] [])
(.reg [⟨some 2, .mov (.c (.int .i64 16)), none⟩] [0, 2] []))
.skip))
(.seq (.seq (.reg [⟨some 7, .mov (.t 0), none⟩,
⟨some 8, .bin .geq (.t 7) (.c (.int .u32 256)), none⟩] [0, 2, 8] [])
(.cond (.t 8)
(.seq (.reg [⟨some 9, .mov (.t 0), none⟩,
⟨some 10, .bin .shr (.t 9) (.c (.int .u64 8)), none⟩,
⟨some 0, .mov (.t 10), none⟩] [0, 2] [])
(.reg [⟨some 11, .mov (.t 2), none⟩,
⟨some 12, .bin .add (.t 11) (.c (.int .i64 8)), none⟩,
⟨some 2, .mov (.t 12), none⟩] [0, 2] []))
.skip))
(.seq (.reg [⟨some 13, .mov (.t 2), none⟩,
⟨some 14, .mov (.t 0), none⟩,
⟨some 15, .cvt .u8 (.t 14), none⟩,
⟨some 16, .strix c_strtab0 (.t 15), none⟩,
⟨some 17, .cvt .i64 (.t 16), none⟩,
⟨some 18, .bin .add (.t 13) (.t 17), none⟩,
⟨some 2, .mov (.t 18), none⟩] [2] [])
.ret))))⟩

def c_nat_down_b1 : IC :=
(.seq (.reg [⟨some 26, .bin .lss (.t 25) (.t 24), none⟩] [0, 5, 6, 23, 24, 25, 26] [])
(.seq (.cond (.t 26)
.skip
(.exit 0))
(.seq (.block 1
(.seq (.reg [⟨some 27, .mov (.t 25), none⟩,
⟨some 28, .iaddr 1 (.t 23) (.t 25), none⟩,
⟨some 29, .load false 1 (.t 28), none⟩,
⟨some 7, .mov (.t 27), none⟩,
⟨some 8, .mov (.t 29), none⟩] [0, 5, 6, 7, 8, 23, 24, 25] [])
(.seq (.reg [⟨some 30, .mov (.t 6), none⟩,
⟨some 31, .mov (.t 7), none⟩,
⟨some 32, .mov (.t 8), none⟩,
⟨some 33, .mov (.t 5), none⟩,
⟨some 34, .bin .shr (.t 32) (.t 33), none⟩,
⟨some 35, .iaddr 1 (.t 30) (.t 31), none⟩,
⟨none, .store 1 (.t 35) (.t 34), none⟩] [0, 5, 6, 7, 23, 24, 25] [])
(.seq (.reg [⟨some 36, .mov (.t 7), none⟩,
⟨some 37, .bin .add (.t 36) (.c (.int .i64 1)), none⟩,
⟨some 38, .mov (.t 0), none⟩,
⟨some 39, .len (.t 38), none⟩,
⟨some 40, .bin .lss (.t 37) (.t 39), none⟩] [0, 5, 6, 7, 23, 24, 25, 40] [])
(.cond (.t 40)
(.reg [⟨some 41, .mov (.t 6), none⟩,
⟨some 42, .mov (.t 7), none⟩,
⟨some 43, .iaddr 1 (.t 41) (.t 42), none⟩,
⟨some 44, .load false 1 (.t 43), none⟩,
⟨some 45, .mov (.t 0), none⟩,
⟨some 46, .mov (.t 7), none⟩,
⟨some 47, .bin .add (.t 46) (.c (.int .i64 1)), none⟩,
⟨some 48, .iaddr 1 (.t 45) (.t 47), none⟩,
⟨some 49, .load false 1 (.t 48), none⟩,
⟨some 50, .cvt .u64 (.t 49), none⟩,
⟨some 51, .mov (.t 5), none⟩,
⟨some 52, .bin .sub (.c (.int .i64 32)) (.t 51), none⟩,
⟨some 53, .bin .shl (.t 50) (.t 52), none⟩,
⟨some 54, .cvt .u32 (.t 53), none⟩,
⟨some 55, .bin .or (.t 44) (.t 54), none⟩,
⟨some 56, .iaddr 1 (.t 41) (.t 42), none⟩,
⟨none, .store 1 (.t 56) (.t 55), none⟩] [0, 5, 6, 23, 24, 25] [])
.skip)))))
(.reg [⟨some 57, .bin .add (.t 25) (.c (.int .i64 1)), none⟩,
⟨some 25, .mov (.t 57), none⟩] [0, 5, 6, 23, 24, 25] []))))
def c_nat_down_l1 : IC := .loop [0, 5, 6, 23, 24, 25] c_nat_down_b1
def c_nat_down : IFn := ⟨[.tmp 4],
(.seq (.reg [⟨some 4, .mov (.c .nil), none⟩] [0, 1] [])
(.seq (.seq (.reg [⟨some 9, .mov (.t 1), none⟩,
⟨some 10, .bin .quo (.t 9) (.c (.int .i64 32)), none⟩,
⟨some 11, .mov (.t 0), none⟩,
⟨some 12, .len (.t 11), none⟩,
⟨some 13, .bin .geq (.t 10) (.t 12), none⟩] [0, 1, 13] [])
(.cond (.t 13)
(.seq (.reg [⟨some 4, .mov (.c .nil), none⟩] [4] [])
.ret)
.skip))
(.seq (.reg [⟨some 14, .mov (.t 0), none⟩,
⟨some 15, .mov (.t 1), none⟩,
⟨some 16, .bin .quo (.t 15) (.c (.int .i64 32)), none⟩,
⟨some 17, .slice 1 (.t 14) (some (.t 16)) none, none⟩,
⟨some 0, .mov (.t 17), none⟩] [0, 1] [])
(.seq (.reg [⟨some 18, .mov (.t 1), none⟩,
⟨some 19, .bin .rem (.t 18) (.c (.int .i64 32)), none⟩,
⟨some 5, .mov (.t 19), none⟩] [0, 5] [])
(.seq (.reg [⟨some 20, .mov (.t 0), none⟩,
⟨some 21, .len (.t 20), none⟩,
⟨some 22, .mk 1 4 [(.int .u32 0)] (.t 21) (.t 21), none⟩,
⟨some 6, .mov (.t 22), none⟩] [0, 5, 6] [])
(.seq (.seq (.reg [⟨some 23, .mov (.t 0), none⟩,
⟨some 24, .len (.t 23), none⟩,
⟨some 25, .mov (.c (.int .i64 0)), none⟩] [0, 5, 6, 23, 24, 25] [])
(.block 0
 c_nat_down_l1))
(.seq (.reg [⟨some 58, .mov (.t 6), none⟩,
⟨some 59, .call false (.f 94) [(.t 58)], none⟩,
⟨some 4, .mov (.t 59), none⟩] [4] [])
.ret)))))))⟩

def c_nat_Low_b1 : IC :=
(.seq (.reg [⟨some 11, .bin .lss (.t 10) (.t 9), none⟩] [8, 9, 10, 11] [])
(.seq (.cond (.t 11)
.skip
(.exit 0))
(.seq (.block 1
(.seq (.reg [⟨some 12, .mov (.t 10), none⟩,
⟨some 13, .iaddr 1 (.t 8) (.t 10), none⟩,
⟨some 14, .load false 1 (.t 13), none⟩,
⟨some 3, .mov (.t 12), none⟩,
⟨some 4, .mov (.t 14), none⟩] [3, 4, 8, 9, 10] [])
(.seq (.reg [⟨some 15, .mov (.t 4), none⟩,
⟨some 16, .bin .neq (.t 15) (.c (.int .u32 0)), none⟩] [3, 4, 8, 9, 10, 16] [])
(.cond (.t 16)
(.seq (.reg [⟨some 17, .mov (.t 3), none⟩,
⟨some 18, .bin .mul (.c (.int .i64 32)) (.t 17), none⟩,
⟨some 19, .mov (.t 4), none⟩,
⟨some 20, .call false (.f 114) [(.t 19)], none⟩,
⟨some 21, .bin .add (.t 18) (.t 20), none⟩,
⟨some 2, .mov (.t 21), none⟩] [2] [])
.ret)
.skip))))
(.reg [⟨some 22, .bin .add (.t 10) (.c (.int .i64 1)), none⟩,
⟨some 10, .mov (.t 22), none⟩] [8, 9, 10] []))))
def c_nat_Low_l1 : IC := .loop [8, 9, 10] c_nat_Low_b1
def c_nat_Low : IFn := ⟨[.tmp 2],
(.seq (.reg [⟨some 2, .mov (.c (.int .i64 0)), none⟩] [0] [])
(.seq (.seq (.reg [⟨some 5, .mov (.t 0), none⟩,
⟨some 6, .call false (.f 86) [(.t 5)], none⟩,
⟨some 7, .un .not (.t 6), none⟩] [0, 7] [])
(.cond (.t 7)
(.seq (.reg [⟨some 2, .mov (.c (.int .i64 0)), none⟩] [2] [])
.ret)
.skip))
(.seq (.seq (.reg [⟨some 8, .mov (.t 0), none⟩,
⟨some 9, .len (.t 8), none⟩,
⟨some 10, .mov (.c (.int .i64 0)), none⟩] [8, 9, 10] [])
(.block 0
 c_nat_Low_l1))
(.seq (.reg [⟨some 2, .mov (.c (.int .i64 0)), none⟩] [2] [])
.ret))))⟩

def c_nat_up_b1 : IC :=
(.seq (.reg [⟨some 27, .bin .lss (.t 26) (.t 25), none⟩] [5, 6, 7, 24, 25, 26, 27] [])
(.seq (.cond (.t 27)
.skip
(.exit 0))
(.seq (.block 1
(.seq (.reg [⟨some 28, .iaddr 1 (.t 24) (.t 26), none⟩,
⟨some 29, .load false 1 (.t 28), none⟩,
⟨some 9, .mov (.t 29), none⟩] [5, 6, 7, 9, 24, 25, 26] [])
(.seq (.reg [⟨some 30, .mov (.t 5), none⟩,
⟨some 31, .mov (.t 9), none⟩,
⟨some 32, .mov (.t 6), none⟩,
⟨some 33, .bin .shl (.t 31) (.t 32), none⟩,
⟨some 34, .mov (.t 7), none⟩,
⟨some 35, .bin .or (.t 33) (.t 34), none⟩,
⟨some 36, .bslice 1 1 [(.int .u32 0)] [(0, 1, (.t 35))], none⟩,
⟨some 37, .app 1 4 (.t 30) (.t 36), none⟩,
⟨some 5, .mov (.t 37), none⟩] [5, 6, 9, 24, 25, 26] [])
(.reg [⟨some 38, .mov (.t 9), none⟩,
⟨some 39, .cvt .u64 (.t 38), none⟩,
⟨some 40, .mov (.t 6), none⟩,
⟨some 41, .bin .sub (.c (.int .i64 32)) (.t 40), none⟩,
⟨some 42, .bin .shr (.t 39) (.t 41), none⟩,
⟨some 43, .cvt .u32 (.t 42), none⟩,
⟨some 7, .mov (.t 43), none⟩] [5, 6, 7, 24, 25, 26] []))))
(.reg [⟨some 44, .bin .add (.t 26) (.c (.int .i64 1)), none⟩,
⟨some 26, .mov (.t 44), none⟩] [5, 6, 7, 24, 25, 26] []))))
def c_nat_up_l1 : IC := .loop [5, 6, 7, 24, 25, 26] c_nat_up_b1
def c_nat_up : IFn := ⟨[.tmp 4],
(.seq (.reg [⟨some 4, .mov (.c .nil), none⟩] [0, 1] [])
(.seq (.seq (.reg [⟨some 10, .mov (.t 0), none⟩,
⟨some 11, .len (.t 10), none⟩,
⟨some 12, .bin .eql (.t 11) (.c (.int .i64 0)), none⟩] [0, 1, 12] [])
(.cond (.t 12)
(.seq (.reg [⟨some 4, .mov (.c .nil), none⟩] [4] [])
.ret)
.skip))
(.seq (.reg [⟨some 13, .mov (.t 1), none⟩,
⟨some 14, .bin .quo (.t 13) (.c (.int .i64 32)), none⟩,
⟨some 15, .mov (.t 1), none⟩,
⟨some 16, .bin .quo (.t 15) (.c (.int .i64 32)), none⟩,
⟨some 17, .mov (.t 0), none⟩,
⟨some 18, .len (.t 17), none⟩,
⟨some 19, .bin .add (.t 16) (.t 18), none⟩,
⟨some 20, .bin .add (.t 19) (.c (.int .i64 1)), none⟩,
⟨some 21, .mk 1 4 [(.int .u32 0)] (.t 14) (.t 20), none⟩,
⟨some 5, .mov (.t 21), none⟩] [0, 1, 5] [])
(.seq (.reg [⟨some 22, .mov (.t 1), none⟩,
⟨some 23, .bin .rem (.t 22) (.c (.int .i64 32)), none⟩,
⟨some 6, .mov (.t 23), none⟩,
⟨some 7, .mov (.c (.int .u32 0)), none⟩] [0, 5, 6, 7] [])
(.seq (.seq (.reg [⟨some 24, .mov (.t 0), none⟩,
⟨some 25, .len (.t 24), none⟩,
⟨some 26, .mov (.c (.int .i64 0)), none⟩] [5, 6, 7, 24, 25, 26] [])
(.block 0
 c_nat_up_l1))
(.seq (.reg [⟨some 45, .mov (.t 5), none⟩,
⟨some 46, .mov (.t 7), none⟩,
⟨some 47, .bslice 1 1 [(.int .u32 0)] [(0, 1, (.t 46))], none⟩,
⟨some 48, .app 1 4 (.t 45) (.t 47), none⟩,
⟨some 49, .call true (.f 94) [(.t 48)], none⟩,
⟨some 4, .mov (.t 49), none⟩] [4] [])
.ret))))))⟩

def c_nat_trim_b1 : IC :=
(.seq (.seq (.reg [⟨some 3, .mov (.t 0), none⟩,
⟨some 4, .len (.t 3), none⟩,
⟨some 5, .bin .gtr (.t 4) (.c (.int .i64 0)), none⟩,
⟨some 6, .mov (.t 5), none⟩,
⟨some 7, .mov (.t 0), some (6, true)⟩,
⟨some 8, .mov (.t 0), some (6, true)⟩,
⟨some 9, .len (.t 8), some (6, true)⟩,
⟨some 10, .bin .sub (.t 9) (.c (.int .i64 1)), some (6, true)⟩,
⟨some 11, .iaddr 1 (.t 7) (.t 10), some (6, true)⟩,
⟨some 12, .load false 1 (.t 11), some (6, true)⟩,
⟨some 13, .bin .eql (.t 12) (.c (.int .u32 0)), some (6, true)⟩,
⟨some 14, .pick (.t 6) (.t 13) (.c (.bool false)), none⟩] [0, 14] [])
(.cond (.t 14)
.skip
(.exit 0)))
(.block 1
(.reg [⟨some 15, .mov (.t 0), none⟩,
⟨some 16, .mov (.t 0), none⟩,
⟨some 17, .len (.t 16), none⟩,
⟨some 18, .bin .sub (.t 17) (.c (.int .i64 1)), none⟩,
⟨some 19, .slice 1 (.t 15) none (some (.t 18)), none⟩,
⟨some 0, .mov (.t 19), none⟩] [0] [])))
def c_nat_trim_l1 : IC := .loop [0] c_nat_trim_b1
def c_nat_trim : IFn := ⟨[.tmp 2],
(.seq (.reg [⟨some 2, .mov (.c .nil), none⟩] [0] [])
(.seq (.block 0
 c_nat_trim_l1)
(.seq (.reg [⟨some 20, .mov (.t 0), none⟩,
⟨some 2, .mov (.t 20), none⟩] [2] [])
.ret)))⟩

def c_nat_Sub : IFn := ⟨[.tmp 4, .tmp 5],
(.seq (.reg [⟨some 4, .mov (.c .nil), none⟩,
⟨some 5, .mov (.c (.int .i64 0)), none⟩] [0, 1] [])
(.seq (.seq (.reg [⟨some 6, .mov (.t 0), none⟩,
⟨some 7, .mov (.t 1), none⟩,
⟨some 8, .bslice 2 1 [.nil] [(0, 1, (.t 6)), (1, 1, (.t 7))], none⟩,
⟨some 9, .call false (.f 106) [(.t 8)], none⟩,
⟨some 10, .un .not (.t 9), none⟩] [0, 1, 10] [])
(.cond (.t 10)
(.seq (.reg [⟨some 4, .mov (.c .nil), none⟩,
⟨some 5, .mov (.c (.int .i64 2)), none⟩] [4, 5] [])
.ret)
.skip))
(.seq (.seq (.reg [⟨some 11, .mov (.t 0), none⟩,
⟨some 12, .mov (.t 1), none⟩,
⟨some 13, .call false (.f 107) [(.t 11), (.t 12)], none⟩,
⟨some 14, .bin .lss (.t 13) (.c (.int .i64 0)), none⟩] [0, 1, 14] [])
(.cond (.t 14)
(.seq (.reg [⟨some 4, .mov (.c .nil), none⟩,
⟨some 5, .mov (.c (.int .i64 10)), none⟩] [4, 5] [])
.ret)
.skip))
(.seq (.reg [⟨some 15, .mov (.t 0), none⟩,
⟨some 16, .mov (.t 1), none⟩,
⟨some 17, .call false (.f 116) [(.t 15), (.t 16)], none⟩,
⟨some 4, .mov (.t 17), none⟩,
⟨some 5, .mov (.c (.int .i64 0)), none⟩] [4, 5] [])
.ret))))⟩

def c_nat_Cmp : IFn := ⟨[.tmp 4, .tmp 5],
(.seq (.reg [⟨some 4, .mov (.c (.int .i64 0)), none⟩,
⟨some 5, .mov (.c (.int .i64 0)), none⟩] [0, 1] [])
(.seq (.seq (.reg [⟨some 6, .mov (.t 0), none⟩,
⟨some 7, .mov (.t 1), none⟩,
⟨some 8, .bslice 2 1 [.nil] [(0, 1, (.t 6)), (1, 1, (.t 7))], none⟩,
⟨some 9, .call false (.f 106) [(.t 8)], none⟩,
⟨some 10, .un .not (.t 9), none⟩] [0, 1, 10] [])
(.cond (.t 10)
(.seq (.reg [⟨some 4, .mov (.c (.int .i64 0)), none⟩,
⟨some 5, .mov (.c (.int .i64 2)), none⟩] [4, 5] [])
.ret)
.skip))
(.seq (.reg [⟨some 11, .mov (.t 0), none⟩,
⟨some 12, .mov (.t 1), none⟩,
⟨some 13, .call false (.f 107) [(.t 11), (.t 12)], none⟩,
⟨some 4, .mov (.t 13), none⟩,
⟨some 5, .mov (.c (.int .i64 0)), none⟩] [4, 5] [])
.ret)))⟩

def c_nat_Add_b1 : IC :=
(.seq (.reg [⟨some 29, .bin .lss (.t 28) (.t 27), none⟩] [0, 1, 6, 7, 27, 28, 29] [])
(.seq (.cond (.t 29)
.skip
(.exit 0))
(.seq (.block 1
(.seq (.reg [⟨some 30, .mov (.t 28), none⟩,
⟨some 8, .mov (.t 30), none⟩] [0, 1, 6, 7, 8, 27, 28] [])
(.seq (.reg [⟨some 9, .mov (.c (.int .u32 0)), none⟩] [0, 1, 6, 7, 8, 9, 27, 28] [])
(.seq (.seq (.reg [⟨some 31, .mov (.t 8), none⟩,
⟨some 32, .mov (.t 1), none⟩,
⟨some 33, .len (.t 32), none⟩,
⟨some 34, .bin .lss (.t 31) (.t 33), none⟩] [0, 1, 6, 7, 8, 9, 27, 28, 34] [])
(.cond (.t 34)
(.reg [⟨some 35, .mov (.t 1), none⟩,
⟨some 36, .mov (.t 8), none⟩,
⟨some 37, .iaddr 1 (.t 35) (.t 36), none⟩,
⟨some 38, .load false 1 (.t 37), none⟩,
⟨some 9, .mov (.t 38), none⟩] [0, 1, 6, 7, 8, 9, 27, 28] [])
.skip))
(.reg [⟨some 40, .mov (.t 6), none⟩,
⟨some 41, .mov (.t 8), none⟩,
⟨some 42, .mov (.t 0), none⟩,
⟨some 43, .mov (.t 8), none⟩,
⟨some 44, .iaddr 1 (.t 42) (.t 43), none⟩,
⟨some 45, .load false 1 (.t 44), none⟩,
⟨some 46, .mov (.t 9), none⟩,
⟨some 47, .mov (.t 7), none⟩,
⟨some 48, .call false (.f 112) [(.t 45), (.t 46), (.t 47)], none⟩,
⟨some 39, .mov (.t 48), none⟩,
⟨some 49, .ext (.t 39) 0, none⟩,
⟨some 50, .ext (.t 39) 1, none⟩,
⟨some 51, .iaddr 1 (.t 40) (.t 41), none⟩,
⟨none, .store 1 (.t 51) (.t 49), none⟩,
⟨some 7, .mov (.t 50), none⟩] [0, 1, 6, 7, 27, 28] [])))))
(.reg [⟨some 52, .bin .add (.t 28) (.c (.int .i64 1)), none⟩,
⟨some 28, .mov (.t 52), none⟩] [0, 1, 6, 7, 27, 28] []))))
def c_nat_Add_l1 : IC := .loop [0, 1, 6, 7, 27, 28] c_nat_Add_b1
def c_nat_Add : IFn := ⟨[.tmp 4, .tmp 5],
(.seq (.reg [⟨some 4, .mov (.c .nil), none⟩,
⟨some 5, .mov (.c (.int .i64 0)), none⟩] [0, 1] [])
(.seq (.seq (.reg [⟨some 10, .mov (.t 0), none⟩,
⟨some 11, .mov (.t 1), none⟩,
⟨some 12, .bslice 2 1 [.nil] [(0, 1, (.t 10)), (1, 1, (.t 11))], none⟩,
⟨some 13, .call false (.f 106) [(.t 12)], none⟩,
⟨some 14, .un .not (.t 13), none⟩] [0, 1, 14] [])
(.cond (.t 14)
(.seq (.reg [⟨some 4, .mov (.c .nil), none⟩,
⟨some 5, .mov (.c (.int .i64 2)), none⟩] [4, 5] [])
.ret)
.skip))
(.seq (.seq (.reg [⟨some 15, .mov (.t 0), none⟩,
⟨some 16, .len (.t 15), none⟩,
⟨some 17, .mov (.t 1), none⟩,
⟨some 18, .len (.t 17), none⟩,
⟨some 19, .bin .lss (.t 16) (.t 18), none⟩] [0, 1, 19] [])
(.cond (.t 19)
(.reg [⟨some 20, .mov (.t 1), none⟩,
⟨some 21, .mov (.t 0), none⟩,
⟨some 0, .mov (.t 20), none⟩,
⟨some 1, .mov (.t 21), none⟩] [0, 1] [])
.skip))
(.seq (.reg [⟨some 22, .mov (.t 0), none⟩,
⟨some 23, .len (.t 22), none⟩,
⟨some 24, .bin .add (.t 23) (.c (.int .i64 1)), none⟩,
⟨some 25, .mk 1 4 [(.int .u32 0)] (.t 24) (.t 24), none⟩,
⟨some 6, .mov (.t 25), none⟩] [0, 1, 6] [])
(.seq (.reg [⟨some 7, .mov (.c (.int .u32 0)), none⟩] [0, 1, 6, 7] [])
(.seq (.seq (.reg [⟨some 26, .mov (.t 0), none⟩,
⟨some 27, .len (.t 26), none⟩,
⟨some 28, .mov (.c (.int .i64 0)), none⟩] [0, 1, 6, 7, 27, 28] [])
(.block 0
 c_nat_Add_l1))
(.seq (.reg [⟨some 53, .mov (.t 6), none⟩,
⟨some 54, .mov (.t 0), none⟩,
⟨some 55, .len (.t 54), none⟩,
⟨some 56, .mov (.t 7), none⟩,
⟨some 57, .iaddr 1 (.t 53) (.t 55), none⟩,
⟨none, .store 1 (.t 57) (.t 56), none⟩] [6] [])
(.seq (.reg [⟨some 58, .mov (.t 6), none⟩,
⟨some 59, .call false (.f 94) [(.t 58)], none⟩,
⟨some 60, .call false (.f 117) [(.t 59)], none⟩,
⟨some 61, .ext (.t 60) 0, none⟩,
⟨some 62, .ext (.t 60) 1, none⟩,
⟨some 4, .mov (.t 61), none⟩,
⟨some 5, .mov (.t 62), none⟩] [4, 5] [])
.ret))))))))⟩

def c_nat_all_b1 : IC :=
(.seq (.reg [⟨some 8, .bin .lss (.t 7) (.t 6), none⟩] [5, 6, 7, 8] [])
(.seq (.cond (.t 8)
.skip
(.exit 0))
(.seq (.block 1
(.seq (.reg [⟨some 9, .iaddr 1 (.t 5) (.t 7), none⟩,
⟨some 10, .load false 1 (.t 9), none⟩,
⟨some 4, .mov (.t 10), none⟩] [4, 5, 6, 7] [])
(.seq (.reg [⟨some 11, .mov (.t 4), none⟩,
⟨some 12, .call false (.f 86) [(.t 11)], none⟩,
⟨some 13, .un .not (.t 12), none⟩] [5, 6, 7, 13] [])
(.cond (.t 13)
(.seq (.reg [⟨some 2, .mov (.c (.bool false)), none⟩] [2] [])
.ret)
.skip))))
(.reg [⟨some 14, .bin .add (.t 7) (.c (.int .i64 1)), none⟩,
⟨some 7, .mov (.t 14), none⟩] [5, 6, 7] []))))
def c_nat_all_l1 : IC := .loop [5, 6, 7] c_nat_all_b1
def c_nat_all : IFn := ⟨[.tmp 2],
(.seq (.reg [⟨some 2, .mov (.c (.bool false)), none⟩] [0] [])
(.seq (.seq (.reg [⟨some 5, .mov (.t 0), none⟩,
⟨some 6, .len (.t 5), none⟩,
⟨some 7, .mov (.c (.int .i64 0)), none⟩] [5, 6, 7] [])
(.block 0
 c_nat_all_l1))
(.seq (.reg [⟨some 2, .mov (.c (.bool true)), none⟩] [2] [])
.ret)))⟩

def c_nat_cmp_b1 : IC :=
(.seq (.seq (.reg [⟨some 21, .mov (.t 5), none⟩,
⟨some 22, .bin .geq (.t 21) (.c (.int .i64 0)), none⟩] [0, 1, 5, 22] [])
(.cond (.t 22)
.skip
(.exit 1)))
(.seq (.block 2
(.seq (.reg [⟨some 25, .mov (.t 0), none⟩,
⟨some 26, .mov (.t 5), none⟩,
⟨some 27, .iaddr 1 (.t 25) (.t 26), none⟩,
⟨some 28, .load false 1 (.t 27), none⟩,
⟨some 29, .mov (.t 1), none⟩,
⟨some 30, .mov (.t 5), none⟩,
⟨some 31, .iaddr 1 (.t 29) (.t 30), none⟩,
⟨some 32, .load false 1 (.t 31), none⟩,
⟨some 33, .bin .neq (.t 28) (.t 32), none⟩] [0, 1, 5, 33] [])
(.cond (.t 33)
(.seq (.seq (.reg [⟨some 34, .mov (.t 0), none⟩,
⟨some 35, .mov (.t 5), none⟩,
⟨some 36, .iaddr 1 (.t 34) (.t 35), none⟩,
⟨some 37, .load false 1 (.t 36), none⟩,
⟨some 38, .mov (.t 1), none⟩,
⟨some 39, .mov (.t 5), none⟩,
⟨some 40, .iaddr 1 (.t 38) (.t 39), none⟩,
⟨some 41, .load false 1 (.t 40), none⟩,
⟨some 42, .bin .lss (.t 37) (.t 41), none⟩] [42] [])
(.cond (.t 42)
(.seq (.reg [⟨some 4, .mov (.c (.int .i64 (-1))), none⟩] [4] [])
.ret)
.skip))
(.seq (.reg [⟨some 4, .mov (.c (.int .i64 1)), none⟩] [4] [])
.ret))
.skip)))
(.reg [⟨some 23, .mov (.t 5), none⟩,
⟨some 24, .bin .sub (.t 23) (.c (.int .i64 1)), none⟩,
⟨some 5, .mov (.t 24), none⟩] [0, 1, 5] [])))
def c_nat_cmp_l1 : IC := .loop [0, 1, 5] c_nat_cmp_b1
def c_nat_cmp : IFn := ⟨[.tmp 4],
(.seq (.reg [⟨some 4, .mov (.c (.int .i64 0)), none⟩] [0, 1] [])
(.seq (.block 0
(.seq (.reg [⟨some 7, .mov (.t 0), none⟩,
⟨some 8, .len (.t 7), none⟩,
⟨some 9, .mov (.t 1), none⟩,
⟨some 10, .len (.t 9), none⟩,
⟨some 11, .bin .lss (.t 8) (.t 10), none⟩,
⟨some 6, .mov (.t 11), none⟩] [0, 1, 6] [])
(.cond (.t 6)
(.seq (.reg [⟨some 4, .mov (.c (.int .i64 (-1))), none⟩] [4] [])
.ret)
(.seq (.reg [⟨some 13, .mov (.t 0), none⟩,
⟨some 14, .len (.t 13), none⟩,
⟨some 15, .mov (.t 1), none⟩,
⟨some 16, .len (.t 15), none⟩,
⟨some 17, .bin .gtr (.t 14) (.t 16), none⟩,
⟨some 12, .mov (.t 17), none⟩] [0, 1, 12] [])
(.cond (.t 12)
(.seq (.reg [⟨some 4, .mov (.c (.int .i64 1)), none⟩] [4] [])
.ret)
.skip)))))
(.seq (.seq (.reg [⟨some 18, .mov (.t 0), none⟩,
⟨some 19, .len (.t 18), none⟩,
⟨some 20, .bin .sub (.t 19) (.c (.int .i64 1)), none⟩,
⟨some 5, .mov (.t 20), none⟩] [0, 1, 5] [])
(.block 1
 c_nat_cmp_l1))
(.seq (.reg [⟨some 4, .mov (.c (.int .i64 0)), none⟩] [4] [])
.ret))))⟩

def c_nat_small_b1 : IC :=
(.seq (.seq (.reg [⟨some 15, .mov (.t 8), none⟩,
⟨some 16, .bin .geq (.t 15) (.c (.int .i64 0)), none⟩] [0, 1, 6, 7, 8, 16] [])
(.cond (.t 16)
.skip
(.exit 0)))
(.seq (.block 1
(.reg [⟨some 20, .mov (.t 6), none⟩,
⟨some 21, .mov (.t 8), none⟩,
⟨some 22, .mov (.t 7), none⟩,
⟨some 23, .mov (.t 0), none⟩,
⟨some 24, .mov (.t 8), none⟩,
⟨some 25, .iaddr 1 (.t 23) (.t 24), none⟩,
⟨some 26, .load false 1 (.t 25), none⟩,
⟨some 27, .mov (.t 1), none⟩,
⟨some 28, .call false (.f 118) [(.t 22), (.t 26), (.t 27)], none⟩,
⟨some 19, .mov (.t 28), none⟩,
⟨some 29, .ext (.t 19) 0, none⟩,
⟨some 30, .ext (.t 19) 1, none⟩,
⟨some 31, .iaddr 1 (.t 20) (.t 21), none⟩,
⟨none, .store 1 (.t 31) (.t 29), none⟩,
⟨some 7, .mov (.t 30), none⟩] [0, 1, 6, 7, 8] []))
(.reg [⟨some 17, .mov (.t 8), none⟩,
⟨some 18, .bin .sub (.t 17) (.c (.int .i64 1)), none⟩,
⟨some 8, .mov (.t 18), none⟩] [0, 1, 6, 7, 8] [])))
def c_nat_small_l1 : IC := .loop [0, 1, 6, 7, 8] c_nat_small_b1
def c_nat_small : IFn := ⟨[.tmp 4, .tmp 5],
(.seq (.reg [⟨some 4, .mov (.c .nil), none⟩,
⟨some 5, .mov (.c (.int .u32 0)), none⟩] [0, 1] [])
(.seq (.reg [⟨some 9, .mov (.t 0), none⟩,
⟨some 10, .len (.t 9), none⟩,
⟨some 11, .mk 1 4 [(.int .u32 0)] (.t 10) (.t 10), none⟩,
⟨some 6, .mov (.t 11), none⟩] [0, 1, 6] [])
(.seq (.reg [⟨some 7, .mov (.c (.int .u32 0)), none⟩] [0, 1, 6, 7] [])
(.seq (.seq (.reg [⟨some 12, .mov (.t 0), none⟩,
⟨some 13, .len (.t 12), none⟩,
⟨some 14, .bin .sub (.t 13) (.c (.int .i64 1)), none⟩,
⟨some 8, .mov (.t 14), none⟩] [0, 1, 6, 7, 8] [])
(.block 0
 c_nat_small_l1))
(.seq (.reg [⟨some 32, .mov (.t 6), none⟩,
⟨some 33, .call false (.f 94) [(.t 32)], none⟩,
⟨some 34, .mov (.t 7), none⟩,
⟨some 4, .mov (.t 33), none⟩,
⟨some 5, .mov (.t 34), none⟩] [4, 5] [])
.ret)))))⟩

def c_nat_long_b1 : IC :=
(.seq (.seq (.reg [⟨some 43, .mov (.t 11), none⟩,
⟨some 44, .bin .geq (.t 43) (.c (.int .i64 0)), none⟩] [6, 7, 8, 9, 10, 11, 44] [])
(.cond (.t 44)
.skip
(.exit 2)))
(.seq (.block 3
(.reg [⟨some 47, .mov (.t 10), none⟩,
⟨some 48, .mov (.t 11), none⟩,
⟨some 49, .mov (.t 8), none⟩,
⟨some 50, .mov (.t 11), none⟩,
⟨some 51, .mov (.t 11), none⟩,
⟨some 52, .mov (.t 9), none⟩,
⟨some 53, .bin .add (.t 51) (.t 52), none⟩,
⟨some 54, .bin .add (.t 53) (.c (.int .i64 1)), none⟩,
⟨some 55, .slice 1 (.t 49) (some (.t 50)) (some (.t 54)), none⟩,
⟨some 56, .mov (.t 7), none⟩,
⟨some 57, .call true (.f 120) [(.t 55), (.t 56)], none⟩,
⟨some 58, .iaddr 1 (.t 47) (.t 48), none⟩,
⟨none, .store 1 (.t 58) (.t 57), none⟩] [6, 7, 8, 9, 10, 11] []))
(.reg [⟨some 45, .mov (.t 11), none⟩,
⟨some 46, .bin .sub (.t 45) (.c (.int .i64 1)), none⟩,
⟨some 11, .mov (.t 46), none⟩] [6, 7, 8, 9, 10, 11] [])))
def c_nat_long_l1 : IC := .loop [6, 7, 8, 9, 10, 11] c_nat_long_b1
def c_nat_long_b2 : IC :=
(.seq (.seq (.reg [⟨some 25, .mov (.t 8), none⟩,
⟨some 26, .len (.t 25), none⟩,
⟨some 27, .mov (.t 0), none⟩,
⟨some 28, .len (.t 27), none⟩,
⟨some 29, .bin .leq (.t 26) (.t 28), none⟩] [0, 6, 7, 8, 29] [])
(.cond (.t 29)
.skip
(.exit 0)))
(.block 1
(.reg [⟨some 30, .mov (.t 8), none⟩,
⟨some 31, .bslice 1 1 [(.int .u32 0)] [(0, 1, (.c (.int .u32 0)))], none⟩,
⟨some 32, .app 1 4 (.t 30) (.t 31), none⟩,
⟨some 8, .mov (.t 32), none⟩] [0, 6, 7, 8] [])))
def c_nat_long_l2 : IC := .loop [0, 6, 7, 8] c_nat_long_b2
def c_nat_long : IFn := ⟨[.tmp 4, .tmp 5],
(.seq (.reg [⟨some 4, .mov (.c .nil), none⟩,
⟨some 5, .mov (.c .nil), none⟩] [0, 1] [])
(.seq (.reg [⟨some 12, .mov (.t 1), none⟩,
⟨some 13, .mov (.t 1), none⟩,
⟨some 14, .len (.t 13), none⟩,
⟨some 15, .bin .sub (.t 14) (.c (.int .i64 1)), none⟩,
⟨some 16, .iaddr 1 (.t 12) (.t 15), none⟩,
⟨some 17, .load false 1 (.t 16), none⟩,
⟨some 18, .call false (.f 119) [(.t 17)], none⟩,
⟨some 6, .mov (.t 18), none⟩] [0, 1, 6] [])
(.seq (.reg [⟨some 19, .mov (.t 1), none⟩,
⟨some 20, .mov (.t 6), none⟩,
⟨some 21, .call true (.f 91) [(.t 19), (.t 20)], none⟩,
⟨some 7, .mov (.t 21), none⟩] [0, 6, 7] [])
(.seq (.reg [⟨some 22, .mov (.t 0), none⟩,
⟨some 23, .mov (.t 6), none⟩,
⟨some 24, .call true (.f 91) [(.t 22), (.t 23)], none⟩,
⟨some 8, .mov (.t 24), none⟩] [0, 6, 7, 8] [])
(.seq (.block 0
 c_nat_long_l2)
(.seq (.reg [⟨some 33, .mov (.t 7), none⟩,
⟨some 34, .len (.t 33), none⟩,
⟨some 9, .mov (.t 34), none⟩] [6, 7, 8, 9] [])
(.seq (.reg [⟨some 35, .mov (.t 8), none⟩,
⟨some 36, .len (.t 35), none⟩,
⟨some 37, .mov (.t 9), none⟩,
⟨some 38, .bin .sub (.t 36) (.t 37), none⟩,
⟨some 39, .mk 1 4 [(.int .u32 0)] (.t 38) (.t 38), none⟩,
⟨some 10, .mov (.t 39), none⟩] [6, 7, 8, 9, 10] [])
(.seq (.seq (.reg [⟨some 40, .mov (.t 10), none⟩,
⟨some 41, .len (.t 40), none⟩,
⟨some 42, .bin .sub (.t 41) (.c (.int .i64 1)), none⟩,
⟨some 11, .mov (.t 42), none⟩] [6, 7, 8, 9, 10, 11] [])
(.block 2
 c_nat_long_l1))
(.seq (.reg [⟨some 59, .mov (.t 10), none⟩,
⟨some 60, .call false (.f 94) [(.t 59)], none⟩,
⟨some 61, .mov (.t 8), none⟩,
⟨some 62, .mov (.t 9), none⟩,
⟨some 63, .slice 1 (.t 61) none (some (.t 62)), none⟩,
⟨some 64, .call false (.f 94) [(.t 63)], none⟩,
⟨some 65, .mov (.t 6), none⟩,
⟨some 66, .call false (.f 89) [(.t 64), (.t 65)], none⟩,
⟨some 67, .call false (.f 94) [(.t 66)], none⟩,
⟨some 4, .mov (.t 60), none⟩,
⟨some 5, .mov (.t 67), none⟩] [4, 5] [])
.ret)))))))))⟩

def c_bits_Add32 : IFn := ⟨[.tmp 6, .tmp 7],
(.seq (.reg [⟨some 6, .mov (.c (.int .u32 0)), none⟩,
⟨some 7, .mov (.c (.int .u32 0)), none⟩] [0, 1, 2] [])
(.seq (.reg [⟨some 9, .mov (.t 0), none⟩,
⟨some 10, .cvt .u64 (.t 9), none⟩,
⟨some 11, .mov (.t 1), none⟩,
⟨some 12, .cvt .u64 (.t 11), none⟩,
⟨some 13, .bin .add (.t 10) (.t 12), none⟩,
⟨some 14, .mov (.t 2), none⟩,
⟨some 15, .cvt .u64 (.t 14), none⟩,
⟨some 16, .bin .add (.t 13) (.t 15), none⟩,
⟨some 8, .mov (.t 16), none⟩] [8] [])
(.seq (.reg [⟨some 17, .mov (.t 8), none⟩,
⟨some 18, .cvt .u32 (.t 17), none⟩,
⟨some 6, .mov (.t 18), none⟩] [6, 8] [])
(.seq (.reg [⟨some 19, .mov (.t 8), none⟩,
⟨some 20, .bin .shr (.t 19) (.c (.int .u64 32)), none⟩,
⟨some 21, .cvt .u32 (.t 20), none⟩,
⟨some 7, .mov (.t 21), none⟩] [6, 7] [])
.ret))))⟩

def c_nat_mul_b1 : IC :=
(.seq (.reg [⟨some 28, .bin .lss (.t 27) (.t 26), none⟩] [1, 5, 6, 7, 8, 18, 19, 20, 25, 26, 27, 28] [])
(.seq (.cond (.t 28)
.skip
(.exit 2))
(.seq (.block 3
(.seq (.reg [⟨some 29, .mov (.t 27), none⟩,
⟨some 30, .iaddr 1 (.t 25) (.t 27), none⟩,
⟨some 31, .load false 1 (.t 30), none⟩,
⟨some 9, .mov (.t 29), none⟩,
⟨some 10, .mov (.t 31), none⟩] [1, 5, 6, 7, 8, 9, 10, 18, 19, 20, 25, 26, 27] [])
(.seq (.reg [⟨some 32, .mov (.t 7), none⟩,
⟨some 33, .cvt .u64 (.t 32), none⟩,
⟨some 34, .mov (.t 10), none⟩,
⟨some 35, .cvt .u64 (.t 34), none⟩,
⟨some 36, .bin .mul (.t 33) (.t 35), none⟩,
⟨some 37, .mov (.t 5), none⟩,
⟨some 38, .mov (.t 6), none⟩,
⟨some 39, .mov (.t 9), none⟩,
⟨some 40, .bin .add (.t 38) (.t 39), none⟩,
⟨some 41, .iaddr 1 (.t 37) (.t 40), none⟩,
⟨some 42, .load false 1 (.t 41), none⟩,
⟨some 43, .cvt .u64 (.t 42), none⟩,
⟨some 44, .bin .add (.t 36) (.t 43), none⟩,
⟨some 45, .mov (.t 8), none⟩,
⟨some 46, .bin .add (.t 44) (.t 45), none⟩,
⟨some 11, .mov (.t 46), none⟩] [1, 5, 6, 7, 9, 11, 18, 19, 20, 25, 26, 27] [])
(.seq (.reg [⟨some 47, .mov (.t 5), none⟩,
⟨some 48, .mov (.t 6), none⟩,
⟨some 49, .mov (.t 9), none⟩,
⟨some 50, .bin .add (.t 48) (.t 49), none⟩,
⟨some 51, .mov (.t 11), none⟩,
⟨some 52, .cvt .u32 (.t 51), none⟩,
⟨some 53, .iaddr 1 (.t 47) (.t 50), none⟩,
⟨none, .store 1 (.t 53) (.t 52), none⟩] [1, 5, 6, 7, 11, 18, 19, 20, 25, 26, 27] [])
(.reg [⟨some 54, .mov (.t 11), none⟩,
⟨some 55, .bin .shr (.t 54) (.c (.int .u64 32)), none⟩,
⟨some 8, .mov (.t 55), none⟩] [1, 5, 6, 7, 8, 18, 19, 20, 25, 26, 27] [])))))
(.reg [⟨some 56, .bin .add (.t 27) (.c (.int .i64 1)), none⟩,
⟨some 27, .mov (.t 56), none⟩] [1, 5, 6, 7, 8, 18, 19, 20, 25, 26, 27] []))))
def c_nat_mul_l1 : IC := .loop [1, 5, 6, 7, 8, 18, 19, 20, 25, 26, 27] c_nat_mul_b1
def c_nat_mul_b2 : IC :=
(.seq (.reg [⟨some 21, .bin .lss (.t 20) (.t 19), none⟩] [1, 5, 18, 19, 20, 21] [])
(.seq (.cond (.t 21)
.skip
(.exit 0))
(.seq (.block 1
(.seq (.reg [⟨some 22, .mov (.t 20), none⟩,
⟨some 23, .iaddr 1 (.t 18) (.t 20), none⟩,
⟨some 24, .load false 1 (.t 23), none⟩,
⟨some 6, .mov (.t 22), none⟩,
⟨some 7, .mov (.t 24), none⟩] [1, 5, 6, 7, 18, 19, 20] [])
(.seq (.reg [⟨some 8, .mov (.c (.int .u64 0)), none⟩] [1, 5, 6, 7, 8, 18, 19, 20] [])
(.seq (.seq (.reg [⟨some 25, .mov (.t 1), none⟩,
⟨some 26, .len (.t 25), none⟩,
⟨some 27, .mov (.c (.int .i64 0)), none⟩] [1, 5, 6, 7, 8, 18, 19, 20, 25, 26, 27] [])
(.block 2
 c_nat_mul_l1))
(.reg [⟨some 57, .mov (.t 5), none⟩,
⟨some 58, .mov (.t 6), none⟩,
⟨some 59, .mov (.t 1), none⟩,
⟨some 60, .len (.t 59), none⟩,
⟨some 61, .bin .add (.t 58) (.t 60), none⟩,
⟨some 62, .mov (.t 8), none⟩,
⟨some 63, .cvt .u32 (.t 62), none⟩,
⟨some 64, .iaddr 1 (.t 57) (.t 61), none⟩,
⟨none, .store 1 (.t 64) (.t 63), none⟩] [1, 5, 18, 19, 20] [])))))
(.reg [⟨some 65, .bin .add (.t 20) (.c (.int .i64 1)), none⟩,
⟨some 20, .mov (.t 65), none⟩] [1, 5, 18, 19, 20] []))))
def c_nat_mul_l2 : IC := .loop [1, 5, 18, 19, 20] c_nat_mul_b2
def c_nat_mul : IFn := ⟨[.tmp 4],
(.seq (.reg [⟨some 4, .mov (.c .nil), none⟩] [0, 1] [])
(.seq (.reg [⟨some 12, .mov (.t 0), none⟩,
⟨some 13, .len (.t 12), none⟩,
⟨some 14, .mov (.t 1), none⟩,
⟨some 15, .len (.t 14), none⟩,
⟨some 16, .bin .add (.t 13) (.t 15), none⟩,
⟨some 17, .mk 1 4 [(.int .u32 0)] (.t 16) (.t 16), none⟩,
⟨some 5, .mov (.t 17), none⟩] [0, 1, 5] [])
(.seq (.seq (.reg [⟨some 18, .mov (.t 0), none⟩,
⟨some 19, .len (.t 18), none⟩,
⟨some 20, .mov (.c (.int .i64 0)), none⟩] [1, 5, 18, 19, 20] [])
(.block 0
 c_nat_mul_l2))
(.seq (.reg [⟨some 66, .mov (.t 5), none⟩,
⟨some 67, .call false (.f 94) [(.t 66)], none⟩,
⟨some 4, .mov (.t 67), none⟩] [4] [])
.ret))))⟩

def c_bits_TrailingZeros32 (gdb : Nat) : IFn := ⟨[.tmp 2],
(.seq (.reg [⟨some 2, .mov (.c (.int .i64 0)), none⟩] [0] [])
(.seq (.seq (.reg [⟨some 3, .mov (.t 0), none⟩,
⟨some 4, .bin .eql (.t 3) (.c (.int .u32 0)), none⟩] [0, 4] [])
(.cond (.t 4)
(.seq (.reg [⟨some 2, .mov (.c (.int .i64 32)), none⟩] [2] [])
.ret)
.skip))
(.seq (.reg [⟨some 5, .mov (.t 0), none⟩,
⟨some 6, .mov (.t 0), none⟩,
⟨some 7, .un .neg (.t 6), none⟩,
⟨some 8, .bin .and (.t 5) (.t 7), none⟩,
⟨some 9, .bin .mul (.t 8) (.c (.int .u32 125613361)), none⟩,
⟨some 10, .bin .shr (.t 9) (.c (.int .u64 27)), none⟩,
⟨some 11, .iaddrA 32 1 (.g gdb) (.t 10), none⟩,
⟨some 12, .load false 1 (.t 11), none⟩,
⟨some 13, .cvt .i64 (.t 12), none⟩,
⟨some 2, .mov (.t 13), none⟩] [2] [])
.ret)))⟩

def c_nat_sub_b1 : IC :=
(.seq (.reg [⟨some 15, .bin .lss (.t 14) (.t 13), none⟩] [0, 1, 5, 6, 13, 14, 15] [])
(.seq (.cond (.t 15)
.skip
(.exit 0))
(.seq (.block 1
(.seq (.reg [⟨some 16, .mov (.t 14), none⟩,
⟨some 7, .mov (.t 16), none⟩] [0, 1, 5, 6, 7, 13, 14] [])
(.seq (.reg [⟨some 8, .mov (.c (.int .u32 0)), none⟩] [0, 1, 5, 6, 7, 8, 13, 14] [])
(.seq (.seq (.reg [⟨some 17, .mov (.t 7), none⟩,
⟨some 18, .mov (.t 1), none⟩,
⟨some 19, .len (.t 18), none⟩,
⟨some 20, .bin .lss (.t 17) (.t 19), none⟩] [0, 1, 5, 6, 7, 8, 13, 14, 20] [])
(.cond (.t 20)
(.reg [⟨some 21, .mov (.t 1), none⟩,
⟨some 22, .mov (.t 7), none⟩,
⟨some 23, .iaddr 1 (.t 21) (.t 22), none⟩,
⟨some 24, .load false 1 (.t 23), none⟩,
⟨some 8, .mov (.t 24), none⟩] [0, 1, 5, 6, 7, 8, 13, 14] [])
.skip))
(.reg [⟨some 26, .mov (.t 5), none⟩,
⟨some 27, .mov (.t 7), none⟩,
⟨some 28, .mov (.t 0), none⟩,
⟨some 29, .mov (.t 7), none⟩,
⟨some 30, .iaddr 1 (.t 28) (.t 29), none⟩,
⟨some 31, .load false 1 (.t 30), none⟩,
⟨some 32, .mov (.t 8), none⟩,
⟨some 33, .mov (.t 6), none⟩,
⟨some 34, .call false (.f 121) [(.t 31), (.t 32), (.t 33)], none⟩,
⟨some 25, .mov (.t 34), none⟩,
⟨some 35, .ext (.t 25) 0, none⟩,
⟨some 36, .ext (.t 25) 1, none⟩,
⟨some 37, .iaddr 1 (.t 26) (.t 27), none⟩,
⟨none, .store 1 (.t 37) (.t 35), none⟩,
⟨some 6, .mov (.t 36), none⟩] [0, 1, 5, 6, 13, 14] [])))))
(.reg [⟨some 38, .bin .add (.t 14) (.c (.int .i64 1)), none⟩,
⟨some 14, .mov (.t 38), none⟩] [0, 1, 5, 6, 13, 14] []))))
def c_nat_sub_l1 : IC := .loop [0, 1, 5, 6, 13, 14] c_nat_sub_b1
def c_nat_sub : IFn := ⟨[.tmp 4],
(.seq (.reg [⟨some 4, .mov (.c .nil), none⟩] [0, 1] [])
(.seq (.reg [⟨some 9, .mov (.t 0), none⟩,
⟨some 10, .len (.t 9), none⟩,
⟨some 11, .mk 1 4 [(.int .u32 0)] (.t 10) (.t 10), none⟩,
⟨some 5, .mov (.t 11), none⟩] [0, 1, 5] [])
(.seq (.reg [⟨some 6, .mov (.c (.int .u32 0)), none⟩] [0, 1, 5, 6] [])
(.seq (.seq (.reg [⟨some 12, .mov (.t 0), none⟩,
⟨some 13, .len (.t 12), none⟩,
⟨some 14, .mov (.c (.int .i64 0)), none⟩] [0, 1, 5, 6, 13, 14] [])
(.block 0
 c_nat_sub_l1))
(.seq (.reg [⟨some 39, .mov (.t 5), none⟩,
⟨some 40, .call false (.f 94) [(.t 39)], none⟩,
⟨some 4, .mov (.t 40), none⟩] [4] [])
.ret)))))⟩

def c_nat_bound : IFn := ⟨[.tmp 2, .tmp 3],
(.seq (.reg [⟨some 2, .mov (.c .nil), none⟩,
⟨some 3, .mov (.c (.int .i64 0)), none⟩] [0] [])
(.seq (.seq (.reg [⟨some 4, .mov (.t 0), none⟩,
⟨some 5, .len (.t 4), none⟩,
⟨some 6, .bin .gtr (.t 5) (.c (.int .i64 4096)), none⟩] [0, 6] [])
(.cond (.t 6)
(.seq (.reg [⟨some 2, .mov (.c .nil), none⟩,
⟨some 3, .mov (.c (.int .i64 3)), none⟩] [2, 3] [])
.ret)
.skip))
(.seq (.reg [⟨some 7, .mov (.t 0), none⟩,
⟨some 2, .mov (.t 7), none⟩,
⟨some 3, .mov (.c (.int .i64 0)), none⟩] [2, 3] [])
.ret)))⟩

def c_bits_Div32 : IFn := ⟨[.tmp 6, .tmp 7],
(.seq (.reg [⟨some 6, .mov (.c (.int .u32 0)), none⟩,
⟨some 7, .mov (.c (.int .u32 0)), none⟩] [0, 1, 2] [])
(.seq (.seq (.reg [⟨some 9, .mov (.t 2), none⟩,
⟨some 10, .bin .neq (.t 9) (.c (.int .u32 0)), none⟩,
⟨some 11, .mov (.t 10), none⟩,
⟨some 12, .mov (.t 2), some (11, true)⟩,
⟨some 13, .mov (.t 0), some (11, true)⟩,
⟨some 14, .bin .leq (.t 12) (.t 13), some (11, true)⟩,
⟨some 15, .pick (.t 11) (.t 14) (.c (.bool false)), none⟩] [0, 1, 2, 15] [])
(.cond (.t 15)
.fail
.skip))
(.seq (.reg [⟨some 17, .mov (.t 0), none⟩,
⟨some 18, .cvt .u64 (.t 17), none⟩,
⟨some 19, .bin .shl (.t 18) (.c (.int .u64 32)), none⟩,
⟨some 20, .mov (.t 1), none⟩,
⟨some 21, .cvt .u64 (.t 20), none⟩,
⟨some 22, .bin .or (.t 19) (.t 21), none⟩,
⟨some 8, .mov (.t 22), none⟩] [2, 8] [])
(.seq (.reg [⟨some 23, .mov (.t 8), none⟩,
⟨some 24, .mov (.t 2), none⟩,
⟨some 25, .cvt .u64 (.t 24), none⟩,
⟨some 26, .bin .quo (.t 23) (.t 25), none⟩,
⟨some 27, .cvt .u32 (.t 26), none⟩,
⟨some 28, .mov (.t 8), none⟩,
⟨some 29, .mov (.t 2), none⟩,
⟨some 30, .cvt .u64 (.t 29), none⟩,
⟨some 31, .bin .rem (.t 28) (.t 30), none⟩,
⟨some 32, .cvt .u32 (.t 31), none⟩,
⟨some 6, .mov (.t 27), none⟩,
⟨some 7, .mov (.t 32), none⟩] [6, 7] [])
.ret))))⟩

def c_bits_LeadingZeros32 : IFn := ⟨[.tmp 2],
(.seq (.reg [⟨some 2, .mov (.c (.int .i64 0)), none⟩] [0] [])
(.seq (.reg [⟨some 3, .mov (.t 0), none⟩,
⟨some 4, .call false (.f 88) [(.t 3)], none⟩,
⟨some 5, .bin .sub (.c (.int .i64 32)) (.t 4), none⟩,
⟨some 2, .mov (.t 5), none⟩] [2] [])
.ret))⟩

def c_nat_step_b1 : IC :=
(.seq (.reg [⟨some 132, .bin .lss (.t 131) (.t 130), none⟩] [0, 5, 7, 13, 129, 130, 131, 132] [])
(.seq (.cond (.t 132)
.skip
(.exit 4))
(.seq (.block 5
(.seq (.reg [⟨some 133, .mov (.t 131), none⟩,
⟨some 134, .iaddr 1 (.t 129) (.t 131), none⟩,
⟨some 135, .load false 1 (.t 134), none⟩,
⟨some 14, .mov (.t 133), none⟩,
⟨some 15, .mov (.t 135), none⟩] [0, 5, 7, 13, 14, 15, 129, 130, 131] [])
(.reg [⟨some 137, .mov (.t 0), none⟩,
⟨some 138, .mov (.t 14), none⟩,
⟨some 139, .mov (.t 0), none⟩,
⟨some 140, .mov (.t 14), none⟩,
⟨some 141, .iaddr 1 (.t 139) (.t 140), none⟩,
⟨some 142, .load false 1 (.t 141), none⟩,
⟨some 143, .mov (.t 15), none⟩,
⟨some 144, .mov (.t 13), none⟩,
⟨some 145, .call false (.f 112) [(.t 142), (.t 143), (.t 144)], none⟩,
⟨some 136, .mov (.t 145), none⟩,
⟨some 146, .ext (.t 136) 0, none⟩,
⟨some 147, .ext (.t 136) 1, none⟩,
⟨some 148, .iaddr 1 (.t 137) (.t 138), none⟩,
⟨none, .store 1 (.t 148) (.t 146), none⟩,
⟨some 13, .mov (.t 147), none⟩] [0, 5, 7, 13, 129, 130, 131] [])))
(.reg [⟨some 149, .bin .add (.t 131) (.c (.int .i64 1)), none⟩,
⟨some 131, .mov (.t 149), none⟩] [0, 5, 7, 13, 129, 130, 131] []))))
def c_nat_step_l1 : IC := .loop [0, 5, 7, 13, 129, 130, 131] c_nat_step_b1
def c_nat_step_b2 : IC :=
(.seq (.reg [⟨some 84, .bin .lss (.t 83) (.t 82), none⟩] [0, 1, 5, 7, 9, 10, 81, 82, 83, 84] [])
(.seq (.cond (.t 84)
.skip
(.exit 2))
(.seq (.block 3
(.seq (.reg [⟨some 85, .mov (.t 83), none⟩,
⟨some 86, .iaddr 1 (.t 81) (.t 83), none⟩,
⟨some 87, .load false 1 (.t 86), none⟩,
⟨some 11, .mov (.t 85), none⟩,
⟨some 12, .mov (.t 87), none⟩] [0, 1, 5, 7, 9, 10, 11, 12, 81, 82, 83] [])
(.seq (.reg [⟨some 88, .mov (.t 10), none⟩,
⟨some 89, .mov (.t 7), none⟩,
⟨some 90, .mov (.t 12), none⟩,
⟨some 91, .cvt .u64 (.t 90), none⟩,
⟨some 92, .bin .mul (.t 89) (.t 91), none⟩,
⟨some 93, .bin .add (.t 88) (.t 92), none⟩,
⟨some 10, .mov (.t 93), none⟩] [0, 1, 5, 7, 9, 10, 11, 81, 82, 83] [])
(.seq (.reg [⟨some 95, .mov (.t 0), none⟩,
⟨some 96, .mov (.t 11), none⟩,
⟨some 97, .mov (.t 0), none⟩,
⟨some 98, .mov (.t 11), none⟩,
⟨some 99, .iaddr 1 (.t 97) (.t 98), none⟩,
⟨some 100, .load false 1 (.t 99), none⟩,
⟨some 101, .mov (.t 10), none⟩,
⟨some 102, .cvt .u32 (.t 101), none⟩,
⟨some 103, .mov (.t 9), none⟩,
⟨some 104, .call false (.f 121) [(.t 100), (.t 102), (.t 103)], none⟩,
⟨some 94, .mov (.t 104), none⟩,
⟨some 105, .ext (.t 94) 0, none⟩,
⟨some 106, .ext (.t 94) 1, none⟩,
⟨some 107, .iaddr 1 (.t 95) (.t 96), none⟩,
⟨none, .store 1 (.t 107) (.t 105), none⟩,
⟨some 9, .mov (.t 106), none⟩] [0, 1, 5, 7, 9, 10, 81, 82, 83] [])
(.reg [⟨some 108, .mov (.t 10), none⟩,
⟨some 109, .bin .shr (.t 108) (.c (.int .u64 32)), none⟩,
⟨some 10, .mov (.t 109), none⟩] [0, 1, 5, 7, 9, 10, 81, 82, 83] [])))))
(.reg [⟨some 110, .bin .add (.t 83) (.c (.int .i64 1)), none⟩,
⟨some 83, .mov (.t 110), none⟩] [0, 1, 5, 7, 9, 10, 81, 82, 83] []))))
def c_nat_step_l2 : IC := .loop [0, 1, 5, 7, 9, 10, 81, 82, 83] c_nat_step_b2
def c_nat_step_b3 : IC :=
(.seq (.seq (.reg [⟨some 47, .mov (.t 7), none⟩,
⟨some 48, .bin .geq (.t 47) (.c (.int .u64 4294967296)), none⟩,
⟨some 49, .mov (.t 48), none⟩,
⟨some 50, .mov (.t 7), some (49, false)⟩,
⟨some 51, .mov (.t 1), some (49, false)⟩,
⟨some 52, .mov (.t 5), some (49, false)⟩,
⟨some 53, .bin .sub (.t 52) (.c (.int .i64 2)), some (49, false)⟩,
⟨some 54, .iaddr 1 (.t 51) (.t 53), some (49, false)⟩,
⟨some 55, .load false 1 (.t 54), some (49, false)⟩,
⟨some 56, .cvt .u64 (.t 55), some (49, false)⟩,
⟨some 57, .bin .mul (.t 50) (.t 56), some (49, false)⟩,
⟨some 58, .mov (.t 8), some (49, false)⟩,
⟨some 59, .bin .shl (.t 58) (.c (.int .u64 32)), some (49, false)⟩,
⟨some 60, .mov (.t 0), some (49, false)⟩,
⟨some 61, .mov (.t 5), some (49, false)⟩,
⟨some 62, .bin .sub (.t 61) (.c (.int .i64 2)), some (49, false)⟩,
⟨some 63, .iaddr 1 (.t 60) (.t 62), some (49, false)⟩,
⟨some 64, .load false 1 (.t 63), some (49, false)⟩,
⟨some 65, .cvt .u64 (.t 64), some (49, false)⟩,
⟨some 66, .bin .or (.t 59) (.t 65), some (49, false)⟩,
⟨some 67, .bin .gtr (.t 57) (.t 66), some (49, false)⟩,
⟨some 68, .pick (.t 49) (.c (.bool true)) (.t 67), none⟩] [0, 1, 5, 7, 8, 68] [])
(.cond (.t 68)
.skip
(.exit 0)))
(.block 1
(.seq (.reg [⟨some 69, .mov (.t 7), none⟩,
⟨some 70, .bin .sub (.t 69) (.c (.int .u64 1)), none⟩,
⟨some 7, .mov (.t 70), none⟩] [0, 1, 5, 7, 8] [])
(.seq (.reg [⟨some 71, .mov (.t 8), none⟩,
⟨some 72, .mov (.t 1), none⟩,
⟨some 73, .mov (.t 5), none⟩,
⟨some 74, .bin .sub (.t 73) (.c (.int .i64 1)), none⟩,
⟨some 75, .iaddr 1 (.t 72) (.t 74), none⟩,
⟨some 76, .load false 1 (.t 75), none⟩,
⟨some 77, .cvt .u64 (.t 76), none⟩,
⟨some 78, .bin .add (.t 71) (.t 77), none⟩,
⟨some 8, .mov (.t 78), none⟩] [0, 1, 5, 7, 8] [])
(.seq (.reg [⟨some 79, .mov (.t 8), none⟩,
⟨some 80, .bin .geq (.t 79) (.c (.int .u64 4294967296)), none⟩] [0, 1, 5, 7, 8, 80] [])
(.cond (.t 80)
(.exit 0)
.skip))))))
def c_nat_step_l3 : IC := .loop [0, 1, 5, 7, 8] c_nat_step_b3
def c_nat_step : IFn := ⟨[.tmp 4],
(.seq (.reg [⟨some 4, .mov (.c (.int .u32 0)), none⟩] [0, 1] [])
(.seq (.reg [⟨some 16, .mov (.t 1), none⟩,
⟨some 17, .len (.t 16), none⟩,
⟨some 5, .mov (.t 17), none⟩] [0, 1, 5] [])
(.seq (.reg [⟨some 18, .mov (.t 0), none⟩,
⟨some 19, .mov (.t 5), none⟩,
⟨some 20, .iaddr 1 (.t 18) (.t 19), none⟩,
⟨some 21, .load false 1 (.t 20), none⟩,
⟨some 22, .cvt .u64 (.t 21), none⟩,
⟨some 23, .bin .shl (.t 22) (.c (.int .u64 32)), none⟩,
⟨some 24, .mov (.t 0), none⟩,
⟨some 25, .mov (.t 5), none⟩,
⟨some 26, .bin .sub (.t 25) (.c (.int .i64 1)), none⟩,
⟨some 27, .iaddr 1 (.t 24) (.t 26), none⟩,
⟨some 28, .load false 1 (.t 27), none⟩,
⟨some 29, .cvt .u64 (.t 28), none⟩,
⟨some 30, .bin .or (.t 23) (.t 29), none⟩,
⟨some 6, .mov (.t 30), none⟩] [0, 1, 5, 6] [])
(.seq (.reg [⟨some 31, .mov (.t 6), none⟩,
⟨some 32, .mov (.t 1), none⟩,
⟨some 33, .mov (.t 5), none⟩,
⟨some 34, .bin .sub (.t 33) (.c (.int .i64 1)), none⟩,
⟨some 35, .iaddr 1 (.t 32) (.t 34), none⟩,
⟨some 36, .load false 1 (.t 35), none⟩,
⟨some 37, .cvt .u64 (.t 36), none⟩,
⟨some 38, .bin .quo (.t 31) (.t 37), none⟩,
⟨some 39, .mov (.t 6), none⟩,
⟨some 40, .mov (.t 1), none⟩,
⟨some 41, .mov (.t 5), none⟩,
⟨some 42, .bin .sub (.t 41) (.c (.int .i64 1)), none⟩,
⟨some 43, .iaddr 1 (.t 40) (.t 42), none⟩,
⟨some 44, .load false 1 (.t 43), none⟩,
⟨some 45, .cvt .u64 (.t 44), none⟩,
⟨some 46, .bin .rem (.t 39) (.t 45), none⟩,
⟨some 7, .mov (.t 38), none⟩,
⟨some 8, .mov (.t 46), none⟩] [0, 1, 5, 7, 8] [])
(.seq (.block 0
 c_nat_step_l3)
(.seq (.reg [⟨some 9, .mov (.c (.int .u32 0)), none⟩,
⟨some 10, .mov (.c (.int .u64 0)), none⟩] [0, 1, 5, 7, 9, 10] [])
(.seq (.seq (.reg [⟨some 81, .mov (.t 1), none⟩,
⟨some 82, .len (.t 81), none⟩,
⟨some 83, .mov (.c (.int .i64 0)), none⟩] [0, 1, 5, 7, 9, 10, 81, 82, 83] [])
(.block 2
 c_nat_step_l2))
(.seq (.reg [⟨some 112, .mov (.t 0), none⟩,
⟨some 113, .mov (.t 5), none⟩,
⟨some 114, .mov (.t 0), none⟩,
⟨some 115, .mov (.t 5), none⟩,
⟨some 116, .iaddr 1 (.t 114) (.t 115), none⟩,
⟨some 117, .load false 1 (.t 116), none⟩,
⟨some 118, .mov (.t 10), none⟩,
⟨some 119, .cvt .u32 (.t 118), none⟩,
⟨some 120, .mov (.t 9), none⟩,
⟨some 121, .call false (.f 121) [(.t 117), (.t 119), (.t 120)], none⟩,
⟨some 111, .mov (.t 121), none⟩,
⟨some 122, .ext (.t 111) 0, none⟩,
⟨some 123, .ext (.t 111) 1, none⟩,
⟨some 124, .iaddr 1 (.t 112) (.t 113), none⟩,
⟨none, .store 1 (.t 124) (.t 122), none⟩,
⟨some 9, .mov (.t 123), none⟩] [0, 1, 5, 7, 9] [])
(.seq (.seq (.reg [⟨some 125, .mov (.t 9), none⟩,
⟨some 126, .bin .eql (.t 125) (.c (.int .u32 0)), none⟩] [0, 1, 5, 7, 126] [])
(.cond (.t 126)
(.seq (.reg [⟨some 127, .mov (.t 7), none⟩,
⟨some 128, .cvt .u32 (.t 127), none⟩,
⟨some 4, .mov (.t 128), none⟩] [4] [])
.ret)
.skip))
(.seq (.reg [⟨some 13, .mov (.c (.int .u32 0)), none⟩] [0, 1, 5, 7, 13] [])
(.seq (.seq (.reg [⟨some 129, .mov (.t 1), none⟩,
⟨some 130, .len (.t 129), none⟩,
⟨some 131, .mov (.c (.int .i64 0)), none⟩] [0, 5, 7, 13, 129, 130, 131] [])
(.block 4
 c_nat_step_l1))
(.seq (.reg [⟨some 150, .mov (.t 0), none⟩,
⟨some 151, .mov (.t 5), none⟩,
⟨some 152, .iaddr 1 (.t 150) (.t 151), none⟩,
⟨some 153, .load false 1 (.t 152), none⟩,
⟨some 154, .mov (.t 13), none⟩,
⟨some 155, .bin .add (.t 153) (.t 154), none⟩,
⟨some 156, .iaddr 1 (.t 150) (.t 151), none⟩,
⟨none, .store 1 (.t 156) (.t 155), none⟩] [7] [])
(.seq (.reg [⟨some 157, .mov (.t 7), none⟩,
⟨some 158, .bin .sub (.t 157) (.c (.int .u64 1)), none⟩,
⟨some 159, .cvt .u32 (.t 158), none⟩,
⟨some 4, .mov (.t 159), none⟩] [4] [])
.ret)))))))))))))⟩

def c_bits_Sub32 : IFn := ⟨[.tmp 6, .tmp 7],
(.seq (.reg [⟨some 6, .mov (.c (.int .u32 0)), none⟩,
⟨some 7, .mov (.c (.int .u32 0)), none⟩] [0, 1, 2] [])
(.seq (.reg [⟨some 8, .mov (.t 0), none⟩,
⟨some 9, .mov (.t 1), none⟩,
⟨some 10, .bin .sub (.t 8) (.t 9), none⟩,
⟨some 11, .mov (.t 2), none⟩,
⟨some 12, .bin .sub (.t 10) (.t 11), none⟩,
⟨some 6, .mov (.t 12), none⟩] [0, 1, 6] [])
(.seq (.reg [⟨some 13, .mov (.t 0), none⟩,
⟨some 14, .un .xor (.t 13), none⟩,
⟨some 15, .mov (.t 1), none⟩,
⟨some 16, .bin .and (.t 14) (.t 15), none⟩,
⟨some 17, .mov (.t 0), none⟩,
⟨some 18, .mov (.t 1), none⟩,
⟨some 19, .bin .xor (.t 17) (.t 18), none⟩,
⟨some 20, .un .xor (.t 19), none⟩,
⟨some 21, .mov (.t 6), none⟩,
⟨some 22, .bin .and (.t 20) (.t 21), none⟩,
⟨some 23, .bin .or (.t 16) (.t 22), none⟩,
⟨some 24, .bin .shr (.t 23) (.c (.int .u64 31)), none⟩,
⟨some 7, .mov (.t 24), none⟩] [6, 7] [])
.ret)))⟩

structure HasA (gdb : Nat) (T : Tbl) : Prop where
  nat_Len : T 49 = some c_nat_Len
  nat_Shift : T 50 = some c_nat_Shift
  nat_Num : T 51 = some c_nat_Num
  bits_Len64 : T 53 = some c_bits_Len64
  nat_Of : T 55 = some c_nat_Of
  nat_QuoRem : T 77 = some c_nat_QuoRem
  nat_Root : T 81 = some c_nat_Root
  nat_May : T 86 = some c_nat_May
  bits_Len32 : T 88 = some c_bits_Len32
  nat_down : T 89 = some c_nat_down
  nat_Low : T 90 = some c_nat_Low
  nat_up : T 91 = some c_nat_up
  nat_trim : T 94 = some c_nat_trim
  nat_Sub : T 103 = some c_nat_Sub
  nat_Cmp : T 104 = some c_nat_Cmp
  nat_Add : T 105 = some c_nat_Add
  nat_all : T 106 = some c_nat_all
  nat_cmp : T 107 = some c_nat_cmp
  nat_small : T 108 = some c_nat_small
  nat_long : T 109 = some c_nat_long
  bits_Add32 : T 112 = some c_bits_Add32
  nat_mul : T 113 = some c_nat_mul
  bits_TrailingZeros32 : T 114 = some (c_bits_TrailingZeros32 gdb)
  nat_sub : T 116 = some c_nat_sub
  nat_bound : T 117 = some c_nat_bound
  bits_Div32 : T 118 = some c_bits_Div32
  bits_LeadingZeros32 : T 119 = some c_bits_LeadingZeros32
  nat_step : T 120 = some c_nat_step
  bits_Sub32 : T 121 = some c_bits_Sub32
end Go.Cv

/-
  The code of some functions, in the evaluator's form (written by a program from the program's own form).
-/
namespace Go.Cv
def c_ref01_Same_b1 : IC :=
(.seq (.seq (.reg [⟨some 11, .mov (.t 5), none⟩,
⟨some 12, .mov (.t 0), none⟩,
⟨some 13, .len (.t 12), none⟩,
⟨some 14, .bin .lss (.t 11) (.t 13), none⟩] [0, 1, 5, 14] [])
(.cond (.t 14)
.skip
(.exit 0)))
(.seq (.block 1
(.seq (.reg [⟨some 17, .mov (.t 0), none⟩,
⟨some 18, .mov (.t 5), none⟩,
⟨some 19, .iaddr 1 (.t 17) (.t 18), none⟩,
⟨some 20, .load false 1 (.t 19), none⟩,
⟨some 21, .mov (.t 1), none⟩,
⟨some 22, .mov (.t 5), none⟩,
⟨some 23, .iaddr 1 (.t 21) (.t 22), none⟩,
⟨some 24, .load false 1 (.t 23), none⟩,
⟨some 25, .bin .neq (.t 20) (.t 24), none⟩] [0, 1, 5, 25] [])
(.cond (.t 25)
(.seq (.reg [⟨some 4, .mov (.c (.bool false)), none⟩] [4] [])
.ret)
.skip)))
(.reg [⟨some 15, .mov (.t 5), none⟩,
⟨some 16, .bin .add (.t 15) (.c (.int .i64 1)), none⟩,
⟨some 5, .mov (.t 16), none⟩] [0, 1, 5] [])))
def c_ref01_Same_l1 : IC := .loop [0, 1, 5] c_ref01_Same_b1
def c_ref01_Same : IFn := ⟨[.tmp 4],
(.seq (.reg [⟨some 4, .mov (.c (.bool false)), none⟩] [0, 1] [])
(.seq (.seq (.reg [⟨some 6, .mov (.t 0), none⟩,
⟨some 7, .len (.t 6), none⟩,
⟨some 8, .mov (.t 1), none⟩,
⟨some 9, .len (.t 8), none⟩,
⟨some 10, .bin .neq (.t 7) (.t 9), none⟩] [0, 1, 10] [])
(.cond (.t 10)
(.seq (.reg [⟨some 4, .mov (.c (.bool false)), none⟩] [4] [])
.ret)
.skip))
(.seq (.seq (.reg [⟨some 5, .mov (.c (.int .i64 0)), none⟩] [0, 1, 5] [])
(.block 0
 c_ref01_Same_l1))
(.seq (.reg [⟨some 4, .mov (.c (.bool true)), none⟩] [4] [])
.ret))))⟩

def c_ref01_Of : IFn := ⟨[.tmp 2],
(.seq (.reg [⟨some 2, .mov (.c .nil), none⟩] [0] [])
(.seq (.reg [⟨some 3, .mov (.t 0), none⟩,
⟨some 4, .cvt .u32 (.t 3), none⟩,
⟨some 5, .mov (.t 0), none⟩,
⟨some 6, .bin .shr (.t 5) (.c (.int .u64 32)), none⟩,
⟨some 7, .cvt .u32 (.t 6), none⟩,
⟨some 8, .bslice 2 1 [(.int .u32 0)] [(0, 1, (.t 4)), (1, 1, (.t 7))], none⟩,
⟨some 9, .call false (.f 85) [(.t 8)], none⟩,
⟨some 2, .mov (.t 9), none⟩] [2] [])
.ret))⟩

def c_ref01_Len_b1 : IC :=
(.seq (.seq (.reg [⟨some 18, .mov (.t 4), none⟩,
⟨some 19, .bin .gtr (.t 18) (.c (.int .u32 0)), none⟩] [3, 4, 19] [])
(.cond (.t 19)
.skip
(.exit 0)))
(.seq (.block 1
(.reg [⟨some 22, .mov (.t 3), none⟩,
⟨some 23, .bin .add (.t 22) (.c (.int .i64 1)), none⟩,
⟨some 3, .mov (.t 23), none⟩] [3, 4] []))
(.reg [⟨some 20, .mov (.t 4), none⟩,
⟨some 21, .bin .shr (.t 20) (.c (.int .u64 1)), none⟩,
⟨some 4, .mov (.t 21), none⟩] [3, 4] [])))
def c_ref01_Len_l1 : IC := .loop [3, 4] c_ref01_Len_b1
def c_ref01_Len : IFn := ⟨[.tmp 2],
(.seq (.reg [⟨some 2, .mov (.c (.int .i64 0)), none⟩] [0] [])
(.seq (.seq (.reg [⟨some 5, .mov (.t 0), none⟩,
⟨some 6, .len (.t 5), none⟩,
⟨some 7, .bin .eql (.t 6) (.c (.int .i64 0)), none⟩] [0, 7] [])
(.cond (.t 7)
(.seq (.reg [⟨some 2, .mov (.c (.int .i64 0)), none⟩] [2] [])
.ret)
.skip))
(.seq (.reg [⟨some 8, .mov (.t 0), none⟩,
⟨some 9, .len (.t 8), none⟩,
⟨some 10, .bin .sub (.t 9) (.c (.int .i64 1)), none⟩,
⟨some 11, .bin .mul (.c (.int .i64 32)) (.t 10), none⟩,
⟨some 3, .mov (.t 11), none⟩] [0, 3] [])
(.seq (.seq (.reg [⟨some 12, .mov (.t 0), none⟩,
⟨some 13, .mov (.t 0), none⟩,
⟨some 14, .len (.t 13), none⟩,
⟨some 15, .bin .sub (.t 14) (.c (.int .i64 1)), none⟩,
⟨some 16, .iaddr 1 (.t 12) (.t 15), none⟩,
⟨some 17, .load false 1 (.t 16), none⟩,
⟨some 4, .mov (.t 17), none⟩] [3, 4] [])
(.block 0
 c_ref01_Len_l1))
(.seq (.reg [⟨some 24, .mov (.t 3), none⟩,
⟨some 2, .mov (.t 24), none⟩] [2] [])
.ret)))))⟩

def c_ref01_Up_b1 : IC :=
(.seq (.seq (.reg [⟨some 17, .mov (.t 8), none⟩,
⟨some 18, .mov (.t 0), none⟩,
⟨some 19, .len (.t 18), none⟩,
⟨some 20, .bin .lss (.t 17) (.t 19), none⟩] [0, 5, 6, 7, 8, 20] [])
(.cond (.t 20)
.skip
(.exit 0)))
(.seq (.block 1
(.seq (.reg [⟨some 23, .mov (.t 7), none⟩,
⟨some 24, .mov (.t 0), none⟩,
⟨some 25, .mov (.t 8), none⟩,
⟨some 26, .iaddr 1 (.t 24) (.t 25), none⟩,
⟨some 27, .load false 1 (.t 26), none⟩,
⟨some 28, .cvt .u64 (.t 27), none⟩,
⟨some 29, .mov (.t 6), none⟩,
⟨some 30, .bin .shl (.t 28) (.t 29), none⟩,
⟨some 31, .bin .or (.t 23) (.t 30), none⟩,
⟨some 7, .mov (.t 31), none⟩] [0, 5, 6, 7, 8] [])
(.seq (.reg [⟨some 32, .mov (.t 5), none⟩,
⟨some 33, .mov (.t 7), none⟩,
⟨some 34, .cvt .u32 (.t 33), none⟩,
⟨some 35, .bslice 1 1 [(.int .u32 0)] [(0, 1, (.t 34))], none⟩,
⟨some 36, .app 1 4 (.t 32) (.t 35), none⟩,
⟨some 5, .mov (.t 36), none⟩] [0, 5, 6, 7, 8] [])
(.reg [⟨some 37, .mov (.t 7), none⟩,
⟨some 38, .bin .shr (.t 37) (.c (.int .u64 32)), none⟩,
⟨some 7, .mov (.t 38), none⟩] [0, 5, 6, 7, 8] []))))
(.reg [⟨some 21, .mov (.t 8), none⟩,
⟨some 22, .bin .add (.t 21) (.c (.int .i64 1)), none⟩,
⟨some 8, .mov (.t 22), none⟩] [0, 5, 6, 7, 8] [])))
def c_ref01_Up_l1 : IC := .loop [0, 5, 6, 7, 8] c_ref01_Up_b1
def c_ref01_Up : IFn := ⟨[.tmp 4],
(.seq (.reg [⟨some 4, .mov (.c .nil), none⟩] [0, 1] [])
(.seq (.seq (.reg [⟨some 9, .mov (.t 0), none⟩,
⟨some 10, .len (.t 9), none⟩,
⟨some 11, .bin .eql (.t 10) (.c (.int .i64 0)), none⟩] [0, 1, 11] [])
(.cond (.t 11)
(.seq (.reg [⟨some 4, .mov (.c .nil), none⟩] [4] [])
.ret)
.skip))
(.seq (.reg [⟨some 12, .mov (.t 1), none⟩,
⟨some 13, .bin .quo (.t 12) (.c (.int .i64 32)), none⟩,
⟨some 14, .mk 1 4 [(.int .u32 0)] (.t 13) (.t 13), none⟩,
⟨some 5, .mov (.t 14), none⟩] [0, 1, 5] [])
(.seq (.reg [⟨some 15, .mov (.t 1), none⟩,
⟨some 16, .bin .rem (.t 15) (.c (.int .i64 32)), none⟩,
⟨some 6, .mov (.t 16), none⟩] [0, 5, 6] [])
(.seq (.reg [⟨some 7, .mov (.c (.int .u64 0)), none⟩] [0, 5, 6, 7] [])
(.seq (.seq (.reg [⟨some 8, .mov (.c (.int .i64 0)), none⟩] [0, 5, 6, 7, 8] [])
(.block 0
 c_ref01_Up_l1))
(.seq (.reg [⟨some 39, .mov (.t 5), none⟩,
⟨some 40, .mov (.t 7), none⟩,
⟨some 41, .cvt .u32 (.t 40), none⟩,
⟨some 42, .bslice 1 1 [(.int .u32 0)] [(0, 1, (.t 41))], none⟩,
⟨some 43, .app 1 4 (.t 39) (.t 42), none⟩,
⟨some 44, .call false (.f 85) [(.t 43)], none⟩,
⟨some 4, .mov (.t 44), none⟩] [4] [])
.ret)))))))⟩

def c_ref01_Root_b1 : IC :=
(.seq (.seq (.reg [⟨some 18, .mov (.t 7), none⟩,
⟨some 19, .bin .geq (.t 18) (.c (.int .i64 0)), none⟩] [0, 4, 5, 7, 19] [])
(.cond (.t 19)
.skip
(.exit 0)))
(.seq (.block 1
(.seq (.reg [⟨some 22, .mov (.t 5), none⟩,
⟨some 23, .call false (.f 72) [(.t 22), (.c (.int .i64 2))], none⟩,
⟨some 24, .mov (.t 0), none⟩,
⟨some 25, .mov (.t 7), none⟩,
⟨some 26, .bin .add (.t 25) (.c (.int .i64 1)), none⟩,
⟨some 27, .call false (.f 111) [(.t 24), (.t 26)], none⟩,
⟨some 28, .bin .mul (.c (.int .u32 2)) (.t 27), none⟩,
⟨some 29, .mov (.t 0), none⟩,
⟨some 30, .mov (.t 7), none⟩,
⟨some 31, .call false (.f 111) [(.t 29), (.t 30)], none⟩,
⟨some 32, .bin .add (.t 28) (.t 31), none⟩,
⟨some 33, .cvt .u64 (.t 32), none⟩,
⟨some 34, .call false (.f 46) [(.t 33)], none⟩,
⟨some 35, .call false (.f 99) [(.t 23), (.t 34)], none⟩,
⟨some 5, .mov (.t 35), none⟩] [0, 4, 5, 7] [])
(.seq (.reg [⟨some 36, .mov (.t 4), none⟩,
⟨some 37, .call false (.f 72) [(.t 36), (.c (.int .i64 2))], none⟩,
⟨some 38, .bslice 1 1 [(.int .u32 0)] [(0, 1, (.c (.int .u32 1)))], none⟩,
⟨some 39, .call false (.f 99) [(.t 37), (.t 38)], none⟩,
⟨some 8, .mov (.t 39), none⟩] [0, 4, 5, 7, 8] [])
(.seq (.reg [⟨some 40, .mov (.t 4), none⟩,
⟨some 41, .call false (.f 72) [(.t 40), (.c (.int .i64 1))], none⟩,
⟨some 4, .mov (.t 41), none⟩] [0, 4, 5, 7, 8] [])
(.seq (.reg [⟨some 42, .mov (.t 5), none⟩,
⟨some 43, .mov (.t 8), none⟩,
⟨some 44, .call false (.f 100) [(.t 42), (.t 43)], none⟩,
⟨some 45, .bin .geq (.t 44) (.c (.int .i64 0)), none⟩] [0, 4, 5, 7, 8, 45] [])
(.cond (.t 45)
(.seq (.reg [⟨some 46, .mov (.t 5), none⟩,
⟨some 47, .mov (.t 8), none⟩,
⟨some 48, .call false (.f 101) [(.t 46), (.t 47)], none⟩,
⟨some 5, .mov (.t 48), none⟩] [0, 4, 5, 7] [])
(.reg [⟨some 49, .mov (.t 4), none⟩,
⟨some 50, .bslice 1 1 [(.int .u32 0)] [(0, 1, (.c (.int .u32 1)))], none⟩,
⟨some 51, .call false (.f 99) [(.t 49), (.t 50)], none⟩,
⟨some 4, .mov (.t 51), none⟩] [0, 4, 5, 7] []))
.skip))))))
(.reg [⟨some 20, .mov (.t 7), none⟩,
⟨some 21, .bin .sub (.t 20) (.c (.int .i64 2)), none⟩,
⟨some 7, .mov (.t 21), none⟩] [0, 4, 5, 7] [])))
def c_ref01_Root_l1 : IC := .loop [0, 4, 5, 7] c_ref01_Root_b1
def c_ref01_Root : IFn := ⟨[.tmp 2, .tmp 3],
(.seq (.reg [⟨some 2, .mov (.c .nil), none⟩,
⟨some 3, .mov (.c (.bool false)), none⟩] [0] [])
(.seq (.reg [⟨some 4, .mov (.c .nil), none⟩,
⟨some 5, .mov (.c .nil), none⟩] [0, 4, 5] [])
(.seq (.reg [⟨some 9, .mov (.t 0), none⟩,
⟨some 10, .call false (.f 64) [(.t 9)], none⟩,
⟨some 6, .mov (.t 10), none⟩] [0, 4, 5, 6] [])
(.seq (.seq (.reg [⟨some 11, .mov (.t 6), none⟩,
⟨some 12, .bin .rem (.t 11) (.c (.int .i64 2)), none⟩,
⟨some 13, .bin .eql (.t 12) (.c (.int .i64 1)), none⟩] [0, 4, 5, 6, 13] [])
(.cond (.t 13)
(.reg [⟨some 14, .mov (.t 6), none⟩,
⟨some 15, .bin .add (.t 14) (.c (.int .i64 1)), none⟩,
⟨some 6, .mov (.t 15), none⟩] [0, 4, 5, 6] [])
.skip))
(.seq (.seq (.reg [⟨some 16, .mov (.t 6), none⟩,
⟨some 17, .bin .sub (.t 16) (.c (.int .i64 2)), none⟩,
⟨some 7, .mov (.t 17), none⟩] [0, 4, 5, 7] [])
(.block 0
 c_ref01_Root_l1))
(.seq (.reg [⟨some 52, .mov (.t 4), none⟩,
⟨some 53, .mov (.t 5), none⟩,
⟨some 54, .len (.t 53), none⟩,
⟨some 55, .bin .eql (.t 54) (.c (.int .i64 0)), none⟩,
⟨some 2, .mov (.t 52), none⟩,
⟨some 3, .mov (.t 55), none⟩] [2, 3] [])
.ret))))))⟩

def c_ref01_Low_b1 : IC :=
(.seq (.seq (.reg [⟨some 4, .mov (.t 3), none⟩,
⟨some 5, .mov (.t 0), none⟩,
⟨some 6, .len (.t 5), none⟩,
⟨some 7, .bin .mul (.c (.int .i64 32)) (.t 6), none⟩,
⟨some 8, .bin .lss (.t 4) (.t 7), none⟩,
⟨some 9, .mov (.t 8), none⟩,
⟨some 10, .mov (.t 0), some (9, true)⟩,
⟨some 11, .mov (.t 3), some (9, true)⟩,
⟨some 12, .call false (.f 111) [(.t 10), (.t 11)], some (9, true)⟩,
⟨some 13, .bin .eql (.t 12) (.c (.int .u32 0)), some (9, true)⟩,
⟨some 14, .pick (.t 9) (.t 13) (.c (.bool false)), none⟩] [0, 3, 14] [])
(.cond (.t 14)
.skip
(.exit 0)))
(.block 1
(.seq (.reg [⟨some 15, .mov (.t 0), none⟩,
⟨some 16, .mov (.t 3), none⟩,
⟨some 17, .bin .quo (.t 16) (.c (.int .i64 32)), none⟩,
⟨some 18, .iaddr 1 (.t 15) (.t 17), none⟩,
⟨some 19, .load false 1 (.t 18), none⟩,
⟨some 20, .bin .eql (.t 19) (.c (.int .u32 0)), none⟩] [0, 3, 20] [])
(.cond (.t 20)
(.reg [⟨some 21, .mov (.t 3), none⟩,
⟨some 22, .bin .add (.t 21) (.c (.int .i64 32)), none⟩,
⟨some 3, .mov (.t 22), none⟩] [0, 3] [])
(.reg [⟨some 23, .mov (.t 3), none⟩,
⟨some 24, .bin .add (.t 23) (.c (.int .i64 1)), none⟩,
⟨some 3, .mov (.t 24), none⟩] [0, 3] [])))))
def c_ref01_Low_l1 : IC := .loop [0, 3] c_ref01_Low_b1
def c_ref01_Low : IFn := ⟨[.tmp 2],
(.seq (.reg [⟨some 2, .mov (.c (.int .i64 0)), none⟩] [0] [])
(.seq (.reg [⟨some 3, .mov (.c (.int .i64 0)), none⟩] [0, 3] [])
(.seq (.block 0
 c_ref01_Low_l1)
(.seq (.seq (.reg [⟨some 25, .mov (.t 3), none⟩,
⟨some 26, .mov (.t 0), none⟩,
⟨some 27, .len (.t 26), none⟩,
⟨some 28, .bin .mul (.c (.int .i64 32)) (.t 27), none⟩,
⟨some 29, .bin .eql (.t 25) (.t 28), none⟩] [3, 29] [])
(.cond (.t 29)
(.seq (.reg [⟨some 2, .mov (.c (.int .i64 0)), none⟩] [2] [])
.ret)
.skip))
(.seq (.reg [⟨some 30, .mov (.t 3), none⟩,
⟨some 2, .mov (.t 30), none⟩] [2] [])
.ret)))))⟩

def c_ref01_Down_b1 : IC :=
(.seq (.seq (.reg [⟨some 26, .mov (.t 9), none⟩,
⟨some 27, .mov (.t 0), none⟩,
⟨some 28, .len (.t 27), none⟩,
⟨some 29, .bin .lss (.t 26) (.t 28), none⟩] [0, 6, 7, 8, 9, 29] [])
(.cond (.t 29)
.skip
(.exit 0)))
(.seq (.block 1
(.seq (.reg [⟨some 32, .mov (.t 0), none⟩,
⟨some 33, .mov (.t 9), none⟩,
⟨some 34, .iaddr 1 (.t 32) (.t 33), none⟩,
⟨some 35, .load false 1 (.t 34), none⟩,
⟨some 36, .cvt .u64 (.t 35), none⟩,
⟨some 37, .mov (.t 8), none⟩,
⟨some 38, .bin .shr (.t 36) (.t 37), none⟩,
⟨some 10, .mov (.t 38), none⟩] [0, 6, 7, 8, 9, 10] [])
(.seq (.seq (.reg [⟨some 39, .mov (.t 9), none⟩,
⟨some 40, .bin .add (.t 39) (.c (.int .i64 1)), none⟩,
⟨some 41, .mov (.t 0), none⟩,
⟨some 42, .len (.t 41), none⟩,
⟨some 43, .bin .lss (.t 40) (.t 42), none⟩] [0, 6, 7, 8, 9, 10, 43] [])
(.cond (.t 43)
(.reg [⟨some 44, .mov (.t 10), none⟩,
⟨some 45, .mov (.t 0), none⟩,
⟨some 46, .mov (.t 9), none⟩,
⟨some 47, .bin .add (.t 46) (.c (.int .i64 1)), none⟩,
⟨some 48, .iaddr 1 (.t 45) (.t 47), none⟩,
⟨some 49, .load false 1 (.t 48), none⟩,
⟨some 50, .cvt .u64 (.t 49), none⟩,
⟨some 51, .mov (.t 8), none⟩,
⟨some 52, .bin .sub (.c (.int .i64 32)) (.t 51), none⟩,
⟨some 53, .bin .shl (.t 50) (.t 52), none⟩,
⟨some 54, .bin .or (.t 44) (.t 53), none⟩,
⟨some 10, .mov (.t 54), none⟩] [0, 6, 7, 8, 9, 10] [])
.skip))
(.reg [⟨some 55, .mov (.t 7), none⟩,
⟨some 56, .mov (.t 10), none⟩,
⟨some 57, .cvt .u32 (.t 56), none⟩,
⟨some 58, .bslice 1 1 [(.int .u32 0)] [(0, 1, (.t 57))], none⟩,
⟨some 59, .app 1 4 (.t 55) (.t 58), none⟩,
⟨some 7, .mov (.t 59), none⟩] [0, 6, 7, 8, 9] []))))
(.reg [⟨some 30, .mov (.t 9), none⟩,
⟨some 31, .bin .add (.t 30) (.c (.int .i64 1)), none⟩,
⟨some 9, .mov (.t 31), none⟩] [0, 6, 7, 8, 9] [])))
def c_ref01_Down_l1 : IC := .loop [0, 6, 7, 8, 9] c_ref01_Down_b1
def c_ref01_Down : IFn := ⟨[.tmp 4, .tmp 5],
(.seq (.reg [⟨some 4, .mov (.c .nil), none⟩,
⟨some 5, .mov (.c (.bool false)), none⟩] [0, 1] [])
(.seq (.seq (.reg [⟨some 11, .mov (.t 1), none⟩,
⟨some 12, .mov (.t 0), none⟩,
⟨some 13, .call false (.f 64) [(.t 12)], none⟩,
⟨some 14, .bin .geq (.t 11) (.t 13), none⟩] [0, 1, 14] [])
(.cond (.t 14)
(.seq (.reg [⟨some 15, .mov (.t 0), none⟩,
⟨some 16, .len (.t 15), none⟩,
⟨some 17, .bin .gtr (.t 16) (.c (.int .i64 0)), none⟩,
⟨some 4, .mov (.c .nil), none⟩,
⟨some 5, .mov (.t 17), none⟩] [4, 5] [])
.ret)
.skip))
(.seq (.reg [⟨some 18, .mov (.t 1), none⟩,
⟨some 19, .mov (.t 0), none⟩,
⟨some 20, .call false (.f 83) [(.t 19)], none⟩,
⟨some 21, .bin .gtr (.t 18) (.t 20), none⟩,
⟨some 6, .mov (.t 21), none⟩] [0, 1, 6] [])
(.seq (.reg [⟨some 7, .mov (.c .nil), none⟩] [0, 1, 6, 7] [])
(.seq (.reg [⟨some 22, .mov (.t 1), none⟩,
⟨some 23, .bin .rem (.t 22) (.c (.int .i64 32)), none⟩,
⟨some 8, .mov (.t 23), none⟩] [0, 1, 6, 7, 8] [])
(.seq (.seq (.reg [⟨some 24, .mov (.t 1), none⟩,
⟨some 25, .bin .quo (.t 24) (.c (.int .i64 32)), none⟩,
⟨some 9, .mov (.t 25), none⟩] [0, 6, 7, 8, 9] [])
(.block 0
 c_ref01_Down_l1))
(.seq (.reg [⟨some 60, .mov (.t 7), none⟩,
⟨some 61, .call false (.f 85) [(.t 60)], none⟩,
⟨some 62, .mov (.t 6), none⟩,
⟨some 4, .mov (.t 61), none⟩,
⟨some 5, .mov (.t 62), none⟩] [4, 5] [])
.ret)))))))⟩

def c_ref01_Trim_b1 : IC :=
(.seq (.seq (.reg [⟨some 6, .mov (.t 3), none⟩,
⟨some 7, .bin .gtr (.t 6) (.c (.int .i64 0)), none⟩,
⟨some 8, .mov (.t 7), none⟩,
⟨some 9, .mov (.t 0), some (8, true)⟩,
⟨some 10, .mov (.t 3), some (8, true)⟩,
⟨some 11, .bin .sub (.t 10) (.c (.int .i64 1)), some (8, true)⟩,
⟨some 12, .iaddr 1 (.t 9) (.t 11), some (8, true)⟩,
⟨some 13, .load false 1 (.t 12), some (8, true)⟩,
⟨some 14, .bin .eql (.t 13) (.c (.int .u32 0)), some (8, true)⟩,
⟨some 15, .pick (.t 8) (.t 14) (.c (.bool false)), none⟩] [0, 3, 15] [])
(.cond (.t 15)
.skip
(.exit 0)))
(.block 1
(.reg [⟨some 16, .mov (.t 3), none⟩,
⟨some 17, .bin .sub (.t 16) (.c (.int .i64 1)), none⟩,
⟨some 3, .mov (.t 17), none⟩] [0, 3] [])))
def c_ref01_Trim_l1 : IC := .loop [0, 3] c_ref01_Trim_b1
def c_ref01_Trim : IFn := ⟨[.tmp 2],
(.seq (.reg [⟨some 2, .mov (.c .nil), none⟩] [0] [])
(.seq (.reg [⟨some 4, .mov (.t 0), none⟩,
⟨some 5, .len (.t 4), none⟩,
⟨some 3, .mov (.t 5), none⟩] [0, 3] [])
(.seq (.block 0
 c_ref01_Trim_l1)
(.seq (.reg [⟨some 18, .mov (.t 0), none⟩,
⟨some 19, .mov (.t 3), none⟩,
⟨some 20, .slice 1 (.t 18) none (some (.t 19)), none⟩,
⟨some 2, .mov (.t 20), none⟩] [2] [])
.ret))))⟩

def c_ref01_Add_b1 : IC :=
(.seq (.seq (.reg [⟨some 8, .mov (.t 7), none⟩,
⟨some 9, .mov (.t 0), none⟩,
⟨some 10, .len (.t 9), none⟩,
⟨some 11, .bin .lss (.t 8) (.t 10), none⟩,
⟨some 12, .mov (.t 11), none⟩,
⟨some 13, .mov (.t 7), some (12, false)⟩,
⟨some 14, .mov (.t 1), some (12, false)⟩,
⟨some 15, .len (.t 14), some (12, false)⟩,
⟨some 16, .bin .lss (.t 13) (.t 15), some (12, false)⟩,
⟨some 17, .pick (.t 12) (.c (.bool true)) (.t 16), none⟩] [0, 1, 5, 6, 7, 17] [])
(.cond (.t 17)
.skip
(.exit 0)))
(.seq (.block 1
(.seq (.seq (.reg [⟨some 20, .mov (.t 7), none⟩,
⟨some 21, .mov (.t 0), none⟩,
⟨some 22, .len (.t 21), none⟩,
⟨some 23, .bin .lss (.t 20) (.t 22), none⟩] [0, 1, 5, 6, 7, 23] [])
(.cond (.t 23)
(.reg [⟨some 24, .mov (.t 6), none⟩,
⟨some 25, .mov (.t 0), none⟩,
⟨some 26, .mov (.t 7), none⟩,
⟨some 27, .iaddr 1 (.t 25) (.t 26), none⟩,
⟨some 28, .load false 1 (.t 27), none⟩,
⟨some 29, .cvt .u64 (.t 28), none⟩,
⟨some 30, .bin .add (.t 24) (.t 29), none⟩,
⟨some 6, .mov (.t 30), none⟩] [0, 1, 5, 6, 7] [])
.skip))
(.seq (.seq (.reg [⟨some 31, .mov (.t 7), none⟩,
⟨some 32, .mov (.t 1), none⟩,
⟨some 33, .len (.t 32), none⟩,
⟨some 34, .bin .lss (.t 31) (.t 33), none⟩] [0, 1, 5, 6, 7, 34] [])
(.cond (.t 34)
(.reg [⟨some 35, .mov (.t 6), none⟩,
⟨some 36, .mov (.t 1), none⟩,
⟨some 37, .mov (.t 7), none⟩,
⟨some 38, .iaddr 1 (.t 36) (.t 37), none⟩,
⟨some 39, .load false 1 (.t 38), none⟩,
⟨some 40, .cvt .u64 (.t 39), none⟩,
⟨some 41, .bin .add (.t 35) (.t 40), none⟩,
⟨some 6, .mov (.t 41), none⟩] [0, 1, 5, 6, 7] [])
.skip))
(.seq (.reg [⟨some 42, .mov (.t 5), none⟩,
⟨some 43, .mov (.t 6), none⟩,
⟨some 44, .cvt .u32 (.t 43), none⟩,
⟨some 45, .bslice 1 1 [(.int .u32 0)] [(0, 1, (.t 44))], none⟩,
⟨some 46, .app 1 4 (.t 42) (.t 45), none⟩,
⟨some 5, .mov (.t 46), none⟩] [0, 1, 5, 6, 7] [])
(.reg [⟨some 47, .mov (.t 6), none⟩,
⟨some 48, .bin .shr (.t 47) (.c (.int .u64 32)), none⟩,
⟨some 6, .mov (.t 48), none⟩] [0, 1, 5, 6, 7] [])))))
(.reg [⟨some 18, .mov (.t 7), none⟩,
⟨some 19, .bin .add (.t 18) (.c (.int .i64 1)), none⟩,
⟨some 7, .mov (.t 19), none⟩] [0, 1, 5, 6, 7] [])))
def c_ref01_Add_l1 : IC := .loop [0, 1, 5, 6, 7] c_ref01_Add_b1
def c_ref01_Add : IFn := ⟨[.tmp 4],
(.seq (.reg [⟨some 4, .mov (.c .nil), none⟩] [0, 1] [])
(.seq (.reg [⟨some 5, .mov (.c .nil), none⟩] [0, 1, 5] [])
(.seq (.reg [⟨some 6, .mov (.c (.int .u64 0)), none⟩] [0, 1, 5, 6] [])
(.seq (.seq (.reg [⟨some 7, .mov (.c (.int .i64 0)), none⟩] [0, 1, 5, 6, 7] [])
(.block 0
 c_ref01_Add_l1))
(.seq (.reg [⟨some 49, .mov (.t 5), none⟩,
⟨some 50, .mov (.t 6), none⟩,
⟨some 51, .cvt .u32 (.t 50), none⟩,
⟨some 52, .bslice 1 1 [(.int .u32 0)] [(0, 1, (.t 51))], none⟩,
⟨some 53, .app 1 4 (.t 49) (.t 52), none⟩,
⟨some 54, .call false (.f 85) [(.t 53)], none⟩,
⟨some 4, .mov (.t 54), none⟩] [4] [])
.ret)))))⟩

def c_ref01_Cmp_b1 : IC :=
(.seq (.seq (.reg [⟨some 19, .mov (.t 5), none⟩,
⟨some 20, .bin .geq (.t 19) (.c (.int .i64 0)), none⟩] [0, 1, 5, 20] [])
(.cond (.t 20)
.skip
(.exit 0)))
(.seq (.block 1
(.seq (.seq (.reg [⟨some 23, .mov (.t 0), none⟩,
⟨some 24, .mov (.t 5), none⟩,
⟨some 25, .iaddr 1 (.t 23) (.t 24), none⟩,
⟨some 26, .load false 1 (.t 25), none⟩,
⟨some 27, .mov (.t 1), none⟩,
⟨some 28, .mov (.t 5), none⟩,
⟨some 29, .iaddr 1 (.t 27) (.t 28), none⟩,
⟨some 30, .load false 1 (.t 29), none⟩,
⟨some 31, .bin .lss (.t 26) (.t 30), none⟩] [0, 1, 5, 31] [])
(.cond (.t 31)
(.seq (.reg [⟨some 4, .mov (.c (.int .i64 (-1))), none⟩] [4] [])
.ret)
.skip))
(.seq (.reg [⟨some 32, .mov (.t 0), none⟩,
⟨some 33, .mov (.t 5), none⟩,
⟨some 34, .iaddr 1 (.t 32) (.t 33), none⟩,
⟨some 35, .load false 1 (.t 34), none⟩,
⟨some 36, .mov (.t 1), none⟩,
⟨some 37, .mov (.t 5), none⟩,
⟨some 38, .iaddr 1 (.t 36) (.t 37), none⟩,
⟨some 39, .load false 1 (.t 38), none⟩,
⟨some 40, .bin .gtr (.t 35) (.t 39), none⟩] [0, 1, 5, 40] [])
(.cond (.t 40)
(.seq (.reg [⟨some 4, .mov (.c (.int .i64 1)), none⟩] [4] [])
.ret)
.skip))))
(.reg [⟨some 21, .mov (.t 5), none⟩,
⟨some 22, .bin .sub (.t 21) (.c (.int .i64 1)), none⟩,
⟨some 5, .mov (.t 22), none⟩] [0, 1, 5] [])))
def c_ref01_Cmp_l1 : IC := .loop [0, 1, 5] c_ref01_Cmp_b1
def c_ref01_Cmp : IFn := ⟨[.tmp 4],
(.seq (.reg [⟨some 4, .mov (.c (.int .i64 0)), none⟩] [0, 1] [])
(.seq (.seq (.reg [⟨some 6, .mov (.t 0), none⟩,
⟨some 7, .len (.t 6), none⟩,
⟨some 8, .mov (.t 1), none⟩,
⟨some 9, .len (.t 8), none⟩,
⟨some 10, .bin .neq (.t 7) (.t 9), none⟩] [0, 1, 10] [])
(.cond (.t 10)
(.seq (.seq (.reg [⟨some 11, .mov (.t 0), none⟩,
⟨some 12, .len (.t 11), none⟩,
⟨some 13, .mov (.t 1), none⟩,
⟨some 14, .len (.t 13), none⟩,
⟨some 15, .bin .lss (.t 12) (.t 14), none⟩] [15] [])
(.cond (.t 15)
(.seq (.reg [⟨some 4, .mov (.c (.int .i64 (-1))), none⟩] [4] [])
.ret)
.skip))
(.seq (.reg [⟨some 4, .mov (.c (.int .i64 1)), none⟩] [4] [])
.ret))
.skip))
(.seq (.seq (.reg [⟨some 16, .mov (.t 0), none⟩,
⟨some 17, .len (.t 16), none⟩,
⟨some 18, .bin .sub (.t 17) (.c (.int .i64 1)), none⟩,
⟨some 5, .mov (.t 18), none⟩] [0, 1, 5] [])
(.block 0
 c_ref01_Cmp_l1))
(.seq (.reg [⟨some 4, .mov (.c (.int .i64 0)), none⟩] [4] [])
.ret))))⟩

def c_ref01_Sub_b1 : IC :=
(.seq (.seq (.reg [⟨some 10, .mov (.t 7), none⟩,
⟨some 11, .mov (.t 0), none⟩,
⟨some 12, .len (.t 11), none⟩,
⟨some 13, .bin .lss (.t 10) (.t 12), none⟩] [0, 1, 5, 6, 7, 13] [])
(.cond (.t 13)
.skip
(.exit 0)))
(.seq (.block 1
(.seq (.reg [⟨some 16, .mov (.t 6), none⟩,
⟨some 8, .mov (.t 16), none⟩] [0, 1, 5, 7, 8] [])
(.seq (.seq (.reg [⟨some 17, .mov (.t 7), none⟩,
⟨some 18, .mov (.t 1), none⟩,
⟨some 19, .len (.t 18), none⟩,
⟨some 20, .bin .lss (.t 17) (.t 19), none⟩] [0, 1, 5, 7, 8, 20] [])
(.cond (.t 20)
(.reg [⟨some 21, .mov (.t 8), none⟩,
⟨some 22, .mov (.t 1), none⟩,
⟨some 23, .mov (.t 7), none⟩,
⟨some 24, .iaddr 1 (.t 22) (.t 23), none⟩,
⟨some 25, .load false 1 (.t 24), none⟩,
⟨some 26, .cvt .u64 (.t 25), none⟩,
⟨some 27, .bin .add (.t 21) (.t 26), none⟩,
⟨some 8, .mov (.t 27), none⟩] [0, 1, 5, 7, 8] [])
.skip))
(.seq (.reg [⟨some 28, .mov (.t 0), none⟩,
⟨some 29, .mov (.t 7), none⟩,
⟨some 30, .iaddr 1 (.t 28) (.t 29), none⟩,
⟨some 31, .load false 1 (.t 30), none⟩,
⟨some 32, .cvt .u64 (.t 31), none⟩,
⟨some 9, .mov (.t 32), none⟩] [0, 1, 5, 7, 8, 9] [])
(.seq (.reg [⟨some 6, .mov (.c (.int .u64 0)), none⟩] [0, 1, 5, 6, 7, 8, 9] [])
(.seq (.seq (.reg [⟨some 33, .mov (.t 9), none⟩,
⟨some 34, .mov (.t 8), none⟩,
⟨some 35, .bin .lss (.t 33) (.t 34), none⟩] [0, 1, 5, 6, 7, 8, 9, 35] [])
(.cond (.t 35)
(.seq (.reg [⟨some 36, .mov (.t 9), none⟩,
⟨some 37, .bin .add (.t 36) (.c (.int .u64 4294967296)), none⟩,
⟨some 9, .mov (.t 37), none⟩] [0, 1, 5, 7, 8, 9] [])
(.reg [⟨some 6, .mov (.c (.int .u64 1)), none⟩] [0, 1, 5, 6, 7, 8, 9] []))
.skip))
(.reg [⟨some 38, .mov (.t 5), none⟩,
⟨some 39, .mov (.t 9), none⟩,
⟨some 40, .mov (.t 8), none⟩,
⟨some 41, .bin .sub (.t 39) (.t 40), none⟩,
⟨some 42, .cvt .u32 (.t 41), none⟩,
⟨some 43, .bslice 1 1 [(.int .u32 0)] [(0, 1, (.t 42))], none⟩,
⟨some 44, .app 1 4 (.t 38) (.t 43), none⟩,
⟨some 5, .mov (.t 44), none⟩] [0, 1, 5, 6, 7] [])))))))
(.reg [⟨some 14, .mov (.t 7), none⟩,
⟨some 15, .bin .add (.t 14) (.c (.int .i64 1)), none⟩,
⟨some 7, .mov (.t 15), none⟩] [0, 1, 5, 6, 7] [])))
def c_ref01_Sub_l1 : IC := .loop [0, 1, 5, 6, 7] c_ref01_Sub_b1
def c_ref01_Sub : IFn := ⟨[.tmp 4],
(.seq (.reg [⟨some 4, .mov (.c .nil), none⟩] [0, 1] [])
(.seq (.reg [⟨some 5, .mov (.c .nil), none⟩] [0, 1, 5] [])
(.seq (.reg [⟨some 6, .mov (.c (.int .u64 0)), none⟩] [0, 1, 5, 6] [])
(.seq (.seq (.reg [⟨some 7, .mov (.c (.int .i64 0)), none⟩] [0, 1, 5, 6, 7] [])
(.block 0
 c_ref01_Sub_l1))
(.seq (.reg [⟨some 45, .mov (.t 5), none⟩,
⟨some 46, .call false (.f 85) [(.t 45)], none⟩,
⟨some 4, .mov (.t 46), none⟩] [4] [])
.ret)))))⟩

def c_ref01_Bit : IFn := ⟨[.tmp 4],
(.seq (.reg [⟨some 4, .mov (.c (.int .u32 0)), none⟩] [0, 1] [])
(.seq (.seq (.reg [⟨some 5, .mov (.t 1), none⟩,
⟨some 6, .bin .lss (.t 5) (.c (.int .i64 0)), none⟩,
⟨some 7, .mov (.t 6), none⟩,
⟨some 8, .mov (.t 1), some (7, false)⟩,
⟨some 9, .bin .quo (.t 8) (.c (.int .i64 32)), some (7, false)⟩,
⟨some 10, .mov (.t 0), some (7, false)⟩,
⟨some 11, .len (.t 10), some (7, false)⟩,
⟨some 12, .bin .geq (.t 9) (.t 11), some (7, false)⟩,
⟨some 13, .pick (.t 7) (.c (.bool true)) (.t 12), none⟩] [0, 1, 13] [])
(.cond (.t 13)
(.seq (.reg [⟨some 4, .mov (.c (.int .u32 0)), none⟩] [4] [])
.ret)
.skip))
(.seq (.reg [⟨some 14, .mov (.t 0), none⟩,
⟨some 15, .mov (.t 1), none⟩,
⟨some 16, .bin .quo (.t 15) (.c (.int .i64 32)), none⟩,
⟨some 17, .iaddr 1 (.t 14) (.t 16), none⟩,
⟨some 18, .load false 1 (.t 17), none⟩,
⟨some 19, .mov (.t 1), none⟩,
⟨some 20, .bin .rem (.t 19) (.c (.int .i64 32)), none⟩,
⟨some 21, .bin .shr (.t 18) (.t 20), none⟩,
⟨some 22, .bin .and (.t 21) (.c (.int .u32 1)), none⟩,
⟨some 4, .mov (.t 22), none⟩] [4] [])
.ret)))⟩

structure HasB (gdb : Nat) (T : Tbl) : Prop where
  ref01_Same : T 39 = some c_ref01_Same
  ref01_Of : T 46 = some c_ref01_Of
  ref01_Len : T 64 = some c_ref01_Len
  ref01_Up : T 72 = some c_ref01_Up
  ref01_Root : T 82 = some c_ref01_Root
  ref01_Low : T 83 = some c_ref01_Low
  ref01_Down : T 84 = some c_ref01_Down
  ref01_Trim : T 85 = some c_ref01_Trim
  ref01_Add : T 99 = some c_ref01_Add
  ref01_Cmp : T 100 = some c_ref01_Cmp
  ref01_Sub : T 101 = some c_ref01_Sub
  ref01_Bit : T 111 = some c_ref01_Bit
end Go.Cv

/-
  The code of some functions, in the evaluator's form (written by a program from the program's own form).
-/
namespace Go.Cv
def c_ref02_Same : IFn := ⟨[.tmp 4],
(.seq (.reg [⟨some 2, .box 3 (.t 0), none⟩,
⟨some 3, .box 3 (.t 1), none⟩,
⟨some 4, .mov (.c (.bool false)), none⟩] [2, 3] [])
(.seq (.reg [⟨some 5, .faddr 0 (.t 2), none⟩,
⟨some 6, .load false 1 (.t 5), none⟩,
⟨some 7, .faddr 0 (.t 3), none⟩,
⟨some 8, .load false 1 (.t 7), none⟩,
⟨some 9, .eqb false (.t 6) (.t 8), none⟩,
⟨some 10, .mov (.t 9), none⟩,
⟨some 11, .faddr 2 (.t 2), some (10, true)⟩,
⟨some 12, .load false 1 (.t 11), some (10, true)⟩,
⟨some 13, .faddr 2 (.t 3), some (10, true)⟩,
⟨some 14, .load false 1 (.t 13), some (10, true)⟩,
⟨some 15, .bin .eql (.t 12) (.t 14), some (10, true)⟩,
⟨some 16, .pick (.t 10) (.t 15) (.c (.bool false)), none⟩,
⟨some 17, .mov (.t 16), none⟩,
⟨some 18, .faddr 1 (.t 2), some (17, true)⟩,
⟨some 19, .load false 1 (.t 18), some (17, true)⟩,
⟨some 20, .faddr 1 (.t 3), some (17, true)⟩,
⟨some 21, .load false 1 (.t 20), some (17, true)⟩,
⟨some 22, .call false (.f 39) [(.t 19), (.t 21)], some (17, true)⟩,
⟨some 23, .pick (.t 17) (.t 22) (.c (.bool false)), none⟩,
⟨some 4, .mov (.t 23), none⟩] [4] [])
.ret))⟩

def c_ref02_Sign : IFn := ⟨[.tmp 2],
(.seq (.reg [⟨some 1, .box 3 (.t 0), none⟩,
⟨some 2, .mov (.c (.int .i64 0)), none⟩] [1] [])
(.seq (.seq (.reg [⟨some 3, .faddr 1 (.t 1), none⟩,
⟨some 4, .load false 1 (.t 3), none⟩,
⟨some 5, .len (.t 4), none⟩,
⟨some 6, .bin .eql (.t 5) (.c (.int .i64 0)), none⟩] [1, 6] [])
(.cond (.t 6)
(.seq (.reg [⟨some 2, .mov (.c (.int .i64 0)), none⟩] [2] [])
.ret)
.skip))
(.seq (.seq (.reg [⟨some 7, .faddr 0 (.t 1), none⟩,
⟨some 8, .load false 1 (.t 7), none⟩] [8] [])
(.cond (.t 8)
(.seq (.reg [⟨some 2, .mov (.c (.int .i64 (-1))), none⟩] [2] [])
.ret)
.skip))
(.seq (.reg [⟨some 2, .mov (.c (.int .i64 1)), none⟩] [2] [])
.ret))))⟩

def c_dyad_Sign : IFn := ⟨[.tmp 2],
(.seq (.reg [⟨some 1, .box 3 (.t 0), none⟩,
⟨some 2, .mov (.c (.int .i64 0)), none⟩] [1] [])
(.seq (.block 0
(.seq (.reg [⟨some 4, .load true 3 (.t 1), none⟩,
⟨some 5, .call false (.f 48) [(.t 4)], none⟩,
⟨some 6, .un .not (.t 5), none⟩,
⟨some 7, .mov (.t 6), none⟩,
⟨some 8, .faddr 1 (.t 1), some (7, false)⟩,
⟨some 9, .load false 1 (.t 8), some (7, false)⟩,
⟨some 10, .len (.t 9), some (7, false)⟩,
⟨some 11, .bin .eql (.t 10) (.c (.int .i64 0)), some (7, false)⟩,
⟨some 12, .pick (.t 7) (.c (.bool true)) (.t 11), none⟩,
⟨some 3, .mov (.t 12), none⟩] [1, 3] [])
(.cond (.t 3)
(.seq (.reg [⟨some 2, .mov (.c (.int .i64 0)), none⟩] [2] [])
.ret)
(.seq (.reg [⟨some 14, .faddr 0 (.t 1), none⟩,
⟨some 15, .load false 1 (.t 14), none⟩,
⟨some 13, .mov (.t 15), none⟩] [13] [])
(.cond (.t 13)
(.seq (.reg [⟨some 2, .mov (.c (.int .i64 (-1))), none⟩] [2] [])
.ret)
.skip)))))
(.seq (.reg [⟨some 2, .mov (.c (.int .i64 1)), none⟩] [2] [])
.ret)))⟩

def c_ref02_Top : IFn := ⟨[.tmp 2],
(.seq (.reg [⟨some 1, .box 3 (.t 0), none⟩,
⟨some 2, .mov (.c (.int .i64 0)), none⟩] [1] [])
(.seq (.seq (.reg [⟨some 3, .faddr 1 (.t 1), none⟩,
⟨some 4, .load false 1 (.t 3), none⟩,
⟨some 5, .len (.t 4), none⟩,
⟨some 6, .bin .eql (.t 5) (.c (.int .i64 0)), none⟩] [1, 6] [])
(.cond (.t 6)
(.seq (.reg [⟨some 2, .mov (.c (.int .i64 0)), none⟩] [2] [])
.ret)
.skip))
(.seq (.reg [⟨some 7, .faddr 2 (.t 1), none⟩,
⟨some 8, .load false 1 (.t 7), none⟩,
⟨some 9, .faddr 1 (.t 1), none⟩,
⟨some 10, .load false 1 (.t 9), none⟩,
⟨some 11, .call false (.f 64) [(.t 10)], none⟩,
⟨some 12, .bin .add (.t 8) (.t 11), none⟩,
⟨some 2, .mov (.t 12), none⟩] [2] [])
.ret)))⟩

def c_ref02_Abs : IFn := ⟨[.cell 2 true 3],
(.seq (.reg [⟨some 1, .box 3 (.t 0), none⟩,
⟨some 2, .alloc [(.bool false), .nil, (.int .i64 0)], none⟩] [1, 2] [])
(.seq (.reg [⟨some 3, .faddr 0 (.t 1), none⟩,
⟨none, .store 1 (.t 3) (.c (.bool false)), none⟩] [1, 2] [])
(.seq (.reg [⟨some 4, .load true 3 (.t 1), none⟩,
⟨none, .store 3 (.t 2) (.t 4), none⟩] [2] [])
.ret)))⟩

def c_dyad_Root : IFn := ⟨[.cell 4 true 3, .tmp 5, .tmp 6],
(.seq (.reg [⟨some 2, .box 3 (.t 0), none⟩,
⟨some 4, .alloc [(.bool false), .nil, (.int .i64 0)], none⟩,
⟨some 5, .mov (.c (.bool false)), none⟩,
⟨some 6, .mov (.c (.int .i64 0)), none⟩] [1, 2, 4] [])
(.seq (.seq (.reg [⟨some 15, .load true 3 (.t 2), none⟩,
⟨some 16, .call false (.f 48) [(.t 15)], none⟩,
⟨some 17, .un .not (.t 16), none⟩] [1, 2, 4, 17] [])
(.cond (.t 17)
(.seq (.reg [⟨some 18, .build [(.bool false), .nil, (.int .i64 0)] [], none⟩,
⟨none, .store 3 (.t 4) (.t 18), none⟩,
⟨some 5, .mov (.c (.bool false)), none⟩,
⟨some 6, .mov (.c (.int .i64 2)), none⟩] [4, 5, 6] [])
.ret)
.skip))
(.seq (.seq (.reg [⟨some 19, .mov (.t 1), none⟩,
⟨some 20, .call false (.f 75) [(.t 19)], none⟩,
⟨some 7, .mov (.t 20), none⟩] [1, 2, 4, 7] [])
(.seq (.reg [⟨some 21, .mov (.t 7), none⟩,
⟨some 22, .bin .neq (.t 21) (.c (.int .i64 0)), none⟩] [1, 2, 4, 7, 22] [])
(.cond (.t 22)
(.seq (.reg [⟨some 23, .build [(.bool false), .nil, (.int .i64 0)] [], none⟩,
⟨some 24, .mov (.t 7), none⟩,
⟨none, .store 3 (.t 4) (.t 23), none⟩,
⟨some 5, .mov (.c (.bool false)), none⟩,
⟨some 6, .mov (.t 24), none⟩] [4, 5, 6] [])
.ret)
.skip)))
(.seq (.block 0
(.seq (.reg [⟨some 26, .faddr 1 (.t 2), none⟩,
⟨some 27, .load false 1 (.t 26), none⟩,
⟨some 28, .len (.t 27), none⟩,
⟨some 29, .bin .eql (.t 28) (.c (.int .i64 0)), none⟩,
⟨some 25, .mov (.t 29), none⟩] [1, 2, 4, 25] [])
(.cond (.t 25)
(.seq (.reg [⟨some 30, .build [(.bool false), .nil, (.int .i64 0)] [], none⟩,
⟨none, .store 3 (.t 4) (.t 30), none⟩,
⟨some 5, .mov (.c (.bool false)), none⟩,
⟨some 6, .mov (.c (.int .i64 0)), none⟩] [4, 5, 6] [])
.ret)
(.seq (.reg [⟨some 32, .faddr 0 (.t 2), none⟩,
⟨some 33, .load false 1 (.t 32), none⟩,
⟨some 31, .mov (.t 33), none⟩] [1, 2, 4, 31] [])
(.cond (.t 31)
(.seq (.reg [⟨some 34, .build [(.bool false), .nil, (.int .i64 0)] [], none⟩,
⟨none, .store 3 (.t 4) (.t 34), none⟩,
⟨some 5, .mov (.c (.bool false)), none⟩,
⟨some 6, .mov (.c (.int .i64 10)), none⟩] [4, 5, 6] [])
.ret)
.skip)))))
(.seq (.reg [⟨some 35, .mov (.t 1), none⟩,
⟨some 36, .bin .mul (.c (.int .i64 2)) (.t 35), none⟩,
⟨some 37, .bin .add (.t 36) (.c (.int .i64 2)), none⟩,
⟨some 38, .faddr 1 (.t 2), none⟩,
⟨some 39, .load false 1 (.t 38), none⟩,
⟨some 40, .call false (.f 49) [(.t 39)], none⟩,
⟨some 41, .bin .sub (.t 37) (.t 40), none⟩,
⟨some 8, .mov (.t 41), none⟩] [1, 2, 4, 8] [])
(.seq (.seq (.reg [⟨some 42, .faddr 2 (.t 2), none⟩,
⟨some 43, .load false 1 (.t 42), none⟩,
⟨some 44, .mov (.t 8), none⟩,
⟨some 45, .bin .sub (.t 43) (.t 44), none⟩,
⟨some 46, .bin .and (.t 45) (.c (.int .i64 1)), none⟩,
⟨some 47, .bin .neq (.t 46) (.c (.int .i64 0)), none⟩] [1, 2, 4, 8, 47] [])
(.cond (.t 47)
(.reg [⟨some 48, .mov (.t 8), none⟩,
⟨some 49, .bin .add (.t 48) (.c (.int .i64 1)), none⟩,
⟨some 8, .mov (.t 49), none⟩] [1, 2, 4, 8] [])
.skip))
(.seq (.reg [⟨some 51, .faddr 1 (.t 2), none⟩,
⟨some 52, .load false 1 (.t 51), none⟩,
⟨some 53, .mov (.t 8), none⟩,
⟨some 54, .call false (.f 50) [(.t 52), (.t 53)], none⟩,
⟨some 50, .mov (.t 54), none⟩,
⟨some 55, .ext (.t 50) 0, none⟩,
⟨some 56, .ext (.t 50) 1, none⟩,
⟨some 57, .ext (.t 50) 2, none⟩,
⟨some 9, .mov (.t 55), none⟩,
⟨some 10, .mov (.t 56), none⟩,
⟨some 11, .mov (.t 57), none⟩] [1, 2, 4, 8, 9, 10] [])
(.seq (.reg [⟨some 59, .mov (.t 9), none⟩,
⟨some 60, .call false (.f 81) [(.t 59)], none⟩,
⟨some 58, .mov (.t 60), none⟩,
⟨some 61, .ext (.t 58) 0, none⟩,
⟨some 62, .ext (.t 58) 1, none⟩,
⟨some 63, .ext (.t 58) 2, none⟩,
⟨some 12, .mov (.t 61), none⟩,
⟨some 13, .mov (.t 62), none⟩,
⟨some 14, .mov (.t 63), none⟩] [1, 2, 4, 8, 10, 12, 13] [])
(.seq (.reg [⟨some 64, .mov (.t 12), none⟩,
⟨some 65, .faddr 2 (.t 2), none⟩,
⟨some 66, .load false 1 (.t 65), none⟩,
⟨some 67, .mov (.t 8), none⟩,
⟨some 68, .bin .sub (.t 66) (.t 67), none⟩,
⟨some 69, .bin .quo (.t 68) (.c (.int .i64 2)), none⟩,
⟨some 70, .mov (.t 10), none⟩,
⟨some 71, .mov (.t 70), none⟩,
⟨some 72, .mov (.t 13), some (71, false)⟩,
⟨some 73, .un .not (.t 72), some (71, false)⟩,
⟨some 74, .pick (.t 71) (.c (.bool true)) (.t 73), none⟩,
⟨some 75, .mov (.t 1), none⟩,
⟨some 76, .call false (.f 78) [(.c (.bool false)), (.t 64), (.t 69), (.t 74), (.t 75)], none⟩,
⟨some 77, .ext (.t 76) 0, none⟩,
⟨some 78, .ext (.t 76) 1, none⟩,
⟨some 79, .ext (.t 76) 2, none⟩,
⟨none, .store 3 (.t 4) (.t 77), none⟩,
⟨some 5, .mov (.t 78), none⟩,
⟨some 6, .mov (.t 79), none⟩] [4, 5, 6] [])
.ret)))))))))⟩

def c_ref02_Root : IFn := ⟨[.cell 4 true 3, .tmp 5],
(.seq (.reg [⟨some 2, .box 3 (.t 0), none⟩,
⟨some 4, .alloc [(.bool false), .nil, (.int .i64 0)], none⟩,
⟨some 5, .mov (.c (.bool false)), none⟩] [1, 2, 4] [])
(.seq (.reg [⟨some 11, .mov (.t 1), none⟩,
⟨some 12, .bin .mul (.c (.int .i64 2)) (.t 11), none⟩,
⟨some 13, .bin .add (.t 12) (.c (.int .i64 2)), none⟩,
⟨some 14, .faddr 1 (.t 2), none⟩,
⟨some 15, .load false 1 (.t 14), none⟩,
⟨some 16, .call false (.f 64) [(.t 15)], none⟩,
⟨some 17, .bin .sub (.t 13) (.t 16), none⟩,
⟨some 6, .mov (.t 17), none⟩] [1, 2, 4, 6] [])
(.seq (.seq (.reg [⟨some 18, .mov (.t 6), none⟩,
⟨some 19, .bin .lss (.t 18) (.c (.int .i64 0)), none⟩] [1, 2, 4, 6, 19] [])
(.cond (.t 19)
(.reg [⟨some 6, .mov (.c (.int .i64 0)), none⟩] [1, 2, 4, 6] [])
.skip))
(.seq (.seq (.reg [⟨some 20, .faddr 2 (.t 2), none⟩,
⟨some 21, .load false 1 (.t 20), none⟩,
⟨some 22, .mov (.t 6), none⟩,
⟨some 23, .bin .sub (.t 21) (.t 22), none⟩,
⟨some 24, .bin .rem (.t 23) (.c (.int .i64 2)), none⟩,
⟨some 25, .bin .neq (.t 24) (.c (.int .i64 0)), none⟩] [1, 2, 4, 6, 25] [])
(.cond (.t 25)
(.reg [⟨some 26, .mov (.t 6), none⟩,
⟨some 27, .bin .add (.t 26) (.c (.int .i64 1)), none⟩,
⟨some 6, .mov (.t 27), none⟩] [1, 2, 4, 6] [])
.skip))
(.seq (.reg [⟨some 29, .faddr 1 (.t 2), none⟩,
⟨some 30, .load false 1 (.t 29), none⟩,
⟨some 31, .mov (.t 6), none⟩,
⟨some 32, .call false (.f 72) [(.t 30), (.t 31)], none⟩,
⟨some 33, .call false (.f 82) [(.t 32)], none⟩,
⟨some 28, .mov (.t 33), none⟩,
⟨some 34, .ext (.t 28) 0, none⟩,
⟨some 35, .ext (.t 28) 1, none⟩,
⟨some 7, .mov (.t 34), none⟩,
⟨some 8, .mov (.t 35), none⟩] [1, 2, 4, 6, 7, 8] [])
(.seq (.reg [⟨some 37, .mov (.t 7), none⟩,
⟨some 38, .faddr 2 (.t 2), none⟩,
⟨some 39, .load false 1 (.t 38), none⟩,
⟨some 40, .mov (.t 6), none⟩,
⟨some 41, .bin .sub (.t 39) (.t 40), none⟩,
⟨some 42, .bin .quo (.t 41) (.c (.int .i64 2)), none⟩,
⟨some 43, .call false (.f 45) [(.c (.bool false)), (.t 37), (.t 42)], none⟩,
⟨some 44, .mov (.t 1), none⟩,
⟨some 45, .call false (.f 80) [(.t 43), (.t 44)], none⟩,
⟨some 36, .mov (.t 45), none⟩,
⟨some 46, .ext (.t 36) 0, none⟩,
⟨some 47, .ext (.t 36) 1, none⟩,
⟨some 9, .alloc [(.bool false), .nil, (.int .i64 0)], none⟩,
⟨none, .store 3 (.t 9) (.t 46), none⟩,
⟨some 10, .mov (.t 47), none⟩] [4, 8, 9, 10] [])
(.seq (.reg [⟨some 48, .load true 3 (.t 9), none⟩,
⟨some 49, .mov (.t 10), none⟩,
⟨some 50, .mov (.t 49), none⟩,
⟨some 51, .mov (.t 8), some (50, false)⟩,
⟨some 52, .un .not (.t 51), some (50, false)⟩,
⟨some 53, .pick (.t 50) (.c (.bool true)) (.t 52), none⟩,
⟨none, .store 3 (.t 4) (.t 48), none⟩,
⟨some 5, .mov (.t 53), none⟩] [4, 5] [])
.ret)))))))⟩

def c_ref02_Form : IFn := ⟨[.cell 6 true 3],
(.seq (.reg [⟨some 6, .alloc [(.bool false), .nil, (.int .i64 0)], none⟩] [0, 1, 2, 6] [])
(.seq (.seq (.reg [⟨some 10, .mov (.t 1), none⟩,
⟨some 11, .len (.t 10), none⟩,
⟨some 12, .bin .eql (.t 11) (.c (.int .i64 0)), none⟩] [0, 1, 2, 6, 12] [])
(.cond (.t 12)
(.seq (.reg [⟨some 13, .build [(.bool false), .nil, (.int .i64 0)] [], none⟩,
⟨none, .store 3 (.t 6) (.t 13), none⟩] [6] [])
.ret)
.skip))
(.seq (.reg [⟨some 14, .mov (.t 1), none⟩,
⟨some 15, .call false (.f 83) [(.t 14)], none⟩,
⟨some 7, .mov (.t 15), none⟩] [0, 1, 2, 6, 7] [])
(.seq (.reg [⟨some 17, .mov (.t 1), none⟩,
⟨some 18, .mov (.t 7), none⟩,
⟨some 19, .call false (.f 84) [(.t 17), (.t 18)], none⟩,
⟨some 16, .mov (.t 19), none⟩,
⟨some 20, .ext (.t 16) 0, none⟩,
⟨some 21, .ext (.t 16) 1, none⟩,
⟨some 8, .mov (.t 20), none⟩,
⟨some 9, .mov (.t 21), none⟩] [0, 2, 6, 7, 8] [])
(.seq (.reg [⟨some 22, .mov (.t 0), none⟩,
⟨some 23, .mov (.t 8), none⟩,
⟨some 24, .mov (.t 2), none⟩,
⟨some 25, .mov (.t 7), none⟩,
⟨some 26, .bin .add (.t 24) (.t 25), none⟩,
⟨some 27, .build [(.bool false), .nil, (.int .i64 0)] [(0, 1, (.t 22)), (1, 1, (.t 23)), (2, 1, (.t 26))], none⟩,
⟨none, .store 3 (.t 6) (.t 27), none⟩] [6] [])
.ret)))))⟩

def c_dyad_May : IFn := ⟨[.tmp 2],
(.seq (.reg [⟨some 1, .box 3 (.t 0), none⟩,
⟨some 2, .mov (.c (.bool false)), none⟩] [1] [])
(.seq (.seq (.reg [⟨some 3, .faddr 1 (.t 1), none⟩,
⟨some 4, .load false 1 (.t 3), none⟩,
⟨some 5, .call false (.f 86) [(.t 4)], none⟩,
⟨some 6, .un .not (.t 5), none⟩] [1, 6] [])
(.cond (.t 6)
(.seq (.reg [⟨some 2, .mov (.c (.bool false)), none⟩] [2] [])
.ret)
.skip))
(.seq (.seq (.reg [⟨some 7, .faddr 1 (.t 1), none⟩,
⟨some 8, .load false 1 (.t 7), none⟩,
⟨some 9, .len (.t 8), none⟩,
⟨some 10, .bin .eql (.t 9) (.c (.int .i64 0)), none⟩] [1, 10] [])
(.cond (.t 10)
(.seq (.reg [⟨some 11, .faddr 0 (.t 1), none⟩,
⟨some 12, .load false 1 (.t 11), none⟩,
⟨some 13, .un .not (.t 12), none⟩,
⟨some 14, .mov (.t 13), none⟩,
⟨some 15, .faddr 2 (.t 1), some (14, true)⟩,
⟨some 16, .load false 1 (.t 15), some (14, true)⟩,
⟨some 17, .bin .eql (.t 16) (.c (.int .i64 0)), some (14, true)⟩,
⟨some 18, .pick (.t 14) (.t 17) (.c (.bool false)), none⟩,
⟨some 2, .mov (.t 18), none⟩] [2] [])
.ret)
.skip))
(.seq (.reg [⟨some 19, .faddr 1 (.t 1), none⟩,
⟨some 20, .load false 1 (.t 19), none⟩,
⟨some 21, .iaddr 1 (.t 20) (.c (.int .i64 0)), none⟩,
⟨some 22, .load false 1 (.t 21), none⟩,
⟨some 23, .bin .and (.t 22) (.c (.int .u32 1)), none⟩,
⟨some 24, .bin .eql (.t 23) (.c (.int .u32 1)), none⟩,
⟨some 25, .mov (.t 24), none⟩,
⟨some 26, .faddr 2 (.t 1), some (25, true)⟩,
⟨some 27, .load false 1 (.t 26), some (25, true)⟩,
⟨some 28, .call false (.f 87) [(.t 27)], some (25, true)⟩,
⟨some 29, .pick (.t 25) (.t 28) (.c (.bool false)), none⟩,
⟨some 2, .mov (.t 29), none⟩] [2] [])
.ret))))⟩

def c_dyad_Make : IFn := ⟨[.cell 6 true 3, .tmp 7],
(.seq (.reg [⟨some 6, .alloc [(.bool false), .nil, (.int .i64 0)], none⟩,
⟨some 7, .mov (.c (.int .i64 0)), none⟩] [0, 1, 2, 6] [])
(.seq (.seq (.reg [⟨some 12, .mov (.t 1), none⟩,
⟨some 13, .call false (.f 86) [(.t 12)], none⟩,
⟨some 14, .un .not (.t 13), none⟩] [0, 1, 2, 6, 14] [])
(.cond (.t 14)
(.seq (.reg [⟨some 15, .build [(.bool false), .nil, (.int .i64 0)] [], none⟩,
⟨none, .store 3 (.t 6) (.t 15), none⟩,
⟨some 7, .mov (.c (.int .i64 2)), none⟩] [6, 7] [])
.ret)
.skip))
(.seq (.seq (.reg [⟨some 16, .mov (.t 1), none⟩,
⟨some 17, .len (.t 16), none⟩,
⟨some 18, .bin .eql (.t 17) (.c (.int .i64 0)), none⟩] [0, 1, 2, 6, 18] [])
(.cond (.t 18)
(.seq (.reg [⟨some 19, .build [(.bool false), .nil, (.int .i64 0)] [], none⟩,
⟨none, .store 3 (.t 6) (.t 19), none⟩,
⟨some 7, .mov (.c (.int .i64 0)), none⟩] [6, 7] [])
.ret)
.skip))
(.seq (.reg [⟨some 20, .mov (.t 1), none⟩,
⟨some 21, .call false (.f 90) [(.t 20)], none⟩,
⟨some 8, .mov (.t 21), none⟩] [0, 1, 2, 6, 8] [])
(.seq (.seq (.reg [⟨some 22, .mov (.t 2), none⟩,
⟨some 23, .mov (.t 8), none⟩,
⟨some 24, .bin .sub (.c (.int .i64 16777216)) (.t 23), none⟩,
⟨some 25, .bin .gtr (.t 22) (.t 24), none⟩,
⟨some 26, .mov (.t 25), none⟩,
⟨some 27, .mov (.t 2), some (26, false)⟩,
⟨some 28, .mov (.t 8), some (26, false)⟩,
⟨some 29, .bin .sub (.c (.int .i64 (-16777216))) (.t 28), some (26, false)⟩,
⟨some 30, .bin .lss (.t 27) (.t 29), some (26, false)⟩,
⟨some 31, .pick (.t 26) (.c (.bool true)) (.t 30), none⟩] [0, 1, 2, 6, 8, 31] [])
(.cond (.t 31)
(.seq (.reg [⟨some 32, .build [(.bool false), .nil, (.int .i64 0)] [], none⟩,
⟨none, .store 3 (.t 6) (.t 32), none⟩,
⟨some 7, .mov (.c (.int .i64 20)), none⟩] [6, 7] [])
.ret)
.skip))
(.seq (.reg [⟨some 34, .mov (.t 1), none⟩,
⟨some 35, .mov (.t 8), none⟩,
⟨some 36, .un .neg (.t 35), none⟩,
⟨some 37, .call false (.f 50) [(.t 34), (.t 36)], none⟩,
⟨some 33, .mov (.t 37), none⟩,
⟨some 38, .ext (.t 33) 0, none⟩,
⟨some 39, .ext (.t 33) 1, none⟩,
⟨some 40, .ext (.t 33) 2, none⟩,
⟨some 9, .mov (.t 38), none⟩,
⟨some 10, .mov (.t 39), none⟩,
⟨some 11, .mov (.t 40), none⟩] [0, 2, 6, 8, 9] [])
(.seq (.reg [⟨some 41, .mov (.t 0), none⟩,
⟨some 42, .mov (.t 9), none⟩,
⟨some 43, .mov (.t 2), none⟩,
⟨some 44, .mov (.t 8), none⟩,
⟨some 45, .bin .add (.t 43) (.t 44), none⟩,
⟨some 46, .build [(.bool false), .nil, (.int .i64 0)] [(0, 1, (.t 41)), (1, 1, (.t 42)), (2, 1, (.t 45))], none⟩,
⟨none, .store 3 (.t 6) (.t 46), none⟩,
⟨some 7, .mov (.c (.int .i64 0)), none⟩] [6, 7] [])
.ret)))))))⟩

def c_ref02_Shift : IFn := ⟨[.cell 4 true 3],
(.seq (.reg [⟨some 2, .box 3 (.t 0), none⟩,
⟨some 4, .alloc [(.bool false), .nil, (.int .i64 0)], none⟩] [1, 2, 4] [])
(.seq (.seq (.reg [⟨some 5, .faddr 1 (.t 2), none⟩,
⟨some 6, .load false 1 (.t 5), none⟩,
⟨some 7, .len (.t 6), none⟩,
⟨some 8, .bin .gtr (.t 7) (.c (.int .i64 0)), none⟩] [1, 2, 4, 8] [])
(.cond (.t 8)
(.reg [⟨some 9, .faddr 2 (.t 2), none⟩,
⟨some 10, .load false 1 (.t 9), none⟩,
⟨some 11, .mov (.t 1), none⟩,
⟨some 12, .bin .add (.t 10) (.t 11), none⟩,
⟨some 13, .faddr 2 (.t 2), none⟩,
⟨none, .store 1 (.t 13) (.t 12), none⟩] [2, 4] [])
.skip))
(.seq (.reg [⟨some 14, .load true 3 (.t 2), none⟩,
⟨none, .store 3 (.t 4) (.t 14), none⟩] [4] [])
.ret)))⟩

def c_ref02_Floor : IFn := ⟨[.cell 2 true 3],
(.seq (.reg [⟨some 1, .box 3 (.t 0), none⟩,
⟨some 2, .alloc [(.bool false), .nil, (.int .i64 0)], none⟩] [1, 2] [])
(.seq (.seq (.reg [⟨some 5, .faddr 2 (.t 1), none⟩,
⟨some 6, .load false 1 (.t 5), none⟩,
⟨some 7, .bin .geq (.t 6) (.c (.int .i64 0)), none⟩] [1, 2, 7] [])
(.cond (.t 7)
(.seq (.reg [⟨some 8, .load true 3 (.t 1), none⟩,
⟨none, .store 3 (.t 2) (.t 8), none⟩] [2] [])
.ret)
.skip))
(.seq (.reg [⟨some 10, .faddr 1 (.t 1), none⟩,
⟨some 11, .load false 1 (.t 10), none⟩,
⟨some 12, .faddr 2 (.t 1), none⟩,
⟨some 13, .load false 1 (.t 12), none⟩,
⟨some 14, .un .neg (.t 13), none⟩,
⟨some 15, .call false (.f 84) [(.t 11), (.t 14)], none⟩,
⟨some 9, .mov (.t 15), none⟩,
⟨some 16, .ext (.t 9) 0, none⟩,
⟨some 17, .ext (.t 9) 1, none⟩,
⟨some 3, .mov (.t 16), none⟩,
⟨some 4, .mov (.t 17), none⟩] [1, 2, 3, 4] [])
(.seq (.seq (.reg [⟨some 18, .faddr 0 (.t 1), none⟩,
⟨some 19, .load false 1 (.t 18), none⟩,
⟨some 20, .mov (.t 19), none⟩,
⟨some 21, .mov (.t 4), some (20, true)⟩,
⟨some 22, .pick (.t 20) (.t 21) (.c (.bool false)), none⟩] [1, 2, 3, 22] [])
(.cond (.t 22)
(.reg [⟨some 23, .mov (.t 3), none⟩,
⟨some 24, .bslice 1 1 [(.int .u32 0)] [(0, 1, (.c (.int .u32 1)))], none⟩,
⟨some 25, .call false (.f 99) [(.t 23), (.t 24)], none⟩,
⟨some 3, .mov (.t 25), none⟩] [1, 2, 3] [])
.skip))
(.seq (.reg [⟨some 26, .faddr 0 (.t 1), none⟩,
⟨some 27, .load false 1 (.t 26), none⟩,
⟨some 28, .mov (.t 3), none⟩,
⟨some 29, .call false (.f 45) [(.t 27), (.t 28), (.c (.int .i64 0))], none⟩,
⟨none, .store 3 (.t 2) (.t 29), none⟩] [2] [])
.ret)))))⟩

def c_ref02_Add : IFn := ⟨[.cell 4 true 3],
(.seq (.reg [⟨some 2, .box 3 (.t 0), none⟩,
⟨some 3, .box 3 (.t 1), none⟩,
⟨some 4, .alloc [(.bool false), .nil, (.int .i64 0)], none⟩] [2, 3, 4] [])
(.seq (.seq (.reg [⟨some 8, .faddr 1 (.t 2), none⟩,
⟨some 9, .load false 1 (.t 8), none⟩,
⟨some 10, .len (.t 9), none⟩,
⟨some 11, .bin .eql (.t 10) (.c (.int .i64 0)), none⟩] [2, 3, 4, 11] [])
(.cond (.t 11)
(.seq (.reg [⟨some 12, .load true 3 (.t 3), none⟩,
⟨none, .store 3 (.t 4) (.t 12), none⟩] [4] [])
.ret)
.skip))
(.seq (.seq (.reg [⟨some 13, .faddr 1 (.t 3), none⟩,
⟨some 14, .load false 1 (.t 13), none⟩,
⟨some 15, .len (.t 14), none⟩,
⟨some 16, .bin .eql (.t 15) (.c (.int .i64 0)), none⟩] [2, 3, 4, 16] [])
(.cond (.t 16)
(.seq (.reg [⟨some 17, .load true 3 (.t 2), none⟩,
⟨none, .store 3 (.t 4) (.t 17), none⟩] [4] [])
.ret)
.skip))
(.seq (.reg [⟨some 18, .faddr 2 (.t 2), none⟩,
⟨some 19, .load false 1 (.t 18), none⟩,
⟨some 5, .mov (.t 19), none⟩] [2, 3, 4, 5] [])
(.seq (.seq (.reg [⟨some 20, .faddr 2 (.t 3), none⟩,
⟨some 21, .load false 1 (.t 20), none⟩,
⟨some 22, .mov (.t 5), none⟩,
⟨some 23, .bin .lss (.t 21) (.t 22), none⟩] [2, 3, 4, 5, 23] [])
(.cond (.t 23)
(.reg [⟨some 24, .faddr 2 (.t 3), none⟩,
⟨some 25, .load false 1 (.t 24), none⟩,
⟨some 5, .mov (.t 25), none⟩] [2, 3, 4, 5] [])
.skip))
(.seq (.reg [⟨some 26, .faddr 1 (.t 2), none⟩,
⟨some 27, .load false 1 (.t 26), none⟩,
⟨some 28, .faddr 2 (.t 2), none⟩,
⟨some 29, .load false 1 (.t 28), none⟩,
⟨some 30, .mov (.t 5), none⟩,
⟨some 31, .bin .sub (.t 29) (.t 30), none⟩,
⟨some 32, .call false (.f 72) [(.t 27), (.t 31)], none⟩,
⟨some 6, .mov (.t 32), none⟩] [2, 3, 4, 5, 6] [])
(.seq (.reg [⟨some 33, .faddr 1 (.t 3), none⟩,
⟨some 34, .load false 1 (.t 33), none⟩,
⟨some 35, .faddr 2 (.t 3), none⟩,
⟨some 36, .load false 1 (.t 35), none⟩,
⟨some 37, .mov (.t 5), none⟩,
⟨some 38, .bin .sub (.t 36) (.t 37), none⟩,
⟨some 39, .call false (.f 72) [(.t 34), (.t 38)], none⟩,
⟨some 7, .mov (.t 39), none⟩] [2, 3, 4, 5, 6, 7] [])
(.seq (.seq (.reg [⟨some 40, .faddr 0 (.t 2), none⟩,
⟨some 41, .load false 1 (.t 40), none⟩,
⟨some 42, .faddr 0 (.t 3), none⟩,
⟨some 43, .load false 1 (.t 42), none⟩,
⟨some 44, .eqb false (.t 41) (.t 43), none⟩] [2, 3, 4, 5, 6, 7, 44] [])
(.cond (.t 44)
(.seq (.reg [⟨some 45, .faddr 0 (.t 2), none⟩,
⟨some 46, .load false 1 (.t 45), none⟩,
⟨some 47, .mov (.t 6), none⟩,
⟨some 48, .mov (.t 7), none⟩,
⟨some 49, .call false (.f 99) [(.t 47), (.t 48)], none⟩,
⟨some 50, .mov (.t 5), none⟩,
⟨some 51, .call false (.f 45) [(.t 46), (.t 49), (.t 50)], none⟩,
⟨none, .store 3 (.t 4) (.t 51), none⟩] [4] [])
.ret)
.skip))
(.seq (.seq (.reg [⟨some 52, .mov (.t 6), none⟩,
⟨some 53, .mov (.t 7), none⟩,
⟨some 54, .call false (.f 100) [(.t 52), (.t 53)], none⟩,
⟨some 55, .bin .geq (.t 54) (.c (.int .i64 0)), none⟩] [2, 3, 4, 5, 6, 7, 55] [])
(.cond (.t 55)
(.seq (.reg [⟨some 56, .faddr 0 (.t 2), none⟩,
⟨some 57, .load false 1 (.t 56), none⟩,
⟨some 58, .mov (.t 6), none⟩,
⟨some 59, .mov (.t 7), none⟩,
⟨some 60, .call false (.f 101) [(.t 58), (.t 59)], none⟩,
⟨some 61, .mov (.t 5), none⟩,
⟨some 62, .call false (.f 45) [(.t 57), (.t 60), (.t 61)], none⟩,
⟨none, .store 3 (.t 4) (.t 62), none⟩] [4] [])
.ret)
.skip))
(.seq (.reg [⟨some 63, .faddr 0 (.t 3), none⟩,
⟨some 64, .load false 1 (.t 63), none⟩,
⟨some 65, .mov (.t 7), none⟩,
⟨some 66, .mov (.t 6), none⟩,
⟨some 67, .call false (.f 101) [(.t 65), (.t 66)], none⟩,
⟨some 68, .mov (.t 5), none⟩,
⟨some 69, .call false (.f 45) [(.t 64), (.t 67), (.t 68)], none⟩,
⟨none, .store 3 (.t 4) (.t 69), none⟩] [4] [])
.ret))))))))))⟩

def c_ref02_Two : IFn := ⟨[.cell 2 true 3],
(.seq (.reg [⟨some 2, .alloc [(.bool false), .nil, (.int .i64 0)], none⟩] [0, 2] [])
(.seq (.reg [⟨some 3, .bslice 1 1 [(.int .u32 0)] [(0, 1, (.c (.int .u32 1)))], none⟩,
⟨some 4, .mov (.t 0), none⟩,
⟨some 5, .build [(.bool false), .nil, (.int .i64 0)] [(1, 1, (.t 3)), (2, 1, (.t 4))], none⟩,
⟨none, .store 3 (.t 2) (.t 5), none⟩] [2] [])
.ret))⟩

def c_ref02_Cmp : IFn := ⟨[.tmp 4],
(.seq (.reg [⟨some 2, .box 3 (.t 0), none⟩,
⟨some 3, .box 3 (.t 1), none⟩,
⟨some 4, .mov (.c (.int .i64 0)), none⟩] [2, 3] [])
(.seq (.reg [⟨some 7, .load true 3 (.t 2), none⟩,
⟨some 8, .call false (.f 16) [(.t 7)], none⟩,
⟨some 9, .load true 3 (.t 3), none⟩,
⟨some 10, .call false (.f 16) [(.t 9)], none⟩,
⟨some 5, .mov (.t 8), none⟩,
⟨some 6, .mov (.t 10), none⟩] [2, 3, 5, 6] [])
(.seq (.seq (.reg [⟨some 11, .mov (.t 5), none⟩,
⟨some 12, .mov (.t 6), none⟩,
⟨some 13, .bin .neq (.t 11) (.t 12), none⟩] [2, 3, 5, 6, 13] [])
(.cond (.t 13)
(.seq (.seq (.reg [⟨some 14, .mov (.t 5), none⟩,
⟨some 15, .mov (.t 6), none⟩,
⟨some 16, .bin .lss (.t 14) (.t 15), none⟩] [16] [])
(.cond (.t 16)
(.seq (.reg [⟨some 4, .mov (.c (.int .i64 (-1))), none⟩] [4] [])
.ret)
.skip))
(.seq (.reg [⟨some 4, .mov (.c (.int .i64 1)), none⟩] [4] [])
.ret))
.skip))
(.seq (.seq (.reg [⟨some 17, .mov (.t 5), none⟩,
⟨some 18, .bin .eql (.t 17) (.c (.int .i64 0)), none⟩] [2, 3, 5, 18] [])
(.cond (.t 18)
(.seq (.reg [⟨some 4, .mov (.c (.int .i64 0)), none⟩] [4] [])
.ret)
.skip))
(.seq (.seq (.reg [⟨some 19, .load true 3 (.t 2), none⟩,
⟨some 20, .call false (.f 32) [(.t 19)], none⟩,
⟨some 21, .load true 3 (.t 3), none⟩,
⟨some 22, .call false (.f 32) [(.t 21)], none⟩,
⟨some 23, .bin .neq (.t 20) (.t 22), none⟩] [2, 3, 5, 23] [])
(.cond (.t 23)
(.seq (.seq (.reg [⟨some 24, .load true 3 (.t 2), none⟩,
⟨some 25, .call false (.f 32) [(.t 24)], none⟩,
⟨some 26, .load true 3 (.t 3), none⟩,
⟨some 27, .call false (.f 32) [(.t 26)], none⟩,
⟨some 28, .bin .lss (.t 25) (.t 27), none⟩,
⟨some 29, .mov (.t 5), none⟩,
⟨some 30, .bin .gtr (.t 29) (.c (.int .i64 0)), none⟩,
⟨some 31, .eqb false (.t 28) (.t 30), none⟩] [31] [])
(.cond (.t 31)
(.seq (.reg [⟨some 4, .mov (.c (.int .i64 (-1))), none⟩] [4] [])
.ret)
.skip))
(.seq (.reg [⟨some 4, .mov (.c (.int .i64 1)), none⟩] [4] [])
.ret))
.skip))
(.seq (.reg [⟨some 32, .load true 3 (.t 2), none⟩,
⟨some 33, .load true 3 (.t 3), none⟩,
⟨some 34, .call false (.f 70) [(.t 32), (.t 33)], none⟩,
⟨some 35, .call false (.f 16) [(.t 34)], none⟩,
⟨some 4, .mov (.t 35), none⟩] [4] [])
.ret))))))⟩

def c_ref02_Sub : IFn := ⟨[.cell 4 true 3],
(.seq (.reg [⟨some 2, .box 3 (.t 0), none⟩,
⟨some 3, .box 3 (.t 1), none⟩,
⟨some 4, .alloc [(.bool false), .nil, (.int .i64 0)], none⟩] [2, 3, 4] [])
(.seq (.reg [⟨some 5, .load true 3 (.t 2), none⟩,
⟨some 6, .load true 3 (.t 3), none⟩,
⟨some 7, .call false (.f 102) [(.t 6)], none⟩,
⟨some 8, .call false (.f 67) [(.t 5), (.t 7)], none⟩,
⟨none, .store 3 (.t 4) (.t 8), none⟩] [4] [])
.ret))⟩

def c_dyad_both_b1 : IC :=
(.seq (.reg [⟨some 8, .bin .lss (.t 7) (.t 6), none⟩] [5, 6, 7, 8] [])
(.seq (.cond (.t 8)
.skip
(.exit 0))
(.seq (.block 1
(.seq (.reg [⟨some 9, .iaddr 3 (.t 5) (.t 7), none⟩,
⟨some 10, .load true 3 (.t 9), none⟩,
⟨some 4, .alloc [(.bool false), .nil, (.int .i64 0)], none⟩,
⟨none, .store 3 (.t 4) (.t 10), none⟩] [4, 5, 6, 7] [])
(.seq (.reg [⟨some 11, .load true 3 (.t 4), none⟩,
⟨some 12, .call false (.f 48) [(.t 11)], none⟩,
⟨some 13, .un .not (.t 12), none⟩] [5, 6, 7, 13] [])
(.cond (.t 13)
(.seq (.reg [⟨some 2, .mov (.c (.bool false)), none⟩] [2] [])
.ret)
.skip))))
(.reg [⟨some 14, .bin .add (.t 7) (.c (.int .i64 1)), none⟩,
⟨some 7, .mov (.t 14), none⟩] [5, 6, 7] []))))
def c_dyad_both_l1 : IC := .loop [5, 6, 7] c_dyad_both_b1
def c_dyad_both : IFn := ⟨[.tmp 2],
(.seq (.reg [⟨some 2, .mov (.c (.bool false)), none⟩] [0] [])
(.seq (.seq (.reg [⟨some 5, .mov (.t 0), none⟩,
⟨some 6, .len (.t 5), none⟩,
⟨some 7, .mov (.c (.int .i64 0)), none⟩] [5, 6, 7] [])
(.block 0
 c_dyad_both_l1))
(.seq (.reg [⟨some 2, .mov (.c (.bool true)), none⟩] [2] [])
.ret)))⟩

def c_dyad_asked : IFn := ⟨[.tmp 2],
(.seq (.reg [⟨some 2, .mov (.c (.int .i64 0)), none⟩] [0] [])
(.seq (.block 0
(.seq (.reg [⟨some 4, .mov (.t 0), none⟩,
⟨some 5, .bin .lss (.t 4) (.c (.int .i64 1)), none⟩,
⟨some 3, .mov (.t 5), none⟩] [0, 3] [])
(.cond (.t 3)
(.seq (.reg [⟨some 2, .mov (.c (.int .i64 2)), none⟩] [2] [])
.ret)
(.seq (.reg [⟨some 7, .mov (.t 0), none⟩,
⟨some 8, .bin .gtr (.t 7) (.c (.int .i64 8192)), none⟩,
⟨some 6, .mov (.t 8), none⟩] [6] [])
(.cond (.t 6)
(.seq (.reg [⟨some 2, .mov (.c (.int .i64 3)), none⟩] [2] [])
.ret)
.skip)))))
(.seq (.reg [⟨some 2, .mov (.c (.int .i64 0)), none⟩] [2] [])
.ret)))⟩

def c_dyad_made : IFn := ⟨[.cell 10 true 3, .tmp 11, .tmp 12],
(.seq (.reg [⟨some 10, .alloc [(.bool false), .nil, (.int .i64 0)], none⟩,
⟨some 11, .mov (.c (.bool false)), none⟩,
⟨some 12, .mov (.c (.int .i64 0)), none⟩] [0, 1, 2, 3, 4, 10] [])
(.seq (.reg [⟨some 18, .mov (.t 1), none⟩,
⟨some 19, .call false (.f 49) [(.t 18)], none⟩,
⟨some 20, .mov (.t 4), none⟩,
⟨some 21, .bin .sub (.t 19) (.t 20), none⟩,
⟨some 22, .mm true (.c (.int .i64 0)) [(.t 21)], none⟩,
⟨some 13, .mov (.t 22), none⟩] [0, 1, 2, 3, 10, 13] [])
(.seq (.reg [⟨some 24, .mov (.t 1), none⟩,
⟨some 25, .mov (.t 13), none⟩,
⟨some 26, .un .neg (.t 25), none⟩,
⟨some 27, .call false (.f 50) [(.t 24), (.t 26)], none⟩,
⟨some 23, .mov (.t 27), none⟩,
⟨some 28, .ext (.t 23) 0, none⟩,
⟨some 29, .ext (.t 23) 1, none⟩,
⟨some 30, .ext (.t 23) 2, none⟩,
⟨some 1, .mov (.t 28), none⟩,
⟨some 14, .mov (.t 29), none⟩,
⟨some 15, .mov (.t 30), none⟩] [0, 1, 2, 3, 10, 13, 14] [])
(.seq (.reg [⟨some 32, .mov (.t 0), none⟩,
⟨some 33, .mov (.t 1), none⟩,
⟨some 34, .mov (.t 2), none⟩,
⟨some 35, .mov (.t 13), none⟩,
⟨some 36, .bin .add (.t 34) (.t 35), none⟩,
⟨some 37, .call false (.f 54) [(.t 32), (.t 33), (.t 36)], none⟩,
⟨some 31, .mov (.t 37), none⟩,
⟨some 38, .ext (.t 31) 0, none⟩,
⟨some 39, .ext (.t 31) 1, none⟩,
⟨some 16, .alloc [(.bool false), .nil, (.int .i64 0)], none⟩,
⟨none, .store 3 (.t 16) (.t 38), none⟩,
⟨some 17, .mov (.t 39), none⟩] [3, 10, 14, 16, 17] [])
(.seq (.seq (.reg [⟨some 40, .mov (.t 17), none⟩,
⟨some 41, .bin .neq (.t 40) (.c (.int .i64 0)), none⟩] [3, 10, 14, 16, 17, 41] [])
(.cond (.t 41)
(.seq (.reg [⟨some 42, .build [(.bool false), .nil, (.int .i64 0)] [], none⟩,
⟨some 43, .mov (.t 17), none⟩,
⟨none, .store 3 (.t 10) (.t 42), none⟩,
⟨some 11, .mov (.c (.bool false)), none⟩,
⟨some 12, .mov (.t 43), none⟩] [10, 11, 12] [])
.ret)
.skip))
(.seq (.reg [⟨some 44, .load true 3 (.t 16), none⟩,
⟨some 45, .mov (.t 14), none⟩,
⟨some 46, .mov (.t 45), none⟩,
⟨some 47, .mov (.t 3), some (46, false)⟩,
⟨some 48, .pick (.t 46) (.c (.bool true)) (.t 47), none⟩,
⟨none, .store 3 (.t 10) (.t 44), none⟩,
⟨some 11, .mov (.t 48), none⟩,
⟨some 12, .mov (.c (.int .i64 0)), none⟩] [10, 11, 12] [])
.ret))))))⟩

def c_ref02_Cut : IFn := ⟨[.cell 4 true 3, .tmp 5],
(.seq (.reg [⟨some 2, .box 3 (.t 0), none⟩,
⟨some 4, .alloc [(.bool false), .nil, (.int .i64 0)], none⟩,
⟨some 5, .mov (.c (.bool false)), none⟩] [1, 2, 4] [])
(.seq (.reg [⟨some 9, .faddr 1 (.t 2), none⟩,
⟨some 10, .load false 1 (.t 9), none⟩,
⟨some 11, .call false (.f 64) [(.t 10)], none⟩,
⟨some 12, .mov (.t 1), none⟩,
⟨some 13, .bin .sub (.t 11) (.t 12), none⟩,
⟨some 6, .mov (.t 13), none⟩] [2, 4, 6] [])
(.seq (.seq (.reg [⟨some 14, .mov (.t 6), none⟩,
⟨some 15, .bin .leq (.t 14) (.c (.int .i64 0)), none⟩] [2, 4, 6, 15] [])
(.cond (.t 15)
(.seq (.reg [⟨some 16, .load true 3 (.t 2), none⟩,
⟨none, .store 3 (.t 4) (.t 16), none⟩,
⟨some 5, .mov (.c (.bool false)), none⟩] [4, 5] [])
.ret)
.skip))
(.seq (.reg [⟨some 18, .faddr 1 (.t 2), none⟩,
⟨some 19, .load false 1 (.t 18), none⟩,
⟨some 20, .mov (.t 6), none⟩,
⟨some 21, .call false (.f 84) [(.t 19), (.t 20)], none⟩,
⟨some 17, .mov (.t 21), none⟩,
⟨some 22, .ext (.t 17) 0, none⟩,
⟨some 23, .ext (.t 17) 1, none⟩,
⟨some 7, .mov (.t 22), none⟩,
⟨some 8, .mov (.t 23), none⟩] [2, 4, 6, 7, 8] [])
(.seq (.reg [⟨some 24, .faddr 0 (.t 2), none⟩,
⟨some 25, .load false 1 (.t 24), none⟩,
⟨some 26, .mov (.t 7), none⟩,
⟨some 27, .faddr 2 (.t 2), none⟩,
⟨some 28, .load false 1 (.t 27), none⟩,
⟨some 29, .mov (.t 6), none⟩,
⟨some 30, .bin .add (.t 28) (.t 29), none⟩,
⟨some 31, .call false (.f 45) [(.t 25), (.t 26), (.t 30)], none⟩,
⟨some 32, .mov (.t 8), none⟩,
⟨none, .store 3 (.t 4) (.t 31), none⟩,
⟨some 5, .mov (.t 32), none⟩] [4, 5] [])
.ret)))))⟩

def c_dyad_inside : IFn := ⟨[.tmp 2],
(.seq (.reg [⟨some 2, .mov (.c (.bool false)), none⟩] [0] [])
(.seq (.reg [⟨some 3, .mov (.t 0), none⟩,
⟨some 4, .bin .leq (.c (.int .i64 (-16777216))) (.t 3), none⟩,
⟨some 5, .mov (.t 4), none⟩,
⟨some 6, .mov (.t 0), some (5, true)⟩,
⟨some 7, .bin .leq (.t 6) (.c (.int .i64 16777216)), some (5, true)⟩,
⟨some 8, .pick (.t 5) (.t 7) (.c (.bool false)), none⟩,
⟨some 2, .mov (.t 8), none⟩] [2] [])
.ret))⟩

def c_ref02_Neg : IFn := ⟨[.cell 2 true 3],
(.seq (.reg [⟨some 1, .box 3 (.t 0), none⟩,
⟨some 2, .alloc [(.bool false), .nil, (.int .i64 0)], none⟩] [1, 2] [])
(.seq (.seq (.reg [⟨some 3, .faddr 1 (.t 1), none⟩,
⟨some 4, .load false 1 (.t 3), none⟩,
⟨some 5, .len (.t 4), none⟩,
⟨some 6, .bin .gtr (.t 5) (.c (.int .i64 0)), none⟩] [1, 2, 6] [])
(.cond (.t 6)
(.reg [⟨some 7, .faddr 0 (.t 1), none⟩,
⟨some 8, .load false 1 (.t 7), none⟩,
⟨some 9, .un .not (.t 8), none⟩,
⟨some 10, .faddr 0 (.t 1), none⟩,
⟨none, .store 1 (.t 10) (.t 9), none⟩] [1, 2] [])
.skip))
(.seq (.reg [⟨some 11, .load true 3 (.t 1), none⟩,
⟨none, .store 3 (.t 2) (.t 11), none⟩] [2] [])
.ret)))⟩

structure HasC (gdb : Nat) (T : Tbl) : Prop where
  ref02_Same : T 14 = some c_ref02_Same
  ref02_Sign : T 16 = some c_ref02_Sign
  dyad_Sign : T 22 = some c_dyad_Sign
  ref02_Top : T 32 = some c_ref02_Top
  ref02_Abs : T 37 = some c_ref02_Abs
  dyad_Root : T 43 = some c_dyad_Root
  ref02_Root : T 44 = some c_ref02_Root
  ref02_Form : T 45 = some c_ref02_Form
  dyad_May : T 48 = some c_dyad_May
  dyad_Make : T 54 = some c_dyad_Make
  ref02_Shift : T 65 = some c_ref02_Shift
  ref02_Floor : T 66 = some c_ref02_Floor
  ref02_Add : T 67 = some c_ref02_Add
  ref02_Two : T 68 = some c_ref02_Two
  ref02_Cmp : T 69 = some c_ref02_Cmp
  ref02_Sub : T 70 = some c_ref02_Sub
  dyad_both : T 74 = some c_dyad_both
  dyad_asked : T 75 = some c_dyad_asked
  dyad_made : T 78 = some c_dyad_made
  ref02_Cut : T 80 = some c_ref02_Cut
  dyad_inside : T 87 = some c_dyad_inside
  ref02_Neg : T 102 = some c_ref02_Neg
end Go.Cv

/-
  The code of some functions, in the evaluator's form (written by a program from the program's own form).
-/
namespace Go.Cv
def c_word_Greatest : IFn := ⟨[.tmp 4, .tmp 5],
(.seq (.reg [⟨some 4, .mov (.c (.int .u64 0)), none⟩,
⟨some 5, .mov (.c (.int .i64 0)), none⟩] [0, 1] [])
(.seq (.reg [⟨some 6, .mov (.t 0), none⟩,
⟨some 7, .mov (.t 1), none⟩,
⟨some 8, .call false (.f 58) [(.t 6), (.t 7), (.f 59)], none⟩,
⟨some 9, .ext (.t 8) 0, none⟩,
⟨some 10, .ext (.t 8) 1, none⟩,
⟨some 4, .mov (.t 9), none⟩,
⟨some 5, .mov (.t 10), none⟩] [4, 5] [])
.ret))⟩

def c_word_Inf : IFn := ⟨[.tmp 4, .tmp 5],
(.seq (.reg [⟨some 4, .mov (.c (.int .u64 0)), none⟩,
⟨some 5, .mov (.c (.int .i64 0)), none⟩] [0, 1] [])
(.seq (.reg [⟨some 6, .mov (.t 0), none⟩,
⟨some 7, .mov (.t 1), none⟩,
⟨some 8, .call false (.f 58) [(.t 6), (.t 7), (.f 60)], none⟩,
⟨some 9, .ext (.t 8) 0, none⟩,
⟨some 10, .ext (.t 8) 1, none⟩,
⟨some 4, .mov (.t 9), none⟩,
⟨some 5, .mov (.t 10), none⟩] [4, 5] [])
.ret))⟩

def c_ref03_Is : IFn := ⟨[.tmp 2],
(.seq (.reg [⟨some 2, .mov (.c (.bool false)), none⟩] [0] [])
(.seq (.reg [⟨some 3, .mov (.t 0), none⟩,
⟨some 4, .bin .eql (.t 3) (.c (.int .u8 1)), none⟩,
⟨some 5, .mov (.t 4), none⟩,
⟨some 6, .mov (.t 0), some (5, false)⟩,
⟨some 7, .bin .eql (.t 6) (.c (.int .u8 2)), some (5, false)⟩,
⟨some 8, .pick (.t 5) (.c (.bool true)) (.t 7), none⟩,
⟨some 2, .mov (.t 8), none⟩] [2] [])
.ret))⟩

def c_ref03_Inf : IFn := ⟨[.tmp 4],
(.seq (.reg [⟨some 4, .mov (.c (.int .u64 0)), none⟩] [0, 1] [])
(.seq (.reg [⟨some 5, .mov (.t 0), none⟩,
⟨some 6, .mov (.t 1), none⟩,
⟨some 7, .mov (.t 0), none⟩,
⟨some 8, .call false (.f 63) [(.t 7)], none⟩,
⟨some 9, .build [(.bool false), (.int .i64 0), (.int .u64 0)] [(0, 1, (.t 6)), (1, 1, (.t 8))], none⟩,
⟨some 10, .call false (.f 62) [(.t 5), (.t 9)], none⟩,
⟨some 4, .mov (.t 10), none⟩] [4] [])
.ret))⟩

def c_ref03_Frac : IFn := ⟨[.tmp 2],
(.seq (.reg [⟨some 2, .mov (.c (.int .i64 0)), none⟩] [0] [])
(.seq (.seq (.reg [⟨some 3, .mov (.t 0), none⟩,
⟨some 4, .bin .eql (.t 3) (.c (.int .u8 1)), none⟩] [4] [])
(.cond (.t 4)
(.seq (.reg [⟨some 2, .mov (.c (.int .i64 23)), none⟩] [2] [])
.ret)
.skip))
(.seq (.reg [⟨some 2, .mov (.c (.int .i64 52)), none⟩] [2] [])
.ret)))⟩

def c_ref03_Low : IFn := ⟨[.tmp 2],
(.seq (.reg [⟨some 2, .mov (.c (.int .i64 0)), none⟩] [0] [])
(.seq (.seq (.reg [⟨some 3, .mov (.t 0), none⟩,
⟨some 4, .bin .eql (.t 3) (.c (.int .u8 1)), none⟩] [4] [])
(.cond (.t 4)
(.seq (.reg [⟨some 2, .mov (.c (.int .i64 (-149))), none⟩] [2] [])
.ret)
.skip))
(.seq (.reg [⟨some 2, .mov (.c (.int .i64 (-1074))), none⟩] [2] [])
.ret)))⟩

def c_ref03_Wide : IFn := ⟨[.tmp 2],
(.seq (.reg [⟨some 2, .mov (.c (.int .i64 0)), none⟩] [0] [])
(.seq (.seq (.reg [⟨some 3, .mov (.t 0), none⟩,
⟨some 4, .bin .eql (.t 3) (.c (.int .u8 1)), none⟩] [4] [])
(.cond (.t 4)
(.seq (.reg [⟨some 2, .mov (.c (.int .i64 128)), none⟩] [2] [])
.ret)
.skip))
(.seq (.reg [⟨some 2, .mov (.c (.int .i64 1024)), none⟩] [2] [])
.ret)))⟩

def c_ref03_Of : IFn := ⟨[.tmp 4, .tmp 5],
(.seq (.reg [⟨some 3, .box 3 (.t 1), none⟩,
⟨some 4, .mov (.c (.int .u64 0)), none⟩,
⟨some 5, .mov (.c (.bool false)), none⟩] [0, 3] [])
(.seq (.seq (.reg [⟨some 11, .load true 3 (.t 3), none⟩,
⟨some 12, .call false (.f 16) [(.t 11)], none⟩,
⟨some 13, .bin .eql (.t 12) (.c (.int .i64 0)), none⟩] [0, 3, 13] [])
(.cond (.t 13)
(.seq (.reg [⟨some 4, .mov (.c (.int .u64 0)), none⟩,
⟨some 5, .mov (.c (.bool true)), none⟩] [4, 5] [])
.ret)
.skip))
(.seq (.reg [⟨some 14, .load true 3 (.t 3), none⟩,
⟨some 15, .call false (.f 32) [(.t 14)], none⟩,
⟨some 6, .mov (.t 15), none⟩] [0, 3, 6] [])
(.seq (.seq (.reg [⟨some 16, .mov (.t 6), none⟩,
⟨some 17, .mov (.t 0), none⟩,
⟨some 18, .call false (.f 35) [(.t 17)], none⟩,
⟨some 19, .bin .gtr (.t 16) (.t 18), none⟩,
⟨some 20, .mov (.t 19), none⟩,
⟨some 21, .faddr 2 (.t 3), some (20, false)⟩,
⟨some 22, .load false 1 (.t 21), some (20, false)⟩,
⟨some 23, .mov (.t 0), some (20, false)⟩,
⟨some 24, .call false (.f 33) [(.t 23)], some (20, false)⟩,
⟨some 25, .bin .lss (.t 22) (.t 24), some (20, false)⟩,
⟨some 26, .pick (.t 20) (.c (.bool true)) (.t 25), none⟩,
⟨some 27, .mov (.t 26), none⟩,
⟨some 28, .faddr 1 (.t 3), some (27, false)⟩,
⟨some 29, .load false 1 (.t 28), some (27, false)⟩,
⟨some 30, .call false (.f 64) [(.t 29)], some (27, false)⟩,
⟨some 31, .mov (.t 0), some (27, false)⟩,
⟨some 32, .call false (.f 31) [(.t 31)], some (27, false)⟩,
⟨some 33, .bin .add (.t 32) (.c (.int .i64 1)), some (27, false)⟩,
⟨some 34, .bin .gtr (.t 30) (.t 33), some (27, false)⟩,
⟨some 35, .pick (.t 27) (.c (.bool true)) (.t 34), none⟩] [0, 3, 6, 35] [])
(.cond (.t 35)
(.seq (.reg [⟨some 4, .mov (.c (.int .u64 0)), none⟩,
⟨some 5, .mov (.c (.bool false)), none⟩] [4, 5] [])
.ret)
.skip))
(.seq (.reg [⟨some 36, .mov (.t 6), none⟩,
⟨some 37, .mov (.t 0), none⟩,
⟨some 38, .call false (.f 31) [(.t 37)], none⟩,
⟨some 39, .bin .sub (.t 36) (.t 38), none⟩,
⟨some 40, .bin .sub (.t 39) (.c (.int .i64 1)), none⟩,
⟨some 7, .mov (.t 40), none⟩] [0, 3, 7] [])
(.seq (.seq (.reg [⟨some 41, .mov (.t 7), none⟩,
⟨some 42, .mov (.t 0), none⟩,
⟨some 43, .call false (.f 33) [(.t 42)], none⟩,
⟨some 44, .bin .lss (.t 41) (.t 43), none⟩] [0, 3, 7, 44] [])
(.cond (.t 44)
(.reg [⟨some 45, .mov (.t 0), none⟩,
⟨some 46, .call false (.f 33) [(.t 45)], none⟩,
⟨some 7, .mov (.t 46), none⟩] [0, 3, 7] [])
.skip))
(.seq (.reg [⟨some 47, .faddr 1 (.t 3), none⟩,
⟨some 48, .load false 1 (.t 47), none⟩,
⟨some 49, .faddr 2 (.t 3), none⟩,
⟨some 50, .load false 1 (.t 49), none⟩,
⟨some 51, .mov (.t 7), none⟩,
⟨some 52, .bin .sub (.t 50) (.t 51), none⟩,
⟨some 53, .call false (.f 72) [(.t 48), (.t 52)], none⟩,
⟨some 8, .mov (.t 53), none⟩] [0, 3, 7, 8] [])
(.seq (.reg [⟨some 54, .mov (.t 8), none⟩,
⟨some 55, .iaddr 1 (.t 54) (.c (.int .i64 0)), none⟩,
⟨some 56, .load false 1 (.t 55), none⟩,
⟨some 57, .cvt .u64 (.t 56), none⟩,
⟨some 9, .mov (.t 57), none⟩] [0, 3, 7, 8, 9] [])
(.seq (.seq (.reg [⟨some 58, .mov (.t 8), none⟩,
⟨some 59, .len (.t 58), none⟩,
⟨some 60, .bin .gtr (.t 59) (.c (.int .i64 1)), none⟩] [0, 3, 7, 8, 9, 60] [])
(.cond (.t 60)
(.reg [⟨some 61, .mov (.t 9), none⟩,
⟨some 62, .mov (.t 8), none⟩,
⟨some 63, .iaddr 1 (.t 62) (.c (.int .i64 1)), none⟩,
⟨some 64, .load false 1 (.t 63), none⟩,
⟨some 65, .cvt .u64 (.t 64), none⟩,
⟨some 66, .bin .shl (.t 65) (.c (.int .u64 32)), none⟩,
⟨some 67, .bin .add (.t 61) (.t 66), none⟩,
⟨some 9, .mov (.t 67), none⟩] [0, 3, 7, 9] [])
.skip))
(.seq (.reg [⟨some 68, .faddr 0 (.t 3), none⟩,
⟨some 69, .load false 1 (.t 68), none⟩,
⟨some 70, .mov (.t 9), none⟩,
⟨some 71, .build [(.bool false), (.int .i64 0), (.int .u64 0)] [(0, 1, (.t 69)), (2, 1, (.t 70))], none⟩,
⟨some 10, .alloc [(.bool false), (.int .i64 0), (.int .u64 0)], none⟩,
⟨none, .store 3 (.t 10) (.t 71), none⟩] [0, 7, 9, 10] [])
(.seq (.seq (.reg [⟨some 72, .mov (.t 9), none⟩,
⟨some 73, .mov (.t 0), none⟩,
⟨some 74, .call false (.f 31) [(.t 73)], none⟩,
⟨some 75, .bin .shr (.t 72) (.t 74), none⟩,
⟨some 76, .bin .gtr (.t 75) (.c (.int .u64 0)), none⟩] [0, 7, 9, 10, 76] [])
(.cond (.t 76)
(.seq (.reg [⟨some 77, .mov (.t 9), none⟩,
⟨some 78, .mov (.t 0), none⟩,
⟨some 79, .call false (.f 31) [(.t 78)], none⟩,
⟨some 80, .bin .shl (.c (.int .u64 1)) (.t 79), none⟩,
⟨some 81, .bin .sub (.t 77) (.t 80), none⟩,
⟨some 82, .faddr 2 (.t 10), none⟩,
⟨none, .store 1 (.t 82) (.t 81), none⟩] [0, 7, 10] [])
(.reg [⟨some 83, .mov (.t 7), none⟩,
⟨some 84, .mov (.t 0), none⟩,
⟨some 85, .call false (.f 33) [(.t 84)], none⟩,
⟨some 86, .bin .sub (.t 83) (.t 85), none⟩,
⟨some 87, .bin .add (.t 86) (.c (.int .i64 1)), none⟩,
⟨some 88, .faddr 1 (.t 10), none⟩,
⟨none, .store 1 (.t 88) (.t 87), none⟩] [0, 10] []))
.skip))
(.seq (.reg [⟨some 89, .mov (.t 0), none⟩,
⟨some 90, .load true 3 (.t 10), none⟩,
⟨some 91, .call false (.f 62) [(.t 89), (.t 90)], none⟩,
⟨some 4, .mov (.t 91), none⟩,
⟨some 5, .mov (.c (.bool true)), none⟩] [4, 5] [])
.ret))))))))))))⟩

def c_ref03_Signed : IFn := ⟨[.tmp 6],
(.seq (.reg [⟨some 6, .mov (.c (.int .u64 0)), none⟩] [0, 1, 2] [])
(.seq (.reg [⟨some 7, .mov (.t 1), none⟩,
⟨some 8, .mov (.t 0), none⟩,
⟨some 9, .call false (.f 73) [(.t 8)], none⟩,
⟨some 10, .bin .rem (.t 7) (.t 9), none⟩,
⟨some 1, .mov (.t 10), none⟩] [0, 1, 2] [])
(.seq (.seq (.reg [⟨some 11, .mov (.t 2), none⟩] [0, 1, 11] [])
(.cond (.t 11)
(.reg [⟨some 12, .mov (.t 1), none⟩,
⟨some 13, .mov (.t 0), none⟩,
⟨some 14, .call false (.f 73) [(.t 13)], none⟩,
⟨some 15, .bin .add (.t 12) (.t 14), none⟩,
⟨some 1, .mov (.t 15), none⟩] [1] [])
.skip))
(.seq (.reg [⟨some 16, .mov (.t 1), none⟩,
⟨some 6, .mov (.t 16), none⟩] [6] [])
.ret))))⟩

def c_word_Of : IFn := ⟨[.tmp 4, .tmp 5],
(.seq (.reg [⟨some 3, .box 3 (.t 1), none⟩,
⟨some 4, .mov (.c (.int .u64 0)), none⟩,
⟨some 5, .mov (.c (.int .i64 0)), none⟩] [0, 3] [])
(.seq (.reg [⟨some 14, .mov (.t 0), none⟩,
⟨some 15, .call false (.f 95) [(.t 14), (.c .nil)], none⟩,
⟨some 13, .mov (.t 15), none⟩,
⟨some 16, .ext (.t 13) 0, none⟩,
⟨some 17, .ext (.t 13) 1, none⟩,
⟨some 6, .alloc [(.int .i64 0), (.int .i64 0), (.int .u64 0)], none⟩,
⟨none, .store 3 (.t 6) (.t 16), none⟩,
⟨some 7, .mov (.t 17), none⟩] [3, 6, 7] [])
(.seq (.seq (.reg [⟨some 18, .mov (.t 7), none⟩,
⟨some 19, .bin .neq (.t 18) (.c (.int .i64 0)), none⟩] [3, 6, 7, 19] [])
(.cond (.t 19)
(.seq (.reg [⟨some 20, .mov (.t 7), none⟩,
⟨some 4, .mov (.c (.int .u64 0)), none⟩,
⟨some 5, .mov (.t 20), none⟩] [4, 5] [])
.ret)
.skip))
(.seq (.seq (.reg [⟨some 21, .load true 3 (.t 3), none⟩,
⟨some 22, .call false (.f 48) [(.t 21)], none⟩,
⟨some 23, .un .not (.t 22), none⟩] [3, 6, 23] [])
(.cond (.t 23)
(.seq (.reg [⟨some 4, .mov (.c (.int .u64 0)), none⟩,
⟨some 5, .mov (.c (.int .i64 2)), none⟩] [4, 5] [])
.ret)
.skip))
(.seq (.reg [⟨some 25, .faddr 1 (.t 3), none⟩,
⟨some 26, .load false 1 (.t 25), none⟩,
⟨some 27, .call false (.f 51) [(.t 26)], none⟩,
⟨some 24, .mov (.t 27), none⟩,
⟨some 28, .ext (.t 24) 0, none⟩,
⟨some 29, .ext (.t 24) 1, none⟩,
⟨some 8, .mov (.t 28), none⟩,
⟨some 9, .mov (.t 29), none⟩] [3, 6, 8, 9] [])
(.seq (.reg [⟨some 30, .mov (.t 8), none⟩,
⟨some 31, .call false (.f 53) [(.t 30)], none⟩,
⟨some 10, .mov (.t 31), none⟩] [3, 6, 8, 9, 10] [])
(.seq (.reg [⟨some 32, .faddr 2 (.t 3), none⟩,
⟨some 33, .load false 1 (.t 32), none⟩,
⟨some 34, .mov (.t 10), none⟩,
⟨some 35, .bin .add (.t 33) (.t 34), none⟩,
⟨some 11, .mov (.t 35), none⟩] [3, 6, 8, 9, 10, 11] [])
(.seq (.seq (.reg [⟨some 36, .mov (.t 9), none⟩,
⟨some 37, .un .not (.t 36), none⟩,
⟨some 38, .mov (.t 37), none⟩,
⟨some 39, .mov (.t 10), some (38, false)⟩,
⟨some 40, .faddr 0 (.t 6), some (38, false)⟩,
⟨some 41, .load false 1 (.t 40), some (38, false)⟩,
⟨some 42, .bin .add (.t 41) (.c (.int .i64 1)), some (38, false)⟩,
⟨some 43, .bin .gtr (.t 39) (.t 42), some (38, false)⟩,
⟨some 44, .pick (.t 38) (.c (.bool true)) (.t 43), none⟩,
⟨some 45, .mov (.t 44), none⟩,
⟨some 46, .mov (.t 8), some (45, false)⟩,
⟨some 47, .bin .neq (.t 46) (.c (.int .u64 0)), some (45, false)⟩,
⟨some 48, .mov (.t 47), some (45, false)⟩,
⟨some 49, .faddr 2 (.t 3), some (48, true)⟩,
⟨some 50, .load false 1 (.t 49), some (48, true)⟩,
⟨some 51, .load true 3 (.t 6), some (48, true)⟩,
⟨some 52, .call false (.f 96) [(.t 51)], some (48, true)⟩,
⟨some 53, .bin .lss (.t 50) (.t 52), some (48, true)⟩,
⟨some 54, .mov (.t 53), some (48, true)⟩,
⟨some 55, .mov (.t 11), some (54, false)⟩,
⟨some 56, .faddr 1 (.t 6), some (54, false)⟩,
⟨some 57, .load false 1 (.t 56), some (54, false)⟩,
⟨some 58, .bin .quo (.t 57) (.c (.int .i64 2)), some (54, false)⟩,
⟨some 59, .bin .add (.t 58) (.c (.int .i64 1)), some (54, false)⟩,
⟨some 60, .bin .gtr (.t 55) (.t 59), some (54, false)⟩,
⟨some 61, .pick (.t 54) (.c (.bool true)) (.t 60), some (48, true)⟩,
⟨some 62, .pick (.t 48) (.t 61) (.c (.bool false)), some (45, false)⟩,
⟨some 63, .pick (.t 45) (.c (.bool true)) (.t 62), none⟩] [3, 6, 8, 11, 63] [])
(.cond (.t 63)
(.seq (.reg [⟨some 4, .mov (.c (.int .u64 0)), none⟩,
⟨some 5, .mov (.c (.int .i64 7)), none⟩] [4, 5] [])
.ret)
.skip))
(.seq (.seq (.reg [⟨some 64, .mov (.t 8), none⟩,
⟨some 65, .bin .eql (.t 64) (.c (.int .u64 0)), none⟩] [3, 6, 8, 11, 65] [])
(.cond (.t 65)
(.seq (.reg [⟨some 4, .mov (.c (.int .u64 0)), none⟩,
⟨some 5, .mov (.c (.int .i64 0)), none⟩] [4, 5] [])
.ret)
.skip))
(.seq (.reg [⟨some 66, .mov (.t 11), none⟩,
⟨some 67, .faddr 0 (.t 6), none⟩,
⟨some 68, .load false 1 (.t 67), none⟩,
⟨some 69, .bin .sub (.t 66) (.t 68), none⟩,
⟨some 70, .bin .sub (.t 69) (.c (.int .i64 1)), none⟩,
⟨some 71, .load true 3 (.t 6), none⟩,
⟨some 72, .call false (.f 96) [(.t 71)], none⟩,
⟨some 73, .mm true (.t 70) [(.t 72)], none⟩,
⟨some 12, .mov (.t 73), none⟩] [3, 6, 8, 12] [])
(.seq (.reg [⟨some 74, .mov (.t 8), none⟩,
⟨some 75, .faddr 2 (.t 3), none⟩,
⟨some 76, .load false 1 (.t 75), none⟩,
⟨some 77, .mov (.t 12), none⟩,
⟨some 78, .bin .sub (.t 76) (.t 77), none⟩,
⟨some 79, .bin .shl (.t 74) (.t 78), none⟩,
⟨some 8, .mov (.t 79), none⟩] [3, 6, 8, 12] [])
(.seq (.reg [⟨some 80, .load true 3 (.t 6), none⟩,
⟨some 81, .faddr 0 (.t 3), none⟩,
⟨some 82, .load false 1 (.t 81), none⟩,
⟨some 83, .mov (.t 12), none⟩,
⟨some 84, .load true 3 (.t 6), none⟩,
⟨some 85, .call false (.f 96) [(.t 84)], none⟩,
⟨some 86, .bin .sub (.t 83) (.t 85), none⟩,
⟨some 87, .cvt .u64 (.t 86), none⟩,
⟨some 88, .faddr 0 (.t 6), none⟩,
⟨some 89, .load false 1 (.t 88), none⟩,
⟨some 90, .bin .shl (.t 87) (.t 89), none⟩,
⟨some 91, .mov (.t 8), none⟩,
⟨some 92, .bin .add (.t 90) (.t 91), none⟩,
⟨some 93, .build [(.bool false), (.int .i64 0), (.int .u64 0)] [(0, 1, (.t 82)), (2, 1, (.t 92))], none⟩,
⟨some 94, .call false (.f 97) [(.t 80), (.t 93)], none⟩,
⟨some 4, .mov (.t 94), none⟩,
⟨some 5, .mov (.c (.int .i64 0)), none⟩] [4, 5] [])
.ret))))))))))))⟩

def c_word_Zero : IFn := ⟨[.tmp 4, .tmp 5],
(.seq (.reg [⟨some 4, .mov (.c (.int .u64 0)), none⟩,
⟨some 5, .mov (.c (.int .i64 0)), none⟩] [0, 1] [])
(.seq (.reg [⟨some 6, .mov (.t 0), none⟩,
⟨some 7, .mov (.t 1), none⟩,
⟨some 8, .call false (.f 58) [(.t 6), (.t 7), (.f 98)], none⟩,
⟨some 9, .ext (.t 8) 0, none⟩,
⟨some 10, .ext (.t 8) 1, none⟩,
⟨some 4, .mov (.t 9), none⟩,
⟨some 5, .mov (.t 10), none⟩] [4, 5] [])
.ret))⟩

def c_word_named : IFn := ⟨[.tmp 6, .tmp 7],
(.seq (.reg [⟨some 6, .mov (.c (.int .u64 0)), none⟩,
⟨some 7, .mov (.c (.int .i64 0)), none⟩] [0, 1, 2] [])
(.seq (.reg [⟨some 12, .mov (.t 0), none⟩,
⟨some 13, .call false (.f 95) [(.t 12), (.c .nil)], none⟩,
⟨some 11, .mov (.t 13), none⟩,
⟨some 14, .ext (.t 11) 0, none⟩,
⟨some 15, .ext (.t 11) 1, none⟩,
⟨some 8, .alloc [(.int .i64 0), (.int .i64 0), (.int .u64 0)], none⟩,
⟨none, .store 3 (.t 8) (.t 14), none⟩,
⟨some 9, .mov (.t 15), none⟩] [1, 2, 8, 9] [])
(.seq (.seq (.reg [⟨some 16, .mov (.t 9), none⟩,
⟨some 17, .bin .neq (.t 16) (.c (.int .i64 0)), none⟩] [1, 2, 8, 9, 17] [])
(.cond (.t 17)
(.seq (.reg [⟨some 18, .mov (.t 9), none⟩,
⟨some 6, .mov (.c (.int .u64 0)), none⟩,
⟨some 7, .mov (.t 18), none⟩] [6, 7] [])
.ret)
.skip))
(.seq (.reg [⟨some 19, .mov (.t 2), none⟩,
⟨some 20, .load true 3 (.t 8), none⟩,
⟨some 21, .call false (.t 19) [(.t 20)], none⟩,
⟨some 10, .mov (.t 21), none⟩] [1, 8, 10] [])
(.seq (.seq (.reg [⟨some 22, .mov (.t 1), none⟩] [8, 10, 22] [])
(.cond (.t 22)
(.reg [⟨some 23, .mov (.t 10), none⟩,
⟨some 24, .faddr 2 (.t 8), none⟩,
⟨some 25, .load false 1 (.t 24), none⟩,
⟨some 26, .bin .or (.t 23) (.t 25), none⟩,
⟨some 10, .mov (.t 26), none⟩] [10] [])
.skip))
(.seq (.reg [⟨some 27, .mov (.t 10), none⟩,
⟨some 6, .mov (.t 27), none⟩,
⟨some 7, .mov (.c (.int .i64 0)), none⟩] [6, 7] [])
.ret))))))⟩

def c_word_Greatest_1 : IFn := ⟨[.tmp 2],
(.seq (.reg [⟨some 1, .box 3 (.t 0), none⟩,
⟨some 2, .mov (.c (.int .u64 0)), none⟩] [1] [])
(.seq (.reg [⟨some 3, .load true 3 (.t 1), none⟩,
⟨some 4, .call false (.f 60) [(.t 3)], none⟩,
⟨some 5, .bin .sub (.t 4) (.c (.int .u64 1)), none⟩,
⟨some 2, .mov (.t 5), none⟩] [2] [])
.ret))⟩

def c_word_shape_inf : IFn := ⟨[.tmp 2],
(.seq (.reg [⟨some 1, .box 3 (.t 0), none⟩,
⟨some 2, .mov (.c (.int .u64 0)), none⟩] [1] [])
(.seq (.reg [⟨some 3, .faddr 1 (.t 1), none⟩,
⟨some 4, .load false 1 (.t 3), none⟩,
⟨some 5, .cvt .u64 (.t 4), none⟩,
⟨some 6, .faddr 0 (.t 1), none⟩,
⟨some 7, .load false 1 (.t 6), none⟩,
⟨some 8, .bin .shl (.t 5) (.t 7), none⟩,
⟨some 2, .mov (.t 8), none⟩] [2] [])
.ret))⟩

def c_ref03_Join : IFn := ⟨[.tmp 4],
(.seq (.reg [⟨some 3, .box 3 (.t 1), none⟩,
⟨some 4, .mov (.c (.int .u64 0)), none⟩] [0, 3] [])
(.seq (.reg [⟨some 6, .faddr 1 (.t 3), none⟩,
⟨some 7, .load false 1 (.t 6), none⟩,
⟨some 8, .cvt .u64 (.t 7), none⟩,
⟨some 9, .mov (.t 0), none⟩,
⟨some 10, .call false (.f 31) [(.t 9)], none⟩,
⟨some 11, .bin .shl (.t 8) (.t 10), none⟩,
⟨some 12, .faddr 2 (.t 3), none⟩,
⟨some 13, .load false 1 (.t 12), none⟩,
⟨some 14, .bin .add (.t 11) (.t 13), none⟩,
⟨some 5, .mov (.t 14), none⟩] [0, 3, 5] [])
(.seq (.seq (.reg [⟨some 15, .faddr 0 (.t 3), none⟩,
⟨some 16, .load false 1 (.t 15), none⟩] [0, 5, 16] [])
(.cond (.t 16)
(.reg [⟨some 17, .mov (.t 5), none⟩,
⟨some 18, .mov (.t 0), none⟩,
⟨some 19, .call false (.f 73) [(.t 18)], none⟩,
⟨some 20, .bin .add (.t 17) (.t 19), none⟩,
⟨some 5, .mov (.t 20), none⟩] [5] [])
.skip))
(.seq (.reg [⟨some 21, .mov (.t 5), none⟩,
⟨some 4, .mov (.t 21), none⟩] [4] [])
.ret))))⟩

def c_ref03_Most : IFn := ⟨[.tmp 2],
(.seq (.reg [⟨some 2, .mov (.c (.int .i64 0)), none⟩] [0] [])
(.seq (.seq (.reg [⟨some 3, .mov (.t 0), none⟩,
⟨some 4, .bin .eql (.t 3) (.c (.int .u8 1)), none⟩] [4] [])
(.cond (.t 4)
(.seq (.reg [⟨some 2, .mov (.c (.int .i64 255)), none⟩] [2] [])
.ret)
.skip))
(.seq (.reg [⟨some 2, .mov (.c (.int .i64 2047)), none⟩] [2] [])
.ret)))⟩

def c_ref03_Sign : IFn := ⟨[.tmp 2],
(.seq (.reg [⟨some 2, .mov (.c (.int .u64 0)), none⟩] [0] [])
(.seq (.seq (.reg [⟨some 3, .mov (.t 0), none⟩,
⟨some 4, .bin .eql (.t 3) (.c (.int .u8 1)), none⟩] [4] [])
(.cond (.t 4)
(.seq (.reg [⟨some 2, .mov (.c (.int .u64 2147483648)), none⟩] [2] [])
.ret)
.skip))
(.seq (.reg [⟨some 2, .mov (.c (.int .u64 9223372036854775808)), none⟩] [2] [])
.ret)))⟩

def c_word_open_b1 : IC :=
(.seq (.reg [⟨some 21, .bin .lss (.t 20) (.t 19), none⟩] [4, 6, 18, 19, 20, 21] [])
(.seq (.cond (.t 21)
.skip
(.exit 0))
(.seq (.block 1
(.seq (.reg [⟨some 22, .iaddr 1 (.t 18) (.t 20), none⟩,
⟨some 23, .load false 1 (.t 22), none⟩,
⟨some 9, .mov (.t 23), none⟩] [4, 6, 9, 18, 19, 20] [])
(.seq (.reg [⟨some 24, .mov (.t 9), none⟩,
⟨some 25, .faddr 2 (.t 6), none⟩,
⟨some 26, .load false 1 (.t 25), none⟩,
⟨some 27, .faddr 2 (.t 6), none⟩,
⟨some 28, .load false 1 (.t 27), none⟩,
⟨some 29, .bin .sub (.t 28) (.c (.int .u64 1)), none⟩,
⟨some 30, .bin .or (.t 26) (.t 29), none⟩,
⟨some 31, .bin .gtr (.t 24) (.t 30), none⟩] [4, 6, 18, 19, 20, 31] [])
(.cond (.t 31)
(.seq (.reg [⟨some 32, .load true 3 (.t 6), none⟩,
⟨none, .store 3 (.t 4) (.t 32), none⟩,
⟨some 5, .mov (.c (.int .i64 6)), none⟩] [4, 5] [])
.ret)
.skip))))
(.reg [⟨some 33, .bin .add (.t 20) (.c (.int .i64 1)), none⟩,
⟨some 20, .mov (.t 33), none⟩] [4, 6, 18, 19, 20] []))))
def c_word_open_l1 : IC := .loop [4, 6, 18, 19, 20] c_word_open_b1
def c_word_open : IFn := ⟨[.cell 4 true 3, .tmp 5],
(.seq (.reg [⟨some 4, .alloc [(.int .i64 0), (.int .i64 0), (.int .u64 0)], none⟩,
⟨some 5, .mov (.c (.int .i64 0)), none⟩] [0, 1, 4] [])
(.seq (.reg [⟨some 11, .mov (.t 0), none⟩,
⟨some 12, .call false (.f 115) [(.t 11)], none⟩,
⟨some 10, .mov (.t 12), none⟩,
⟨some 13, .ext (.t 10) 0, none⟩,
⟨some 14, .ext (.t 10) 1, none⟩,
⟨some 6, .alloc [(.int .i64 0), (.int .i64 0), (.int .u64 0)], none⟩,
⟨none, .store 3 (.t 6) (.t 13), none⟩,
⟨some 7, .mov (.t 14), none⟩] [1, 4, 6, 7] [])
(.seq (.seq (.reg [⟨some 15, .mov (.t 7), none⟩,
⟨some 16, .un .not (.t 15), none⟩] [1, 4, 6, 16] [])
(.cond (.t 16)
(.seq (.reg [⟨some 17, .load true 3 (.t 6), none⟩,
⟨none, .store 3 (.t 4) (.t 17), none⟩,
⟨some 5, .mov (.c (.int .i64 4)), none⟩] [4, 5] [])
.ret)
.skip))
(.seq (.seq (.reg [⟨some 18, .mov (.t 1), none⟩,
⟨some 19, .len (.t 18), none⟩,
⟨some 20, .mov (.c (.int .i64 0)), none⟩] [4, 6, 18, 19, 20] [])
(.block 0
 c_word_open_l1))
(.seq (.reg [⟨some 34, .load true 3 (.t 6), none⟩,
⟨none, .store 3 (.t 4) (.t 34), none⟩,
⟨some 5, .mov (.c (.int .i64 0)), none⟩] [4, 5] [])
.ret)))))⟩

def c_word_shape_low : IFn := ⟨[.tmp 2],
(.seq (.reg [⟨some 1, .box 3 (.t 0), none⟩,
⟨some 2, .mov (.c (.int .i64 0)), none⟩] [1] [])
(.seq (.reg [⟨some 3, .faddr 1 (.t 1), none⟩,
⟨some 4, .load false 1 (.t 3), none⟩,
⟨some 5, .bin .quo (.t 4) (.c (.int .i64 2)), none⟩,
⟨some 6, .bin .sub (.c (.int .i64 1)) (.t 5), none⟩,
⟨some 7, .faddr 0 (.t 1), none⟩,
⟨some 8, .load false 1 (.t 7), none⟩,
⟨some 9, .bin .sub (.t 6) (.t 8), none⟩,
⟨some 2, .mov (.t 9), none⟩] [2] [])
.ret))⟩

def c_word_shape_join : IFn := ⟨[.tmp 4],
(.seq (.reg [⟨some 2, .box 3 (.t 0), none⟩,
⟨some 3, .box 3 (.t 1), none⟩,
⟨some 4, .mov (.c (.int .u64 0)), none⟩] [2, 3] [])
(.seq (.reg [⟨some 6, .faddr 1 (.t 3), none⟩,
⟨some 7, .load false 1 (.t 6), none⟩,
⟨some 8, .cvt .u64 (.t 7), none⟩,
⟨some 9, .faddr 0 (.t 2), none⟩,
⟨some 10, .load false 1 (.t 9), none⟩,
⟨some 11, .bin .shl (.t 8) (.t 10), none⟩,
⟨some 12, .faddr 2 (.t 3), none⟩,
⟨some 13, .load false 1 (.t 12), none⟩,
⟨some 14, .bin .or (.t 11) (.t 13), none⟩,
⟨some 5, .mov (.t 14), none⟩] [2, 3, 5] [])
(.seq (.seq (.reg [⟨some 15, .faddr 0 (.t 3), none⟩,
⟨some 16, .load false 1 (.t 15), none⟩] [2, 5, 16] [])
(.cond (.t 16)
(.reg [⟨some 17, .mov (.t 5), none⟩,
⟨some 18, .faddr 2 (.t 2), none⟩,
⟨some 19, .load false 1 (.t 18), none⟩,
⟨some 20, .bin .or (.t 17) (.t 19), none⟩,
⟨some 5, .mov (.t 20), none⟩] [5] [])
.skip))
(.seq (.reg [⟨some 21, .mov (.t 5), none⟩,
⟨some 4, .mov (.t 21), none⟩] [4] [])
.ret))))⟩

def c_word_Zero_1 : IFn := ⟨[.tmp 2],
(.seq (.reg [⟨some 1, .box 3 (.t 0), none⟩,
⟨some 2, .mov (.c (.int .u64 0)), none⟩] [] [])
(.seq (.reg [⟨some 2, .mov (.c (.int .u64 0)), none⟩] [2] [])
.ret))⟩

def c_word_shapeOf : IFn := ⟨[.cell 2 true 3, .tmp 3],
(.seq (.reg [⟨some 2, .alloc [(.int .i64 0), (.int .i64 0), (.int .u64 0)], none⟩,
⟨some 3, .mov (.c (.bool false)), none⟩] [0, 2] [])
(.seq (.seq (.reg [⟨some 4, .mov (.t 0), none⟩] [2, 4] [])
(.block 0
(.seq (.reg [⟨some 6, .bin .eql (.t 4) (.c (.int .u8 1)), none⟩,
⟨some 5, .mov (.t 6), none⟩] [2, 4, 5] [])
(.cond (.t 5)
(.seq (.reg [⟨some 7, .build [(.int .i64 0), (.int .i64 0), (.int .u64 0)] [(0, 1, (.c (.int .i64 23))), (1, 1, (.c (.int .i64 255))), (2, 1, (.c (.int .u64 2147483648)))], none⟩,
⟨none, .store 3 (.t 2) (.t 7), none⟩,
⟨some 3, .mov (.c (.bool true)), none⟩] [2, 3] [])
.ret)
(.seq (.reg [⟨some 9, .bin .eql (.t 4) (.c (.int .u8 2)), none⟩,
⟨some 8, .mov (.t 9), none⟩] [2, 8] [])
(.cond (.t 8)
(.seq (.reg [⟨some 10, .build [(.int .i64 0), (.int .i64 0), (.int .u64 0)] [(0, 1, (.c (.int .i64 52))), (1, 1, (.c (.int .i64 2047))), (2, 1, (.c (.int .u64 9223372036854775808)))], none⟩,
⟨none, .store 3 (.t 2) (.t 10), none⟩,
⟨some 3, .mov (.c (.bool true)), none⟩] [2, 3] [])
.ret)
.skip))))))
(.seq (.reg [⟨some 11, .build [(.int .i64 0), (.int .i64 0), (.int .u64 0)] [], none⟩,
⟨none, .store 3 (.t 2) (.t 11), none⟩,
⟨some 3, .mov (.c (.bool false)), none⟩] [2, 3] [])
.ret)))⟩

structure HasD (gdb : Nat) (T : Tbl) : Prop where
  word_Greatest : T 25 = some c_word_Greatest
  word_Inf : T 26 = some c_word_Inf
  ref03_Is : T 27 = some c_ref03_Is
  ref03_Inf : T 30 = some c_ref03_Inf
  ref03_Frac : T 31 = some c_ref03_Frac
  ref03_Low : T 33 = some c_ref03_Low
  ref03_Wide : T 35 = some c_ref03_Wide
  ref03_Of : T 36 = some c_ref03_Of
  ref03_Signed : T 38 = some c_ref03_Signed
  word_Of : T 56 = some c_word_Of
  word_Zero : T 57 = some c_word_Zero
  word_named : T 58 = some c_word_named
  word_Greatest_1 : T 59 = some c_word_Greatest_1
  word_shape_inf : T 60 = some c_word_shape_inf
  ref03_Join : T 62 = some c_ref03_Join
  ref03_Most : T 63 = some c_ref03_Most
  ref03_Sign : T 73 = some c_ref03_Sign
  word_open : T 95 = some c_word_open
  word_shape_low : T 96 = some c_word_shape_low
  word_shape_join : T 97 = some c_word_shape_join
  word_Zero_1 : T 98 = some c_word_Zero_1
  word_shapeOf : T 115 = some c_word_shapeOf
end Go.Cv

/-
  The code of some functions, in the evaluator's form (written by a program from the program's own form).
-/
namespace Go.Cv
def c_round_Round : IFn := ⟨[.tmp 6, .tmp 7, .tmp 8],
(.seq (.reg [⟨some 5, .box 3 (.t 2), none⟩,
⟨some 6, .mov (.c (.int .u64 0)), none⟩,
⟨some 7, .mov (.c (.int .u8 0)), none⟩,
⟨some 8, .mov (.c (.int .i64 0)), none⟩] [0, 1, 5] [])
(.seq (.reg [⟨some 14, .mov (.t 0), none⟩,
⟨some 15, .mov (.t 1), none⟩,
⟨some 16, .load true 3 (.t 5), none⟩,
⟨some 17, .bslice 1 3 [(.bool false), .nil, (.int .i64 0)] [(0, 3, (.t 16))], none⟩,
⟨some 18, .call false (.f 21) [(.t 14), (.t 15), (.t 17)], none⟩,
⟨some 13, .mov (.t 18), none⟩,
⟨some 19, .ext (.t 13) 0, none⟩,
⟨some 20, .ext (.t 13) 1, none⟩,
⟨some 9, .alloc [(.int .i64 0), (.int .i64 0), (.int .i64 0)], none⟩,
⟨none, .store 3 (.t 9) (.t 19), none⟩,
⟨some 10, .mov (.t 20), none⟩] [0, 1, 5, 9, 10] [])
(.seq (.seq (.reg [⟨some 21, .mov (.t 10), none⟩,
⟨some 22, .bin .neq (.t 21) (.c (.int .i64 0)), none⟩] [0, 1, 5, 9, 10, 22] [])
(.cond (.t 22)
(.seq (.reg [⟨some 23, .mov (.t 10), none⟩,
⟨some 6, .mov (.c (.int .u64 0)), none⟩,
⟨some 7, .mov (.c (.int .u8 0)), none⟩,
⟨some 8, .mov (.t 23), none⟩] [6, 7, 8] [])
.ret)
.skip))
(.seq (.seq (.reg [⟨some 24, .load true 3 (.t 5), none⟩,
⟨some 25, .call false (.f 22) [(.t 24)], none⟩,
⟨some 26, .bin .eql (.t 25) (.c (.int .i64 0)), none⟩] [0, 1, 5, 9, 26] [])
(.cond (.t 26)
(.seq (.reg [⟨some 6, .mov (.c (.int .u64 0)), none⟩,
⟨some 7, .mov (.c (.int .u8 0)), none⟩,
⟨some 8, .mov (.c (.int .i64 0)), none⟩] [6, 7, 8] [])
.ret)
.skip))
(.seq (.reg [⟨some 28, .load true 3 (.t 5), none⟩,
⟨some 29, .call false (.f 23) [(.t 28)], none⟩,
⟨some 30, .mov (.t 0), none⟩,
⟨some 31, .load true 3 (.t 9), none⟩,
⟨some 32, .mov (.t 1), none⟩,
⟨some 33, .faddr 0 (.t 5), none⟩,
⟨some 34, .load false 1 (.t 33), none⟩,
⟨some 35, .call false (.f 24) [(.t 29), (.t 30), (.t 31), (.t 32), (.t 34)], none⟩,
⟨some 27, .mov (.t 35), none⟩,
⟨some 36, .ext (.t 27) 0, none⟩,
⟨some 37, .ext (.t 27) 1, none⟩,
⟨some 11, .mov (.t 36), none⟩,
⟨some 12, .mov (.t 37), none⟩] [11, 12] [])
(.seq (.reg [⟨some 38, .mov (.t 11), none⟩,
⟨some 39, .mov (.t 12), none⟩,
⟨some 6, .mov (.t 38), none⟩,
⟨some 7, .mov (.t 39), none⟩,
⟨some 8, .mov (.c (.int .i64 0)), none⟩] [6, 7, 8] [])
.ret))))))⟩

def c_round_Over : IFn := ⟨[.tmp 6, .tmp 7],
(.seq (.reg [⟨some 6, .mov (.c (.int .u64 0)), none⟩,
⟨some 7, .mov (.c (.int .i64 0)), none⟩] [0, 1, 2] [])
(.seq (.seq (.reg [⟨some 11, .mov (.t 0), none⟩,
⟨some 12, .mov (.t 1), none⟩,
⟨some 13, .call false (.f 21) [(.t 11), (.t 12), (.c .nil)], none⟩,
⟨some 10, .mov (.t 13), none⟩,
⟨some 14, .ext (.t 10) 0, none⟩,
⟨some 15, .ext (.t 10) 1, none⟩,
⟨some 8, .alloc [(.int .i64 0), (.int .i64 0), (.int .i64 0)], none⟩,
⟨none, .store 3 (.t 8) (.t 14), none⟩,
⟨some 9, .mov (.t 15), none⟩] [0, 1, 2, 9] [])
(.seq (.reg [⟨some 16, .mov (.t 9), none⟩,
⟨some 17, .bin .neq (.t 16) (.c (.int .i64 0)), none⟩] [0, 1, 2, 9, 17] [])
(.cond (.t 17)
(.seq (.reg [⟨some 18, .mov (.t 9), none⟩,
⟨some 6, .mov (.c (.int .u64 0)), none⟩,
⟨some 7, .mov (.t 18), none⟩] [6, 7] [])
.ret)
.skip)))
(.seq (.seq (.reg [⟨some 19, .mov (.t 1), none⟩,
⟨some 20, .bin .eql (.t 19) (.c (.int .u8 3)), none⟩,
⟨some 21, .mov (.t 20), none⟩,
⟨some 22, .mov (.t 1), some (21, false)⟩,
⟨some 23, .bin .eql (.t 22) (.c (.int .u8 4)), some (21, false)⟩,
⟨some 24, .mov (.t 23), some (21, false)⟩,
⟨some 25, .mov (.t 2), some (24, true)⟩,
⟨some 26, .pick (.t 24) (.t 25) (.c (.bool false)), some (21, false)⟩,
⟨some 27, .pick (.t 21) (.c (.bool true)) (.t 26), none⟩,
⟨some 28, .mov (.t 27), none⟩,
⟨some 29, .mov (.t 1), some (28, false)⟩,
⟨some 30, .bin .eql (.t 29) (.c (.int .u8 5)), some (28, false)⟩,
⟨some 31, .mov (.t 30), some (28, false)⟩,
⟨some 32, .mov (.t 2), some (31, true)⟩,
⟨some 33, .un .not (.t 32), some (31, true)⟩,
⟨some 34, .pick (.t 31) (.t 33) (.c (.bool false)), some (28, false)⟩,
⟨some 35, .pick (.t 28) (.c (.bool true)) (.t 34), none⟩] [0, 2, 35] [])
(.cond (.t 35)
(.seq (.reg [⟨some 36, .mov (.t 0), none⟩,
⟨some 37, .mov (.t 2), none⟩,
⟨some 38, .call false (.f 25) [(.t 36), (.t 37)], none⟩,
⟨some 39, .ext (.t 38) 0, none⟩,
⟨some 40, .ext (.t 38) 1, none⟩,
⟨some 6, .mov (.t 39), none⟩,
⟨some 7, .mov (.t 40), none⟩] [6, 7] [])
.ret)
.skip))
(.seq (.reg [⟨some 41, .mov (.t 0), none⟩,
⟨some 42, .mov (.t 2), none⟩,
⟨some 43, .call false (.f 26) [(.t 41), (.t 42)], none⟩,
⟨some 44, .ext (.t 43) 0, none⟩,
⟨some 45, .ext (.t 43) 1, none⟩,
⟨some 6, .mov (.t 44), none⟩,
⟨some 7, .mov (.t 45), none⟩] [6, 7] [])
.ret))))⟩

def c_ref04_Over : IFn := ⟨[.tmp 6],
(.seq (.reg [⟨some 6, .mov (.c (.int .u64 0)), none⟩] [0, 1, 2] [])
(.seq (.seq (.reg [⟨some 7, .mov (.t 1), none⟩,
⟨some 8, .bin .eql (.t 7) (.c (.int .u8 3)), none⟩,
⟨some 9, .mov (.t 8), none⟩,
⟨some 10, .mov (.t 1), some (9, false)⟩,
⟨some 11, .bin .eql (.t 10) (.c (.int .u8 4)), some (9, false)⟩,
⟨some 12, .mov (.t 11), some (9, false)⟩,
⟨some 13, .mov (.t 2), some (12, true)⟩,
⟨some 14, .pick (.t 12) (.t 13) (.c (.bool false)), some (9, false)⟩,
⟨some 15, .pick (.t 9) (.c (.bool true)) (.t 14), none⟩,
⟨some 16, .mov (.t 15), none⟩,
⟨some 17, .mov (.t 1), some (16, false)⟩,
⟨some 18, .bin .eql (.t 17) (.c (.int .u8 5)), some (16, false)⟩,
⟨some 19, .mov (.t 18), some (16, false)⟩,
⟨some 20, .mov (.t 2), some (19, true)⟩,
⟨some 21, .un .not (.t 20), some (19, true)⟩,
⟨some 22, .pick (.t 19) (.t 21) (.c (.bool false)), some (16, false)⟩,
⟨some 23, .pick (.t 16) (.c (.bool true)) (.t 22), none⟩] [0, 2, 23] [])
(.cond (.t 23)
(.seq (.reg [⟨some 24, .mov (.t 0), none⟩,
⟨some 25, .mov (.t 2), none⟩,
⟨some 26, .call false (.f 30) [(.t 24), (.t 25)], none⟩,
⟨some 27, .bin .sub (.t 26) (.c (.int .u64 1)), none⟩,
⟨some 6, .mov (.t 27), none⟩] [6] [])
.ret)
.skip))
(.seq (.reg [⟨some 28, .mov (.t 0), none⟩,
⟨some 29, .mov (.t 2), none⟩,
⟨some 30, .call false (.f 30) [(.t 28), (.t 29)], none⟩,
⟨some 6, .mov (.t 30), none⟩] [6] [])
.ret)))⟩

def c_ref04_Round : IFn := ⟨[.tmp 6, .tmp 7],
(.seq (.reg [⟨some 5, .box 3 (.t 2), none⟩,
⟨some 6, .mov (.c (.int .u64 0)), none⟩,
⟨some 7, .mov (.c (.int .u8 0)), none⟩] [0, 1, 5] [])
(.seq (.seq (.reg [⟨some 14, .load true 3 (.t 5), none⟩,
⟨some 15, .call false (.f 16) [(.t 14)], none⟩,
⟨some 16, .bin .eql (.t 15) (.c (.int .i64 0)), none⟩] [0, 1, 5, 16] [])
(.cond (.t 16)
(.seq (.reg [⟨some 6, .mov (.c (.int .u64 0)), none⟩,
⟨some 7, .mov (.c (.int .u8 0)), none⟩] [6, 7] [])
.ret)
.skip))
(.seq (.reg [⟨some 17, .mov (.t 0), none⟩,
⟨some 18, .call false (.f 31) [(.t 17)], none⟩,
⟨some 19, .bin .add (.t 18) (.c (.int .i64 1)), none⟩,
⟨some 8, .mov (.t 19), none⟩] [0, 1, 5, 8] [])
(.seq (.reg [⟨some 20, .load true 3 (.t 5), none⟩,
⟨some 21, .call false (.f 32) [(.t 20)], none⟩,
⟨some 22, .mov (.t 8), none⟩,
⟨some 23, .bin .sub (.t 21) (.t 22), none⟩,
⟨some 9, .mov (.t 23), none⟩] [0, 1, 5, 8, 9] [])
(.seq (.reg [⟨some 24, .mov (.t 9), none⟩,
⟨some 10, .mov (.t 24), none⟩] [0, 1, 5, 8, 9, 10] [])
(.seq (.seq (.reg [⟨some 25, .mov (.t 10), none⟩,
⟨some 26, .mov (.t 0), none⟩,
⟨some 27, .call false (.f 33) [(.t 26)], none⟩,
⟨some 28, .bin .lss (.t 25) (.t 27), none⟩] [0, 1, 5, 8, 9, 10, 28] [])
(.cond (.t 28)
(.reg [⟨some 29, .mov (.t 0), none⟩,
⟨some 30, .call false (.f 33) [(.t 29)], none⟩,
⟨some 10, .mov (.t 30), none⟩] [0, 1, 5, 8, 9, 10] [])
.skip))
(.seq (.reg [⟨some 31, .mov (.t 1), none⟩,
⟨some 32, .load true 3 (.t 5), none⟩,
⟨some 33, .mov (.t 10), none⟩,
⟨some 34, .call false (.f 34) [(.t 31), (.t 32), (.t 33)], none⟩,
⟨some 11, .alloc [(.bool false), .nil, (.int .i64 0)], none⟩,
⟨none, .store 3 (.t 11) (.t 34), none⟩] [0, 1, 5, 8, 9, 11] [])
(.seq (.seq (.reg [⟨some 35, .load true 3 (.t 11), none⟩,
⟨some 36, .call false (.f 32) [(.t 35)], none⟩,
⟨some 37, .mov (.t 0), none⟩,
⟨some 38, .call false (.f 35) [(.t 37)], none⟩,
⟨some 39, .bin .gtr (.t 36) (.t 38), none⟩] [0, 1, 5, 8, 9, 11, 39] [])
(.cond (.t 39)
(.seq (.reg [⟨some 40, .mov (.t 0), none⟩,
⟨some 41, .mov (.t 1), none⟩,
⟨some 42, .faddr 0 (.t 5), none⟩,
⟨some 43, .load false 1 (.t 42), none⟩,
⟨some 44, .call false (.f 10) [(.t 40), (.t 41), (.t 43)], none⟩,
⟨some 6, .mov (.t 44), none⟩,
⟨some 7, .mov (.c (.int .u8 20)), none⟩] [6, 7] [])
.ret)
.skip))
(.seq (.reg [⟨some 46, .mov (.t 0), none⟩,
⟨some 47, .load true 3 (.t 11), none⟩,
⟨some 48, .call false (.f 37) [(.t 47)], none⟩,
⟨some 49, .call false (.f 36) [(.t 46), (.t 48)], none⟩,
⟨some 45, .mov (.t 49), none⟩,
⟨some 50, .ext (.t 45) 0, none⟩,
⟨some 51, .ext (.t 45) 1, none⟩,
⟨some 12, .mov (.t 50), none⟩,
⟨some 13, .mov (.t 51), none⟩] [0, 1, 5, 8, 9, 11, 12] [])
(.seq (.reg [⟨some 52, .mov (.t 0), none⟩,
⟨some 53, .mov (.t 12), none⟩,
⟨some 54, .faddr 0 (.t 5), none⟩,
⟨some 55, .load false 1 (.t 54), none⟩,
⟨some 56, .call false (.f 38) [(.t 52), (.t 53), (.t 55)], none⟩,
⟨some 12, .mov (.t 56), none⟩] [0, 1, 5, 8, 9, 11, 12] [])
(.seq (.seq (.reg [⟨some 57, .load true 3 (.t 5), none⟩,
⟨some 58, .load true 3 (.t 11), none⟩,
⟨some 59, .call false (.f 14) [(.t 57), (.t 58)], none⟩] [0, 1, 5, 8, 9, 12, 59] [])
(.cond (.t 59)
(.seq (.reg [⟨some 60, .mov (.t 12), none⟩,
⟨some 6, .mov (.t 60), none⟩,
⟨some 7, .mov (.c (.int .u8 0)), none⟩] [6, 7] [])
.ret)
.skip))
(.seq (.seq (.reg [⟨some 61, .mov (.t 1), none⟩,
⟨some 62, .load true 3 (.t 5), none⟩,
⟨some 63, .mov (.t 9), none⟩,
⟨some 64, .call false (.f 34) [(.t 61), (.t 62), (.t 63)], none⟩,
⟨some 65, .call false (.f 32) [(.t 64)], none⟩,
⟨some 66, .mov (.t 0), none⟩,
⟨some 67, .call false (.f 33) [(.t 66)], none⟩,
⟨some 68, .mov (.t 8), none⟩,
⟨some 69, .bin .add (.t 67) (.t 68), none⟩,
⟨some 70, .bin .lss (.t 65) (.t 69), none⟩] [12, 70] [])
(.cond (.t 70)
(.seq (.reg [⟨some 71, .mov (.t 12), none⟩,
⟨some 6, .mov (.t 71), none⟩,
⟨some 7, .mov (.c (.int .u8 24)), none⟩] [6, 7] [])
.ret)
.skip))
(.seq (.reg [⟨some 72, .mov (.t 12), none⟩,
⟨some 6, .mov (.t 72), none⟩,
⟨some 7, .mov (.c (.int .u8 16)), none⟩] [6, 7] [])
.ret)))))))))))))⟩

def c_round_Root : IFn := ⟨[.tmp 6, .tmp 7, .tmp 8],
(.seq (.reg [⟨some 5, .box 3 (.t 2), none⟩,
⟨some 6, .mov (.c (.int .u64 0)), none⟩,
⟨some 7, .mov (.c (.int .u8 0)), none⟩,
⟨some 8, .mov (.c (.int .i64 0)), none⟩] [0, 1, 5] [])
(.seq (.reg [⟨some 18, .mov (.t 0), none⟩,
⟨some 19, .mov (.t 1), none⟩,
⟨some 20, .load true 3 (.t 5), none⟩,
⟨some 21, .bslice 1 3 [(.bool false), .nil, (.int .i64 0)] [(0, 3, (.t 20))], none⟩,
⟨some 22, .call false (.f 21) [(.t 18), (.t 19), (.t 21)], none⟩,
⟨some 17, .mov (.t 22), none⟩,
⟨some 23, .ext (.t 17) 0, none⟩,
⟨some 24, .ext (.t 17) 1, none⟩,
⟨some 9, .alloc [(.int .i64 0), (.int .i64 0), (.int .i64 0)], none⟩,
⟨none, .store 3 (.t 9) (.t 23), none⟩,
⟨some 10, .mov (.t 24), none⟩] [0, 1, 5, 9, 10] [])
(.seq (.block 0
(.seq (.reg [⟨some 26, .mov (.t 10), none⟩,
⟨some 27, .bin .neq (.t 26) (.c (.int .i64 0)), none⟩,
⟨some 25, .mov (.t 27), none⟩] [0, 1, 5, 9, 10, 25] [])
(.cond (.t 25)
(.seq (.reg [⟨some 28, .mov (.t 10), none⟩,
⟨some 6, .mov (.c (.int .u64 0)), none⟩,
⟨some 7, .mov (.c (.int .u8 0)), none⟩,
⟨some 8, .mov (.t 28), none⟩] [6, 7, 8] [])
.ret)
(.seq (.reg [⟨some 30, .faddr 0 (.t 5), none⟩,
⟨some 31, .load false 1 (.t 30), none⟩,
⟨some 29, .mov (.t 31), none⟩] [0, 1, 5, 9, 29] [])
(.cond (.t 29)
(.seq (.reg [⟨some 6, .mov (.c (.int .u64 0)), none⟩,
⟨some 7, .mov (.c (.int .u8 0)), none⟩,
⟨some 8, .mov (.c (.int .i64 10)), none⟩] [6, 7, 8] [])
.ret)
(.seq (.reg [⟨some 33, .load true 3 (.t 5), none⟩,
⟨some 34, .call false (.f 22) [(.t 33)], none⟩,
⟨some 35, .bin .eql (.t 34) (.c (.int .i64 0)), none⟩,
⟨some 32, .mov (.t 35), none⟩] [0, 1, 5, 9, 32] [])
(.cond (.t 32)
(.seq (.reg [⟨some 6, .mov (.c (.int .u64 0)), none⟩,
⟨some 7, .mov (.c (.int .u8 0)), none⟩,
⟨some 8, .mov (.c (.int .i64 0)), none⟩] [6, 7, 8] [])
.ret)
.skip)))))))
(.seq (.reg [⟨some 37, .load true 3 (.t 5), none⟩,
⟨some 38, .call false (.f 43) [(.t 37), (.c (.int .i64 64))], none⟩,
⟨some 36, .mov (.t 38), none⟩,
⟨some 39, .ext (.t 36) 0, none⟩,
⟨some 40, .ext (.t 36) 1, none⟩,
⟨some 41, .ext (.t 36) 2, none⟩,
⟨some 11, .alloc [(.bool false), .nil, (.int .i64 0)], none⟩,
⟨none, .store 3 (.t 11) (.t 39), none⟩,
⟨some 12, .mov (.t 40), none⟩,
⟨some 13, .mov (.t 41), none⟩] [0, 1, 9, 11, 12] [])
(.seq (.reg [⟨some 42, .load true 3 (.t 11), none⟩,
⟨some 43, .call false (.f 23) [(.t 42)], none⟩,
⟨some 14, .alloc [(.int .u64 0), (.int .i64 0), (.bool false)], none⟩,
⟨none, .store 3 (.t 14) (.t 43), none⟩] [0, 1, 9, 12, 14] [])
(.seq (.reg [⟨some 44, .faddr 2 (.t 14), none⟩,
⟨some 45, .load false 1 (.t 44), none⟩,
⟨some 46, .mov (.t 45), none⟩,
⟨some 47, .mov (.t 12), some (46, false)⟩,
⟨some 48, .pick (.t 46) (.c (.bool true)) (.t 47), none⟩,
⟨some 49, .faddr 2 (.t 14), none⟩,
⟨none, .store 1 (.t 49) (.t 48), none⟩] [0, 1, 9, 14] [])
(.seq (.reg [⟨some 51, .load true 3 (.t 14), none⟩,
⟨some 52, .mov (.t 0), none⟩,
⟨some 53, .load true 3 (.t 9), none⟩,
⟨some 54, .mov (.t 1), none⟩,
⟨some 55, .call false (.f 24) [(.t 51), (.t 52), (.t 53), (.t 54), (.c (.bool false))], none⟩,
⟨some 50, .mov (.t 55), none⟩,
⟨some 56, .ext (.t 50) 0, none⟩,
⟨some 57, .ext (.t 50) 1, none⟩,
⟨some 15, .mov (.t 56), none⟩,
⟨some 16, .mov (.t 57), none⟩] [15, 16] [])
(.seq (.reg [⟨some 58, .mov (.t 15), none⟩,
⟨some 59, .mov (.t 16), none⟩,
⟨some 6, .mov (.t 58), none⟩,
⟨some 7, .mov (.t 59), none⟩,
⟨some 8, .mov (.c (.int .i64 0)), none⟩] [6, 7, 8] [])
.ret))))))))⟩

def c_ref04_Root : IFn := ⟨[.tmp 6, .tmp 7],
(.seq (.reg [⟨some 5, .box 3 (.t 2), none⟩,
⟨some 6, .mov (.c (.int .u64 0)), none⟩,
⟨some 7, .mov (.c (.int .u8 0)), none⟩] [0, 1, 5] [])
(.seq (.seq (.reg [⟨some 10, .load true 3 (.t 5), none⟩,
⟨some 11, .call false (.f 16) [(.t 10)], none⟩,
⟨some 12, .bin .eql (.t 11) (.c (.int .i64 0)), none⟩] [0, 1, 5, 12] [])
(.cond (.t 12)
(.seq (.reg [⟨some 6, .mov (.c (.int .u64 0)), none⟩,
⟨some 7, .mov (.c (.int .u8 0)), none⟩] [6, 7] [])
.ret)
.skip))
(.seq (.reg [⟨some 14, .load true 3 (.t 5), none⟩,
⟨some 15, .call false (.f 44) [(.t 14), (.c (.int .i64 60))], none⟩,
⟨some 13, .mov (.t 15), none⟩,
⟨some 16, .ext (.t 13) 0, none⟩,
⟨some 17, .ext (.t 13) 1, none⟩,
⟨some 8, .alloc [(.bool false), .nil, (.int .i64 0)], none⟩,
⟨none, .store 3 (.t 8) (.t 16), none⟩,
⟨some 9, .mov (.t 17), none⟩] [0, 1, 8, 9] [])
(.seq (.reg [⟨some 18, .mov (.t 0), none⟩,
⟨some 19, .mov (.t 1), none⟩,
⟨some 20, .load true 3 (.t 8), none⟩,
⟨some 21, .mov (.t 9), none⟩,
⟨some 22, .call false (.f 42) [(.t 20), (.t 21)], none⟩,
⟨some 23, .call false (.f 12) [(.t 18), (.t 19), (.t 22)], none⟩,
⟨some 24, .ext (.t 23) 0, none⟩,
⟨some 25, .ext (.t 23) 1, none⟩,
⟨some 6, .mov (.t 24), none⟩,
⟨some 7, .mov (.t 25), none⟩] [6, 7] [])
.ret))))⟩

def c_round_open_b1 : IC :=
(.seq (.reg [⟨some 30, .bin .lss (.t 29) (.t 28), none⟩] [6, 8, 27, 28, 29, 30] [])
(.seq (.cond (.t 30)
.skip
(.exit 0))
(.seq (.block 1
(.seq (.reg [⟨some 31, .iaddr 3 (.t 27) (.t 29), none⟩,
⟨some 32, .load true 3 (.t 31), none⟩,
⟨some 11, .alloc [(.bool false), .nil, (.int .i64 0)], none⟩,
⟨none, .store 3 (.t 11) (.t 32), none⟩] [6, 8, 11, 27, 28, 29] [])
(.seq (.reg [⟨some 33, .load true 3 (.t 11), none⟩,
⟨some 34, .call false (.f 48) [(.t 33)], none⟩,
⟨some 35, .un .not (.t 34), none⟩] [6, 8, 27, 28, 29, 35] [])
(.cond (.t 35)
(.seq (.reg [⟨some 36, .load true 3 (.t 8), none⟩,
⟨none, .store 3 (.t 6) (.t 36), none⟩,
⟨some 7, .mov (.c (.int .i64 2)), none⟩] [6, 7] [])
.ret)
.skip))))
(.reg [⟨some 37, .bin .add (.t 29) (.c (.int .i64 1)), none⟩,
⟨some 29, .mov (.t 37), none⟩] [6, 8, 27, 28, 29] []))))
def c_round_open_l1 : IC := .loop [6, 8, 27, 28, 29] c_round_open_b1
def c_round_open : IFn := ⟨[.cell 6 true 3, .tmp 7],
(.seq (.reg [⟨some 6, .alloc [(.int .i64 0), (.int .i64 0), (.int .i64 0)], none⟩,
⟨some 7, .mov (.c (.int .i64 0)), none⟩] [0, 1, 2, 6] [])
(.seq (.reg [⟨some 13, .mov (.t 0), none⟩,
⟨some 14, .call false (.f 47) [(.t 13)], none⟩,
⟨some 12, .mov (.t 14), none⟩,
⟨some 15, .ext (.t 12) 0, none⟩,
⟨some 16, .ext (.t 12) 1, none⟩,
⟨some 8, .alloc [(.int .i64 0), (.int .i64 0), (.int .i64 0)], none⟩,
⟨none, .store 3 (.t 8) (.t 15), none⟩,
⟨some 9, .mov (.t 16), none⟩] [1, 2, 6, 8, 9] [])
(.seq (.seq (.reg [⟨some 17, .mov (.t 9), none⟩,
⟨some 18, .un .not (.t 17), none⟩] [1, 2, 6, 8, 18] [])
(.cond (.t 18)
(.seq (.reg [⟨some 19, .load true 3 (.t 8), none⟩,
⟨none, .store 3 (.t 6) (.t 19), none⟩,
⟨some 7, .mov (.c (.int .i64 4)), none⟩] [6, 7] [])
.ret)
.skip))
(.seq (.seq (.reg [⟨some 20, .mov (.t 1), none⟩,
⟨some 21, .bin .lss (.t 20) (.c (.int .u8 1)), none⟩,
⟨some 22, .mov (.t 21), none⟩,
⟨some 23, .mov (.t 1), some (22, false)⟩,
⟨some 24, .bin .gtr (.t 23) (.c (.int .u8 5)), some (22, false)⟩,
⟨some 25, .pick (.t 22) (.c (.bool true)) (.t 24), none⟩] [2, 6, 8, 25] [])
(.cond (.t 25)
(.seq (.reg [⟨some 26, .load true 3 (.t 8), none⟩,
⟨none, .store 3 (.t 6) (.t 26), none⟩,
⟨some 7, .mov (.c (.int .i64 5)), none⟩] [6, 7] [])
.ret)
.skip))
(.seq (.seq (.reg [⟨some 27, .mov (.t 2), none⟩,
⟨some 28, .len (.t 27), none⟩,
⟨some 29, .mov (.c (.int .i64 0)), none⟩] [6, 8, 27, 28, 29] [])
(.block 0
 c_round_open_l1))
(.seq (.reg [⟨some 38, .load true 3 (.t 8), none⟩,
⟨none, .store 3 (.t 6) (.t 38), none⟩,
⟨some 7, .mov (.c (.int .i64 0)), none⟩] [6, 7] [])
.ret))))))⟩

def c_round_partOf : IFn := ⟨[.cell 2 true 3],
(.seq (.reg [⟨some 1, .box 3 (.t 0), none⟩,
⟨some 2, .alloc [(.int .u64 0), (.int .i64 0), (.bool false)], none⟩] [1, 2] [])
(.seq (.reg [⟨some 9, .faddr 1 (.t 1), none⟩,
⟨some 10, .load false 1 (.t 9), none⟩,
⟨some 11, .call false (.f 49) [(.t 10)], none⟩,
⟨some 3, .mov (.t 11), none⟩] [1, 2, 3] [])
(.seq (.reg [⟨some 13, .faddr 1 (.t 1), none⟩,
⟨some 14, .load false 1 (.t 13), none⟩,
⟨some 15, .mov (.t 3), none⟩,
⟨some 16, .bin .sub (.c (.int .i64 64)) (.t 15), none⟩,
⟨some 17, .call false (.f 50) [(.t 14), (.t 16)], none⟩,
⟨some 12, .mov (.t 17), none⟩,
⟨some 18, .ext (.t 12) 0, none⟩,
⟨some 19, .ext (.t 12) 1, none⟩,
⟨some 20, .ext (.t 12) 2, none⟩,
⟨some 4, .mov (.t 18), none⟩,
⟨some 5, .mov (.t 19), none⟩,
⟨some 6, .mov (.t 20), none⟩] [1, 2, 3, 4, 5] [])
(.seq (.reg [⟨some 22, .mov (.t 4), none⟩,
⟨some 23, .call false (.f 51) [(.t 22)], none⟩,
⟨some 21, .mov (.t 23), none⟩,
⟨some 24, .ext (.t 21) 0, none⟩,
⟨some 25, .ext (.t 21) 1, none⟩,
⟨some 7, .mov (.t 24), none⟩,
⟨some 8, .mov (.t 25), none⟩] [1, 2, 3, 5, 7] [])
(.seq (.reg [⟨some 26, .mov (.t 7), none⟩,
⟨some 27, .faddr 2 (.t 1), none⟩,
⟨some 28, .load false 1 (.t 27), none⟩,
⟨some 29, .mov (.t 3), none⟩,
⟨some 30, .bin .add (.t 28) (.t 29), none⟩,
⟨some 31, .mov (.t 5), none⟩,
⟨some 32, .build [(.int .u64 0), (.int .i64 0), (.bool false)] [(0, 1, (.t 26)), (1, 1, (.t 30)), (2, 1, (.t 31))], none⟩,
⟨none, .store 3 (.t 2) (.t 32), none⟩] [2] [])
.ret)))))⟩

def c_round_part_word : IFn := ⟨[.tmp 10, .tmp 11],
(.seq (.reg [⟨some 5, .box 3 (.t 0), none⟩,
⟨some 7, .box 3 (.t 2), none⟩,
⟨some 10, .mov (.c (.int .u64 0)), none⟩,
⟨some 11, .mov (.c (.int .u8 0)), none⟩] [1, 3, 4, 5, 7] [])
(.seq (.reg [⟨some 23, .faddr 1 (.t 5), none⟩,
⟨some 24, .load false 1 (.t 23), none⟩,
⟨some 25, .faddr 0 (.t 7), none⟩,
⟨some 26, .load false 1 (.t 25), none⟩,
⟨some 27, .bin .sub (.t 24) (.t 26), none⟩,
⟨some 28, .faddr 1 (.t 7), none⟩,
⟨some 29, .load false 1 (.t 28), none⟩,
⟨some 30, .mm true (.t 27) [(.t 29)], none⟩,
⟨some 12, .mov (.t 30), none⟩] [1, 3, 4, 5, 7, 12] [])
(.seq (.reg [⟨some 32, .load true 3 (.t 5), none⟩,
⟨some 33, .mov (.t 3), none⟩,
⟨some 34, .mov (.t 4), none⟩,
⟨some 35, .mov (.t 12), none⟩,
⟨some 36, .call false (.f 52) [(.t 32), (.t 33), (.t 34), (.t 35)], none⟩,
⟨some 31, .mov (.t 36), none⟩,
⟨some 37, .ext (.t 31) 0, none⟩,
⟨some 38, .ext (.t 31) 1, none⟩,
⟨some 13, .mov (.t 37), none⟩,
⟨some 14, .mov (.t 38), none⟩] [1, 3, 4, 5, 7, 12, 13, 14] [])
(.seq (.seq (.reg [⟨some 39, .mov (.t 13), none⟩,
⟨some 40, .call false (.f 53) [(.t 39)], none⟩,
⟨some 41, .mov (.t 12), none⟩,
⟨some 42, .bin .add (.t 40) (.t 41), none⟩,
⟨some 43, .faddr 2 (.t 7), none⟩,
⟨some 44, .load false 1 (.t 43), none⟩,
⟨some 45, .bin .gtr (.t 42) (.t 44), none⟩] [1, 3, 4, 5, 7, 12, 13, 14, 45] [])
(.cond (.t 45)
(.seq (.reg [⟨some 47, .mov (.t 1), none⟩,
⟨some 48, .mov (.t 3), none⟩,
⟨some 49, .mov (.t 4), none⟩,
⟨some 50, .call false (.f 8) [(.t 47), (.t 48), (.t 49)], none⟩,
⟨some 46, .mov (.t 50), none⟩,
⟨some 51, .ext (.t 46) 0, none⟩,
⟨some 52, .ext (.t 46) 1, none⟩,
⟨some 15, .mov (.t 51), none⟩,
⟨some 16, .mov (.t 52), none⟩] [15] [])
(.seq (.reg [⟨some 53, .mov (.t 15), none⟩,
⟨some 10, .mov (.t 53), none⟩,
⟨some 11, .mov (.c (.int .u8 20)), none⟩] [10, 11] [])
.ret))
.skip))
(.seq (.reg [⟨some 55, .mov (.t 4), none⟩,
⟨some 56, .mov (.t 13), none⟩,
⟨some 57, .call false (.f 55) [(.t 56)], none⟩,
⟨some 58, .mov (.t 12), none⟩,
⟨some 59, .call false (.f 54) [(.t 55), (.t 57), (.t 58)], none⟩,
⟨some 54, .mov (.t 59), none⟩,
⟨some 60, .ext (.t 54) 0, none⟩,
⟨some 61, .ext (.t 54) 1, none⟩,
⟨some 17, .alloc [(.bool false), .nil, (.int .i64 0)], none⟩,
⟨none, .store 3 (.t 17) (.t 60), none⟩,
⟨some 18, .mov (.t 61), none⟩] [1, 3, 4, 5, 7, 13, 14, 17] [])
(.seq (.reg [⟨some 63, .mov (.t 1), none⟩,
⟨some 64, .load true 3 (.t 17), none⟩,
⟨some 65, .call false (.f 56) [(.t 63), (.t 64)], none⟩,
⟨some 62, .mov (.t 65), none⟩,
⟨some 66, .ext (.t 62) 0, none⟩,
⟨some 67, .ext (.t 62) 1, none⟩,
⟨some 19, .mov (.t 66), none⟩,
⟨some 20, .mov (.t 67), none⟩] [1, 3, 4, 5, 7, 13, 14, 19] [])
(.seq (.seq (.reg [⟨some 68, .mov (.t 13), none⟩,
⟨some 69, .bin .eql (.t 68) (.c (.int .u64 0)), none⟩] [1, 3, 4, 5, 7, 14, 19, 69] [])
(.cond (.t 69)
(.reg [⟨some 71, .mov (.t 1), none⟩,
⟨some 72, .mov (.t 4), none⟩,
⟨some 73, .call false (.f 57) [(.t 71), (.t 72)], none⟩,
⟨some 70, .mov (.t 73), none⟩,
⟨some 74, .ext (.t 70) 0, none⟩,
⟨some 75, .ext (.t 70) 1, none⟩,
⟨some 19, .mov (.t 74), none⟩] [3, 4, 5, 7, 14, 19] [])
.skip))
(.seq (.seq (.reg [⟨some 76, .mov (.t 14), none⟩] [3, 4, 5, 7, 19, 76] [])
(.cond (.t 76)
(.seq (.reg [⟨some 77, .mov (.t 19), none⟩,
⟨some 10, .mov (.t 77), none⟩,
⟨some 11, .mov (.c (.int .u8 0)), none⟩] [10, 11] [])
.ret)
.skip))
(.seq (.reg [⟨some 79, .load true 3 (.t 5), none⟩,
⟨some 80, .mov (.t 3), none⟩,
⟨some 81, .mov (.t 4), none⟩,
⟨some 82, .faddr 1 (.t 5), none⟩,
⟨some 83, .load false 1 (.t 82), none⟩,
⟨some 84, .faddr 0 (.t 7), none⟩,
⟨some 85, .load false 1 (.t 84), none⟩,
⟨some 86, .bin .sub (.t 83) (.t 85), none⟩,
⟨some 87, .call false (.f 52) [(.t 79), (.t 80), (.t 81), (.t 86)], none⟩,
⟨some 78, .mov (.t 87), none⟩,
⟨some 88, .ext (.t 78) 0, none⟩,
⟨some 89, .ext (.t 78) 1, none⟩,
⟨some 21, .mov (.t 88), none⟩,
⟨some 22, .mov (.t 89), none⟩] [5, 7, 19, 21] [])
(.seq (.seq (.reg [⟨some 90, .mov (.t 21), none⟩,
⟨some 91, .call false (.f 53) [(.t 90)], none⟩,
⟨some 92, .faddr 1 (.t 5), none⟩,
⟨some 93, .load false 1 (.t 92), none⟩,
⟨some 94, .bin .add (.t 91) (.t 93), none⟩,
⟨some 95, .faddr 0 (.t 7), none⟩,
⟨some 96, .load false 1 (.t 95), none⟩,
⟨some 97, .bin .sub (.t 94) (.t 96), none⟩,
⟨some 98, .faddr 1 (.t 7), none⟩,
⟨some 99, .load false 1 (.t 98), none⟩,
⟨some 100, .faddr 0 (.t 7), none⟩,
⟨some 101, .load false 1 (.t 100), none⟩,
⟨some 102, .bin .add (.t 99) (.t 101), none⟩,
⟨some 103, .bin .lss (.t 97) (.t 102), none⟩] [19, 103] [])
(.cond (.t 103)
(.seq (.reg [⟨some 104, .mov (.t 19), none⟩,
⟨some 10, .mov (.t 104), none⟩,
⟨some 11, .mov (.c (.int .u8 24)), none⟩] [10, 11] [])
.ret)
.skip))
(.seq (.reg [⟨some 105, .mov (.t 19), none⟩,
⟨some 10, .mov (.t 105), none⟩,
⟨some 11, .mov (.c (.int .u8 16)), none⟩] [10, 11] [])
.ret)))))))))))⟩

def c_ref04_Is : IFn := ⟨[.tmp 2],
(.seq (.reg [⟨some 2, .mov (.c (.bool false)), none⟩] [0] [])
(.seq (.reg [⟨some 3, .mov (.t 0), none⟩,
⟨some 4, .bin .geq (.t 3) (.c (.int .u8 1)), none⟩,
⟨some 5, .mov (.t 4), none⟩,
⟨some 6, .mov (.t 0), some (5, true)⟩,
⟨some 7, .bin .leq (.t 6) (.c (.int .u8 5)), some (5, true)⟩,
⟨some 8, .pick (.t 5) (.t 7) (.c (.bool false)), none⟩,
⟨some 2, .mov (.t 8), none⟩] [2] [])
.ret))⟩

def c_ref04_Taken : IFn := ⟨[.cell 6 true 3],
(.seq (.reg [⟨some 4, .box 3 (.t 1), none⟩,
⟨some 6, .alloc [(.bool false), .nil, (.int .i64 0)], none⟩] [0, 2, 4, 6] [])
(.seq (.reg [⟨some 13, .load true 3 (.t 4), none⟩,
⟨some 14, .mov (.t 2), none⟩,
⟨some 15, .un .neg (.t 14), none⟩,
⟨some 16, .call false (.f 65) [(.t 13), (.t 15)], none⟩,
⟨some 17, .call false (.f 66) [(.t 16)], none⟩,
⟨some 18, .mov (.t 2), none⟩,
⟨some 19, .call false (.f 65) [(.t 17), (.t 18)], none⟩,
⟨some 7, .alloc [(.bool false), .nil, (.int .i64 0)], none⟩,
⟨none, .store 3 (.t 7) (.t 19), none⟩] [0, 2, 4, 6, 7] [])
(.seq (.seq (.reg [⟨some 20, .load true 3 (.t 7), none⟩,
⟨some 21, .load true 3 (.t 4), none⟩,
⟨some 22, .call false (.f 14) [(.t 20), (.t 21)], none⟩] [0, 2, 4, 6, 7, 22] [])
(.cond (.t 22)
(.seq (.reg [⟨some 23, .load true 3 (.t 4), none⟩,
⟨none, .store 3 (.t 6) (.t 23), none⟩] [6] [])
.ret)
.skip))
(.seq (.reg [⟨some 24, .load true 3 (.t 7), none⟩,
⟨some 25, .mov (.t 2), none⟩,
⟨some 26, .call false (.f 68) [(.t 25)], none⟩,
⟨some 27, .call false (.f 67) [(.t 24), (.t 26)], none⟩,
⟨some 8, .alloc [(.bool false), .nil, (.int .i64 0)], none⟩,
⟨none, .store 3 (.t 8) (.t 27), none⟩] [0, 2, 4, 6, 7, 8] [])
(.seq (.reg [⟨some 28, .load true 3 (.t 8), none⟩,
⟨some 29, .load true 3 (.t 7), none⟩,
⟨some 9, .alloc [(.bool false), .nil, (.int .i64 0)], none⟩,
⟨some 10, .alloc [(.bool false), .nil, (.int .i64 0)], none⟩,
⟨none, .store 3 (.t 9) (.t 28), none⟩,
⟨none, .store 3 (.t 10) (.t 29), none⟩] [0, 2, 4, 6, 7, 8, 9, 10] [(1, 4)])
(.seq (.seq (.reg [⟨some 30, .faddr 0 (.t 4), none⟩,
⟨some 31, .load false 1 (.t 30), none⟩] [0, 2, 4, 6, 7, 8, 9, 10, 31] [])
(.cond (.t 31)
(.reg [⟨some 32, .load true 3 (.t 7), none⟩,
⟨some 33, .load true 3 (.t 8), none⟩,
⟨none, .store 3 (.t 9) (.t 32), none⟩,
⟨none, .store 3 (.t 10) (.t 33), none⟩] [0, 2, 4, 6, 7, 8, 9, 10] [(1, 2)])
.skip))
(.seq (.seq (.reg [⟨some 34, .mov (.t 0), none⟩,
⟨some 35, .bin .eql (.t 34) (.c (.int .u8 5)), none⟩] [0, 2, 4, 6, 7, 8, 9, 10, 35] [])
(.cond (.t 35)
(.seq (.reg [⟨some 36, .load true 3 (.t 7), none⟩,
⟨none, .store 3 (.t 6) (.t 36), none⟩] [6] [])
.ret)
.skip))
(.seq (.seq (.reg [⟨some 37, .mov (.t 0), none⟩,
⟨some 38, .bin .eql (.t 37) (.c (.int .u8 4)), none⟩] [0, 2, 4, 6, 7, 8, 9, 10, 38] [])
(.cond (.t 38)
(.seq (.reg [⟨some 39, .load true 3 (.t 8), none⟩,
⟨none, .store 3 (.t 6) (.t 39), none⟩] [6] [])
.ret)
.skip))
(.seq (.seq (.reg [⟨some 40, .mov (.t 0), none⟩,
⟨some 41, .bin .eql (.t 40) (.c (.int .u8 3)), none⟩] [0, 2, 4, 6, 7, 8, 9, 10, 41] [])
(.cond (.t 41)
(.seq (.reg [⟨some 42, .load true 3 (.t 10), none⟩,
⟨none, .store 3 (.t 6) (.t 42), none⟩] [6] [])
.ret)
.skip))
(.seq (.reg [⟨some 43, .load true 3 (.t 4), none⟩,
⟨some 44, .load true 3 (.t 7), none⟩,
⟨some 45, .call false (.f 70) [(.t 43), (.t 44)], none⟩,
⟨some 46, .load true 3 (.t 8), none⟩,
⟨some 47, .load true 3 (.t 4), none⟩,
⟨some 48, .call false (.f 70) [(.t 46), (.t 47)], none⟩,
⟨some 49, .call false (.f 69) [(.t 45), (.t 48)], none⟩,
⟨some 11, .mov (.t 49), none⟩] [0, 2, 6, 7, 8, 9, 11] [])
(.seq (.seq (.reg [⟨some 50, .mov (.t 11), none⟩,
⟨some 51, .bin .lss (.t 50) (.c (.int .i64 0)), none⟩] [0, 2, 6, 7, 8, 9, 11, 51] [])
(.cond (.t 51)
(.seq (.reg [⟨some 52, .load true 3 (.t 7), none⟩,
⟨none, .store 3 (.t 6) (.t 52), none⟩] [6] [])
.ret)
.skip))
(.seq (.seq (.reg [⟨some 53, .mov (.t 11), none⟩,
⟨some 54, .bin .gtr (.t 53) (.c (.int .i64 0)), none⟩] [0, 2, 6, 7, 8, 9, 54] [])
(.cond (.t 54)
(.seq (.reg [⟨some 55, .load true 3 (.t 8), none⟩,
⟨none, .store 3 (.t 6) (.t 55), none⟩] [6] [])
.ret)
.skip))
(.seq (.seq (.reg [⟨some 56, .mov (.t 0), none⟩,
⟨some 57, .bin .eql (.t 56) (.c (.int .u8 2)), none⟩] [2, 6, 7, 8, 9, 57] [])
(.cond (.t 57)
(.seq (.reg [⟨some 58, .load true 3 (.t 9), none⟩,
⟨none, .store 3 (.t 6) (.t 58), none⟩] [6] [])
.ret)
.skip))
(.seq (.reg [⟨some 59, .load true 3 (.t 7), none⟩,
⟨some 60, .mov (.t 2), none⟩,
⟨some 61, .un .neg (.t 60), none⟩,
⟨some 62, .call false (.f 65) [(.t 59), (.t 61)], none⟩,
⟨some 12, .alloc [(.bool false), .nil, (.int .i64 0)], none⟩,
⟨none, .store 3 (.t 12) (.t 62), none⟩] [6, 7, 8, 12] [])
(.seq (.seq (.reg [⟨some 63, .load true 3 (.t 12), none⟩,
⟨some 64, .call false (.f 71) [(.t 63)], none⟩,
⟨some 65, .call false (.f 66) [(.t 64)], none⟩,
⟨some 66, .load true 3 (.t 12), none⟩,
⟨some 67, .call false (.f 71) [(.t 66)], none⟩,
⟨some 68, .call false (.f 14) [(.t 65), (.t 67)], none⟩] [6, 7, 8, 68] [])
(.cond (.t 68)
(.seq (.reg [⟨some 69, .load true 3 (.t 7), none⟩,
⟨none, .store 3 (.t 6) (.t 69), none⟩] [6] [])
.ret)
.skip))
(.seq (.reg [⟨some 70, .load true 3 (.t 8), none⟩,
⟨none, .store 3 (.t 6) (.t 70), none⟩] [6] [])
.ret))))))))))))))))⟩

def c_ref04_Beyond : IFn := ⟨[.cell 4 true 3],
(.seq (.reg [⟨some 2, .box 3 (.t 0), none⟩,
⟨some 4, .alloc [(.bool false), .nil, (.int .i64 0)], none⟩] [1, 2, 4] [])
(.seq (.seq (.reg [⟨some 6, .mov (.t 1), none⟩,
⟨some 7, .un .not (.t 6), none⟩] [2, 4, 7] [])
(.cond (.t 7)
(.seq (.reg [⟨some 8, .load true 3 (.t 2), none⟩,
⟨none, .store 3 (.t 4) (.t 8), none⟩] [4] [])
.ret)
.skip))
(.seq (.reg [⟨some 9, .load true 3 (.t 2), none⟩,
⟨some 10, .call false (.f 32) [(.t 9)], none⟩,
⟨some 11, .bin .sub (.t 10) (.c (.int .i64 60)), none⟩,
⟨some 12, .bin .sub (.t 11) (.c (.int .i64 2)), none⟩,
⟨some 13, .call false (.f 68) [(.t 12)], none⟩,
⟨some 5, .alloc [(.bool false), .nil, (.int .i64 0)], none⟩,
⟨none, .store 3 (.t 5) (.t 13), none⟩] [2, 4, 5] [])
(.seq (.seq (.reg [⟨some 14, .faddr 0 (.t 2), none⟩,
⟨some 15, .load false 1 (.t 14), none⟩] [2, 4, 5, 15] [])
(.cond (.t 15)
(.seq (.reg [⟨some 16, .load true 3 (.t 2), none⟩,
⟨some 17, .load true 3 (.t 5), none⟩,
⟨some 18, .call false (.f 70) [(.t 16), (.t 17)], none⟩,
⟨none, .store 3 (.t 4) (.t 18), none⟩] [4] [])
.ret)
.skip))
(.seq (.reg [⟨some 19, .load true 3 (.t 2), none⟩,
⟨some 20, .load true 3 (.t 5), none⟩,
⟨some 21, .call false (.f 67) [(.t 19), (.t 20)], none⟩,
⟨none, .store 3 (.t 4) (.t 21), none⟩] [4] [])
.ret)))))⟩

def c_round_formOf : IFn := ⟨[.cell 2 true 3, .tmp 3],
(.seq (.reg [⟨some 2, .alloc [(.int .i64 0), (.int .i64 0), (.int .i64 0)], none⟩,
⟨some 3, .mov (.c (.bool false)), none⟩] [0, 2] [])
(.seq (.seq (.reg [⟨some 4, .mov (.t 0), none⟩] [2, 4] [])
(.block 0
(.seq (.reg [⟨some 6, .bin .eql (.t 4) (.c (.int .u8 1)), none⟩,
⟨some 5, .mov (.t 6), none⟩] [2, 4, 5] [])
(.cond (.t 5)
(.seq (.reg [⟨some 7, .build [(.int .i64 0), (.int .i64 0), (.int .i64 0)] [(0, 1, (.c (.int .i64 24))), (1, 1, (.c (.int .i64 (-149)))), (2, 1, (.c (.int .i64 128)))], none⟩,
⟨none, .store 3 (.t 2) (.t 7), none⟩,
⟨some 3, .mov (.c (.bool true)), none⟩] [2, 3] [])
.ret)
(.seq (.reg [⟨some 9, .bin .eql (.t 4) (.c (.int .u8 2)), none⟩,
⟨some 8, .mov (.t 9), none⟩] [2, 8] [])
(.cond (.t 8)
(.seq (.reg [⟨some 10, .build [(.int .i64 0), (.int .i64 0), (.int .i64 0)] [(0, 1, (.c (.int .i64 53))), (1, 1, (.c (.int .i64 (-1074)))), (2, 1, (.c (.int .i64 1024)))], none⟩,
⟨none, .store 3 (.t 2) (.t 10), none⟩,
⟨some 3, .mov (.c (.bool true)), none⟩] [2, 3] [])
.ret)
.skip))))))
(.seq (.reg [⟨some 11, .build [(.int .i64 0), (.int .i64 0), (.int .i64 0)] [], none⟩,
⟨none, .store 3 (.t 2) (.t 11), none⟩,
⟨some 3, .mov (.c (.bool false)), none⟩] [2, 3] [])
.ret)))⟩

def c_round_part_units : IFn := ⟨[.tmp 8, .tmp 9],
(.seq (.reg [⟨some 4, .box 3 (.t 0), none⟩,
⟨some 8, .mov (.c (.int .u64 0)), none⟩,
⟨some 9, .mov (.c (.bool false)), none⟩] [1, 2, 3, 4] [])
(.seq (.reg [⟨some 14, .mov (.t 3), none⟩,
⟨some 15, .faddr 1 (.t 4), none⟩,
⟨some 16, .load false 1 (.t 15), none⟩,
⟨some 17, .bin .sub (.t 14) (.t 16), none⟩,
⟨some 18, .bin .add (.t 17) (.c (.int .i64 64)), none⟩,
⟨some 10, .mov (.t 18), none⟩] [1, 2, 4, 10] [])
(.seq (.seq (.reg [⟨some 19, .mov (.t 10), none⟩,
⟨some 20, .bin .gtr (.t 19) (.c (.int .i64 64)), none⟩] [1, 2, 4, 10, 20] [])
(.cond (.t 20)
(.seq (.reg [⟨some 21, .mov (.t 1), none⟩,
⟨some 22, .mov (.t 2), none⟩,
⟨some 23, .call false (.f 93) [(.t 21), (.t 22), (.c (.bool false)), (.c (.bool false)), (.c (.bool true))], none⟩,
⟨some 24, .call false (.f 92) [(.t 23)], none⟩,
⟨some 8, .mov (.t 24), none⟩,
⟨some 9, .mov (.c (.bool false)), none⟩] [8, 9] [])
.ret)
.skip))
(.seq (.reg [⟨some 25, .faddr 2 (.t 4), none⟩,
⟨some 26, .load false 1 (.t 25), none⟩,
⟨some 11, .mov (.c (.int .u64 0)), none⟩,
⟨some 12, .mov (.c (.bool false)), none⟩,
⟨some 13, .mov (.t 26), none⟩] [1, 2, 4, 10, 11, 12, 13] [])
(.seq (.seq (.reg [⟨some 27, .mov (.t 10), none⟩,
⟨some 28, .bin .lss (.t 27) (.c (.int .i64 64)), none⟩] [1, 2, 4, 10, 11, 12, 13, 28] [])
(.cond (.t 28)
(.reg [⟨some 29, .faddr 0 (.t 4), none⟩,
⟨some 30, .load false 1 (.t 29), none⟩,
⟨some 31, .mov (.t 10), none⟩,
⟨some 32, .bin .shr (.t 30) (.t 31), none⟩,
⟨some 11, .mov (.t 32), none⟩] [1, 2, 4, 10, 11, 12, 13] [])
.skip))
(.seq (.seq (.reg [⟨some 33, .mov (.t 10), none⟩,
⟨some 34, .bin .gtr (.t 33) (.c (.int .i64 0)), none⟩] [1, 2, 4, 10, 11, 12, 13, 34] [])
(.cond (.t 34)
(.seq (.reg [⟨some 35, .faddr 0 (.t 4), none⟩,
⟨some 36, .load false 1 (.t 35), none⟩,
⟨some 37, .mov (.t 10), none⟩,
⟨some 38, .bin .sub (.t 37) (.c (.int .i64 1)), none⟩,
⟨some 39, .bin .shr (.t 36) (.t 38), none⟩,
⟨some 40, .bin .and (.t 39) (.c (.int .u64 1)), none⟩,
⟨some 41, .bin .eql (.t 40) (.c (.int .u64 1)), none⟩,
⟨some 12, .mov (.t 41), none⟩] [1, 2, 4, 10, 11, 12, 13] [])
(.reg [⟨some 42, .mov (.t 13), none⟩,
⟨some 43, .mov (.t 42), none⟩,
⟨some 44, .faddr 0 (.t 4), some (43, false)⟩,
⟨some 45, .load false 1 (.t 44), some (43, false)⟩,
⟨some 46, .mov (.t 10), some (43, false)⟩,
⟨some 47, .bin .sub (.t 46) (.c (.int .i64 1)), some (43, false)⟩,
⟨some 48, .bin .shl (.c (.int .u64 1)) (.t 47), some (43, false)⟩,
⟨some 49, .bin .sub (.t 48) (.c (.int .u64 1)), some (43, false)⟩,
⟨some 50, .bin .and (.t 45) (.t 49), some (43, false)⟩,
⟨some 51, .bin .neq (.t 50) (.c (.int .u64 0)), some (43, false)⟩,
⟨some 52, .pick (.t 43) (.c (.bool true)) (.t 51), none⟩,
⟨some 13, .mov (.t 52), none⟩] [1, 2, 11, 12, 13] []))
.skip))
(.seq (.reg [⟨some 53, .mov (.t 11), none⟩,
⟨some 54, .mov (.t 1), none⟩,
⟨some 55, .mov (.t 2), none⟩,
⟨some 56, .mov (.t 11), none⟩,
⟨some 57, .bin .and (.t 56) (.c (.int .u64 1)), none⟩,
⟨some 58, .bin .eql (.t 57) (.c (.int .u64 1)), none⟩,
⟨some 59, .mov (.t 12), none⟩,
⟨some 60, .mov (.t 13), none⟩,
⟨some 61, .call false (.f 93) [(.t 54), (.t 55), (.t 58), (.t 59), (.t 60)], none⟩,
⟨some 62, .call false (.f 92) [(.t 61)], none⟩,
⟨some 63, .bin .add (.t 53) (.t 62), none⟩,
⟨some 64, .mov (.t 12), none⟩,
⟨some 65, .un .not (.t 64), none⟩,
⟨some 66, .mov (.t 65), none⟩,
⟨some 67, .mov (.t 13), some (66, true)⟩,
⟨some 68, .un .not (.t 67), some (66, true)⟩,
⟨some 69, .pick (.t 66) (.t 68) (.c (.bool false)), none⟩,
⟨some 8, .mov (.t 63), none⟩,
⟨some 9, .mov (.t 69), none⟩] [8, 9] [])
.ret)))))))⟩

def c_ref04_half : IFn := ⟨[.cell 2 true 3],
(.seq (.reg [⟨some 1, .box 3 (.t 0), none⟩,
⟨some 2, .alloc [(.bool false), .nil, (.int .i64 0)], none⟩] [1, 2] [])
(.seq (.reg [⟨some 3, .load true 3 (.t 1), none⟩,
⟨some 4, .call false (.f 65) [(.t 3), (.c (.int .i64 (-1)))], none⟩,
⟨none, .store 3 (.t 2) (.t 4), none⟩] [2] [])
.ret))⟩

def c_round_btoi : IFn := ⟨[.tmp 2],
(.seq (.reg [⟨some 2, .mov (.c (.int .u64 0)), none⟩] [0] [])
(.seq (.seq (.reg [⟨some 3, .mov (.t 0), none⟩] [3] [])
(.cond (.t 3)
(.seq (.reg [⟨some 2, .mov (.c (.int .u64 1)), none⟩] [2] [])
.ret)
.skip))
(.seq (.reg [⟨some 2, .mov (.c (.int .u64 0)), none⟩] [2] [])
.ret)))⟩

def c_round_up : IFn := ⟨[.tmp 10],
(.seq (.reg [⟨some 10, .mov (.c (.bool false)), none⟩] [0, 1, 2, 3, 4] [])
(.seq (.seq (.reg [⟨some 11, .mov (.t 0), none⟩] [1, 2, 3, 4, 11] [])
(.block 0
(.seq (.block 4
(.seq (.block 3
(.seq (.block 2
(.seq (.block 1
(.seq (.seq (.seq (.reg [⟨some 13, .bin .eql (.t 11) (.c (.int .u8 1)), none⟩,
⟨some 12, .mov (.t 13), none⟩] [1, 2, 3, 4, 11, 12] [])
(.cond (.t 12)
(.exit 1)
.skip))
(.seq (.seq (.reg [⟨some 15, .bin .eql (.t 11) (.c (.int .u8 2)), none⟩,
⟨some 14, .mov (.t 15), none⟩] [1, 3, 4, 11, 14] [])
(.cond (.t 14)
(.exit 2)
.skip))
(.seq (.seq (.reg [⟨some 17, .bin .eql (.t 11) (.c (.int .u8 4)), none⟩,
⟨some 16, .mov (.t 17), none⟩] [1, 3, 4, 11, 16] [])
(.cond (.t 16)
(.exit 3)
.skip))
(.seq (.reg [⟨some 19, .bin .eql (.t 11) (.c (.int .u8 5)), none⟩,
⟨some 18, .mov (.t 19), none⟩] [1, 3, 4, 18] [])
(.cond (.t 18)
(.exit 4)
.skip)))))
(.exit 0)))
(.seq (.reg [⟨some 20, .mov (.t 4), none⟩,
⟨some 21, .un .not (.t 20), none⟩,
⟨some 22, .mov (.t 21), none⟩,
⟨some 23, .mov (.t 2), some (22, true)⟩,
⟨some 24, .un .not (.t 23), some (22, true)⟩,
⟨some 25, .pick (.t 22) (.t 24) (.c (.bool false)), none⟩] [3, 25] [])
(.cond (.t 25)
(.seq (.reg [⟨some 10, .mov (.c (.bool false)), none⟩] [10] [])
.ret)
.skip))))
(.seq (.seq (.reg [⟨some 26, .mov (.t 3), none⟩,
⟨some 10, .mov (.t 26), none⟩] [10] [])
.ret)
(.exit 0))))
(.seq (.seq (.reg [⟨some 27, .mov (.t 1), none⟩,
⟨some 28, .un .not (.t 27), none⟩,
⟨some 29, .mov (.t 28), none⟩,
⟨some 30, .mov (.t 3), some (29, true)⟩,
⟨some 31, .mov (.t 30), some (29, true)⟩,
⟨some 32, .mov (.t 4), some (31, false)⟩,
⟨some 33, .pick (.t 31) (.c (.bool true)) (.t 32), some (29, true)⟩,
⟨some 34, .pick (.t 29) (.t 33) (.c (.bool false)), none⟩,
⟨some 10, .mov (.t 34), none⟩] [10] [])
.ret)
(.exit 0))))
(.seq (.seq (.reg [⟨some 35, .mov (.t 1), none⟩,
⟨some 36, .mov (.t 35), none⟩,
⟨some 37, .mov (.t 3), some (36, true)⟩,
⟨some 38, .mov (.t 37), some (36, true)⟩,
⟨some 39, .mov (.t 4), some (38, false)⟩,
⟨some 40, .pick (.t 38) (.c (.bool true)) (.t 39), some (36, true)⟩,
⟨some 41, .pick (.t 36) (.t 40) (.c (.bool false)), none⟩,
⟨some 10, .mov (.t 41), none⟩] [10] [])
.ret)
(.exit 0)))))
(.seq (.reg [⟨some 10, .mov (.c (.bool false)), none⟩] [10] [])
.ret)))⟩

structure HasE (gdb : Nat) (T : Tbl) : Prop where
  round_Round : T 7 = some c_round_Round
  round_Over : T 8 = some c_round_Over
  ref04_Over : T 10 = some c_ref04_Over
  ref04_Round : T 12 = some c_ref04_Round
  round_Root : T 18 = some c_round_Root
  ref04_Root : T 19 = some c_ref04_Root
  round_open : T 21 = some c_round_open
  round_partOf : T 23 = some c_round_partOf
  round_part_word : T 24 = some c_round_part_word
  ref04_Is : T 28 = some c_ref04_Is
  ref04_Taken : T 34 = some c_ref04_Taken
  ref04_Beyond : T 42 = some c_ref04_Beyond
  round_formOf : T 47 = some c_round_formOf
  round_part_units : T 52 = some c_round_part_units
  ref04_half : T 71 = some c_ref04_half
  round_btoi : T 92 = some c_round_btoi
  round_up : T 93 = some c_round_up
end Go.Cv

/-
  The code of some functions, in the evaluator's form (written by a program from the program's own form).
-/
namespace Go.Cv
def c_ref03_Good : IFn := ⟨[.tmp 4],
(.seq (.reg [⟨some 4, .mov (.c (.int .i64 0)), none⟩] [0, 1] [])
(.seq (.seq (.reg [⟨some 5, .mov (.t 0), none⟩,
⟨some 6, .call false (.f 27) [(.t 5)], none⟩,
⟨some 7, .un .not (.t 6), none⟩] [0, 1, 7] [])
(.cond (.t 7)
(.seq (.reg [⟨some 4, .mov (.c (.int .i64 4)), none⟩] [4] [])
.ret)
.skip))
(.seq (.seq (.reg [⟨some 8, .mov (.t 0), none⟩,
⟨some 9, .bin .eql (.t 8) (.c (.int .u8 1)), none⟩,
⟨some 10, .mov (.t 9), none⟩,
⟨some 11, .mov (.t 1), some (10, true)⟩,
⟨some 12, .bin .geq (.t 11) (.c (.int .u64 4294967296)), some (10, true)⟩,
⟨some 13, .pick (.t 10) (.t 12) (.c (.bool false)), none⟩] [13] [])
(.cond (.t 13)
(.seq (.reg [⟨some 4, .mov (.c (.int .i64 6)), none⟩] [4] [])
.ret)
.skip))
(.seq (.reg [⟨some 4, .mov (.c (.int .i64 0)), none⟩] [4] [])
.ret))))⟩

def c_ref03_Value : IFn := ⟨[.cell 4 true 3],
(.seq (.reg [⟨some 4, .alloc [(.bool false), .nil, (.int .i64 0)], none⟩] [0, 1, 4] [])
(.seq (.reg [⟨some 6, .mov (.t 0), none⟩,
⟨some 7, .mov (.t 1), none⟩,
⟨some 8, .call false (.f 156) [(.t 6), (.t 7)], none⟩,
⟨some 5, .alloc [(.bool false), (.int .i64 0), (.int .u64 0)], none⟩,
⟨none, .store 3 (.t 5) (.t 8), none⟩] [0, 4, 5] [])
(.seq (.seq (.reg [⟨some 9, .faddr 1 (.t 5), none⟩,
⟨some 10, .load false 1 (.t 9), none⟩,
⟨some 11, .bin .eql (.t 10) (.c (.int .i64 0)), none⟩] [0, 4, 5, 11] [])
(.cond (.t 11)
(.seq (.reg [⟨some 12, .faddr 0 (.t 5), none⟩,
⟨some 13, .load false 1 (.t 12), none⟩,
⟨some 14, .faddr 2 (.t 5), none⟩,
⟨some 15, .load false 1 (.t 14), none⟩,
⟨some 16, .call false (.f 46) [(.t 15)], none⟩,
⟨some 17, .mov (.t 0), none⟩,
⟨some 18, .call false (.f 33) [(.t 17)], none⟩,
⟨some 19, .call false (.f 45) [(.t 13), (.t 16), (.t 18)], none⟩,
⟨none, .store 3 (.t 4) (.t 19), none⟩] [4] [])
.ret)
.skip))
(.seq (.reg [⟨some 20, .faddr 0 (.t 5), none⟩,
⟨some 21, .load false 1 (.t 20), none⟩,
⟨some 22, .mov (.t 0), none⟩,
⟨some 23, .call false (.f 31) [(.t 22)], none⟩,
⟨some 24, .bin .shl (.c (.int .u64 1)) (.t 23), none⟩,
⟨some 25, .faddr 2 (.t 5), none⟩,
⟨some 26, .load false 1 (.t 25), none⟩,
⟨some 27, .bin .add (.t 24) (.t 26), none⟩,
⟨some 28, .call false (.f 46) [(.t 27)], none⟩,
⟨some 29, .faddr 1 (.t 5), none⟩,
⟨some 30, .load false 1 (.t 29), none⟩,
⟨some 31, .bin .sub (.t 30) (.c (.int .i64 1)), none⟩,
⟨some 32, .mov (.t 0), none⟩,
⟨some 33, .call false (.f 33) [(.t 32)], none⟩,
⟨some 34, .bin .add (.t 31) (.t 33), none⟩,
⟨some 35, .call false (.f 45) [(.t 21), (.t 28), (.t 34)], none⟩,
⟨none, .store 3 (.t 4) (.t 35), none⟩] [4] [])
.ret))))⟩

def c_ref03_Class : IFn := ⟨[.tmp 4],
(.seq (.reg [⟨some 4, .mov (.c (.int .u8 0)), none⟩] [0, 1] [])
(.seq (.reg [⟨some 6, .mov (.t 0), none⟩,
⟨some 7, .mov (.t 1), none⟩,
⟨some 8, .call false (.f 156) [(.t 6), (.t 7)], none⟩,
⟨some 5, .alloc [(.bool false), (.int .i64 0), (.int .u64 0)], none⟩,
⟨none, .store 3 (.t 5) (.t 8), none⟩] [0, 5] [])
(.seq (.seq (.reg [⟨some 9, .faddr 1 (.t 5), none⟩,
⟨some 10, .load false 1 (.t 9), none⟩,
⟨some 11, .bin .eql (.t 10) (.c (.int .i64 0)), none⟩,
⟨some 12, .mov (.t 11), none⟩,
⟨some 13, .faddr 2 (.t 5), some (12, true)⟩,
⟨some 14, .load false 1 (.t 13), some (12, true)⟩,
⟨some 15, .bin .eql (.t 14) (.c (.int .u64 0)), some (12, true)⟩,
⟨some 16, .pick (.t 12) (.t 15) (.c (.bool false)), none⟩] [0, 5, 16] [])
(.cond (.t 16)
(.seq (.reg [⟨some 4, .mov (.c (.int .u8 1)), none⟩] [4] [])
.ret)
.skip))
(.seq (.seq (.reg [⟨some 17, .faddr 1 (.t 5), none⟩,
⟨some 18, .load false 1 (.t 17), none⟩,
⟨some 19, .bin .eql (.t 18) (.c (.int .i64 0)), none⟩] [0, 5, 19] [])
(.cond (.t 19)
(.seq (.reg [⟨some 4, .mov (.c (.int .u8 2)), none⟩] [4] [])
.ret)
.skip))
(.seq (.seq (.reg [⟨some 20, .faddr 1 (.t 5), none⟩,
⟨some 21, .load false 1 (.t 20), none⟩,
⟨some 22, .mov (.t 0), none⟩,
⟨some 23, .call false (.f 63) [(.t 22)], none⟩,
⟨some 24, .bin .lss (.t 21) (.t 23), none⟩] [5, 24] [])
(.cond (.t 24)
(.seq (.reg [⟨some 4, .mov (.c (.int .u8 3)), none⟩] [4] [])
.ret)
.skip))
(.seq (.seq (.reg [⟨some 25, .faddr 2 (.t 5), none⟩,
⟨some 26, .load false 1 (.t 25), none⟩,
⟨some 27, .bin .eql (.t 26) (.c (.int .u64 0)), none⟩] [27] [])
(.cond (.t 27)
(.seq (.reg [⟨some 4, .mov (.c (.int .u8 4)), none⟩] [4] [])
.ret)
.skip))
(.seq (.reg [⟨some 4, .mov (.c (.int .u8 5)), none⟩] [4] [])
.ret)))))))⟩

def c_ref03_Split : IFn := ⟨[.cell 4 true 3],
(.seq (.reg [⟨some 4, .alloc [(.bool false), (.int .i64 0), (.int .u64 0)], none⟩] [0, 1, 4] [])
(.seq (.reg [⟨some 6, .mov (.t 1), none⟩,
⟨some 7, .mov (.t 0), none⟩,
⟨some 8, .call false (.f 73) [(.t 7)], none⟩,
⟨some 9, .bin .geq (.t 6) (.t 8), none⟩,
⟨some 10, .build [(.bool false), (.int .i64 0), (.int .u64 0)] [(0, 1, (.t 9))], none⟩,
⟨some 5, .alloc [(.bool false), (.int .i64 0), (.int .u64 0)], none⟩,
⟨none, .store 3 (.t 5) (.t 10), none⟩] [0, 1, 4, 5] [])
(.seq (.reg [⟨some 11, .mov (.t 1), none⟩,
⟨some 12, .mov (.t 0), none⟩,
⟨some 13, .call false (.f 73) [(.t 12)], none⟩,
⟨some 14, .bin .rem (.t 11) (.t 13), none⟩,
⟨some 1, .mov (.t 14), none⟩] [0, 1, 4, 5] [])
(.seq (.reg [⟨some 15, .mov (.t 1), none⟩,
⟨some 16, .mov (.t 0), none⟩,
⟨some 17, .call false (.f 31) [(.t 16)], none⟩,
⟨some 18, .bin .shl (.c (.int .u64 1)) (.t 17), none⟩,
⟨some 19, .bin .rem (.t 15) (.t 18), none⟩,
⟨some 20, .faddr 2 (.t 5), none⟩,
⟨none, .store 1 (.t 20) (.t 19), none⟩] [0, 1, 4, 5] [])
(.seq (.reg [⟨some 21, .mov (.t 1), none⟩,
⟨some 22, .mov (.t 0), none⟩,
⟨some 23, .call false (.f 31) [(.t 22)], none⟩,
⟨some 24, .bin .shr (.t 21) (.t 23), none⟩,
⟨some 25, .cvt .i64 (.t 24), none⟩,
⟨some 26, .faddr 1 (.t 5), none⟩,
⟨none, .store 1 (.t 26) (.t 25), none⟩] [4, 5] [])
(.seq (.reg [⟨some 27, .load true 3 (.t 5), none⟩,
⟨none, .store 3 (.t 4) (.t 27), none⟩] [4] [])
.ret))))))⟩

def c_ref03_None : IFn := ⟨[.tmp 2],
(.seq (.reg [⟨some 2, .mov (.c (.int .u64 0)), none⟩] [0] [])
(.seq (.reg [⟨some 3, .mov (.t 0), none⟩,
⟨some 4, .mov (.t 0), none⟩,
⟨some 5, .call false (.f 63) [(.t 4)], none⟩,
⟨some 6, .mov (.t 0), none⟩,
⟨some 7, .call false (.f 31) [(.t 6)], none⟩,
⟨some 8, .bin .sub (.t 7) (.c (.int .i64 1)), none⟩,
⟨some 9, .bin .shl (.c (.int .u64 1)) (.t 8), none⟩,
⟨some 10, .build [(.bool false), (.int .i64 0), (.int .u64 0)] [(1, 1, (.t 5)), (2, 1, (.t 9))], none⟩,
⟨some 11, .call false (.f 62) [(.t 3), (.t 10)], none⟩,
⟨some 2, .mov (.t 11), none⟩] [2] [])
.ret))⟩

structure HasF (gdb : Nat) (T : Tbl) : Prop where
  ref03_Good : T 149 = some c_ref03_Good
  ref03_Value : T 151 = some c_ref03_Value
  ref03_Class : T 155 = some c_ref03_Class
  ref03_Split : T 156 = some c_ref03_Split
  ref03_None : T 157 = some c_ref03_None
end Go.Cv

/-
  The code of some functions, in the evaluator's form (written by a program from the program's own form).
-/
namespace Go.Cv
def c_ref05_Opens_b1 : IC :=
(.seq (.seq (.reg [⟨some 14, .mov (.t 7), none⟩,
⟨some 15, .mov (.t 2), none⟩,
⟨some 16, .len (.t 15), none⟩,
⟨some 17, .bin .lss (.t 14) (.t 16), none⟩] [0, 2, 7, 17] [])
(.cond (.t 17)
.skip
(.exit 0)))
(.seq (.block 1
(.seq (.reg [⟨some 20, .mov (.t 0), none⟩,
⟨some 21, .mov (.t 2), none⟩,
⟨some 22, .mov (.t 7), none⟩,
⟨some 23, .iaddr 1 (.t 21) (.t 22), none⟩,
⟨some 24, .load false 1 (.t 23), none⟩,
⟨some 25, .call false (.f 149) [(.t 20), (.t 24)], none⟩,
⟨some 26, .bin .neq (.t 25) (.c (.int .i64 0)), none⟩] [0, 2, 7, 26] [])
(.cond (.t 26)
(.seq (.reg [⟨some 6, .mov (.c (.int .i64 6)), none⟩] [6] [])
.ret)
.skip)))
(.reg [⟨some 18, .mov (.t 7), none⟩,
⟨some 19, .bin .add (.t 18) (.c (.int .i64 1)), none⟩,
⟨some 7, .mov (.t 19), none⟩] [0, 2, 7] [])))
def c_ref05_Opens_l1 : IC := .loop [0, 2, 7] c_ref05_Opens_b1
def c_ref05_Opens : IFn := ⟨[.tmp 6],
(.seq (.reg [⟨some 6, .mov (.c (.int .i64 0)), none⟩] [0, 1, 2] [])
(.seq (.seq (.reg [⟨some 8, .mov (.t 0), none⟩,
⟨some 9, .call false (.f 27) [(.t 8)], none⟩,
⟨some 10, .un .not (.t 9), none⟩] [0, 1, 2, 10] [])
(.cond (.t 10)
(.seq (.reg [⟨some 6, .mov (.c (.int .i64 4)), none⟩] [6] [])
.ret)
.skip))
(.seq (.seq (.reg [⟨some 11, .mov (.t 1), none⟩,
⟨some 12, .call false (.f 28) [(.t 11)], none⟩,
⟨some 13, .un .not (.t 12), none⟩] [0, 2, 13] [])
(.cond (.t 13)
(.seq (.reg [⟨some 6, .mov (.c (.int .i64 5)), none⟩] [6] [])
.ret)
.skip))
(.seq (.seq (.reg [⟨some 7, .mov (.c (.int .i64 0)), none⟩] [0, 2, 7] [])
(.block 0
 c_ref05_Opens_l1))
(.seq (.reg [⟨some 6, .mov (.c (.int .i64 0)), none⟩] [6] [])
.ret)))))⟩

def c_law05_known : IFn := ⟨[.tmp 0],
(.seq (.reg [⟨some 0, .mov (.c (.bool false)), none⟩] [] [])
(.seq (.reg [⟨some 8, .call false (.f 164) [(.c (.int .u8 1)), (.c (.int .u8 1)), (.c (.int .u64 1065353216)), (.c (.int .u64 1065353216))], none⟩,
⟨some 7, .mov (.t 8), none⟩,
⟨some 9, .ext (.t 7) 0, none⟩,
⟨some 10, .ext (.t 7) 1, none⟩,
⟨some 11, .ext (.t 7) 2, none⟩,
⟨some 1, .mov (.t 9), none⟩,
⟨some 2, .mov (.t 10), none⟩,
⟨some 3, .mov (.t 11), none⟩] [1, 2, 3] [])
(.seq (.reg [⟨some 13, .call false (.f 175) [(.c (.int .u8 1)), (.c (.int .u8 1)), (.c (.int .u64 1065353216)), (.c (.int .u64 813694976)), (.c (.int .u64 1065353216))], none⟩,
⟨some 12, .mov (.t 13), none⟩,
⟨some 14, .ext (.t 12) 0, none⟩,
⟨some 15, .ext (.t 12) 1, none⟩,
⟨some 16, .ext (.t 12) 2, none⟩,
⟨some 4, .mov (.t 14), none⟩,
⟨some 5, .mov (.t 15), none⟩,
⟨some 6, .mov (.t 16), none⟩] [1, 2, 3, 4, 5, 6] [])
(.seq (.reg [⟨some 17, .mov (.t 1), none⟩,
⟨some 18, .bin .eql (.t 17) (.c (.int .u64 1073741824)), none⟩,
⟨some 19, .mov (.t 18), none⟩,
⟨some 20, .mov (.t 2), some (19, true)⟩,
⟨some 21, .bin .eql (.t 20) (.c (.int .u8 0)), some (19, true)⟩,
⟨some 22, .pick (.t 19) (.t 21) (.c (.bool false)), none⟩,
⟨some 23, .mov (.t 22), none⟩,
⟨some 24, .mov (.t 3), some (23, true)⟩,
⟨some 25, .bin .eql (.t 24) (.c (.int .i64 0)), some (23, true)⟩,
⟨some 26, .pick (.t 23) (.t 25) (.c (.bool false)), none⟩,
⟨some 27, .mov (.t 26), none⟩,
⟨some 28, .mov (.t 4), some (27, true)⟩,
⟨some 29, .bin .eql (.t 28) (.c (.int .u64 1065353216)), some (27, true)⟩,
⟨some 30, .pick (.t 27) (.t 29) (.c (.bool false)), none⟩,
⟨some 31, .mov (.t 30), none⟩,
⟨some 32, .mov (.t 5), some (31, true)⟩,
⟨some 33, .bin .eql (.t 32) (.c (.int .u8 16)), some (31, true)⟩,
⟨some 34, .pick (.t 31) (.t 33) (.c (.bool false)), none⟩,
⟨some 35, .mov (.t 34), none⟩,
⟨some 36, .mov (.t 6), some (35, true)⟩,
⟨some 37, .bin .eql (.t 36) (.c (.int .i64 0)), some (35, true)⟩,
⟨some 38, .pick (.t 35) (.t 37) (.c (.bool false)), none⟩,
⟨some 0, .mov (.t 38), none⟩] [0] [])
.ret))))⟩

def c_soft_Add : IFn := ⟨[.tmp 8, .tmp 9, .tmp 10],
(.seq (.reg [⟨some 8, .mov (.c (.int .u64 0)), none⟩,
⟨some 9, .mov (.c (.int .u8 0)), none⟩,
⟨some 10, .mov (.c (.int .i64 0)), none⟩] [0, 1, 2, 3] [])
(.seq (.reg [⟨some 14, .mov (.t 0), none⟩,
⟨some 15, .mov (.t 1), none⟩,
⟨some 16, .mov (.t 2), none⟩,
⟨some 17, .mov (.t 3), none⟩,
⟨some 18, .bslice 2 1 [(.int .u64 0)] [(0, 1, (.t 16)), (1, 1, (.t 17))], none⟩,
⟨some 19, .call false (.f 176) [(.t 14), (.t 15), (.t 18)], none⟩,
⟨some 13, .mov (.t 19), none⟩,
⟨some 20, .ext (.t 13) 0, none⟩,
⟨some 21, .ext (.t 13) 1, none⟩,
⟨some 11, .mov (.t 20), none⟩,
⟨some 12, .mov (.t 21), none⟩] [0, 1, 11, 12] [])
(.seq (.seq (.reg [⟨some 22, .mov (.t 12), none⟩,
⟨some 23, .bin .neq (.t 22) (.c (.int .i64 0)), none⟩] [0, 1, 11, 12, 23] [])
(.cond (.t 23)
(.seq (.reg [⟨some 24, .mov (.t 12), none⟩,
⟨some 8, .mov (.c (.int .u64 0)), none⟩,
⟨some 9, .mov (.c (.int .u8 0)), none⟩,
⟨some 10, .mov (.t 24), none⟩] [8, 9, 10] [])
.ret)
.skip))
(.seq (.reg [⟨some 25, .mov (.t 0), none⟩,
⟨some 26, .mov (.t 1), none⟩,
⟨some 27, .build [(.int .u8 0), (.int .u8 0)] [(0, 1, (.t 25)), (1, 1, (.t 26))], none⟩,
⟨some 28, .mov (.t 11), none⟩,
⟨some 29, .iaddr 5 (.t 28) (.c (.int .i64 0)), none⟩,
⟨some 30, .load true 5 (.t 29), none⟩,
⟨some 31, .mov (.t 11), none⟩,
⟨some 32, .iaddr 5 (.t 31) (.c (.int .i64 1)), none⟩,
⟨some 33, .load true 5 (.t 32), none⟩,
⟨some 34, .call false (.f 177) [(.t 27), (.t 30), (.t 33)], none⟩,
⟨some 35, .ext (.t 34) 0, none⟩,
⟨some 36, .ext (.t 34) 1, none⟩,
⟨some 37, .ext (.t 34) 2, none⟩,
⟨some 8, .mov (.t 35), none⟩,
⟨some 9, .mov (.t 36), none⟩,
⟨some 10, .mov (.t 37), none⟩] [8, 9, 10] [])
.ret))))⟩

def c_soft_MulAdd : IFn := ⟨[.tmp 10, .tmp 11, .tmp 12],
(.seq (.reg [⟨some 10, .mov (.c (.int .u64 0)), none⟩,
⟨some 11, .mov (.c (.int .u8 0)), none⟩,
⟨some 12, .mov (.c (.int .i64 0)), none⟩] [0, 1, 2, 3, 4] [])
(.seq (.reg [⟨some 21, .mov (.t 0), none⟩,
⟨some 22, .mov (.t 1), none⟩,
⟨some 23, .mov (.t 2), none⟩,
⟨some 24, .mov (.t 3), none⟩,
⟨some 25, .mov (.t 4), none⟩,
⟨some 26, .bslice 3 1 [(.int .u64 0)] [(0, 1, (.t 23)), (1, 1, (.t 24)), (2, 1, (.t 25))], none⟩,
⟨some 27, .call false (.f 176) [(.t 21), (.t 22), (.t 26)], none⟩,
⟨some 20, .mov (.t 27), none⟩,
⟨some 28, .ext (.t 20) 0, none⟩,
⟨some 29, .ext (.t 20) 1, none⟩,
⟨some 13, .mov (.t 28), none⟩,
⟨some 14, .mov (.t 29), none⟩] [0, 1, 13, 14] [])
(.seq (.seq (.reg [⟨some 30, .mov (.t 14), none⟩,
⟨some 31, .bin .neq (.t 30) (.c (.int .i64 0)), none⟩] [0, 1, 13, 14, 31] [])
(.cond (.t 31)
(.seq (.reg [⟨some 32, .mov (.t 14), none⟩,
⟨some 10, .mov (.c (.int .u64 0)), none⟩,
⟨some 11, .mov (.c (.int .u8 0)), none⟩,
⟨some 12, .mov (.t 32), none⟩] [10, 11, 12] [])
.ret)
.skip))
(.seq (.reg [⟨some 33, .mov (.t 0), none⟩,
⟨some 34, .mov (.t 1), none⟩,
⟨some 35, .build [(.int .u8 0), (.int .u8 0)] [(0, 1, (.t 33)), (1, 1, (.t 34))], none⟩,
⟨some 36, .mov (.t 13), none⟩,
⟨some 37, .iaddr 5 (.t 36) (.c (.int .i64 0)), none⟩,
⟨some 38, .load true 5 (.t 37), none⟩,
⟨some 39, .mov (.t 13), none⟩,
⟨some 40, .iaddr 5 (.t 39) (.c (.int .i64 1)), none⟩,
⟨some 41, .load true 5 (.t 40), none⟩,
⟨some 42, .mov (.t 13), none⟩,
⟨some 43, .iaddr 5 (.t 42) (.c (.int .i64 2)), none⟩,
⟨some 44, .load true 5 (.t 43), none⟩,
⟨some 15, .alloc [(.int .u8 0), (.int .u8 0)], none⟩,
⟨some 16, .alloc [(.int .u8 0), (.bool false), (.bool false), .nil, (.int .i64 0)], none⟩,
⟨some 17, .alloc [(.int .u8 0), (.bool false), (.bool false), .nil, (.int .i64 0)], none⟩,
⟨some 18, .alloc [(.int .u8 0), (.bool false), (.bool false), .nil, (.int .i64 0)], none⟩,
⟨none, .store 2 (.t 15) (.t 35), none⟩,
⟨none, .store 5 (.t 16) (.t 38), none⟩,
⟨none, .store 5 (.t 17) (.t 41), none⟩,
⟨none, .store 5 (.t 18) (.t 44), none⟩] [13, 15, 16, 17, 18] [(5, 16), (8, 16), (11, 16), (8, 17), (11, 17), (11, 18)])
(.seq (.reg [⟨some 45, .faddr 1 (.t 16), none⟩,
⟨some 46, .load false 1 (.t 45), none⟩,
⟨some 47, .faddr 1 (.t 17), none⟩,
⟨some 48, .load false 1 (.t 47), none⟩,
⟨some 49, .eqb true (.t 46) (.t 48), none⟩,
⟨some 50, .build [(.int .u8 0), (.bool false), (.bool false), .nil, (.int .i64 0)] [(0, 1, (.c (.int .u8 3))), (1, 1, (.t 49))], none⟩,
⟨some 19, .alloc [(.int .u8 0), (.bool false), (.bool false), .nil, (.int .i64 0)], none⟩,
⟨none, .store 5 (.t 19) (.t 50), none⟩] [13, 15, 16, 17, 18, 19] [])
(.seq (.block 0
(.seq (.reg [⟨some 61, .mov (.t 13), none⟩,
⟨some 62, .call false (.f 178) [(.c (.int .u8 5)), (.t 61)], none⟩,
⟨some 60, .mov (.t 62), none⟩] [15, 16, 17, 18, 19, 60] [])
(.cond (.t 60)
(.seq (.reg [⟨some 63, .load true 2 (.t 15), none⟩,
⟨some 64, .call false (.f 179) [(.t 63), (.c (.int .u8 0))], none⟩,
⟨some 65, .ext (.t 64) 0, none⟩,
⟨some 66, .ext (.t 64) 1, none⟩,
⟨some 67, .ext (.t 64) 2, none⟩,
⟨some 10, .mov (.t 65), none⟩,
⟨some 11, .mov (.t 66), none⟩,
⟨some 12, .mov (.t 67), none⟩] [10, 11, 12] [])
.ret)
(.seq (.reg [⟨some 69, .load true 5 (.t 16), none⟩,
⟨some 70, .load true 5 (.t 17), none⟩,
⟨some 71, .bslice 2 5 [(.int .u8 0), (.bool false), (.bool false), .nil, (.int .i64 0)] [(0, 5, (.t 69)), (5, 5, (.t 70))], none⟩,
⟨some 72, .call false (.f 178) [(.c (.int .u8 4)), (.t 71)], none⟩,
⟨some 73, .mov (.t 72), none⟩,
⟨some 74, .load true 5 (.t 16), some (73, true)⟩,
⟨some 75, .load true 5 (.t 17), some (73, true)⟩,
⟨some 76, .bslice 2 5 [(.int .u8 0), (.bool false), (.bool false), .nil, (.int .i64 0)] [(0, 5, (.t 74)), (5, 5, (.t 75))], some (73, true)⟩,
⟨some 77, .call false (.f 178) [(.c (.int .u8 1)), (.t 76)], some (73, true)⟩,
⟨some 78, .pick (.t 73) (.t 77) (.c (.bool false)), none⟩,
⟨some 68, .mov (.t 78), none⟩] [15, 16, 17, 18, 19, 68] [])
(.cond (.t 68)
(.seq (.reg [⟨some 79, .load true 2 (.t 15), none⟩,
⟨some 80, .call false (.f 179) [(.t 79), (.c (.int .u8 1))], none⟩,
⟨some 81, .ext (.t 80) 0, none⟩,
⟨some 82, .ext (.t 80) 1, none⟩,
⟨some 83, .ext (.t 80) 2, none⟩,
⟨some 10, .mov (.t 81), none⟩,
⟨some 11, .mov (.t 82), none⟩,
⟨some 12, .mov (.t 83), none⟩] [10, 11, 12] [])
.ret)
(.seq (.reg [⟨some 85, .load true 5 (.t 16), none⟩,
⟨some 86, .load true 5 (.t 17), none⟩,
⟨some 87, .bslice 2 5 [(.int .u8 0), (.bool false), (.bool false), .nil, (.int .i64 0)] [(0, 5, (.t 85)), (5, 5, (.t 86))], none⟩,
⟨some 88, .call false (.f 178) [(.c (.int .u8 4)), (.t 87)], none⟩,
⟨some 84, .mov (.t 88), none⟩] [15, 16, 17, 18, 19, 84] [])
(.cond (.t 84)
(.reg [⟨some 89, .faddr 0 (.t 19), none⟩,
⟨none, .store 1 (.t 89) (.c (.int .u8 4)), none⟩] [15, 18, 19] [])
(.seq (.reg [⟨some 91, .load true 5 (.t 16), none⟩,
⟨some 92, .load true 5 (.t 17), none⟩,
⟨some 93, .bslice 2 5 [(.int .u8 0), (.bool false), (.bool false), .nil, (.int .i64 0)] [(0, 5, (.t 91)), (5, 5, (.t 92))], none⟩,
⟨some 94, .call false (.f 178) [(.c (.int .u8 1)), (.t 93)], none⟩,
⟨some 90, .mov (.t 94), none⟩] [15, 16, 17, 18, 19, 90] [])
(.cond (.t 90)
(.reg [⟨some 95, .faddr 0 (.t 19), none⟩,
⟨none, .store 1 (.t 95) (.c (.int .u8 1)), none⟩] [15, 18, 19] [])
(.reg [⟨some 52, .faddr 2 (.t 16), none⟩,
⟨some 53, .load true 3 (.t 52), none⟩,
⟨some 54, .faddr 2 (.t 17), none⟩,
⟨some 55, .load true 3 (.t 54), none⟩,
⟨some 56, .call false (.f 182) [(.t 53), (.t 55)], none⟩,
⟨some 51, .mov (.t 56), none⟩,
⟨some 57, .ext (.t 51) 0, none⟩,
⟨some 58, .ext (.t 51) 1, none⟩,
⟨some 59, .faddr 2 (.t 19), none⟩,
⟨none, .store 3 (.t 59) (.t 57), none⟩] [15, 18, 19] []))))))))))
(.seq (.reg [⟨some 96, .load true 2 (.t 15), none⟩,
⟨some 97, .load true 5 (.t 19), none⟩,
⟨some 98, .load true 5 (.t 18), none⟩,
⟨some 99, .call false (.f 177) [(.t 96), (.t 97), (.t 98)], none⟩,
⟨some 100, .ext (.t 99) 0, none⟩,
⟨some 101, .ext (.t 99) 1, none⟩,
⟨some 102, .ext (.t 99) 2, none⟩,
⟨some 10, .mov (.t 100), none⟩,
⟨some 11, .mov (.t 101), none⟩,
⟨some 12, .mov (.t 102), none⟩] [10, 11, 12] [])
.ret)))))))⟩

def c_soft_open_b1 : IC :=
(.seq (.reg [⟨some 34, .bin .lss (.t 33) (.t 32), none⟩] [0, 10, 31, 32, 33, 34] [])
(.seq (.cond (.t 34)
.skip
(.exit 0))
(.seq (.block 1
(.seq (.reg [⟨some 35, .iaddr 1 (.t 31) (.t 33), none⟩,
⟨some 36, .load false 1 (.t 35), none⟩,
⟨some 12, .mov (.t 36), none⟩] [0, 10, 12, 31, 32, 33] [])
(.seq (.reg [⟨some 38, .mov (.t 0), none⟩,
⟨some 39, .mov (.t 12), none⟩,
⟨some 40, .call false (.f 192) [(.t 38), (.t 39)], none⟩,
⟨some 37, .mov (.t 40), none⟩,
⟨some 41, .ext (.t 37) 0, none⟩,
⟨some 42, .ext (.t 37) 1, none⟩,
⟨some 13, .alloc [(.bool false), (.int .i64 0), (.int .u64 0)], none⟩,
⟨none, .store 3 (.t 13) (.t 41), none⟩,
⟨some 14, .mov (.t 42), none⟩] [0, 10, 12, 13, 14, 31, 32, 33] [])
(.seq (.seq (.reg [⟨some 43, .mov (.t 14), none⟩,
⟨some 44, .bin .neq (.t 43) (.c (.int .i64 0)), none⟩] [0, 10, 12, 13, 14, 31, 32, 33, 44] [])
(.cond (.t 44)
(.seq (.reg [⟨some 45, .mov (.t 14), none⟩,
⟨some 6, .mov (.c .nil), none⟩,
⟨some 7, .mov (.t 45), none⟩] [6, 7] [])
.ret)
.skip))
(.seq (.reg [⟨some 47, .mov (.t 0), none⟩,
⟨some 48, .mov (.t 12), none⟩,
⟨some 49, .call false (.f 193) [(.t 47), (.t 48)], none⟩,
⟨some 46, .mov (.t 49), none⟩,
⟨some 50, .ext (.t 46) 0, none⟩,
⟨some 51, .ext (.t 46) 1, none⟩,
⟨some 15, .mov (.t 50), none⟩,
⟨some 16, .mov (.t 51), none⟩] [0, 10, 12, 13, 15, 31, 32, 33] [])
(.seq (.reg [⟨some 53, .mov (.t 0), none⟩,
⟨some 54, .mov (.t 12), none⟩,
⟨some 55, .call false (.f 194) [(.t 53), (.t 54)], none⟩,
⟨some 52, .mov (.t 55), none⟩,
⟨some 56, .ext (.t 52) 0, none⟩,
⟨some 57, .ext (.t 52) 1, none⟩,
⟨some 17, .alloc [(.bool false), .nil, (.int .i64 0)], none⟩,
⟨none, .store 3 (.t 17) (.t 56), none⟩,
⟨some 18, .mov (.t 57), none⟩] [0, 10, 13, 15, 17, 31, 32, 33] [])
(.reg [⟨some 58, .mov (.t 10), none⟩,
⟨some 59, .mov (.t 15), none⟩,
⟨some 60, .faddr 0 (.t 13), none⟩,
⟨some 61, .load false 1 (.t 60), none⟩,
⟨some 62, .load true 3 (.t 17), none⟩,
⟨some 63, .build [(.int .u8 0), (.bool false), (.bool false), .nil, (.int .i64 0)] [(0, 1, (.t 59)), (1, 1, (.t 61)), (2, 3, (.t 62))], none⟩,
⟨some 64, .bslice 1 5 [(.int .u8 0), (.bool false), (.bool false), .nil, (.int .i64 0)] [(0, 5, (.t 63))], none⟩,
⟨some 65, .app 5 48 (.t 58) (.t 64), none⟩,
⟨some 10, .mov (.t 65), none⟩] [0, 10, 31, 32, 33] [])))))))
(.reg [⟨some 66, .bin .add (.t 33) (.c (.int .i64 1)), none⟩,
⟨some 33, .mov (.t 66), none⟩] [0, 10, 31, 32, 33] []))))
def c_soft_open_l1 : IC := .loop [0, 10, 31, 32, 33] c_soft_open_b1
def c_soft_open : IFn := ⟨[.tmp 6, .tmp 7],
(.seq (.reg [⟨some 6, .mov (.c .nil), none⟩,
⟨some 7, .mov (.c (.int .i64 0)), none⟩] [0, 1, 2] [])
(.seq (.seq (.reg [⟨some 20, .mov (.t 0), none⟩,
⟨some 21, .mov (.t 1), none⟩,
⟨some 22, .call false (.f 8) [(.t 20), (.t 21), (.c (.bool false))], none⟩,
⟨some 19, .mov (.t 22), none⟩,
⟨some 23, .ext (.t 19) 0, none⟩,
⟨some 24, .ext (.t 19) 1, none⟩,
⟨some 8, .mov (.t 23), none⟩,
⟨some 9, .mov (.t 24), none⟩] [0, 2, 9] [])
(.seq (.reg [⟨some 25, .mov (.t 9), none⟩,
⟨some 26, .bin .neq (.t 25) (.c (.int .i64 0)), none⟩] [0, 2, 9, 26] [])
(.cond (.t 26)
(.seq (.reg [⟨some 27, .mov (.t 9), none⟩,
⟨some 6, .mov (.c .nil), none⟩,
⟨some 7, .mov (.t 27), none⟩] [6, 7] [])
.ret)
.skip)))
(.seq (.reg [⟨some 28, .mov (.t 2), none⟩,
⟨some 29, .len (.t 28), none⟩,
⟨some 30, .mk 5 48 [(.int .u8 0), (.bool false), (.bool false), .nil, (.int .i64 0)] (.c (.int .i64 0)) (.t 29), none⟩,
⟨some 10, .mov (.t 30), none⟩] [0, 2, 10] [])
(.seq (.seq (.reg [⟨some 31, .mov (.t 2), none⟩,
⟨some 32, .len (.t 31), none⟩,
⟨some 33, .mov (.c (.int .i64 0)), none⟩] [0, 10, 31, 32, 33] [])
(.block 0
 c_soft_open_l1))
(.seq (.reg [⟨some 67, .mov (.t 10), none⟩,
⟨some 6, .mov (.t 67), none⟩,
⟨some 7, .mov (.c (.int .i64 0)), none⟩] [6, 7] [])
.ret)))))⟩

def c_soft_desk_add : IFn := ⟨[.tmp 6, .tmp 7, .tmp 8],
(.seq (.reg [⟨some 3, .box 2 (.t 0), none⟩,
⟨some 4, .box 5 (.t 1), none⟩,
⟨some 5, .box 5 (.t 2), none⟩,
⟨some 6, .mov (.c (.int .u64 0)), none⟩,
⟨some 7, .mov (.c (.int .u8 0)), none⟩,
⟨some 8, .mov (.c (.int .i64 0)), none⟩] [3, 4, 5] [])
(.seq (.block 0
(.seq (.reg [⟨some 12, .load true 5 (.t 4), none⟩,
⟨some 13, .load true 5 (.t 5), none⟩,
⟨some 14, .bslice 2 5 [(.int .u8 0), (.bool false), (.bool false), .nil, (.int .i64 0)] [(0, 5, (.t 12)), (5, 5, (.t 13))], none⟩,
⟨some 15, .call false (.f 178) [(.c (.int .u8 5)), (.t 14)], none⟩,
⟨some 11, .mov (.t 15), none⟩] [3, 4, 5, 11] [])
(.cond (.t 11)
(.seq (.reg [⟨some 16, .load true 2 (.t 3), none⟩,
⟨some 17, .call false (.f 179) [(.t 16), (.c (.int .u8 0))], none⟩,
⟨some 18, .ext (.t 17) 0, none⟩,
⟨some 19, .ext (.t 17) 1, none⟩,
⟨some 20, .ext (.t 17) 2, none⟩,
⟨some 6, .mov (.t 18), none⟩,
⟨some 7, .mov (.t 19), none⟩,
⟨some 8, .mov (.t 20), none⟩] [6, 7, 8] [])
.ret)
(.seq (.reg [⟨some 22, .faddr 0 (.t 4), none⟩,
⟨some 23, .load false 1 (.t 22), none⟩,
⟨some 24, .bin .eql (.t 23) (.c (.int .u8 4)), none⟩,
⟨some 25, .mov (.t 24), none⟩,
⟨some 26, .faddr 0 (.t 5), some (25, true)⟩,
⟨some 27, .load false 1 (.t 26), some (25, true)⟩,
⟨some 28, .bin .eql (.t 27) (.c (.int .u8 4)), some (25, true)⟩,
⟨some 29, .pick (.t 25) (.t 28) (.c (.bool false)), none⟩,
⟨some 30, .mov (.t 29), none⟩,
⟨some 31, .faddr 1 (.t 4), some (30, true)⟩,
⟨some 32, .load false 1 (.t 31), some (30, true)⟩,
⟨some 33, .faddr 1 (.t 5), some (30, true)⟩,
⟨some 34, .load false 1 (.t 33), some (30, true)⟩,
⟨some 35, .eqb true (.t 32) (.t 34), some (30, true)⟩,
⟨some 36, .pick (.t 30) (.t 35) (.c (.bool false)), none⟩,
⟨some 21, .mov (.t 36), none⟩] [3, 4, 5, 21] [])
(.cond (.t 21)
(.seq (.reg [⟨some 37, .load true 2 (.t 3), none⟩,
⟨some 38, .call false (.f 179) [(.t 37), (.c (.int .u8 1))], none⟩,
⟨some 39, .ext (.t 38) 0, none⟩,
⟨some 40, .ext (.t 38) 1, none⟩,
⟨some 41, .ext (.t 38) 2, none⟩,
⟨some 6, .mov (.t 39), none⟩,
⟨some 7, .mov (.t 40), none⟩,
⟨some 8, .mov (.t 41), none⟩] [6, 7, 8] [])
.ret)
(.seq (.reg [⟨some 43, .faddr 0 (.t 4), none⟩,
⟨some 44, .load false 1 (.t 43), none⟩,
⟨some 45, .bin .eql (.t 44) (.c (.int .u8 4)), none⟩,
⟨some 42, .mov (.t 45), none⟩] [3, 4, 5, 42] [])
(.cond (.t 42)
(.seq (.reg [⟨some 46, .load true 2 (.t 3), none⟩,
⟨some 47, .faddr 1 (.t 4), none⟩,
⟨some 48, .load false 1 (.t 47), none⟩,
⟨some 49, .call false (.f 180) [(.t 46), (.t 48), (.c (.int .u8 0))], none⟩,
⟨some 50, .ext (.t 49) 0, none⟩,
⟨some 51, .ext (.t 49) 1, none⟩,
⟨some 52, .ext (.t 49) 2, none⟩,
⟨some 6, .mov (.t 50), none⟩,
⟨some 7, .mov (.t 51), none⟩,
⟨some 8, .mov (.t 52), none⟩] [6, 7, 8] [])
.ret)
(.seq (.reg [⟨some 54, .faddr 0 (.t 5), none⟩,
⟨some 55, .load false 1 (.t 54), none⟩,
⟨some 56, .bin .eql (.t 55) (.c (.int .u8 4)), none⟩,
⟨some 53, .mov (.t 56), none⟩] [3, 4, 5, 53] [])
(.cond (.t 53)
(.seq (.reg [⟨some 57, .load true 2 (.t 3), none⟩,
⟨some 58, .faddr 1 (.t 5), none⟩,
⟨some 59, .load false 1 (.t 58), none⟩,
⟨some 60, .call false (.f 180) [(.t 57), (.t 59), (.c (.int .u8 0))], none⟩,
⟨some 61, .ext (.t 60) 0, none⟩,
⟨some 62, .ext (.t 60) 1, none⟩,
⟨some 63, .ext (.t 60) 2, none⟩,
⟨some 6, .mov (.t 61), none⟩,
⟨some 7, .mov (.t 62), none⟩,
⟨some 8, .mov (.t 63), none⟩] [6, 7, 8] [])
.ret)
(.seq (.reg [⟨some 65, .faddr 0 (.t 4), none⟩,
⟨some 66, .load false 1 (.t 65), none⟩,
⟨some 67, .bin .eql (.t 66) (.c (.int .u8 1)), none⟩,
⟨some 68, .mov (.t 67), none⟩,
⟨some 69, .faddr 0 (.t 5), some (68, true)⟩,
⟨some 70, .load false 1 (.t 69), some (68, true)⟩,
⟨some 71, .bin .eql (.t 70) (.c (.int .u8 1)), some (68, true)⟩,
⟨some 72, .pick (.t 68) (.t 71) (.c (.bool false)), none⟩,
⟨some 73, .mov (.t 72), none⟩,
⟨some 74, .faddr 1 (.t 4), some (73, true)⟩,
⟨some 75, .load false 1 (.t 74), some (73, true)⟩,
⟨some 76, .faddr 1 (.t 5), some (73, true)⟩,
⟨some 77, .load false 1 (.t 76), some (73, true)⟩,
⟨some 78, .eqb false (.t 75) (.t 77), some (73, true)⟩,
⟨some 79, .pick (.t 73) (.t 78) (.c (.bool false)), none⟩,
⟨some 64, .mov (.t 79), none⟩] [3, 4, 5, 64] [])
(.cond (.t 64)
(.seq (.reg [⟨some 80, .load true 2 (.t 3), none⟩,
⟨some 81, .faddr 1 (.t 4), none⟩,
⟨some 82, .load false 1 (.t 81), none⟩,
⟨some 83, .call false (.f 181) [(.t 80), (.t 82)], none⟩,
⟨some 84, .ext (.t 83) 0, none⟩,
⟨some 85, .ext (.t 83) 1, none⟩,
⟨some 86, .ext (.t 83) 2, none⟩,
⟨some 6, .mov (.t 84), none⟩,
⟨some 7, .mov (.t 85), none⟩,
⟨some 8, .mov (.t 86), none⟩] [6, 7, 8] [])
.ret)
.skip)))))))))))
(.seq (.reg [⟨some 88, .faddr 2 (.t 4), none⟩,
⟨some 89, .load true 3 (.t 88), none⟩,
⟨some 90, .faddr 2 (.t 5), none⟩,
⟨some 91, .load true 3 (.t 90), none⟩,
⟨some 92, .call false (.f 195) [(.t 89), (.t 91)], none⟩,
⟨some 87, .mov (.t 92), none⟩,
⟨some 93, .ext (.t 87) 0, none⟩,
⟨some 94, .ext (.t 87) 1, none⟩,
⟨some 9, .alloc [(.bool false), .nil, (.int .i64 0)], none⟩,
⟨none, .store 3 (.t 9) (.t 93), none⟩,
⟨some 10, .mov (.t 94), none⟩] [3, 9] [])
(.seq (.reg [⟨some 95, .load true 2 (.t 3), none⟩,
⟨some 96, .load true 3 (.t 9), none⟩,
⟨some 97, .call false (.f 183) [(.t 95), (.t 96)], none⟩,
⟨some 98, .ext (.t 97) 0, none⟩,
⟨some 99, .ext (.t 97) 1, none⟩,
⟨some 100, .ext (.t 97) 2, none⟩,
⟨some 6, .mov (.t 98), none⟩,
⟨some 7, .mov (.t 99), none⟩,
⟨some 8, .mov (.t 100), none⟩] [6, 7, 8] [])
.ret))))⟩

def c_soft_has_b1 : IC :=
(.seq (.reg [⟨some 10, .bin .lss (.t 9) (.t 8), none⟩] [0, 7, 8, 9, 10] [])
(.seq (.cond (.t 10)
.skip
(.exit 0))
(.seq (.block 1
(.seq (.reg [⟨some 11, .iaddr 5 (.t 7) (.t 9), none⟩,
⟨some 12, .load true 5 (.t 11), none⟩,
⟨some 6, .alloc [(.int .u8 0), (.bool false), (.bool false), .nil, (.int .i64 0)], none⟩,
⟨none, .store 5 (.t 6) (.t 12), none⟩] [0, 6, 7, 8, 9] [])
(.seq (.reg [⟨some 13, .faddr 0 (.t 6), none⟩,
⟨some 14, .load false 1 (.t 13), none⟩,
⟨some 15, .mov (.t 0), none⟩,
⟨some 16, .bin .eql (.t 14) (.t 15), none⟩] [0, 7, 8, 9, 16] [])
(.cond (.t 16)
(.seq (.reg [⟨some 4, .mov (.c (.bool true)), none⟩] [4] [])
.ret)
.skip))))
(.reg [⟨some 17, .bin .add (.t 9) (.c (.int .i64 1)), none⟩,
⟨some 9, .mov (.t 17), none⟩] [0, 7, 8, 9] []))))
def c_soft_has_l1 : IC := .loop [0, 7, 8, 9] c_soft_has_b1
def c_soft_has : IFn := ⟨[.tmp 4],
(.seq (.reg [⟨some 4, .mov (.c (.bool false)), none⟩] [0, 1] [])
(.seq (.seq (.reg [⟨some 7, .mov (.t 1), none⟩,
⟨some 8, .len (.t 7), none⟩,
⟨some 9, .mov (.c (.int .i64 0)), none⟩] [0, 7, 8, 9] [])
(.block 0
 c_soft_has_l1))
(.seq (.reg [⟨some 4, .mov (.c (.bool false)), none⟩] [4] [])
.ret)))⟩

def c_soft_desk_none : IFn := ⟨[.tmp 4, .tmp 5, .tmp 6],
(.seq (.reg [⟨some 2, .box 2 (.t 0), none⟩,
⟨some 4, .mov (.c (.int .u64 0)), none⟩,
⟨some 5, .mov (.c (.int .u8 0)), none⟩,
⟨some 6, .mov (.c (.int .i64 0)), none⟩] [1, 2] [])
(.seq (.reg [⟨some 10, .faddr 0 (.t 2), none⟩,
⟨some 11, .load false 1 (.t 10), none⟩,
⟨some 12, .call false (.f 196) [(.t 11)], none⟩,
⟨some 9, .mov (.t 12), none⟩,
⟨some 13, .ext (.t 9) 0, none⟩,
⟨some 14, .ext (.t 9) 1, none⟩,
⟨some 7, .mov (.t 13), none⟩,
⟨some 8, .mov (.t 14), none⟩] [1, 7, 8] [])
(.seq (.reg [⟨some 15, .mov (.t 7), none⟩,
⟨some 16, .mov (.t 1), none⟩,
⟨some 17, .mov (.t 8), none⟩,
⟨some 4, .mov (.t 15), none⟩,
⟨some 5, .mov (.t 16), none⟩,
⟨some 6, .mov (.t 17), none⟩] [4, 5, 6] [])
.ret)))⟩

def c_soft_desk_inf : IFn := ⟨[.tmp 6, .tmp 7, .tmp 8],
(.seq (.reg [⟨some 3, .box 2 (.t 0), none⟩,
⟨some 6, .mov (.c (.int .u64 0)), none⟩,
⟨some 7, .mov (.c (.int .u8 0)), none⟩,
⟨some 8, .mov (.c (.int .i64 0)), none⟩] [1, 2, 3] [])
(.seq (.reg [⟨some 12, .faddr 0 (.t 3), none⟩,
⟨some 13, .load false 1 (.t 12), none⟩,
⟨some 14, .mov (.t 1), none⟩,
⟨some 15, .call false (.f 26) [(.t 13), (.t 14)], none⟩,
⟨some 11, .mov (.t 15), none⟩,
⟨some 16, .ext (.t 11) 0, none⟩,
⟨some 17, .ext (.t 11) 1, none⟩,
⟨some 9, .mov (.t 16), none⟩,
⟨some 10, .mov (.t 17), none⟩] [2, 9, 10] [])
(.seq (.reg [⟨some 18, .mov (.t 9), none⟩,
⟨some 19, .mov (.t 2), none⟩,
⟨some 20, .mov (.t 10), none⟩,
⟨some 6, .mov (.t 18), none⟩,
⟨some 7, .mov (.t 19), none⟩,
⟨some 8, .mov (.t 20), none⟩] [6, 7, 8] [])
.ret)))⟩

def c_soft_desk_zero : IFn := ⟨[.tmp 4, .tmp 5, .tmp 6],
(.seq (.reg [⟨some 2, .box 2 (.t 0), none⟩,
⟨some 4, .mov (.c (.int .u64 0)), none⟩,
⟨some 5, .mov (.c (.int .u8 0)), none⟩,
⟨some 6, .mov (.c (.int .i64 0)), none⟩] [1, 2] [])
(.seq (.reg [⟨some 10, .faddr 0 (.t 2), none⟩,
⟨some 11, .load false 1 (.t 10), none⟩,
⟨some 12, .mov (.t 1), none⟩,
⟨some 13, .call false (.f 57) [(.t 11), (.t 12)], none⟩,
⟨some 9, .mov (.t 13), none⟩,
⟨some 14, .ext (.t 9) 0, none⟩,
⟨some 15, .ext (.t 9) 1, none⟩,
⟨some 7, .mov (.t 14), none⟩,
⟨some 8, .mov (.t 15), none⟩] [7, 8] [])
(.seq (.reg [⟨some 16, .mov (.t 7), none⟩,
⟨some 17, .mov (.t 8), none⟩,
⟨some 4, .mov (.t 16), none⟩,
⟨some 5, .mov (.c (.int .u8 0)), none⟩,
⟨some 6, .mov (.t 17), none⟩] [4, 5, 6] [])
.ret)))⟩

def c_dyad_Mul : IFn := ⟨[.cell 4 true 3, .tmp 5],
(.seq (.reg [⟨some 2, .box 3 (.t 0), none⟩,
⟨some 3, .box 3 (.t 1), none⟩,
⟨some 4, .alloc [(.bool false), .nil, (.int .i64 0)], none⟩,
⟨some 5, .mov (.c (.int .i64 0)), none⟩] [2, 3, 4] [])
(.seq (.seq (.reg [⟨some 8, .load true 3 (.t 2), none⟩,
⟨some 9, .load true 3 (.t 3), none⟩,
⟨some 10, .bslice 2 3 [(.bool false), .nil, (.int .i64 0)] [(0, 3, (.t 8)), (3, 3, (.t 9))], none⟩,
⟨some 11, .call false (.f 74) [(.t 10)], none⟩,
⟨some 12, .un .not (.t 11), none⟩] [2, 3, 4, 12] [])
(.cond (.t 12)
(.seq (.reg [⟨some 13, .build [(.bool false), .nil, (.int .i64 0)] [], none⟩,
⟨none, .store 3 (.t 4) (.t 13), none⟩,
⟨some 5, .mov (.c (.int .i64 2)), none⟩] [4, 5] [])
.ret)
.skip))
(.seq (.reg [⟨some 15, .faddr 1 (.t 2), none⟩,
⟨some 16, .load false 1 (.t 15), none⟩,
⟨some 17, .faddr 1 (.t 3), none⟩,
⟨some 18, .load false 1 (.t 17), none⟩,
⟨some 19, .call false (.f 197) [(.t 16), (.t 18)], none⟩,
⟨some 14, .mov (.t 19), none⟩,
⟨some 20, .ext (.t 14) 0, none⟩,
⟨some 21, .ext (.t 14) 1, none⟩,
⟨some 6, .mov (.t 20), none⟩,
⟨some 7, .mov (.t 21), none⟩] [2, 3, 4, 6, 7] [])
(.seq (.seq (.reg [⟨some 22, .mov (.t 7), none⟩,
⟨some 23, .bin .neq (.t 22) (.c (.int .i64 0)), none⟩] [2, 3, 4, 6, 7, 23] [])
(.cond (.t 23)
(.seq (.reg [⟨some 24, .build [(.bool false), .nil, (.int .i64 0)] [], none⟩,
⟨some 25, .mov (.t 7), none⟩,
⟨none, .store 3 (.t 4) (.t 24), none⟩,
⟨some 5, .mov (.t 25), none⟩] [4, 5] [])
.ret)
.skip))
(.seq (.reg [⟨some 26, .faddr 0 (.t 2), none⟩,
⟨some 27, .load false 1 (.t 26), none⟩,
⟨some 28, .faddr 0 (.t 3), none⟩,
⟨some 29, .load false 1 (.t 28), none⟩,
⟨some 30, .eqb true (.t 27) (.t 29), none⟩,
⟨some 31, .mov (.t 6), none⟩,
⟨some 32, .faddr 2 (.t 2), none⟩,
⟨some 33, .load false 1 (.t 32), none⟩,
⟨some 34, .faddr 2 (.t 3), none⟩,
⟨some 35, .load false 1 (.t 34), none⟩,
⟨some 36, .bin .add (.t 33) (.t 35), none⟩,
⟨some 37, .call false (.f 54) [(.t 30), (.t 31), (.t 36)], none⟩,
⟨some 38, .ext (.t 37) 0, none⟩,
⟨some 39, .ext (.t 37) 1, none⟩,
⟨none, .store 3 (.t 4) (.t 38), none⟩,
⟨some 5, .mov (.t 39), none⟩] [4, 5] [])
.ret)))))⟩

def c_soft_desk_sum : IFn := ⟨[.tmp 4, .tmp 5, .tmp 6],
(.seq (.reg [⟨some 2, .box 2 (.t 0), none⟩,
⟨some 3, .box 3 (.t 1), none⟩,
⟨some 4, .mov (.c (.int .u64 0)), none⟩,
⟨some 5, .mov (.c (.int .u8 0)), none⟩,
⟨some 6, .mov (.c (.int .i64 0)), none⟩] [2, 3] [])
(.seq (.seq (.reg [⟨some 7, .load true 3 (.t 3), none⟩,
⟨some 8, .call false (.f 22) [(.t 7)], none⟩,
⟨some 9, .bin .eql (.t 8) (.c (.int .i64 0)), none⟩] [2, 3, 9] [])
(.cond (.t 9)
(.seq (.reg [⟨some 10, .load true 2 (.t 2), none⟩,
⟨some 11, .faddr 1 (.t 2), none⟩,
⟨some 12, .load false 1 (.t 11), none⟩,
⟨some 13, .bin .eql (.t 12) (.c (.int .u8 5)), none⟩,
⟨some 14, .call false (.f 181) [(.t 10), (.t 13)], none⟩,
⟨some 15, .ext (.t 14) 0, none⟩,
⟨some 16, .ext (.t 14) 1, none⟩,
⟨some 17, .ext (.t 14) 2, none⟩,
⟨some 4, .mov (.t 15), none⟩,
⟨some 5, .mov (.t 16), none⟩,
⟨some 6, .mov (.t 17), none⟩] [4, 5, 6] [])
.ret)
.skip))
(.seq (.reg [⟨some 18, .faddr 0 (.t 2), none⟩,
⟨some 19, .load false 1 (.t 18), none⟩,
⟨some 20, .faddr 1 (.t 2), none⟩,
⟨some 21, .load false 1 (.t 20), none⟩,
⟨some 22, .load true 3 (.t 3), none⟩,
⟨some 23, .call false (.f 7) [(.t 19), (.t 21), (.t 22)], none⟩,
⟨some 24, .ext (.t 23) 0, none⟩,
⟨some 25, .ext (.t 23) 1, none⟩,
⟨some 26, .ext (.t 23) 2, none⟩,
⟨some 4, .mov (.t 24), none⟩,
⟨some 5, .mov (.t 25), none⟩,
⟨some 6, .mov (.t 26), none⟩] [4, 5, 6] [])
.ret)))⟩

def c_word_Split : IFn := ⟨[.cell 4 true 3, .tmp 5],
(.seq (.reg [⟨some 4, .alloc [(.bool false), (.int .i64 0), (.int .u64 0)], none⟩,
⟨some 5, .mov (.c (.int .i64 0)), none⟩] [0, 1, 4] [])
(.seq (.reg [⟨some 9, .mov (.t 0), none⟩,
⟨some 10, .mov (.t 1), none⟩,
⟨some 11, .bslice 1 1 [(.int .u64 0)] [(0, 1, (.t 10))], none⟩,
⟨some 12, .call false (.f 95) [(.t 9), (.t 11)], none⟩,
⟨some 8, .mov (.t 12), none⟩,
⟨some 13, .ext (.t 8) 0, none⟩,
⟨some 14, .ext (.t 8) 1, none⟩,
⟨some 6, .alloc [(.int .i64 0), (.int .i64 0), (.int .u64 0)], none⟩,
⟨none, .store 3 (.t 6) (.t 13), none⟩,
⟨some 7, .mov (.t 14), none⟩] [1, 4, 6, 7] [])
(.seq (.seq (.reg [⟨some 15, .mov (.t 7), none⟩,
⟨some 16, .bin .neq (.t 15) (.c (.int .i64 0)), none⟩] [1, 4, 6, 7, 16] [])
(.cond (.t 16)
(.seq (.reg [⟨some 17, .build [(.bool false), (.int .i64 0), (.int .u64 0)] [], none⟩,
⟨some 18, .mov (.t 7), none⟩,
⟨none, .store 3 (.t 4) (.t 17), none⟩,
⟨some 5, .mov (.t 18), none⟩] [4, 5] [])
.ret)
.skip))
(.seq (.reg [⟨some 19, .load true 3 (.t 6), none⟩,
⟨some 20, .mov (.t 1), none⟩,
⟨some 21, .call false (.f 200) [(.t 19), (.t 20)], none⟩,
⟨none, .store 3 (.t 4) (.t 21), none⟩,
⟨some 5, .mov (.c (.int .i64 0)), none⟩] [4, 5] [])
.ret))))⟩

def c_word_Class : IFn := ⟨[.tmp 4, .tmp 5],
(.seq (.reg [⟨some 4, .mov (.c (.int .u8 0)), none⟩,
⟨some 5, .mov (.c (.int .i64 0)), none⟩] [0, 1] [])
(.seq (.reg [⟨some 9, .mov (.t 0), none⟩,
⟨some 10, .mov (.t 1), none⟩,
⟨some 11, .bslice 1 1 [(.int .u64 0)] [(0, 1, (.t 10))], none⟩,
⟨some 12, .call false (.f 95) [(.t 9), (.t 11)], none⟩,
⟨some 8, .mov (.t 12), none⟩,
⟨some 13, .ext (.t 8) 0, none⟩,
⟨some 14, .ext (.t 8) 1, none⟩,
⟨some 6, .alloc [(.int .i64 0), (.int .i64 0), (.int .u64 0)], none⟩,
⟨none, .store 3 (.t 6) (.t 13), none⟩,
⟨some 7, .mov (.t 14), none⟩] [1, 6, 7] [])
(.seq (.seq (.reg [⟨some 15, .mov (.t 7), none⟩,
⟨some 16, .bin .neq (.t 15) (.c (.int .i64 0)), none⟩] [1, 6, 7, 16] [])
(.cond (.t 16)
(.seq (.reg [⟨some 17, .mov (.t 7), none⟩,
⟨some 4, .mov (.c (.int .u8 0)), none⟩,
⟨some 5, .mov (.t 17), none⟩] [4, 5] [])
.ret)
.skip))
(.seq (.reg [⟨some 18, .load true 3 (.t 6), none⟩,
⟨some 19, .mov (.t 1), none⟩,
⟨some 20, .call false (.f 201) [(.t 18), (.t 19)], none⟩,
⟨some 4, .mov (.t 20), none⟩,
⟨some 5, .mov (.c (.int .i64 0)), none⟩] [4, 5] [])
.ret))))⟩

def c_word_Value : IFn := ⟨[.cell 4 true 3, .tmp 5],
(.seq (.reg [⟨some 4, .alloc [(.bool false), .nil, (.int .i64 0)], none⟩,
⟨some 5, .mov (.c (.int .i64 0)), none⟩] [0, 1, 4] [])
(.seq (.reg [⟨some 10, .mov (.t 0), none⟩,
⟨some 11, .mov (.t 1), none⟩,
⟨some 12, .call false (.f 202) [(.t 10), (.t 11)], none⟩,
⟨some 9, .mov (.t 12), none⟩,
⟨some 13, .ext (.t 9) 0, none⟩,
⟨some 14, .ext (.t 9) 1, none⟩,
⟨some 6, .alloc [(.int .i64 0), (.int .i64 0), (.int .u64 0)], none⟩,
⟨none, .store 3 (.t 6) (.t 13), none⟩,
⟨some 7, .mov (.t 14), none⟩] [1, 4, 6, 7] [])
(.seq (.seq (.reg [⟨some 15, .mov (.t 7), none⟩,
⟨some 16, .bin .neq (.t 15) (.c (.int .i64 0)), none⟩] [1, 4, 6, 7, 16] [])
(.cond (.t 16)
(.seq (.reg [⟨some 17, .build [(.bool false), .nil, (.int .i64 0)] [], none⟩,
⟨some 18, .mov (.t 7), none⟩,
⟨none, .store 3 (.t 4) (.t 17), none⟩,
⟨some 5, .mov (.t 18), none⟩] [4, 5] [])
.ret)
.skip))
(.seq (.reg [⟨some 19, .load true 3 (.t 6), none⟩,
⟨some 20, .mov (.t 1), none⟩,
⟨some 21, .call false (.f 200) [(.t 19), (.t 20)], none⟩,
⟨some 8, .alloc [(.bool false), (.int .i64 0), (.int .u64 0)], none⟩,
⟨none, .store 3 (.t 8) (.t 21), none⟩] [4, 6, 8] [])
(.seq (.seq (.reg [⟨some 22, .faddr 1 (.t 8), none⟩,
⟨some 23, .load false 1 (.t 22), none⟩,
⟨some 24, .bin .gtr (.t 23) (.c (.int .i64 0)), none⟩] [4, 6, 8, 24] [])
(.cond (.t 24)
(.reg [⟨some 25, .faddr 2 (.t 8), none⟩,
⟨some 26, .load false 1 (.t 25), none⟩,
⟨some 27, .faddr 0 (.t 6), none⟩,
⟨some 28, .load false 1 (.t 27), none⟩,
⟨some 29, .bin .shl (.c (.int .u64 1)) (.t 28), none⟩,
⟨some 30, .bin .or (.t 26) (.t 29), none⟩,
⟨some 31, .faddr 2 (.t 8), none⟩,
⟨none, .store 1 (.t 31) (.t 30), none⟩] [4, 6, 8] [])
.skip))
(.seq (.reg [⟨some 32, .faddr 0 (.t 8), none⟩,
⟨some 33, .load false 1 (.t 32), none⟩,
⟨some 34, .faddr 2 (.t 8), none⟩,
⟨some 35, .load false 1 (.t 34), none⟩,
⟨some 36, .call false (.f 55) [(.t 35)], none⟩,
⟨some 37, .faddr 1 (.t 8), none⟩,
⟨some 38, .load false 1 (.t 37), none⟩,
⟨some 39, .mm true (.t 38) [(.c (.int .i64 1))], none⟩,
⟨some 40, .bin .sub (.t 39) (.c (.int .i64 1)), none⟩,
⟨some 41, .load true 3 (.t 6), none⟩,
⟨some 42, .call false (.f 96) [(.t 41)], none⟩,
⟨some 43, .bin .add (.t 40) (.t 42), none⟩,
⟨some 44, .call false (.f 54) [(.t 33), (.t 36), (.t 43)], none⟩,
⟨some 45, .ext (.t 44) 0, none⟩,
⟨some 46, .ext (.t 44) 1, none⟩,
⟨none, .store 3 (.t 4) (.t 45), none⟩,
⟨some 5, .mov (.t 46), none⟩] [4, 5] [])
.ret))))))⟩

def c_dyad_Add : IFn := ⟨[.cell 4 true 3, .tmp 5],
(.seq (.reg [⟨some 2, .box 3 (.t 0), none⟩,
⟨some 3, .box 3 (.t 1), none⟩,
⟨some 4, .alloc [(.bool false), .nil, (.int .i64 0)], none⟩,
⟨some 5, .mov (.c (.int .i64 0)), none⟩] [2, 3, 4] [])
(.seq (.seq (.reg [⟨some 6, .load true 3 (.t 2), none⟩,
⟨some 7, .load true 3 (.t 3), none⟩,
⟨some 8, .bslice 2 3 [(.bool false), .nil, (.int .i64 0)] [(0, 3, (.t 6)), (3, 3, (.t 7))], none⟩,
⟨some 9, .call false (.f 74) [(.t 8)], none⟩,
⟨some 10, .un .not (.t 9), none⟩] [2, 3, 4, 10] [])
(.cond (.t 10)
(.seq (.reg [⟨some 11, .build [(.bool false), .nil, (.int .i64 0)] [], none⟩,
⟨none, .store 3 (.t 4) (.t 11), none⟩,
⟨some 5, .mov (.c (.int .i64 2)), none⟩] [4, 5] [])
.ret)
.skip))
(.seq (.reg [⟨some 12, .load true 3 (.t 2), none⟩,
⟨some 13, .load true 3 (.t 3), none⟩,
⟨some 14, .call false (.f 203) [(.t 12), (.t 13)], none⟩,
⟨some 15, .ext (.t 14) 0, none⟩,
⟨some 16, .ext (.t 14) 1, none⟩,
⟨none, .store 3 (.t 4) (.t 15), none⟩,
⟨some 5, .mov (.t 16), none⟩] [4, 5] [])
.ret)))⟩

def c_word_None : IFn := ⟨[.tmp 2, .tmp 3],
(.seq (.reg [⟨some 2, .mov (.c (.int .u64 0)), none⟩,
⟨some 3, .mov (.c (.int .i64 0)), none⟩] [0] [])
(.seq (.reg [⟨some 4, .mov (.t 0), none⟩,
⟨some 5, .call false (.f 58) [(.t 4), (.c (.bool false)), (.f 204)], none⟩,
⟨some 6, .ext (.t 5) 0, none⟩,
⟨some 7, .ext (.t 5) 1, none⟩,
⟨some 2, .mov (.t 6), none⟩,
⟨some 3, .mov (.t 7), none⟩] [2, 3] [])
.ret))⟩

def c_nat_Mul : IFn := ⟨[.tmp 4, .tmp 5],
(.seq (.reg [⟨some 4, .mov (.c .nil), none⟩,
⟨some 5, .mov (.c (.int .i64 0)), none⟩] [0, 1] [])
(.seq (.seq (.reg [⟨some 6, .mov (.t 0), none⟩,
⟨some 7, .mov (.t 1), none⟩,
⟨some 8, .bslice 2 1 [.nil] [(0, 1, (.t 6)), (1, 1, (.t 7))], none⟩,
⟨some 9, .call false (.f 106) [(.t 8)], none⟩,
⟨some 10, .un .not (.t 9), none⟩] [0, 1, 10] [])
(.cond (.t 10)
(.seq (.reg [⟨some 4, .mov (.c .nil), none⟩,
⟨some 5, .mov (.c (.int .i64 2)), none⟩] [4, 5] [])
.ret)
.skip))
(.seq (.seq (.reg [⟨some 11, .mov (.t 0), none⟩,
⟨some 12, .len (.t 11), none⟩,
⟨some 13, .bin .gtr (.t 12) (.c (.int .i64 0)), none⟩,
⟨some 14, .mov (.t 13), none⟩,
⟨some 15, .mov (.t 1), some (14, true)⟩,
⟨some 16, .len (.t 15), some (14, true)⟩,
⟨some 17, .bin .gtr (.t 16) (.c (.int .i64 0)), some (14, true)⟩,
⟨some 18, .pick (.t 14) (.t 17) (.c (.bool false)), none⟩,
⟨some 19, .mov (.t 18), none⟩,
⟨some 20, .mov (.t 0), some (19, true)⟩,
⟨some 21, .len (.t 20), some (19, true)⟩,
⟨some 22, .mov (.t 1), some (19, true)⟩,
⟨some 23, .len (.t 22), some (19, true)⟩,
⟨some 24, .bin .add (.t 21) (.t 23), some (19, true)⟩,
⟨some 25, .bin .sub (.t 24) (.c (.int .i64 1)), some (19, true)⟩,
⟨some 26, .bin .gtr (.t 25) (.c (.int .i64 4096)), some (19, true)⟩,
⟨some 27, .pick (.t 19) (.t 26) (.c (.bool false)), none⟩] [0, 1, 27] [])
(.cond (.t 27)
(.seq (.reg [⟨some 4, .mov (.c .nil), none⟩,
⟨some 5, .mov (.c (.int .i64 3)), none⟩] [4, 5] [])
.ret)
.skip))
(.seq (.reg [⟨some 28, .mov (.t 0), none⟩,
⟨some 29, .mov (.t 1), none⟩,
⟨some 30, .call false (.f 113) [(.t 28), (.t 29)], none⟩,
⟨some 31, .call false (.f 117) [(.t 30)], none⟩,
⟨some 32, .ext (.t 31) 0, none⟩,
⟨some 33, .ext (.t 31) 1, none⟩,
⟨some 4, .mov (.t 32), none⟩,
⟨some 5, .mov (.t 33), none⟩] [4, 5] [])
.ret))))⟩

def c_word_shape_split : IFn := ⟨[.cell 4 true 3],
(.seq (.reg [⟨some 2, .box 3 (.t 0), none⟩,
⟨some 4, .alloc [(.bool false), (.int .i64 0), (.int .u64 0)], none⟩] [1, 2, 4] [])
(.seq (.reg [⟨some 6, .mov (.t 1), none⟩,
⟨some 7, .faddr 2 (.t 2), none⟩,
⟨some 8, .load false 1 (.t 7), none⟩,
⟨some 9, .bin .andNot (.t 6) (.t 8), none⟩,
⟨some 5, .mov (.t 9), none⟩] [1, 2, 4, 5] [])
(.seq (.reg [⟨some 10, .mov (.t 1), none⟩,
⟨some 11, .faddr 2 (.t 2), none⟩,
⟨some 12, .load false 1 (.t 11), none⟩,
⟨some 13, .bin .and (.t 10) (.t 12), none⟩,
⟨some 14, .bin .neq (.t 13) (.c (.int .u64 0)), none⟩,
⟨some 15, .mov (.t 5), none⟩,
⟨some 16, .faddr 0 (.t 2), none⟩,
⟨some 17, .load false 1 (.t 16), none⟩,
⟨some 18, .bin .shr (.t 15) (.t 17), none⟩,
⟨some 19, .cvt .i64 (.t 18), none⟩,
⟨some 20, .mov (.t 5), none⟩,
⟨some 21, .faddr 0 (.t 2), none⟩,
⟨some 22, .load false 1 (.t 21), none⟩,
⟨some 23, .bin .shl (.c (.int .u64 1)) (.t 22), none⟩,
⟨some 24, .bin .sub (.t 23) (.c (.int .u64 1)), none⟩,
⟨some 25, .bin .and (.t 20) (.t 24), none⟩,
⟨some 26, .build [(.bool false), (.int .i64 0), (.int .u64 0)] [(0, 1, (.t 14)), (1, 1, (.t 19)), (2, 1, (.t 25))], none⟩,
⟨none, .store 3 (.t 4) (.t 26), none⟩] [4] [])
.ret)))⟩

def c_word_shape_class : IFn := ⟨[.tmp 4],
(.seq (.reg [⟨some 2, .box 3 (.t 0), none⟩,
⟨some 4, .mov (.c (.int .u8 0)), none⟩] [1, 2] [])
(.seq (.reg [⟨some 6, .mov (.t 1), none⟩,
⟨some 7, .faddr 2 (.t 2), none⟩,
⟨some 8, .load false 1 (.t 7), none⟩,
⟨some 9, .bin .andNot (.t 6) (.t 8), none⟩,
⟨some 5, .mov (.t 9), none⟩] [2, 5] [])
(.seq (.block 0
(.seq (.reg [⟨some 11, .mov (.t 5), none⟩,
⟨some 12, .bin .eql (.t 11) (.c (.int .u64 0)), none⟩,
⟨some 10, .mov (.t 12), none⟩] [2, 5, 10] [])
(.cond (.t 10)
(.seq (.reg [⟨some 4, .mov (.c (.int .u8 1)), none⟩] [4] [])
.ret)
(.seq (.reg [⟨some 14, .mov (.t 5), none⟩,
⟨some 15, .faddr 0 (.t 2), none⟩,
⟨some 16, .load false 1 (.t 15), none⟩,
⟨some 17, .bin .shl (.c (.int .u64 1)) (.t 16), none⟩,
⟨some 18, .bin .lss (.t 14) (.t 17), none⟩,
⟨some 13, .mov (.t 18), none⟩] [2, 5, 13] [])
(.cond (.t 13)
(.seq (.reg [⟨some 4, .mov (.c (.int .u8 2)), none⟩] [4] [])
.ret)
(.seq (.reg [⟨some 20, .mov (.t 5), none⟩,
⟨some 21, .load true 3 (.t 2), none⟩,
⟨some 22, .call false (.f 60) [(.t 21)], none⟩,
⟨some 23, .bin .lss (.t 20) (.t 22), none⟩,
⟨some 19, .mov (.t 23), none⟩] [2, 5, 19] [])
(.cond (.t 19)
(.seq (.reg [⟨some 4, .mov (.c (.int .u8 3)), none⟩] [4] [])
.ret)
(.seq (.reg [⟨some 25, .mov (.t 5), none⟩,
⟨some 26, .load true 3 (.t 2), none⟩,
⟨some 27, .call false (.f 60) [(.t 26)], none⟩,
⟨some 28, .bin .eql (.t 25) (.t 27), none⟩,
⟨some 24, .mov (.t 28), none⟩] [24] [])
(.cond (.t 24)
(.seq (.reg [⟨some 4, .mov (.c (.int .u8 4)), none⟩] [4] [])
.ret)
.skip)))))))))
(.seq (.reg [⟨some 4, .mov (.c (.int .u8 5)), none⟩] [4] [])
.ret))))⟩

def c_word_finite : IFn := ⟨[.cell 4 true 3, .tmp 5],
(.seq (.reg [⟨some 4, .alloc [(.int .i64 0), (.int .i64 0), (.int .u64 0)], none⟩,
⟨some 5, .mov (.c (.int .i64 0)), none⟩] [0, 1, 4] [])
(.seq (.reg [⟨some 9, .mov (.t 0), none⟩,
⟨some 10, .mov (.t 1), none⟩,
⟨some 11, .bslice 1 1 [(.int .u64 0)] [(0, 1, (.t 10))], none⟩,
⟨some 12, .call false (.f 95) [(.t 9), (.t 11)], none⟩,
⟨some 8, .mov (.t 12), none⟩,
⟨some 13, .ext (.t 8) 0, none⟩,
⟨some 14, .ext (.t 8) 1, none⟩,
⟨some 6, .alloc [(.int .i64 0), (.int .i64 0), (.int .u64 0)], none⟩,
⟨none, .store 3 (.t 6) (.t 13), none⟩,
⟨some 7, .mov (.t 14), none⟩] [1, 4, 6, 7] [])
(.seq (.seq (.reg [⟨some 15, .mov (.t 7), none⟩,
⟨some 16, .bin .eql (.t 15) (.c (.int .i64 0)), none⟩,
⟨some 17, .mov (.t 16), none⟩,
⟨some 18, .load true 3 (.t 6), some (17, true)⟩,
⟨some 19, .mov (.t 1), some (17, true)⟩,
⟨some 20, .call false (.f 201) [(.t 18), (.t 19)], some (17, true)⟩,
⟨some 21, .bin .geq (.t 20) (.c (.int .u8 4)), some (17, true)⟩,
⟨some 22, .pick (.t 17) (.t 21) (.c (.bool false)), none⟩] [4, 6, 7, 22] [])
(.cond (.t 22)
(.reg [⟨some 7, .mov (.c (.int .i64 7)), none⟩] [4, 6, 7] [])
.skip))
(.seq (.reg [⟨some 23, .load true 3 (.t 6), none⟩,
⟨some 24, .mov (.t 7), none⟩,
⟨none, .store 3 (.t 4) (.t 23), none⟩,
⟨some 5, .mov (.t 24), none⟩] [4, 5] [])
.ret))))⟩

def c_dyad_add : IFn := ⟨[.cell 4 true 3, .tmp 5],
(.seq (.reg [⟨some 2, .box 3 (.t 0), none⟩,
⟨some 3, .box 3 (.t 1), none⟩,
⟨some 4, .alloc [(.bool false), .nil, (.int .i64 0)], none⟩,
⟨some 5, .mov (.c (.int .i64 0)), none⟩] [2, 3, 4] [])
(.seq (.block 0
(.seq (.reg [⟨some 11, .faddr 1 (.t 2), none⟩,
⟨some 12, .load false 1 (.t 11), none⟩,
⟨some 13, .len (.t 12), none⟩,
⟨some 14, .bin .eql (.t 13) (.c (.int .i64 0)), none⟩,
⟨some 10, .mov (.t 14), none⟩] [2, 3, 4, 10] [])
(.cond (.t 10)
(.seq (.reg [⟨some 15, .load true 3 (.t 3), none⟩,
⟨some 16, .call false (.f 205) [(.t 15)], none⟩,
⟨none, .store 3 (.t 4) (.t 16), none⟩,
⟨some 5, .mov (.c (.int .i64 0)), none⟩] [4, 5] [])
.ret)
(.seq (.reg [⟨some 18, .faddr 1 (.t 3), none⟩,
⟨some 19, .load false 1 (.t 18), none⟩,
⟨some 20, .len (.t 19), none⟩,
⟨some 21, .bin .eql (.t 20) (.c (.int .i64 0)), none⟩,
⟨some 17, .mov (.t 21), none⟩] [2, 3, 4, 17] [])
(.cond (.t 17)
(.seq (.reg [⟨some 22, .load true 3 (.t 2), none⟩,
⟨some 23, .call false (.f 205) [(.t 22)], none⟩,
⟨none, .store 3 (.t 4) (.t 23), none⟩,
⟨some 5, .mov (.c (.int .i64 0)), none⟩] [4, 5] [])
.ret)
.skip)))))
(.seq (.seq (.reg [⟨some 24, .faddr 2 (.t 2), none⟩,
⟨some 25, .load false 1 (.t 24), none⟩,
⟨some 26, .faddr 2 (.t 3), none⟩,
⟨some 27, .load false 1 (.t 26), none⟩,
⟨some 28, .bin .lss (.t 25) (.t 27), none⟩] [2, 3, 4, 28] [])
(.cond (.t 28)
(.reg [⟨some 29, .load true 3 (.t 3), none⟩,
⟨some 30, .load true 3 (.t 2), none⟩,
⟨none, .store 3 (.t 2) (.t 29), none⟩,
⟨none, .store 3 (.t 3) (.t 30), none⟩] [2, 3, 4] [])
.skip))
(.seq (.seq (.reg [⟨some 31, .faddr 2 (.t 2), none⟩,
⟨some 32, .load false 1 (.t 31), none⟩,
⟨some 33, .faddr 2 (.t 3), none⟩,
⟨some 34, .load false 1 (.t 33), none⟩,
⟨some 35, .bin .sub (.t 32) (.t 34), none⟩,
⟨some 36, .faddr 1 (.t 2), none⟩,
⟨some 37, .load false 1 (.t 36), none⟩,
⟨some 38, .call false (.f 49) [(.t 37)], none⟩,
⟨some 39, .bin .add (.t 35) (.t 38), none⟩,
⟨some 40, .bin .gtr (.t 39) (.c (.int .i64 131073)), none⟩] [2, 3, 4, 40] [])
(.cond (.t 40)
(.seq (.reg [⟨some 41, .build [(.bool false), .nil, (.int .i64 0)] [], none⟩,
⟨none, .store 3 (.t 4) (.t 41), none⟩,
⟨some 5, .mov (.c (.int .i64 3)), none⟩] [4, 5] [])
.ret)
.skip))
(.seq (.reg [⟨some 42, .faddr 2 (.t 2), none⟩,
⟨some 43, .load false 1 (.t 42), none⟩,
⟨some 44, .faddr 2 (.t 3), none⟩,
⟨some 45, .load false 1 (.t 44), none⟩,
⟨some 46, .bin .sub (.t 43) (.t 45), none⟩,
⟨some 6, .mov (.t 46), none⟩] [2, 3, 4, 6] [])
(.seq (.seq (.reg [⟨some 47, .mov (.t 6), none⟩,
⟨some 48, .faddr 1 (.t 2), none⟩,
⟨some 49, .load false 1 (.t 48), none⟩,
⟨some 50, .call false (.f 49) [(.t 49)], none⟩,
⟨some 51, .bin .add (.t 47) (.t 50), none⟩,
⟨some 52, .bin .gtr (.t 51) (.c (.int .i64 131072)), none⟩] [2, 3, 4, 6, 52] [])
(.cond (.t 52)
(.seq (.reg [⟨some 53, .load true 3 (.t 2), none⟩,
⟨some 54, .load true 3 (.t 3), none⟩,
⟨some 55, .mov (.t 6), none⟩,
⟨some 56, .call false (.f 207) [(.t 53), (.t 54), (.t 55)], none⟩,
⟨some 57, .ext (.t 56) 0, none⟩,
⟨some 58, .ext (.t 56) 1, none⟩,
⟨none, .store 3 (.t 4) (.t 57), none⟩,
⟨some 5, .mov (.t 58), none⟩] [4, 5] [])
.ret)
.skip))
(.seq (.reg [⟨some 60, .faddr 1 (.t 2), none⟩,
⟨some 61, .load false 1 (.t 60), none⟩,
⟨some 62, .mov (.t 6), none⟩,
⟨some 63, .call false (.f 50) [(.t 61), (.t 62)], none⟩,
⟨some 59, .mov (.t 63), none⟩,
⟨some 64, .ext (.t 59) 0, none⟩,
⟨some 65, .ext (.t 59) 1, none⟩,
⟨some 66, .ext (.t 59) 2, none⟩,
⟨some 7, .mov (.t 64), none⟩,
⟨some 8, .mov (.t 65), none⟩,
⟨some 9, .mov (.t 66), none⟩] [2, 3, 4, 7] [])
(.seq (.reg [⟨some 67, .faddr 0 (.t 2), none⟩,
⟨some 68, .load false 1 (.t 67), none⟩,
⟨some 69, .mov (.t 7), none⟩,
⟨some 70, .faddr 0 (.t 3), none⟩,
⟨some 71, .load false 1 (.t 70), none⟩,
⟨some 72, .faddr 1 (.t 3), none⟩,
⟨some 73, .load false 1 (.t 72), none⟩,
⟨some 74, .faddr 2 (.t 3), none⟩,
⟨some 75, .load false 1 (.t 74), none⟩,
⟨some 76, .call false (.f 208) [(.t 68), (.t 69), (.t 71), (.t 73), (.t 75)], none⟩,
⟨some 77, .ext (.t 76) 0, none⟩,
⟨some 78, .ext (.t 76) 1, none⟩,
⟨none, .store 3 (.t 4) (.t 77), none⟩,
⟨some 5, .mov (.t 78), none⟩] [4, 5] [])
.ret))))))))⟩

def c_word_shape_none : IFn := ⟨[.tmp 2],
(.seq (.reg [⟨some 1, .box 3 (.t 0), none⟩,
⟨some 2, .mov (.c (.int .u64 0)), none⟩] [1] [])
(.seq (.reg [⟨some 3, .load true 3 (.t 1), none⟩,
⟨some 4, .call false (.f 60) [(.t 3)], none⟩,
⟨some 5, .faddr 0 (.t 1), none⟩,
⟨some 6, .load false 1 (.t 5), none⟩,
⟨some 7, .bin .sub (.t 6) (.c (.int .i64 1)), none⟩,
⟨some 8, .bin .shl (.c (.int .u64 1)) (.t 7), none⟩,
⟨some 9, .bin .or (.t 4) (.t 8), none⟩,
⟨some 2, .mov (.t 9), none⟩] [2] [])
.ret))⟩

def c_dyad_own : IFn := ⟨[.cell 2 true 3],
(.seq (.reg [⟨some 1, .box 3 (.t 0), none⟩,
⟨some 2, .alloc [(.bool false), .nil, (.int .i64 0)], none⟩] [1, 2] [])
(.seq (.reg [⟨some 3, .faddr 1 (.t 1), none⟩,
⟨some 4, .load false 1 (.t 3), none⟩,
⟨some 5, .app 1 4 (.c .nil) (.t 4), none⟩,
⟨some 6, .faddr 1 (.t 1), none⟩,
⟨none, .store 1 (.t 6) (.t 5), none⟩] [1, 2] [])
(.seq (.reg [⟨some 7, .load true 3 (.t 1), none⟩,
⟨none, .store 3 (.t 2) (.t 7), none⟩] [2] [])
.ret)))⟩

def c_dyad_edge : IFn := ⟨[.cell 6 true 3, .tmp 7],
(.seq (.reg [⟨some 3, .box 3 (.t 0), none⟩,
⟨some 4, .box 3 (.t 1), none⟩,
⟨some 6, .alloc [(.bool false), .nil, (.int .i64 0)], none⟩,
⟨some 7, .mov (.c (.int .i64 0)), none⟩] [2, 3, 4, 6] [])
(.seq (.seq (.reg [⟨some 17, .faddr 0 (.t 3), none⟩,
⟨some 18, .load false 1 (.t 17), none⟩,
⟨some 19, .faddr 0 (.t 4), none⟩,
⟨some 20, .load false 1 (.t 19), none⟩,
⟨some 21, .eqb false (.t 18) (.t 20), none⟩] [2, 3, 4, 6, 21] [])
(.cond (.t 21)
(.seq (.reg [⟨some 22, .build [(.bool false), .nil, (.int .i64 0)] [], none⟩,
⟨none, .store 3 (.t 6) (.t 22), none⟩,
⟨some 7, .mov (.c (.int .i64 3)), none⟩] [6, 7] [])
.ret)
.skip))
(.seq (.reg [⟨some 24, .faddr 1 (.t 3), none⟩,
⟨some 25, .load false 1 (.t 24), none⟩,
⟨some 26, .mov (.t 2), none⟩,
⟨some 27, .bin .sub (.t 26) (.c (.int .i64 1)), none⟩,
⟨some 28, .call false (.f 50) [(.t 25), (.t 27)], none⟩,
⟨some 23, .mov (.t 28), none⟩,
⟨some 29, .ext (.t 23) 0, none⟩,
⟨some 30, .ext (.t 23) 1, none⟩,
⟨some 31, .ext (.t 23) 2, none⟩,
⟨some 8, .mov (.t 29), none⟩,
⟨some 9, .mov (.t 30), none⟩,
⟨some 10, .mov (.t 31), none⟩] [3, 4, 6, 8] [])
(.seq (.reg [⟨some 33, .faddr 1 (.t 4), none⟩,
⟨some 34, .load false 1 (.t 33), none⟩,
⟨some 35, .call false (.f 50) [(.t 34), (.c (.int .i64 (-1)))], none⟩,
⟨some 32, .mov (.t 35), none⟩,
⟨some 36, .ext (.t 32) 0, none⟩,
⟨some 37, .ext (.t 32) 1, none⟩,
⟨some 38, .ext (.t 32) 2, none⟩,
⟨some 11, .mov (.t 36), none⟩,
⟨some 12, .mov (.t 37), none⟩,
⟨some 13, .mov (.t 38), none⟩] [3, 4, 6, 8, 11] [])
(.seq (.reg [⟨some 40, .mov (.t 8), none⟩,
⟨some 41, .mov (.t 11), none⟩,
⟨some 42, .call false (.f 103) [(.t 40), (.t 41)], none⟩,
⟨some 39, .mov (.t 42), none⟩,
⟨some 43, .ext (.t 39) 0, none⟩,
⟨some 44, .ext (.t 39) 1, none⟩,
⟨some 14, .mov (.t 43), none⟩,
⟨some 15, .mov (.t 44), none⟩] [3, 4, 6, 14, 15] [])
(.seq (.seq (.reg [⟨some 45, .mov (.t 15), none⟩,
⟨some 46, .bin .neq (.t 45) (.c (.int .i64 0)), none⟩] [3, 4, 6, 14, 46] [])
(.cond (.t 46)
(.seq (.reg [⟨some 47, .build [(.bool false), .nil, (.int .i64 0)] [], none⟩,
⟨none, .store 3 (.t 6) (.t 47), none⟩,
⟨some 7, .mov (.c (.int .i64 3)), none⟩] [6, 7] [])
.ret)
.skip))
(.seq (.reg [⟨some 49, .mov (.t 14), none⟩,
⟨some 50, .mov (.t 14), none⟩,
⟨some 51, .call false (.f 105) [(.t 49), (.t 50)], none⟩,
⟨some 48, .mov (.t 51), none⟩,
⟨some 52, .ext (.t 48) 0, none⟩,
⟨some 53, .ext (.t 48) 1, none⟩,
⟨some 16, .mov (.t 52), none⟩,
⟨some 15, .mov (.t 53), none⟩] [3, 4, 6, 14, 15, 16] [])
(.seq (.seq (.reg [⟨some 54, .mov (.t 15), none⟩,
⟨some 55, .bin .eql (.t 54) (.c (.int .i64 0)), none⟩] [3, 4, 6, 14, 16, 55] [])
(.cond (.t 55)
(.seq (.reg [⟨some 57, .mov (.t 16), none⟩,
⟨some 58, .call false (.f 55) [(.c (.int .u64 1))], none⟩,
⟨some 59, .call false (.f 103) [(.t 57), (.t 58)], none⟩,
⟨some 56, .mov (.t 59), none⟩,
⟨some 60, .ext (.t 56) 0, none⟩,
⟨some 61, .ext (.t 56) 1, none⟩,
⟨some 16, .mov (.t 60), none⟩] [3, 4, 6, 16] [])
(.seq (.reg [⟨some 62, .faddr 0 (.t 3), none⟩,
⟨some 63, .load false 1 (.t 62), none⟩,
⟨some 64, .mov (.t 16), none⟩,
⟨some 65, .faddr 2 (.t 4), none⟩,
⟨some 66, .load false 1 (.t 65), none⟩,
⟨some 67, .call false (.f 54) [(.t 63), (.t 64), (.t 66)], none⟩,
⟨some 68, .ext (.t 67) 0, none⟩,
⟨some 69, .ext (.t 67) 1, none⟩,
⟨none, .store 3 (.t 6) (.t 68), none⟩,
⟨some 7, .mov (.t 69), none⟩] [6, 7] [])
.ret))
.skip))
(.seq (.seq (.reg [⟨some 70, .mov (.t 14), none⟩,
⟨some 71, .call false (.f 49) [(.t 70)], none⟩,
⟨some 72, .mov (.t 14), none⟩,
⟨some 73, .call false (.f 90) [(.t 72)], none⟩,
⟨some 74, .bin .add (.t 73) (.c (.int .i64 1)), none⟩,
⟨some 75, .bin .eql (.t 71) (.t 74), none⟩] [3, 4, 6, 14, 75] [])
(.cond (.t 75)
(.seq (.reg [⟨some 77, .mov (.t 14), none⟩,
⟨some 78, .call false (.f 55) [(.c (.int .u64 1))], none⟩,
⟨some 79, .call false (.f 103) [(.t 77), (.t 78)], none⟩,
⟨some 76, .mov (.t 79), none⟩,
⟨some 80, .ext (.t 76) 0, none⟩,
⟨some 81, .ext (.t 76) 1, none⟩,
⟨some 16, .mov (.t 80), none⟩] [3, 4, 6, 14, 16] [])
(.seq (.reg [⟨some 83, .mov (.t 16), none⟩,
⟨some 84, .mov (.t 14), none⟩,
⟨some 85, .call false (.f 105) [(.t 83), (.t 84)], none⟩,
⟨some 82, .mov (.t 85), none⟩,
⟨some 86, .ext (.t 82) 0, none⟩,
⟨some 87, .ext (.t 82) 1, none⟩,
⟨some 16, .mov (.t 86), none⟩] [3, 4, 6, 16] [])
(.seq (.reg [⟨some 88, .faddr 0 (.t 3), none⟩,
⟨some 89, .load false 1 (.t 88), none⟩,
⟨some 90, .mov (.t 16), none⟩,
⟨some 91, .faddr 2 (.t 4), none⟩,
⟨some 92, .load false 1 (.t 91), none⟩,
⟨some 93, .call false (.f 54) [(.t 89), (.t 90), (.t 92)], none⟩,
⟨some 94, .ext (.t 93) 0, none⟩,
⟨some 95, .ext (.t 93) 1, none⟩,
⟨none, .store 3 (.t 6) (.t 94), none⟩,
⟨some 7, .mov (.t 95), none⟩] [6, 7] [])
.ret)))
.skip))
(.seq (.reg [⟨some 96, .build [(.bool false), .nil, (.int .i64 0)] [], none⟩,
⟨none, .store 3 (.t 6) (.t 96), none⟩,
⟨some 7, .mov (.c (.int .i64 3)), none⟩] [6, 7] [])
.ret))))))))))⟩

def c_dyad_join : IFn := ⟨[.cell 10 true 3, .tmp 11],
(.seq (.reg [⟨some 10, .alloc [(.bool false), .nil, (.int .i64 0)], none⟩,
⟨some 11, .mov (.c (.int .i64 0)), none⟩] [0, 1, 2, 3, 4, 10] [])
(.seq (.seq (.reg [⟨some 18, .mov (.t 0), none⟩,
⟨some 19, .mov (.t 2), none⟩,
⟨some 20, .eqb false (.t 18) (.t 19), none⟩] [0, 1, 2, 3, 4, 10, 20] [])
(.cond (.t 20)
(.seq (.reg [⟨some 22, .mov (.t 1), none⟩,
⟨some 23, .mov (.t 3), none⟩,
⟨some 24, .call false (.f 105) [(.t 22), (.t 23)], none⟩,
⟨some 21, .mov (.t 24), none⟩,
⟨some 25, .ext (.t 21) 0, none⟩,
⟨some 26, .ext (.t 21) 1, none⟩,
⟨some 12, .mov (.t 25), none⟩,
⟨some 13, .mov (.t 26), none⟩] [0, 1, 3, 4, 10, 12, 13] [])
(.seq (.seq (.reg [⟨some 27, .mov (.t 13), none⟩,
⟨some 28, .bin .neq (.t 27) (.c (.int .i64 0)), none⟩] [0, 1, 3, 4, 10, 12, 28] [])
(.cond (.t 28)
(.seq (.reg [⟨some 29, .mov (.t 0), none⟩,
⟨some 30, .mov (.t 1), none⟩,
⟨some 31, .mov (.t 3), none⟩,
⟨some 32, .mov (.t 4), none⟩,
⟨some 33, .call false (.f 209) [(.t 29), (.t 30), (.t 31), (.t 32)], none⟩,
⟨some 34, .ext (.t 33) 0, none⟩,
⟨some 35, .ext (.t 33) 1, none⟩,
⟨none, .store 3 (.t 10) (.t 34), none⟩,
⟨some 11, .mov (.t 35), none⟩] [10, 11] [])
.ret)
.skip))
(.seq (.reg [⟨some 36, .mov (.t 0), none⟩,
⟨some 37, .mov (.t 12), none⟩,
⟨some 38, .mov (.t 4), none⟩,
⟨some 39, .call false (.f 54) [(.t 36), (.t 37), (.t 38)], none⟩,
⟨some 40, .ext (.t 39) 0, none⟩,
⟨some 41, .ext (.t 39) 1, none⟩,
⟨none, .store 3 (.t 10) (.t 40), none⟩,
⟨some 11, .mov (.t 41), none⟩] [10, 11] [])
.ret)))
.skip))
(.seq (.seq (.reg [⟨some 43, .mov (.t 1), none⟩,
⟨some 44, .mov (.t 3), none⟩,
⟨some 45, .call false (.f 104) [(.t 43), (.t 44)], none⟩,
⟨some 42, .mov (.t 45), none⟩,
⟨some 46, .ext (.t 42) 0, none⟩,
⟨some 47, .ext (.t 42) 1, none⟩,
⟨some 14, .mov (.t 46), none⟩,
⟨some 15, .mov (.t 47), none⟩] [0, 1, 2, 3, 4, 10, 14] [])
(.seq (.reg [⟨some 48, .mov (.t 14), none⟩,
⟨some 49, .bin .lss (.t 48) (.c (.int .i64 0)), none⟩] [0, 1, 2, 3, 4, 10, 49] [])
(.cond (.t 49)
(.reg [⟨some 50, .mov (.t 2), none⟩,
⟨some 51, .mov (.t 3), none⟩,
⟨some 52, .mov (.t 1), none⟩,
⟨some 0, .mov (.t 50), none⟩,
⟨some 1, .mov (.t 51), none⟩,
⟨some 3, .mov (.t 52), none⟩] [0, 1, 3, 4, 10] [])
.skip)))
(.seq (.reg [⟨some 54, .mov (.t 1), none⟩,
⟨some 55, .mov (.t 3), none⟩,
⟨some 56, .call false (.f 103) [(.t 54), (.t 55)], none⟩,
⟨some 53, .mov (.t 56), none⟩,
⟨some 57, .ext (.t 53) 0, none⟩,
⟨some 58, .ext (.t 53) 1, none⟩,
⟨some 16, .mov (.t 57), none⟩,
⟨some 17, .mov (.t 58), none⟩] [0, 4, 10, 16] [])
(.seq (.reg [⟨some 59, .mov (.t 0), none⟩,
⟨some 60, .mov (.t 16), none⟩,
⟨some 61, .mov (.t 4), none⟩,
⟨some 62, .call false (.f 54) [(.t 59), (.t 60), (.t 61)], none⟩,
⟨some 63, .ext (.t 62) 0, none⟩,
⟨some 64, .ext (.t 62) 1, none⟩,
⟨none, .store 3 (.t 10) (.t 63), none⟩,
⟨some 11, .mov (.t 64), none⟩] [10, 11] [])
.ret)))))⟩

def c_dyad_halved : IFn := ⟨[.cell 8 true 3, .tmp 9],
(.seq (.reg [⟨some 8, .alloc [(.bool false), .nil, (.int .i64 0)], none⟩,
⟨some 9, .mov (.c (.int .i64 0)), none⟩] [0, 1, 2, 3, 8] [])
(.seq (.seq (.reg [⟨some 18, .mov (.t 1), none⟩,
⟨some 19, .iaddr 1 (.t 18) (.c (.int .i64 0)), none⟩,
⟨some 20, .load false 1 (.t 19), none⟩,
⟨some 21, .bin .and (.t 20) (.c (.int .u32 1)), none⟩,
⟨some 22, .mov (.t 2), none⟩,
⟨some 23, .iaddr 1 (.t 22) (.c (.int .i64 0)), none⟩,
⟨some 24, .load false 1 (.t 23), none⟩,
⟨some 25, .bin .and (.t 24) (.c (.int .u32 1)), none⟩,
⟨some 26, .bin .neq (.t 21) (.t 25), none⟩] [0, 1, 2, 3, 8, 26] [])
(.cond (.t 26)
(.seq (.reg [⟨some 27, .build [(.bool false), .nil, (.int .i64 0)] [], none⟩,
⟨none, .store 3 (.t 8) (.t 27), none⟩,
⟨some 9, .mov (.c (.int .i64 3)), none⟩] [8, 9] [])
.ret)
.skip))
(.seq (.reg [⟨some 29, .mov (.t 1), none⟩,
⟨some 30, .call false (.f 50) [(.t 29), (.c (.int .i64 (-1)))], none⟩,
⟨some 28, .mov (.t 30), none⟩,
⟨some 31, .ext (.t 28) 0, none⟩,
⟨some 32, .ext (.t 28) 1, none⟩,
⟨some 33, .ext (.t 28) 2, none⟩,
⟨some 10, .mov (.t 31), none⟩,
⟨some 11, .mov (.t 32), none⟩,
⟨some 12, .mov (.t 33), none⟩] [0, 1, 2, 3, 8, 10] [])
(.seq (.reg [⟨some 35, .mov (.t 2), none⟩,
⟨some 36, .call false (.f 50) [(.t 35), (.c (.int .i64 (-1)))], none⟩,
⟨some 34, .mov (.t 36), none⟩,
⟨some 37, .ext (.t 34) 0, none⟩,
⟨some 38, .ext (.t 34) 1, none⟩,
⟨some 39, .ext (.t 34) 2, none⟩,
⟨some 13, .mov (.t 37), none⟩,
⟨some 14, .mov (.t 38), none⟩,
⟨some 15, .mov (.t 39), none⟩] [0, 1, 3, 8, 10, 13] [])
(.seq (.reg [⟨some 41, .mov (.t 10), none⟩,
⟨some 42, .mov (.t 13), none⟩,
⟨some 43, .call false (.f 105) [(.t 41), (.t 42)], none⟩,
⟨some 40, .mov (.t 43), none⟩,
⟨some 44, .ext (.t 40) 0, none⟩,
⟨some 45, .ext (.t 40) 1, none⟩,
⟨some 16, .mov (.t 44), none⟩,
⟨some 17, .mov (.t 45), none⟩] [0, 1, 3, 8, 16] [])
(.seq (.seq (.reg [⟨some 46, .mov (.t 1), none⟩,
⟨some 47, .iaddr 1 (.t 46) (.c (.int .i64 0)), none⟩,
⟨some 48, .load false 1 (.t 47), none⟩,
⟨some 49, .bin .and (.t 48) (.c (.int .u32 1)), none⟩,
⟨some 50, .bin .eql (.t 49) (.c (.int .u32 1)), none⟩] [0, 3, 8, 16, 50] [])
(.cond (.t 50)
(.reg [⟨some 52, .mov (.t 16), none⟩,
⟨some 53, .call false (.f 55) [(.c (.int .u64 1))], none⟩,
⟨some 54, .call false (.f 105) [(.t 52), (.t 53)], none⟩,
⟨some 51, .mov (.t 54), none⟩,
⟨some 55, .ext (.t 51) 0, none⟩,
⟨some 56, .ext (.t 51) 1, none⟩,
⟨some 16, .mov (.t 55), none⟩] [0, 3, 8, 16] [])
.skip))
(.seq (.reg [⟨some 57, .mov (.t 0), none⟩,
⟨some 58, .mov (.t 16), none⟩,
⟨some 59, .mov (.t 3), none⟩,
⟨some 60, .bin .add (.t 59) (.c (.int .i64 1)), none⟩,
⟨some 61, .call false (.f 54) [(.t 57), (.t 58), (.t 60)], none⟩,
⟨some 62, .ext (.t 61) 0, none⟩,
⟨some 63, .ext (.t 61) 1, none⟩,
⟨none, .store 3 (.t 8) (.t 62), none⟩,
⟨some 9, .mov (.t 63), none⟩] [8, 9] [])
.ret)))))))⟩

structure HasG (gdb : Nat) (T : Tbl) : Prop where
  ref05_Opens : T 162 = some c_ref05_Opens
  law05_known : T 163 = some c_law05_known
  soft_Add : T 164 = some c_soft_Add
  soft_MulAdd : T 175 = some c_soft_MulAdd
  soft_open : T 176 = some c_soft_open
  soft_desk_add : T 177 = some c_soft_desk_add
  soft_has : T 178 = some c_soft_has
  soft_desk_none : T 179 = some c_soft_desk_none
  soft_desk_inf : T 180 = some c_soft_desk_inf
  soft_desk_zero : T 181 = some c_soft_desk_zero
  dyad_Mul : T 182 = some c_dyad_Mul
  soft_desk_sum : T 183 = some c_soft_desk_sum
  word_Split : T 192 = some c_word_Split
  word_Class : T 193 = some c_word_Class
  word_Value : T 194 = some c_word_Value
  dyad_Add : T 195 = some c_dyad_Add
  word_None : T 196 = some c_word_None
  nat_Mul : T 197 = some c_nat_Mul
  word_shape_split : T 200 = some c_word_shape_split
  word_shape_class : T 201 = some c_word_shape_class
  word_finite : T 202 = some c_word_finite
  dyad_add : T 203 = some c_dyad_add
  word_shape_none : T 204 = some c_word_shape_none
  dyad_own : T 205 = some c_dyad_own
  dyad_edge : T 207 = some c_dyad_edge
  dyad_join : T 208 = some c_dyad_join
  dyad_halved : T 209 = some c_dyad_halved
end Go.Cv
