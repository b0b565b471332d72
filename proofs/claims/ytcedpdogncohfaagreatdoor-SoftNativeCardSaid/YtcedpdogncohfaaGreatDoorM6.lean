/-
  A part of the proof of the statements of this seat (texts that the law's own text leans on): no condition.
-/
import Derived.Test.YtcedpdogncohfaaGreatDoorM1
set_option linter.unusedVariables false
set_option linter.unusedSimpArgs false
namespace Go.Cv
def jm (a x : Nat) : IOper := ⟨some a, .mov (.t x), none⟩
def je (a x k : Nat) : IOper := ⟨some a, .ext (.t x) k, none⟩
def jl (a n x : Nat) : IOper := ⟨some a, .load false n (.t x), none⟩
def jL (a n x : Nat) : IOper := ⟨some a, .load true n (.t x), none⟩
def jf (a k x : Nat) : IOper := ⟨some a, .faddr k (.t x), none⟩
def jp (a x y : Nat) : IOper := ⟨some a, .pick (.t x) (.t y) (.c (.bool false)), none⟩
def jP (a x y : Nat) : IOper := ⟨some a, .pick (.t x) (.c (.bool true)) (.t y), none⟩
def jb (a : Nat) (o : BinOp) (x y : Nat) : IOper := ⟨some a, .bin o (.t x) (.t y), none⟩
def ji (a : Nat) (o : BinOp) (x : Nat) (k : IntKind) (n : Int) : IOper := ⟨some a, .bin o (.t x) (.c (.int k n)), none⟩
def jk (a : Nat) (k : IntKind) (n : Int) : IOper := ⟨some a, .mov (.c (.int k n)), none⟩
def jv (a : Nat) (b : Bool) : IOper := ⟨some a, .mov (.c (.bool b)), none⟩
def jx (a n x : Nat) : IOper := ⟨some a, .box n (.t x), none⟩
def jn (a x : Nat) : IOper := ⟨some a, .len (.t x), none⟩
def ja (a n x y : Nat) : IOper := ⟨some a, .iaddr n (.t x) (.t y), none⟩
def jw (n x y : Nat) : IOper := ⟨none, .store n (.t x) (.t y), none⟩
def js (a : Nat) (o : IOp) : IOper := ⟨some a, o, none⟩
def jc (a f : Nat) (l : List Nat) : IOper := ⟨some a, .call false (.f f) (l.map .t), none⟩
def jg (o : IOper) (n : Nat) (b : Bool) : IOper := ⟨o.dst, o.op, some (n, b)⟩
def jr (l : List IOper) (k : List Nat) : IC := .reg l k []
def jq (l : List IOper) (k : List Nat) (r : IC) : IC := .seq (.reg l k []) r
def jC (x : Nat) (a b : IC) : IC := .cond (.t x) a b
theorem jg_eq (d : Option Nat) (o : IOp) (n : Nat) (b : Bool) : jg ⟨d, o, none⟩ n b = ⟨d, o, some (n, b)⟩ := rfl
theorem jc_0 (a f : Nat) : jc a f [] = ⟨some a, .call false (.f f) [], none⟩ := rfl
theorem jc_1 (a f x : Nat) : jc a f [x] = ⟨some a, .call false (.f f) [.t x], none⟩ := rfl
theorem jc_2 (a f x y : Nat) : jc a f [x, y] = ⟨some a, .call false (.f f) [.t x, .t y], none⟩ := rfl
theorem jc_3 (a f x y z : Nat) : jc a f [x, y, z] = ⟨some a, .call false (.f f) [.t x, .t y, .t z], none⟩ := rfl
theorem jc_4 (a f x y z u : Nat) : jc a f [x, y, z, u] = ⟨some a, .call false (.f f) [.t x, .t y, .t z, .t u], none⟩ := rfl
theorem jc_5 (a f x y z u v : Nat) : jc a f [x, y, z, u, v] = ⟨some a, .call false (.f f) [.t x, .t y, .t z, .t u, .t v], none⟩ := rfl
theorem jc_6 (a f x y z u v w : Nat) : jc a f [x, y, z, u, v, w] = ⟨some a, .call false (.f f) [.t x, .t y, .t z, .t u, .t v, .t w], none⟩ := rfl
theorem jc_7 (a f x y z u v w p : Nat) : jc a f [x, y, z, u, v, w, p] = ⟨some a, .call false (.f f) [.t x, .t y, .t z, .t u, .t v, .t w, .t p], none⟩ := rfl
theorem jc_8 (a f x y z u v w p q : Nat) : jc a f [x, y, z, u, v, w, p, q] = ⟨some a, .call false (.f f) [.t x, .t y, .t z, .t u, .t v, .t w, .t p, .t q], none⟩ := rfl
theorem jB : type_of% (And.intro (And.intro (And.intro jm.eq_1 (And.intro je.eq_1 jl.eq_1)) (And.intro (And.intro jL.eq_1 jf.eq_1) (And.intro jp.eq_1 jP.eq_1))) (And.intro (And.intro (And.intro jb.eq_1 ji.eq_1) (And.intro jk.eq_1 jv.eq_1)) (And.intro (And.intro jx.eq_1 jn.eq_1) (And.intro ja.eq_1 (And.intro jw.eq_1 (And.intro js.eq_1 (And.intro jr.eq_1 (And.intro jq.eq_1 (And.intro jC.eq_1 (And.intro jg_eq (And.intro (And.intro jc_0 (And.intro jc_1 jc_2)) (And.intro (And.intro jc_3 (And.intro jc_4 jc_5)) (And.intro jc_6 (And.intro jc_7 jc_8)))))))))))))) := (And.intro (And.intro (And.intro jm.eq_1 (And.intro je.eq_1 jl.eq_1)) (And.intro (And.intro jL.eq_1 jf.eq_1) (And.intro jp.eq_1 jP.eq_1))) (And.intro (And.intro (And.intro jb.eq_1 ji.eq_1) (And.intro jk.eq_1 jv.eq_1)) (And.intro (And.intro jx.eq_1 jn.eq_1) (And.intro ja.eq_1 (And.intro jw.eq_1 (And.intro js.eq_1 (And.intro jr.eq_1 (And.intro jq.eq_1 (And.intro jC.eq_1 (And.intro jg_eq (And.intro (And.intro jc_0 (And.intro jc_1 jc_2)) (And.intro (And.intro jc_3 (And.intro jc_4 jc_5)) (And.intro jc_6 (And.intro jc_7 jc_8))))))))))))))
end Go.Cv
namespace Go.Cv
def c_strtab0 : List Nat := [0, 1, 2, 2, 3, 3, 3, 3, 4, 4, 4, 4, 4, 4, 4, 4, 5, 5, 5, 5, 5, 5, 5, 5, 5, 5, 5, 5, 5, 5, 5, 5, 6, 6, 6, 6, 6, 6, 6, 6, 6, 6, 6, 6, 6, 6, 6, 6, 6, 6, 6, 6, 6, 6, 6, 6, 6, 6, 6, 6, 6, 6, 6, 6, 7, 7, 7, 7, 7, 7, 7, 7, 7, 7, 7, 7, 7, 7, 7, 7, 7, 7, 7, 7, 7, 7, 7, 7, 7, 7, 7, 7, 7, 7, 7, 7, 7, 7, 7, 7, 7, 7, 7, 7, 7, 7, 7, 7, 7, 7, 7, 7, 7, 7, 7, 7, 7, 7, 7, 7, 7, 7, 7, 7, 7, 7, 7, 7, 8, 8, 8, 8, 8, 8, 8, 8, 8, 8, 8, 8, 8, 8, 8, 8, 8, 8, 8, 8, 8, 8, 8, 8, 8, 8, 8, 8, 8, 8, 8, 8, 8, 8, 8, 8, 8, 8, 8, 8, 8, 8, 8, 8, 8, 8, 8, 8, 8, 8, 8, 8, 8, 8, 8, 8, 8, 8, 8, 8, 8, 8, 8, 8, 8, 8, 8, 8, 8, 8, 8, 8, 8, 8, 8, 8, 8, 8, 8, 8, 8, 8, 8, 8, 8, 8, 8, 8, 8, 8, 8, 8, 8, 8, 8, 8, 8, 8, 8, 8, 8, 8, 8, 8, 8, 8, 8, 8, 8, 8, 8, 8, 8, 8, 8, 8, 8, 8, 8, 8, 8, 8, 8, 8, 8, 8, 8, 8]
def c_nat_Len : IFn := ⟨[.tmp 2],
(jq [jk 2 .i64 0] [0]
(.seq (jq [jm 3 0,jc 4 86 [3],js 5 (.un .not (.t 4)),jm 6 5,jg (jm 7 0) 6 false,jg (jn 8 7) 6 false,jg (ji 9 .eql 8 .i64 0) 6 false,jP 10 6 9] [0,10]
(jC 10
(jq [jk 2 .i64 0] [2]
.ret)
.skip))
(jq [jm 11 0,jn 12 11,ji 13 .sub 12 .i64 1,js 14 (.bin .mul (.c (.int .i64 32)) (.t 13)),jm 15 0,jm 16 0,jn 17 16,ji 18 .sub 17 .i64 1,ja 19 1 15 18,jl 20 1 19,jc 21 88 [20],jb 22 .add 14 21,jm 2 22] [2]
.ret)))⟩
def c_nat_Shift : IFn := ⟨[.tmp 4, .tmp 5, .tmp 6],
(jq [js 4 (.mov (.c .nil)),jv 5 false,jk 6 .i64 0] [0,1]
(.seq (.block 0
(jq [jm 8 0,jc 9 86 [8],js 10 (.un .not (.t 9)),jm 7 10] [0,1,7]
(jC 7
(jq [js 4 (.mov (.c .nil)),jv 5 false,jk 6 .i64 2] [4,5,6]
.ret)
(jq [jm 12 0,jn 13 12,ji 14 .eql 13 .i64 0,jm 11 14] [0,1,11]
(jC 11
(jq [js 4 (.mov (.c .nil)),jv 5 false,jk 6 .i64 0] [4,5,6]
.ret)
(jq [jm 16 1,ji 17 .lss 16 .i64 (-131072),jm 15 17] [0,1,15]
(jC 15
(jq [js 4 (.mov (.c .nil)),jv 5 true,jk 6 .i64 0] [4,5,6]
.ret)
(jq [jm 19 1,ji 20 .lss 19 .i64 0,jm 18 20] [0,1,18]
(jC 18
(jq [jm 21 0,jm 22 1,js 23 (.un .neg (.t 22)),jc 24 89 [21,23],jm 25 0,jc 26 90 [25],jm 27 1,js 28 (.un .neg (.t 27)),jb 29 .lss 26 28,jm 4 24,jm 5 29,jk 6 .i64 0] [4,5,6]
.ret)
(jq [jm 31 1,jm 32 0,jc 33 49 [32],js 34 (.bin .sub (.c (.int .i64 131072)) (.t 33)),jb 35 .gtr 31 34,jm 30 35] [0,1,30]
(jC 30
(jq [js 4 (.mov (.c .nil)),jv 5 false,jk 6 .i64 3] [4,5,6]
.ret)
.skip)))))))))))
(jq [jm 36 0,jm 37 1,jc 38 91 [36,37],jm 4 38,jv 5 false,jk 6 .i64 0] [4,5,6]
.ret)))⟩
def c_nat_Num_b1 : IC :=
(jq [jb 18 .lss 17 16] [4,15,16,17,18]
(.seq (jC 18
.skip
(.exit 0))
(.seq (.block 1
(jq [jm 19 17,ja 20 1 15 17,jl 21 1 20,jm 5 19,jm 6 21] [4,5,6,15,16,17]
(jr [jm 22 4,jm 23 6,js 24 (.cvt .u64 (.t 23)),jm 25 5,js 26 (.bin .mul (.c (.int .i64 32)) (.t 25)),jb 27 .shl 24 26,jb 28 .or 22 27,jm 4 28] [4,15,16,17])))
(jr [ji 29 .add 17 .i64 1,jm 17 29] [4,15,16,17]))))
def c_nat_Num_l1 : IC := .loop [4, 15, 16, 17] c_nat_Num_b1
def c_nat_Num : IFn := ⟨[.tmp 2, .tmp 3],
(jq [jk 2 .u64 0,jv 3 false] [0]
(.seq (jq [jm 7 0,jc 8 86 [7],js 9 (.un .not (.t 8)),jm 10 9,jg (jm 11 0) 10 false,jg (jn 12 11) 10 false,jg (ji 13 .gtr 12 .i64 2) 10 false,jP 14 10 13] [0,14]
(jC 14
(jq [jk 2 .u64 0,jv 3 false] [2,3]
.ret)
.skip))
(jq [jk 4 .u64 0] [0,4]
(.seq (jq [jm 15 0,jn 16 15,jk 17 .i64 0] [4,15,16,17]
(.block 0
 c_nat_Num_l1))
(jq [jm 30 4,jm 2 30,jv 3 true] [2,3]
.ret)))))⟩
def c_bits_Len64 : IFn := ⟨[.tmp 2],
(jq [jk 2 .i64 0] [0,2]
(.seq (jq [jm 3 0,ji 4 .geq 3 .u64 4294967296] [0,2,4]
(jC 4
(jq [jm 5 0,ji 6 .shr 5 .u64 32,jm 0 6] [0]
(jr [jk 2 .i64 32] [0,2]))
.skip))
(.seq (jq [jm 7 0,ji 8 .geq 7 .u64 65536] [0,2,8]
(jC 8
(jq [jm 9 0,ji 10 .shr 9 .u64 16,jm 0 10] [0,2]
(jr [jm 11 2,ji 12 .add 11 .i64 16,jm 2 12] [0,2]))
.skip))
(.seq (jq [jm 13 0,ji 14 .geq 13 .u64 256] [0,2,14]
(jC 14
(jq [jm 15 0,ji 16 .shr 15 .u64 8,jm 0 16] [0,2]
(jr [jm 17 2,ji 18 .add 17 .i64 8,jm 2 18] [0,2]))
.skip))
(jq [jm 19 2,jm 20 0,js 21 (.cvt .u8 (.t 20)),js 22 (.strix c_strtab0 (.t 21)),js 23 (.cvt .i64 (.t 22)),jb 24 .add 19 23,jm 2 24] [2]
.ret)))))⟩
def c_nat_Of : IFn := ⟨[.tmp 2],
(jq [js 2 (.mov (.c .nil))] [0]
(jq [jm 3 0,js 4 (.cvt .u32 (.t 3)),jm 5 0,ji 6 .shr 5 .u64 32,js 7 (.cvt .u32 (.t 6)),js 8 (.bslice 2 1 [(.int .u32 0)] [(0, 1, (.t 4)), (1, 1, (.t 7))]),jc 9 94 [8],jm 2 9] [2]
.ret))⟩
def c_nat_QuoRem : IFn := ⟨[.tmp 4, .tmp 5, .tmp 6],
(jq [js 4 (.mov (.c .nil)),js 5 (.mov (.c .nil)),jk 6 .i64 0] [0,1]
(.seq (jq [jm 9 0,jm 10 1,js 11 (.bslice 2 1 [.nil] [(0, 1, (.t 9)), (1, 1, (.t 10))]),jc 12 106 [11],js 13 (.un .not (.t 12))] [0,1,13]
(jC 13
(jq [js 4 (.mov (.c .nil)),js 5 (.mov (.c .nil)),jk 6 .i64 2] [4,5,6]
.ret)
.skip))
(.seq (.block 0
(jq [jm 15 1,jn 16 15,ji 17 .eql 16 .i64 0,jm 14 17] [0,1,14]
(jC 14
(jq [js 4 (.mov (.c .nil)),js 5 (.mov (.c .nil)),jk 6 .i64 11] [4,5,6]
.ret)
(jq [jm 19 0,jm 20 1,jc 21 107 [19,20],ji 22 .lss 21 .i64 0,jm 18 22] [0,1,18]
(jC 18
(jq [jm 23 0,js 24 (.app 1 4 (.c .nil) (.t 23)),js 4 (.mov (.c .nil)),jm 5 24,jk 6 .i64 0] [4,5,6]
.ret)
(jq [jm 26 1,jn 27 26,ji 28 .eql 27 .i64 1,jm 25 28] [0,1,25]
(jC 25
(jq [jm 30 0,jm 31 1,js 32 (.iaddr 1 (.t 31) (.c (.int .i64 0))),jl 33 1 32,jc 34 108 [30,33],jm 29 34,je 35 29 0,je 36 29 1,jm 7 35,jm 8 36] [7,8]
(jq [jm 37 7,jm 38 8,js 39 (.bslice 1 1 [(.int .u32 0)] [(0, 1, (.t 38))]),jc 40 94 [39],jm 4 37,jm 5 40,jk 6 .i64 0] [4,5,6]
.ret))
.skip)))))))
(jq [jm 42 0,jm 43 1,jc 44 109 [42,43],jm 41 44,je 45 41 0,je 46 41 1,jm 4 45,jm 5 46] [4,5]
(jq [jm 47 4,jm 48 5,jm 4 47,jm 5 48,jk 6 .i64 0] [4,5,6]
.ret)))))⟩
def c_nat_Root_b1 : IC :=
(jq [jb 44 .lss 43 42] [0,5,6,9,10,42,43,44]
(.seq (jC 44
.skip
(.exit 2))
(.seq (.block 3
(jq [jm 45 43,jm 11 45] [0,5,6,9,10,11,42,43]
(jq [jk 12 .u32 0,jk 13 .u32 0] [0,5,6,9,10,11,12,13,42,43]
(.seq (jq [jm 46 11,jm 47 6,jn 48 47,jb 49 .lss 46 48] [0,5,6,9,10,11,12,13,42,43,49]
(jC 49
(jr [jm 50 6,jm 51 11,ja 52 1 50 51,jl 53 1 52,jm 12 53] [0,5,6,9,10,11,12,13,42,43])
.skip))
(.seq (jq [jm 54 11,jm 55 5,jn 56 55,jb 57 .lss 54 56] [0,5,6,9,10,11,12,13,42,43,57]
(jC 57
(jr [jm 58 5,jm 59 11,ja 60 1 58 59,jl 61 1 60,jm 13 61] [0,5,6,9,10,11,12,13,42,43])
.skip))
(jr [jm 63 9,jm 64 11,jm 65 12,jm 66 13,jm 67 10,jc 68 112 [65,66,67],jm 62 68,je 69 62 0,je 70 62 1,ja 71 1 63 64,jw 1 71 69,jm 10 70] [0,5,6,9,10,42,43]))))))
(jr [ji 72 .add 43 .i64 1,jm 43 72] [0,5,6,9,10,42,43]))))
def c_nat_Root_l1 : IC := .loop [0, 5, 6, 9, 10, 42, 43] c_nat_Root_b1
def c_nat_Root_b2 : IC :=
(.block 1
(jq [jm 28 0,jm 29 5,jc 30 77 [28,29],jm 27 30,je 31 27 0,je 32 27 1,je 33 27 2,jm 6 31,jm 7 32,jm 8 33] [0,5,6]
(jq [jm 34 6,jn 35 34,jm 36 5,jn 37 36,js 38 (.mm true (.t 35) [(.t 37)]),ji 39 .add 38 .i64 1,js 40 (.mk 1 4 [(.int .u32 0)] (.t 39) (.t 39)),jm 9 40] [0,5,6,9]
(jq [jk 10 .u32 0] [0,5,6,9,10]
(.seq (jq [jm 41 9,jn 42 41,jk 43 .i64 0] [0,5,6,9,10,42,43]
(.block 2
 c_nat_Root_l1))
(jq [jm 73 9,jc 74 94 [73],js 75 (.call false (.f 89) [(.t 74), (.c (.int .i64 1))]),jm 14 75] [0,5,14]
(.seq (jq [jm 76 14,jm 77 5,jc 78 107 [76,77],ji 79 .geq 78 .i64 0] [0,5,14,79]
(jC 79
(jq [jm 80 5,jm 81 5,jm 82 5,jc 83 113 [81,82],jm 84 0,jc 85 107 [83,84],ji 86 .eql 85 .i64 0,jm 2 80,jm 3 86,jk 4 .i64 0] [2,3,4]
.ret)
.skip))
(jr [jm 87 14,jm 5 87] [0,5]))))))))
def c_nat_Root_l2 : IC := .loop [0, 5] c_nat_Root_b2
def c_nat_Root : IFn := ⟨[.tmp 2, .tmp 3, .tmp 4],
(jq [js 2 (.mov (.c .nil)),jv 3 false,jk 4 .i64 0] [0]
(.seq (jq [jm 15 0,jc 16 86 [15],js 17 (.un .not (.t 16))] [0,17]
(jC 17
(jq [js 2 (.mov (.c .nil)),jv 3 false,jk 4 .i64 2] [2,3,4]
.ret)
.skip))
(.seq (jq [jm 18 0,jn 19 18,ji 20 .eql 19 .i64 0] [0,20]
(jC 20
(jq [js 2 (.mov (.c .nil)),jv 3 true,jk 4 .i64 0] [2,3,4]
.ret)
.skip))
(jq [js 21 (.bslice 1 1 [(.int .u32 0)] [(0, 1, (.c (.int .u32 1)))]),jm 22 0,jc 23 49 [22],ji 24 .add 23 .i64 1,ji 25 .quo 24 .i64 2,jc 26 91 [21,25],jm 5 26] [0,5]
(.block 0
 c_nat_Root_l2)))))⟩
def c_nat_May : IFn := ⟨[.tmp 2],
(jq [jv 2 false] [0]
(jq [jm 3 0,jn 4 3,ji 5 .leq 4 .i64 4096,jm 6 5,jg (jm 7 0) 6 true,jg (jn 8 7) 6 true,jg (ji 9 .eql 8 .i64 0) 6 true,jg (jm 10 9) 6 true,jg (jm 11 0) 10 false,jg (jm 12 0) 10 false,jg (jn 13 12) 10 false,jg (ji 14 .sub 13 .i64 1) 10 false,jg (ja 15 1 11 14) 10 false,jg (jl 16 1 15) 10 false,jg (ji 17 .neq 16 .u32 0) 10 false,jg (jP 18 10 17) 6 true,jp 19 6 18,jm 2 19] [2]
.ret))⟩
def c_bits_Len32 : IFn := ⟨[.tmp 2],
(jq [jk 2 .i64 0] [0,2]
(.seq (jq [jm 3 0,ji 4 .geq 3 .u32 65536] [0,2,4]
(jC 4
(jq [jm 5 0,ji 6 .shr 5 .u64 16,jm 0 6] [0]
(jr [jk 2 .i64 16] [0,2]))
.skip))
(.seq (jq [jm 7 0,ji 8 .geq 7 .u32 256] [0,2,8]
(jC 8
(jq [jm 9 0,ji 10 .shr 9 .u64 8,jm 0 10] [0,2]
(jr [jm 11 2,ji 12 .add 11 .i64 8,jm 2 12] [0,2]))
.skip))
(jq [jm 13 2,jm 14 0,js 15 (.cvt .u8 (.t 14)),js 16 (.strix c_strtab0 (.t 15)),js 17 (.cvt .i64 (.t 16)),jb 18 .add 13 17,jm 2 18] [2]
.ret))))⟩
def c_nat_down_b1 : IC :=
(jq [jb 26 .lss 25 24] [0,5,6,23,24,25,26]
(.seq (jC 26
.skip
(.exit 0))
(.seq (.block 1
(jq [jm 27 25,ja 28 1 23 25,jl 29 1 28,jm 7 27,jm 8 29] [0,5,6,7,8,23,24,25]
(jq [jm 30 6,jm 31 7,jm 32 8,jm 33 5,jb 34 .shr 32 33,ja 35 1 30 31,jw 1 35 34] [0,5,6,7,23,24,25]
(jq [jm 36 7,ji 37 .add 36 .i64 1,jm 38 0,jn 39 38,jb 40 .lss 37 39] [0,5,6,7,23,24,25,40]
(jC 40
(jr [jm 41 6,jm 42 7,ja 43 1 41 42,jl 44 1 43,jm 45 0,jm 46 7,ji 47 .add 46 .i64 1,ja 48 1 45 47,jl 49 1 48,js 50 (.cvt .u64 (.t 49)),jm 51 5,js 52 (.bin .sub (.c (.int .i64 32)) (.t 51)),jb 53 .shl 50 52,js 54 (.cvt .u32 (.t 53)),jb 55 .or 44 54,ja 56 1 41 42,jw 1 56 55] [0,5,6,23,24,25])
.skip)))))
(jr [ji 57 .add 25 .i64 1,jm 25 57] [0,5,6,23,24,25]))))
def c_nat_down_l1 : IC := .loop [0, 5, 6, 23, 24, 25] c_nat_down_b1
def c_nat_down : IFn := ⟨[.tmp 4],
(jq [js 4 (.mov (.c .nil))] [0,1]
(.seq (jq [jm 9 1,ji 10 .quo 9 .i64 32,jm 11 0,jn 12 11,jb 13 .geq 10 12] [0,1,13]
(jC 13
(jq [js 4 (.mov (.c .nil))] [4]
.ret)
.skip))
(jq [jm 14 0,jm 15 1,ji 16 .quo 15 .i64 32,js 17 (.slice 1 (.t 14) (some (.t 16)) none),jm 0 17] [0,1]
(jq [jm 18 1,ji 19 .rem 18 .i64 32,jm 5 19] [0,5]
(jq [jm 20 0,jn 21 20,js 22 (.mk 1 4 [(.int .u32 0)] (.t 21) (.t 21)),jm 6 22] [0,5,6]
(.seq (jq [jm 23 0,jn 24 23,jk 25 .i64 0] [0,5,6,23,24,25]
(.block 0
 c_nat_down_l1))
(jq [jm 58 6,jc 59 94 [58],jm 4 59] [4]
.ret)))))))⟩
def c_nat_Low_b1 : IC :=
(jq [jb 11 .lss 10 9] [8,9,10,11]
(.seq (jC 11
.skip
(.exit 0))
(.seq (.block 1
(jq [jm 12 10,ja 13 1 8 10,jl 14 1 13,jm 3 12,jm 4 14] [3,4,8,9,10]
(jq [jm 15 4,ji 16 .neq 15 .u32 0] [3,4,8,9,10,16]
(jC 16
(jq [jm 17 3,js 18 (.bin .mul (.c (.int .i64 32)) (.t 17)),jm 19 4,jc 20 114 [19],jb 21 .add 18 20,jm 2 21] [2]
.ret)
.skip))))
(jr [ji 22 .add 10 .i64 1,jm 10 22] [8,9,10]))))
def c_nat_Low_l1 : IC := .loop [8, 9, 10] c_nat_Low_b1
def c_nat_Low : IFn := ⟨[.tmp 2],
(jq [jk 2 .i64 0] [0]
(.seq (jq [jm 5 0,jc 6 86 [5],js 7 (.un .not (.t 6))] [0,7]
(jC 7
(jq [jk 2 .i64 0] [2]
.ret)
.skip))
(.seq (jq [jm 8 0,jn 9 8,jk 10 .i64 0] [8,9,10]
(.block 0
 c_nat_Low_l1))
(jq [jk 2 .i64 0] [2]
.ret))))⟩
def c_nat_up_b1 : IC :=
(jq [jb 27 .lss 26 25] [5,6,7,24,25,26,27]
(.seq (jC 27
.skip
(.exit 0))
(.seq (.block 1
(jq [ja 28 1 24 26,jl 29 1 28,jm 9 29] [5,6,7,9,24,25,26]
(jq [jm 30 5,jm 31 9,jm 32 6,jb 33 .shl 31 32,jm 34 7,jb 35 .or 33 34,js 36 (.bslice 1 1 [(.int .u32 0)] [(0, 1, (.t 35))]),js 37 (.app 1 4 (.t 30) (.t 36)),jm 5 37] [5,6,9,24,25,26]
(jr [jm 38 9,js 39 (.cvt .u64 (.t 38)),jm 40 6,js 41 (.bin .sub (.c (.int .i64 32)) (.t 40)),jb 42 .shr 39 41,js 43 (.cvt .u32 (.t 42)),jm 7 43] [5,6,7,24,25,26]))))
(jr [ji 44 .add 26 .i64 1,jm 26 44] [5,6,7,24,25,26]))))
def c_nat_up_l1 : IC := .loop [5, 6, 7, 24, 25, 26] c_nat_up_b1
def c_nat_up : IFn := ⟨[.tmp 4],
(jq [js 4 (.mov (.c .nil))] [0,1]
(.seq (jq [jm 10 0,jn 11 10,ji 12 .eql 11 .i64 0] [0,1,12]
(jC 12
(jq [js 4 (.mov (.c .nil))] [4]
.ret)
.skip))
(jq [jm 13 1,ji 14 .quo 13 .i64 32,jm 15 1,ji 16 .quo 15 .i64 32,jm 17 0,jn 18 17,jb 19 .add 16 18,ji 20 .add 19 .i64 1,js 21 (.mk 1 4 [(.int .u32 0)] (.t 14) (.t 20)),jm 5 21] [0,1,5]
(jq [jm 22 1,ji 23 .rem 22 .i64 32,jm 6 23,jk 7 .u32 0] [0,5,6,7]
(.seq (jq [jm 24 0,jn 25 24,jk 26 .i64 0] [5,6,7,24,25,26]
(.block 0
 c_nat_up_l1))
(jq [jm 45 5,jm 46 7,js 47 (.bslice 1 1 [(.int .u32 0)] [(0, 1, (.t 46))]),js 48 (.app 1 4 (.t 45) (.t 47)),js 49 (.call true (.f 94) [(.t 48)]),jm 4 49] [4]
.ret))))))⟩
def c_nat_trim_b1 : IC :=
(.seq (jq [jm 3 0,jn 4 3,ji 5 .gtr 4 .i64 0,jm 6 5,jg (jm 7 0) 6 true,jg (jm 8 0) 6 true,jg (jn 9 8) 6 true,jg (ji 10 .sub 9 .i64 1) 6 true,jg (ja 11 1 7 10) 6 true,jg (jl 12 1 11) 6 true,jg (ji 13 .eql 12 .u32 0) 6 true,jp 14 6 13] [0,14]
(jC 14
.skip
(.exit 0)))
(.block 1
(jr [jm 15 0,jm 16 0,jn 17 16,ji 18 .sub 17 .i64 1,js 19 (.slice 1 (.t 15) none (some (.t 18))),jm 0 19] [0])))
def c_nat_trim_l1 : IC := .loop [0] c_nat_trim_b1
def c_nat_trim : IFn := ⟨[.tmp 2],
(jq [js 2 (.mov (.c .nil))] [0]
(.seq (.block 0
 c_nat_trim_l1)
(jq [jm 20 0,jm 2 20] [2]
.ret)))⟩
def c_nat_Sub : IFn := ⟨[.tmp 4, .tmp 5],
(jq [js 4 (.mov (.c .nil)),jk 5 .i64 0] [0,1]
(.seq (jq [jm 6 0,jm 7 1,js 8 (.bslice 2 1 [.nil] [(0, 1, (.t 6)), (1, 1, (.t 7))]),jc 9 106 [8],js 10 (.un .not (.t 9))] [0,1,10]
(jC 10
(jq [js 4 (.mov (.c .nil)),jk 5 .i64 2] [4,5]
.ret)
.skip))
(.seq (jq [jm 11 0,jm 12 1,jc 13 107 [11,12],ji 14 .lss 13 .i64 0] [0,1,14]
(jC 14
(jq [js 4 (.mov (.c .nil)),jk 5 .i64 10] [4,5]
.ret)
.skip))
(jq [jm 15 0,jm 16 1,jc 17 116 [15,16],jm 4 17,jk 5 .i64 0] [4,5]
.ret))))⟩
def c_nat_Cmp : IFn := ⟨[.tmp 4, .tmp 5],
(jq [jk 4 .i64 0,jk 5 .i64 0] [0,1]
(.seq (jq [jm 6 0,jm 7 1,js 8 (.bslice 2 1 [.nil] [(0, 1, (.t 6)), (1, 1, (.t 7))]),jc 9 106 [8],js 10 (.un .not (.t 9))] [0,1,10]
(jC 10
(jq [jk 4 .i64 0,jk 5 .i64 2] [4,5]
.ret)
.skip))
(jq [jm 11 0,jm 12 1,jc 13 107 [11,12],jm 4 13,jk 5 .i64 0] [4,5]
.ret)))⟩
def c_nat_Add_b1 : IC :=
(jq [jb 29 .lss 28 27] [0,1,6,7,27,28,29]
(.seq (jC 29
.skip
(.exit 0))
(.seq (.block 1
(jq [jm 30 28,jm 8 30] [0,1,6,7,8,27,28]
(jq [jk 9 .u32 0] [0,1,6,7,8,9,27,28]
(.seq (jq [jm 31 8,jm 32 1,jn 33 32,jb 34 .lss 31 33] [0,1,6,7,8,9,27,28,34]
(jC 34
(jr [jm 35 1,jm 36 8,ja 37 1 35 36,jl 38 1 37,jm 9 38] [0,1,6,7,8,9,27,28])
.skip))
(jr [jm 40 6,jm 41 8,jm 42 0,jm 43 8,ja 44 1 42 43,jl 45 1 44,jm 46 9,jm 47 7,jc 48 112 [45,46,47],jm 39 48,je 49 39 0,je 50 39 1,ja 51 1 40 41,jw 1 51 49,jm 7 50] [0,1,6,7,27,28])))))
(jr [ji 52 .add 28 .i64 1,jm 28 52] [0,1,6,7,27,28]))))
def c_nat_Add_l1 : IC := .loop [0, 1, 6, 7, 27, 28] c_nat_Add_b1
def c_nat_Add : IFn := ⟨[.tmp 4, .tmp 5],
(jq [js 4 (.mov (.c .nil)),jk 5 .i64 0] [0,1]
(.seq (jq [jm 10 0,jm 11 1,js 12 (.bslice 2 1 [.nil] [(0, 1, (.t 10)), (1, 1, (.t 11))]),jc 13 106 [12],js 14 (.un .not (.t 13))] [0,1,14]
(jC 14
(jq [js 4 (.mov (.c .nil)),jk 5 .i64 2] [4,5]
.ret)
.skip))
(.seq (jq [jm 15 0,jn 16 15,jm 17 1,jn 18 17,jb 19 .lss 16 18] [0,1,19]
(jC 19
(jr [jm 20 1,jm 21 0,jm 0 20,jm 1 21] [0,1])
.skip))
(jq [jm 22 0,jn 23 22,ji 24 .add 23 .i64 1,js 25 (.mk 1 4 [(.int .u32 0)] (.t 24) (.t 24)),jm 6 25] [0,1,6]
(jq [jk 7 .u32 0] [0,1,6,7]
(.seq (jq [jm 26 0,jn 27 26,jk 28 .i64 0] [0,1,6,7,27,28]
(.block 0
 c_nat_Add_l1))
(jq [jm 53 6,jm 54 0,jn 55 54,jm 56 7,ja 57 1 53 55,jw 1 57 56] [6]
(jq [jm 58 6,jc 59 94 [58],jc 60 117 [59],je 61 60 0,je 62 60 1,jm 4 61,jm 5 62] [4,5]
.ret))))))))⟩
def c_nat_all_b1 : IC :=
(jq [jb 8 .lss 7 6] [5,6,7,8]
(.seq (jC 8
.skip
(.exit 0))
(.seq (.block 1
(jq [ja 9 1 5 7,jl 10 1 9,jm 4 10] [4,5,6,7]
(jq [jm 11 4,jc 12 86 [11],js 13 (.un .not (.t 12))] [5,6,7,13]
(jC 13
(jq [jv 2 false] [2]
.ret)
.skip))))
(jr [ji 14 .add 7 .i64 1,jm 7 14] [5,6,7]))))
def c_nat_all_l1 : IC := .loop [5, 6, 7] c_nat_all_b1
def c_nat_all : IFn := ⟨[.tmp 2],
(jq [jv 2 false] [0]
(.seq (jq [jm 5 0,jn 6 5,jk 7 .i64 0] [5,6,7]
(.block 0
 c_nat_all_l1))
(jq [jv 2 true] [2]
.ret)))⟩
def c_nat_cmp_b1 : IC :=
(.seq (jq [jm 21 5,ji 22 .geq 21 .i64 0] [0,1,5,22]
(jC 22
.skip
(.exit 1)))
(.seq (.block 2
(jq [jm 25 0,jm 26 5,ja 27 1 25 26,jl 28 1 27,jm 29 1,jm 30 5,ja 31 1 29 30,jl 32 1 31,jb 33 .neq 28 32] [0,1,5,33]
(jC 33
(.seq (jq [jm 34 0,jm 35 5,ja 36 1 34 35,jl 37 1 36,jm 38 1,jm 39 5,ja 40 1 38 39,jl 41 1 40,jb 42 .lss 37 41] [42]
(jC 42
(jq [jk 4 .i64 (-1)] [4]
.ret)
.skip))
(jq [jk 4 .i64 1] [4]
.ret))
.skip)))
(jr [jm 23 5,ji 24 .sub 23 .i64 1,jm 5 24] [0,1,5])))
def c_nat_cmp_l1 : IC := .loop [0, 1, 5] c_nat_cmp_b1
def c_nat_cmp : IFn := ⟨[.tmp 4],
(jq [jk 4 .i64 0] [0,1]
(.seq (.block 0
(jq [jm 7 0,jn 8 7,jm 9 1,jn 10 9,jb 11 .lss 8 10,jm 6 11] [0,1,6]
(jC 6
(jq [jk 4 .i64 (-1)] [4]
.ret)
(jq [jm 13 0,jn 14 13,jm 15 1,jn 16 15,jb 17 .gtr 14 16,jm 12 17] [0,1,12]
(jC 12
(jq [jk 4 .i64 1] [4]
.ret)
.skip)))))
(.seq (jq [jm 18 0,jn 19 18,ji 20 .sub 19 .i64 1,jm 5 20] [0,1,5]
(.block 1
 c_nat_cmp_l1))
(jq [jk 4 .i64 0] [4]
.ret))))⟩
def c_nat_small_b1 : IC :=
(.seq (jq [jm 15 8,ji 16 .geq 15 .i64 0] [0,1,6,7,8,16]
(jC 16
.skip
(.exit 0)))
(.seq (.block 1
(jr [jm 20 6,jm 21 8,jm 22 7,jm 23 0,jm 24 8,ja 25 1 23 24,jl 26 1 25,jm 27 1,jc 28 118 [22,26,27],jm 19 28,je 29 19 0,je 30 19 1,ja 31 1 20 21,jw 1 31 29,jm 7 30] [0,1,6,7,8]))
(jr [jm 17 8,ji 18 .sub 17 .i64 1,jm 8 18] [0,1,6,7,8])))
def c_nat_small_l1 : IC := .loop [0, 1, 6, 7, 8] c_nat_small_b1
def c_nat_small : IFn := ⟨[.tmp 4, .tmp 5],
(jq [js 4 (.mov (.c .nil)),jk 5 .u32 0] [0,1]
(jq [jm 9 0,jn 10 9,js 11 (.mk 1 4 [(.int .u32 0)] (.t 10) (.t 10)),jm 6 11] [0,1,6]
(jq [jk 7 .u32 0] [0,1,6,7]
(.seq (jq [jm 12 0,jn 13 12,ji 14 .sub 13 .i64 1,jm 8 14] [0,1,6,7,8]
(.block 0
 c_nat_small_l1))
(jq [jm 32 6,jc 33 94 [32],jm 34 7,jm 4 33,jm 5 34] [4,5]
.ret)))))⟩
def c_nat_long_b1 : IC :=
(.seq (jq [jm 43 11,ji 44 .geq 43 .i64 0] [6,7,8,9,10,11,44]
(jC 44
.skip
(.exit 2)))
(.seq (.block 3
(jr [jm 47 10,jm 48 11,jm 49 8,jm 50 11,jm 51 11,jm 52 9,jb 53 .add 51 52,ji 54 .add 53 .i64 1,js 55 (.slice 1 (.t 49) (some (.t 50)) (some (.t 54))),jm 56 7,js 57 (.call true (.f 120) [(.t 55), (.t 56)]),ja 58 1 47 48,jw 1 58 57] [6,7,8,9,10,11]))
(jr [jm 45 11,ji 46 .sub 45 .i64 1,jm 11 46] [6,7,8,9,10,11])))
def c_nat_long_l1 : IC := .loop [6, 7, 8, 9, 10, 11] c_nat_long_b1
def c_nat_long_b2 : IC :=
(.seq (jq [jm 25 8,jn 26 25,jm 27 0,jn 28 27,jb 29 .leq 26 28] [0,6,7,8,29]
(jC 29
.skip
(.exit 0)))
(.block 1
(jr [jm 30 8,js 31 (.bslice 1 1 [(.int .u32 0)] [(0, 1, (.c (.int .u32 0)))]),js 32 (.app 1 4 (.t 30) (.t 31)),jm 8 32] [0,6,7,8])))
def c_nat_long_l2 : IC := .loop [0, 6, 7, 8] c_nat_long_b2
def c_nat_long : IFn := ⟨[.tmp 4, .tmp 5],
(jq [js 4 (.mov (.c .nil)),js 5 (.mov (.c .nil))] [0,1]
(jq [jm 12 1,jm 13 1,jn 14 13,ji 15 .sub 14 .i64 1,ja 16 1 12 15,jl 17 1 16,jc 18 119 [17],jm 6 18] [0,1,6]
(jq [jm 19 1,jm 20 6,js 21 (.call true (.f 91) [(.t 19), (.t 20)]),jm 7 21] [0,6,7]
(jq [jm 22 0,jm 23 6,js 24 (.call true (.f 91) [(.t 22), (.t 23)]),jm 8 24] [0,6,7,8]
(.seq (.block 0
 c_nat_long_l2)
(jq [jm 33 7,jn 34 33,jm 9 34] [6,7,8,9]
(jq [jm 35 8,jn 36 35,jm 37 9,jb 38 .sub 36 37,js 39 (.mk 1 4 [(.int .u32 0)] (.t 38) (.t 38)),jm 10 39] [6,7,8,9,10]
(.seq (jq [jm 40 10,jn 41 40,ji 42 .sub 41 .i64 1,jm 11 42] [6,7,8,9,10,11]
(.block 2
 c_nat_long_l1))
(jq [jm 59 10,jc 60 94 [59],jm 61 8,jm 62 9,js 63 (.slice 1 (.t 61) none (some (.t 62))),jc 64 94 [63],jm 65 6,jc 66 89 [64,65],jc 67 94 [66],jm 4 60,jm 5 67] [4,5]
.ret)))))))))⟩
def c_bits_Add32 : IFn := ⟨[.tmp 6, .tmp 7],
(jq [jk 6 .u32 0,jk 7 .u32 0] [0,1,2]
(jq [jm 9 0,js 10 (.cvt .u64 (.t 9)),jm 11 1,js 12 (.cvt .u64 (.t 11)),jb 13 .add 10 12,jm 14 2,js 15 (.cvt .u64 (.t 14)),jb 16 .add 13 15,jm 8 16] [8]
(jq [jm 17 8,js 18 (.cvt .u32 (.t 17)),jm 6 18] [6,8]
(jq [jm 19 8,ji 20 .shr 19 .u64 32,js 21 (.cvt .u32 (.t 20)),jm 7 21] [6,7]
.ret))))⟩
def c_nat_mul_b1 : IC :=
(jq [jb 28 .lss 27 26] [1,5,6,7,8,18,19,20,25,26,27,28]
(.seq (jC 28
.skip
(.exit 2))
(.seq (.block 3
(jq [jm 29 27,ja 30 1 25 27,jl 31 1 30,jm 9 29,jm 10 31] [1,5,6,7,8,9,10,18,19,20,25,26,27]
(jq [jm 32 7,js 33 (.cvt .u64 (.t 32)),jm 34 10,js 35 (.cvt .u64 (.t 34)),jb 36 .mul 33 35,jm 37 5,jm 38 6,jm 39 9,jb 40 .add 38 39,ja 41 1 37 40,jl 42 1 41,js 43 (.cvt .u64 (.t 42)),jb 44 .add 36 43,jm 45 8,jb 46 .add 44 45,jm 11 46] [1,5,6,7,9,11,18,19,20,25,26,27]
(jq [jm 47 5,jm 48 6,jm 49 9,jb 50 .add 48 49,jm 51 11,js 52 (.cvt .u32 (.t 51)),ja 53 1 47 50,jw 1 53 52] [1,5,6,7,11,18,19,20,25,26,27]
(jr [jm 54 11,ji 55 .shr 54 .u64 32,jm 8 55] [1,5,6,7,8,18,19,20,25,26,27])))))
(jr [ji 56 .add 27 .i64 1,jm 27 56] [1,5,6,7,8,18,19,20,25,26,27]))))
def c_nat_mul_l1 : IC := .loop [1, 5, 6, 7, 8, 18, 19, 20, 25, 26, 27] c_nat_mul_b1
def c_nat_mul_b2 : IC :=
(jq [jb 21 .lss 20 19] [1,5,18,19,20,21]
(.seq (jC 21
.skip
(.exit 0))
(.seq (.block 1
(jq [jm 22 20,ja 23 1 18 20,jl 24 1 23,jm 6 22,jm 7 24] [1,5,6,7,18,19,20]
(jq [jk 8 .u64 0] [1,5,6,7,8,18,19,20]
(.seq (jq [jm 25 1,jn 26 25,jk 27 .i64 0] [1,5,6,7,8,18,19,20,25,26,27]
(.block 2
 c_nat_mul_l1))
(jr [jm 57 5,jm 58 6,jm 59 1,jn 60 59,jb 61 .add 58 60,jm 62 8,js 63 (.cvt .u32 (.t 62)),ja 64 1 57 61,jw 1 64 63] [1,5,18,19,20])))))
(jr [ji 65 .add 20 .i64 1,jm 20 65] [1,5,18,19,20]))))
def c_nat_mul_l2 : IC := .loop [1, 5, 18, 19, 20] c_nat_mul_b2
def c_nat_mul : IFn := ⟨[.tmp 4],
(jq [js 4 (.mov (.c .nil))] [0,1]
(jq [jm 12 0,jn 13 12,jm 14 1,jn 15 14,jb 16 .add 13 15,js 17 (.mk 1 4 [(.int .u32 0)] (.t 16) (.t 16)),jm 5 17] [0,1,5]
(.seq (jq [jm 18 0,jn 19 18,jk 20 .i64 0] [1,5,18,19,20]
(.block 0
 c_nat_mul_l2))
(jq [jm 66 5,jc 67 94 [66],jm 4 67] [4]
.ret))))⟩
def c_bits_TrailingZeros32 (gdb : Nat) : IFn := ⟨[.tmp 2],
(jq [jk 2 .i64 0] [0]
(.seq (jq [jm 3 0,ji 4 .eql 3 .u32 0] [0,4]
(jC 4
(jq [jk 2 .i64 32] [2]
.ret)
.skip))
(jq [jm 5 0,jm 6 0,js 7 (.un .neg (.t 6)),jb 8 .and 5 7,ji 9 .mul 8 .u32 125613361,ji 10 .shr 9 .u64 27,js 11 (.iaddrA 32 1 (.g gdb) (.t 10)),jl 12 1 11,js 13 (.cvt .i64 (.t 12)),jm 2 13] [2]
.ret)))⟩
def c_nat_sub_b1 : IC :=
(jq [jb 15 .lss 14 13] [0,1,5,6,13,14,15]
(.seq (jC 15
.skip
(.exit 0))
(.seq (.block 1
(jq [jm 16 14,jm 7 16] [0,1,5,6,7,13,14]
(jq [jk 8 .u32 0] [0,1,5,6,7,8,13,14]
(.seq (jq [jm 17 7,jm 18 1,jn 19 18,jb 20 .lss 17 19] [0,1,5,6,7,8,13,14,20]
(jC 20
(jr [jm 21 1,jm 22 7,ja 23 1 21 22,jl 24 1 23,jm 8 24] [0,1,5,6,7,8,13,14])
.skip))
(jr [jm 26 5,jm 27 7,jm 28 0,jm 29 7,ja 30 1 28 29,jl 31 1 30,jm 32 8,jm 33 6,jc 34 121 [31,32,33],jm 25 34,je 35 25 0,je 36 25 1,ja 37 1 26 27,jw 1 37 35,jm 6 36] [0,1,5,6,13,14])))))
(jr [ji 38 .add 14 .i64 1,jm 14 38] [0,1,5,6,13,14]))))
def c_nat_sub_l1 : IC := .loop [0, 1, 5, 6, 13, 14] c_nat_sub_b1
def c_nat_sub : IFn := ⟨[.tmp 4],
(jq [js 4 (.mov (.c .nil))] [0,1]
(jq [jm 9 0,jn 10 9,js 11 (.mk 1 4 [(.int .u32 0)] (.t 10) (.t 10)),jm 5 11] [0,1,5]
(jq [jk 6 .u32 0] [0,1,5,6]
(.seq (jq [jm 12 0,jn 13 12,jk 14 .i64 0] [0,1,5,6,13,14]
(.block 0
 c_nat_sub_l1))
(jq [jm 39 5,jc 40 94 [39],jm 4 40] [4]
.ret)))))⟩
def c_nat_bound : IFn := ⟨[.tmp 2, .tmp 3],
(jq [js 2 (.mov (.c .nil)),jk 3 .i64 0] [0]
(.seq (jq [jm 4 0,jn 5 4,ji 6 .gtr 5 .i64 4096] [0,6]
(jC 6
(jq [js 2 (.mov (.c .nil)),jk 3 .i64 3] [2,3]
.ret)
.skip))
(jq [jm 7 0,jm 2 7,jk 3 .i64 0] [2,3]
.ret)))⟩
def c_bits_Div32 : IFn := ⟨[.tmp 6, .tmp 7],
(jq [jk 6 .u32 0,jk 7 .u32 0] [0,1,2]
(.seq (jq [jm 9 2,ji 10 .neq 9 .u32 0,jm 11 10,jg (jm 12 2) 11 true,jg (jm 13 0) 11 true,jg (jb 14 .leq 12 13) 11 true,jp 15 11 14] [0,1,2,15]
(jC 15
.fail
.skip))
(jq [jm 17 0,js 18 (.cvt .u64 (.t 17)),ji 19 .shl 18 .u64 32,jm 20 1,js 21 (.cvt .u64 (.t 20)),jb 22 .or 19 21,jm 8 22] [2,8]
(jq [jm 23 8,jm 24 2,js 25 (.cvt .u64 (.t 24)),jb 26 .quo 23 25,js 27 (.cvt .u32 (.t 26)),jm 28 8,jm 29 2,js 30 (.cvt .u64 (.t 29)),jb 31 .rem 28 30,js 32 (.cvt .u32 (.t 31)),jm 6 27,jm 7 32] [6,7]
.ret))))⟩
def c_bits_LeadingZeros32 : IFn := ⟨[.tmp 2],
(jq [jk 2 .i64 0] [0]
(jq [jm 3 0,jc 4 88 [3],js 5 (.bin .sub (.c (.int .i64 32)) (.t 4)),jm 2 5] [2]
.ret))⟩
def c_nat_step_b1 : IC :=
(jq [jb 132 .lss 131 130] [0,5,7,13,129,130,131,132]
(.seq (jC 132
.skip
(.exit 4))
(.seq (.block 5
(jq [jm 133 131,ja 134 1 129 131,jl 135 1 134,jm 14 133,jm 15 135] [0,5,7,13,14,15,129,130,131]
(jr [jm 137 0,jm 138 14,jm 139 0,jm 140 14,ja 141 1 139 140,jl 142 1 141,jm 143 15,jm 144 13,jc 145 112 [142,143,144],jm 136 145,je 146 136 0,je 147 136 1,ja 148 1 137 138,jw 1 148 146,jm 13 147] [0,5,7,13,129,130,131])))
(jr [ji 149 .add 131 .i64 1,jm 131 149] [0,5,7,13,129,130,131]))))
def c_nat_step_l1 : IC := .loop [0, 5, 7, 13, 129, 130, 131] c_nat_step_b1
def c_nat_step_b2 : IC :=
(jq [jb 84 .lss 83 82] [0,1,5,7,9,10,81,82,83,84]
(.seq (jC 84
.skip
(.exit 2))
(.seq (.block 3
(jq [jm 85 83,ja 86 1 81 83,jl 87 1 86,jm 11 85,jm 12 87] [0,1,5,7,9,10,11,12,81,82,83]
(jq [jm 88 10,jm 89 7,jm 90 12,js 91 (.cvt .u64 (.t 90)),jb 92 .mul 89 91,jb 93 .add 88 92,jm 10 93] [0,1,5,7,9,10,11,81,82,83]
(jq [jm 95 0,jm 96 11,jm 97 0,jm 98 11,ja 99 1 97 98,jl 100 1 99,jm 101 10,js 102 (.cvt .u32 (.t 101)),jm 103 9,jc 104 121 [100,102,103],jm 94 104,je 105 94 0,je 106 94 1,ja 107 1 95 96,jw 1 107 105,jm 9 106] [0,1,5,7,9,10,81,82,83]
(jr [jm 108 10,ji 109 .shr 108 .u64 32,jm 10 109] [0,1,5,7,9,10,81,82,83])))))
(jr [ji 110 .add 83 .i64 1,jm 83 110] [0,1,5,7,9,10,81,82,83]))))
def c_nat_step_l2 : IC := .loop [0, 1, 5, 7, 9, 10, 81, 82, 83] c_nat_step_b2
def c_nat_step_b3 : IC :=
(.seq (jq [jm 47 7,ji 48 .geq 47 .u64 4294967296,jm 49 48,jg (jm 50 7) 49 false,jg (jm 51 1) 49 false,jg (jm 52 5) 49 false,jg (ji 53 .sub 52 .i64 2) 49 false,jg (ja 54 1 51 53) 49 false,jg (jl 55 1 54) 49 false,jg (js 56 (.cvt .u64 (.t 55))) 49 false,jg (jb 57 .mul 50 56) 49 false,jg (jm 58 8) 49 false,jg (ji 59 .shl 58 .u64 32) 49 false,jg (jm 60 0) 49 false,jg (jm 61 5) 49 false,jg (ji 62 .sub 61 .i64 2) 49 false,jg (ja 63 1 60 62) 49 false,jg (jl 64 1 63) 49 false,jg (js 65 (.cvt .u64 (.t 64))) 49 false,jg (jb 66 .or 59 65) 49 false,jg (jb 67 .gtr 57 66) 49 false,jP 68 49 67] [0,1,5,7,8,68]
(jC 68
.skip
(.exit 0)))
(.block 1
(jq [jm 69 7,ji 70 .sub 69 .u64 1,jm 7 70] [0,1,5,7,8]
(jq [jm 71 8,jm 72 1,jm 73 5,ji 74 .sub 73 .i64 1,ja 75 1 72 74,jl 76 1 75,js 77 (.cvt .u64 (.t 76)),jb 78 .add 71 77,jm 8 78] [0,1,5,7,8]
(jq [jm 79 8,ji 80 .geq 79 .u64 4294967296] [0,1,5,7,8,80]
(jC 80
(.exit 0)
.skip))))))
def c_nat_step_l3 : IC := .loop [0, 1, 5, 7, 8] c_nat_step_b3
def c_nat_step : IFn := ⟨[.tmp 4],
(jq [jk 4 .u32 0] [0,1]
(jq [jm 16 1,jn 17 16,jm 5 17] [0,1,5]
(jq [jm 18 0,jm 19 5,ja 20 1 18 19,jl 21 1 20,js 22 (.cvt .u64 (.t 21)),ji 23 .shl 22 .u64 32,jm 24 0,jm 25 5,ji 26 .sub 25 .i64 1,ja 27 1 24 26,jl 28 1 27,js 29 (.cvt .u64 (.t 28)),jb 30 .or 23 29,jm 6 30] [0,1,5,6]
(jq [jm 31 6,jm 32 1,jm 33 5,ji 34 .sub 33 .i64 1,ja 35 1 32 34,jl 36 1 35,js 37 (.cvt .u64 (.t 36)),jb 38 .quo 31 37,jm 39 6,jm 40 1,jm 41 5,ji 42 .sub 41 .i64 1,ja 43 1 40 42,jl 44 1 43,js 45 (.cvt .u64 (.t 44)),jb 46 .rem 39 45,jm 7 38,jm 8 46] [0,1,5,7,8]
(.seq (.block 0
 c_nat_step_l3)
(jq [jk 9 .u32 0,jk 10 .u64 0] [0,1,5,7,9,10]
(.seq (jq [jm 81 1,jn 82 81,jk 83 .i64 0] [0,1,5,7,9,10,81,82,83]
(.block 2
 c_nat_step_l2))
(jq [jm 112 0,jm 113 5,jm 114 0,jm 115 5,ja 116 1 114 115,jl 117 1 116,jm 118 10,js 119 (.cvt .u32 (.t 118)),jm 120 9,jc 121 121 [117,119,120],jm 111 121,je 122 111 0,je 123 111 1,ja 124 1 112 113,jw 1 124 122,jm 9 123] [0,1,5,7,9]
(.seq (jq [jm 125 9,ji 126 .eql 125 .u32 0] [0,1,5,7,126]
(jC 126
(jq [jm 127 7,js 128 (.cvt .u32 (.t 127)),jm 4 128] [4]
.ret)
.skip))
(jq [jk 13 .u32 0] [0,1,5,7,13]
(.seq (jq [jm 129 1,jn 130 129,jk 131 .i64 0] [0,5,7,13,129,130,131]
(.block 4
 c_nat_step_l1))
(jq [jm 150 0,jm 151 5,ja 152 1 150 151,jl 153 1 152,jm 154 13,jb 155 .add 153 154,ja 156 1 150 151,jw 1 156 155] [7]
(jq [jm 157 7,ji 158 .sub 157 .u64 1,js 159 (.cvt .u32 (.t 158)),jm 4 159] [4]
.ret)))))))))))))⟩
def c_bits_Sub32 : IFn := ⟨[.tmp 6, .tmp 7],
(jq [jk 6 .u32 0,jk 7 .u32 0] [0,1,2]
(jq [jm 8 0,jm 9 1,jb 10 .sub 8 9,jm 11 2,jb 12 .sub 10 11,jm 6 12] [0,1,6]
(jq [jm 13 0,js 14 (.un .xor (.t 13)),jm 15 1,jb 16 .and 14 15,jm 17 0,jm 18 1,jb 19 .xor 17 18,js 20 (.un .xor (.t 19)),jm 21 6,jb 22 .and 20 21,jb 23 .or 16 22,ji 24 .shr 23 .u64 31,jm 7 24] [6,7]
.ret)))⟩
structure HasA (gdb : Nat) (T : Tbl) : Prop where
  nat_Len : T 49 = some c_nat_Len
  nat_Shift : T 50 = some c_nat_Shift
  nat_Num : T 51 = some c_nat_Num
  bits_Len64 : T 53 = some c_bits_Len64
  nat_Of : T 55 = some c_nat_Of
  nat_QuoRem : T 77 = some c_nat_QuoRem
  nat_Root : T 81 = some c_nat_Root
  nat_May : T 86 = some c_nat_May
  bits_Len32 : T 88 = some c_bits_Len32
  nat_down : T 89 = some c_nat_down
  nat_Low : T 90 = some c_nat_Low
  nat_up : T 91 = some c_nat_up
  nat_trim : T 94 = some c_nat_trim
  nat_Sub : T 103 = some c_nat_Sub
  nat_Cmp : T 104 = some c_nat_Cmp
  nat_Add : T 105 = some c_nat_Add
  nat_all : T 106 = some c_nat_all
  nat_cmp : T 107 = some c_nat_cmp
  nat_small : T 108 = some c_nat_small
  nat_long : T 109 = some c_nat_long
  bits_Add32 : T 112 = some c_bits_Add32
  nat_mul : T 113 = some c_nat_mul
  bits_TrailingZeros32 : T 114 = some (c_bits_TrailingZeros32 gdb)
  nat_sub : T 116 = some c_nat_sub
  nat_bound : T 117 = some c_nat_bound
  bits_Div32 : T 118 = some c_bits_Div32
  bits_LeadingZeros32 : T 119 = some c_bits_LeadingZeros32
  nat_step : T 120 = some c_nat_step
  bits_Sub32 : T 121 = some c_bits_Sub32
end Go.Cv
namespace Go.Cv
structure HasB (gdb : Nat) (T : Tbl) : Prop where
end Go.Cv
namespace Go.Cv
def c_dyad_Sign : IFn := ⟨[.tmp 2],
(jq [jx 1 3 0,jk 2 .i64 0] [1]
(.seq (.block 0
(jq [jL 4 3 1,jc 5 48 [4],js 6 (.un .not (.t 5)),jm 7 6,jg (jf 8 1 1) 7 false,jg (jl 9 1 8) 7 false,jg (jn 10 9) 7 false,jg (ji 11 .eql 10 .i64 0) 7 false,jP 12 7 11,jm 3 12] [1,3]
(jC 3
(jq [jk 2 .i64 0] [2]
.ret)
(jq [jf 14 0 1,jl 15 1 14,jm 13 15] [13]
(jC 13
(jq [jk 2 .i64 (-1)] [2]
.ret)
.skip)))))
(jq [jk 2 .i64 1] [2]
.ret)))⟩
def c_dyad_Quo : IFn := ⟨[.cell 6 true 3, .tmp 7, .tmp 8],
(jq [jx 3 3 0,jx 4 3 1,js 6 (.alloc [(.bool false), .nil, (.int .i64 0)]),jv 7 false,jk 8 .i64 0] [2,3,4,6]
(.seq (jq [jL 16 3 3,jL 17 3 4,js 18 (.bslice 2 3 [(.bool false), .nil, (.int .i64 0)] [(0, 3, (.t 16)), (3, 3, (.t 17))]),jc 19 74 [18],js 20 (.un .not (.t 19)),jm 21 20,jg (jm 22 2) 21 false,jg (ji 23 .lss 22 .i64 1) 21 false,jP 24 21 23] [2,3,4,6,24]
(jC 24
(jq [js 25 (.build [(.bool false), .nil, (.int .i64 0)] []),jw 3 6 25,jv 7 false,jk 8 .i64 2] [6,7,8]
.ret)
.skip))
(.seq (jq [jm 26 2,jc 27 75 [26],jm 9 27] [2,3,4,6,9]
(jq [jm 28 9,ji 29 .neq 28 .i64 0] [2,3,4,6,9,29]
(jC 29
(jq [js 30 (.build [(.bool false), .nil, (.int .i64 0)] []),jm 31 9,jw 3 6 30,jv 7 false,jm 8 31] [6,7,8]
.ret)
.skip)))
(.seq (.block 0
(jq [jf 33 1 4,jl 34 1 33,jn 35 34,ji 36 .eql 35 .i64 0,jm 32 36] [2,3,4,6,32]
(jC 32
(jq [js 37 (.build [(.bool false), .nil, (.int .i64 0)] []),jw 3 6 37,jv 7 false,jk 8 .i64 11] [6,7,8]
.ret)
(jq [jf 39 1 3,jl 40 1 39,jn 41 40,ji 42 .eql 41 .i64 0,jm 38 42] [2,3,4,6,38]
(jC 38
(jq [js 43 (.build [(.bool false), .nil, (.int .i64 0)] []),jw 3 6 43,jv 7 false,jk 8 .i64 0] [6,7,8]
.ret)
.skip)))))
(jq [jm 44 2,ji 45 .add 44 .i64 1,jf 46 1 4,jl 47 1 46,jc 48 49 [47],jb 49 .add 45 48,jf 50 1 3,jl 51 1 50,jc 52 49 [51],jb 53 .sub 49 52,js 54 (.mm true (.c (.int .i64 0)) [(.t 53)]),jm 10 54] [2,3,4,6,10]
(jq [jf 55 1 3,jl 56 1 55,jf 57 1 4,jl 58 1 57,jm 11 56,jm 12 58] [2,3,4,6,10,11,12]
(.seq (jq [jm 59 10,jm 60 11,jc 61 49 [60],js 62 (.bin .sub (.c (.int .i64 131072)) (.t 61)),jb 63 .gtr 59 62] [2,3,4,6,10,11,12,63]
(jC 63
(jq [jL 64 3 3,jL 65 3 4,jm 66 2,jc 67 76 [64,65,66],je 68 67 0,je 69 67 1,je 70 67 2,jw 3 6 68,jm 7 69,jm 8 70] [6,7,8]
.ret)
.skip))
(jq [jm 72 11,jm 73 10,jc 74 50 [72,73],jm 71 74,je 75 71 0,je 76 71 1,je 77 71 2,jm 11 75] [2,3,4,6,10,11,12]
(jq [jm 79 11,jm 80 12,jc 81 77 [79,80],jm 78 81,je 82 78 0,je 83 78 1,je 84 78 2,jm 13 82,jm 14 83,jm 15 84] [2,3,4,6,10,13,14]
(jq [jf 85 0 3,jl 86 1 85,jf 87 0 4,jl 88 1 87,js 89 (.eqb true (.t 86) (.t 88)),jm 90 13,jf 91 2 3,jl 92 1 91,jf 93 2 4,jl 94 1 93,jb 95 .sub 92 94,jm 96 10,jb 97 .sub 95 96,jm 98 14,jn 99 98,ji 100 .gtr 99 .i64 0,jm 101 2,jc 102 78 [89,90,97,100,101],je 103 102 0,je 104 102 1,je 105 102 2,jw 3 6 103,jm 7 104,jm 8 105] [6,7,8]
.ret))))))))))⟩
def c_dyad_Root : IFn := ⟨[.cell 4 true 3, .tmp 5, .tmp 6],
(jq [jx 2 3 0,js 4 (.alloc [(.bool false), .nil, (.int .i64 0)]),jv 5 false,jk 6 .i64 0] [1,2,4]
(.seq (jq [jL 15 3 2,jc 16 48 [15],js 17 (.un .not (.t 16))] [1,2,4,17]
(jC 17
(jq [js 18 (.build [(.bool false), .nil, (.int .i64 0)] []),jw 3 4 18,jv 5 false,jk 6 .i64 2] [4,5,6]
.ret)
.skip))
(.seq (jq [jm 19 1,jc 20 75 [19],jm 7 20] [1,2,4,7]
(jq [jm 21 7,ji 22 .neq 21 .i64 0] [1,2,4,7,22]
(jC 22
(jq [js 23 (.build [(.bool false), .nil, (.int .i64 0)] []),jm 24 7,jw 3 4 23,jv 5 false,jm 6 24] [4,5,6]
.ret)
.skip)))
(.seq (.block 0
(jq [jf 26 1 2,jl 27 1 26,jn 28 27,ji 29 .eql 28 .i64 0,jm 25 29] [1,2,4,25]
(jC 25
(jq [js 30 (.build [(.bool false), .nil, (.int .i64 0)] []),jw 3 4 30,jv 5 false,jk 6 .i64 0] [4,5,6]
.ret)
(jq [jf 32 0 2,jl 33 1 32,jm 31 33] [1,2,4,31]
(jC 31
(jq [js 34 (.build [(.bool false), .nil, (.int .i64 0)] []),jw 3 4 34,jv 5 false,jk 6 .i64 10] [4,5,6]
.ret)
.skip)))))
(jq [jm 35 1,js 36 (.bin .mul (.c (.int .i64 2)) (.t 35)),ji 37 .add 36 .i64 2,jf 38 1 2,jl 39 1 38,jc 40 49 [39],jb 41 .sub 37 40,jm 8 41] [1,2,4,8]
(.seq (jq [jf 42 2 2,jl 43 1 42,jm 44 8,jb 45 .sub 43 44,ji 46 .and 45 .i64 1,ji 47 .neq 46 .i64 0] [1,2,4,8,47]
(jC 47
(jr [jm 48 8,ji 49 .add 48 .i64 1,jm 8 49] [1,2,4,8])
.skip))
(jq [jf 51 1 2,jl 52 1 51,jm 53 8,jc 54 50 [52,53],jm 50 54,je 55 50 0,je 56 50 1,je 57 50 2,jm 9 55,jm 10 56,jm 11 57] [1,2,4,8,9,10]
(jq [jm 59 9,jc 60 81 [59],jm 58 60,je 61 58 0,je 62 58 1,je 63 58 2,jm 12 61,jm 13 62,jm 14 63] [1,2,4,8,10,12,13]
(jq [jm 64 12,jf 65 2 2,jl 66 1 65,jm 67 8,jb 68 .sub 66 67,ji 69 .quo 68 .i64 2,jm 70 10,jm 71 70,jg (jm 72 13) 71 false,jg (js 73 (.un .not (.t 72))) 71 false,jP 74 71 73,jm 75 1,js 76 (.call false (.f 78) [(.c (.bool false)), (.t 64), (.t 69), (.t 74), (.t 75)]),je 77 76 0,je 78 76 1,je 79 76 2,jw 3 4 77,jm 5 78,jm 6 79] [4,5,6]
.ret)))))))))⟩
def c_dyad_May : IFn := ⟨[.tmp 2],
(jq [jx 1 3 0,jv 2 false] [1]
(.seq (jq [jf 3 1 1,jl 4 1 3,jc 5 86 [4],js 6 (.un .not (.t 5))] [1,6]
(jC 6
(jq [jv 2 false] [2]
.ret)
.skip))
(.seq (jq [jf 7 1 1,jl 8 1 7,jn 9 8,ji 10 .eql 9 .i64 0] [1,10]
(jC 10
(jq [jf 11 0 1,jl 12 1 11,js 13 (.un .not (.t 12)),jm 14 13,jg (jf 15 2 1) 14 true,jg (jl 16 1 15) 14 true,jg (ji 17 .eql 16 .i64 0) 14 true,jp 18 14 17,jm 2 18] [2]
.ret)
.skip))
(jq [jf 19 1 1,jl 20 1 19,js 21 (.iaddr 1 (.t 20) (.c (.int .i64 0))),jl 22 1 21,ji 23 .and 22 .u32 1,ji 24 .eql 23 .u32 1,jm 25 24,jg (jf 26 2 1) 25 true,jg (jl 27 1 26) 25 true,jg (jc 28 87 [27]) 25 true,jp 29 25 28,jm 2 29] [2]
.ret))))⟩
def c_dyad_Make : IFn := ⟨[.cell 6 true 3, .tmp 7],
(jq [js 6 (.alloc [(.bool false), .nil, (.int .i64 0)]),jk 7 .i64 0] [0,1,2,6]
(.seq (jq [jm 12 1,jc 13 86 [12],js 14 (.un .not (.t 13))] [0,1,2,6,14]
(jC 14
(jq [js 15 (.build [(.bool false), .nil, (.int .i64 0)] []),jw 3 6 15,jk 7 .i64 2] [6,7]
.ret)
.skip))
(.seq (jq [jm 16 1,jn 17 16,ji 18 .eql 17 .i64 0] [0,1,2,6,18]
(jC 18
(jq [js 19 (.build [(.bool false), .nil, (.int .i64 0)] []),jw 3 6 19,jk 7 .i64 0] [6,7]
.ret)
.skip))
(jq [jm 20 1,jc 21 90 [20],jm 8 21] [0,1,2,6,8]
(.seq (jq [jm 22 2,jm 23 8,js 24 (.bin .sub (.c (.int .i64 16777216)) (.t 23)),jb 25 .gtr 22 24,jm 26 25,jg (jm 27 2) 26 false,jg (jm 28 8) 26 false,jg (js 29 (.bin .sub (.c (.int .i64 (-16777216))) (.t 28))) 26 false,jg (jb 30 .lss 27 29) 26 false,jP 31 26 30] [0,1,2,6,8,31]
(jC 31
(jq [js 32 (.build [(.bool false), .nil, (.int .i64 0)] []),jw 3 6 32,jk 7 .i64 20] [6,7]
.ret)
.skip))
(jq [jm 34 1,jm 35 8,js 36 (.un .neg (.t 35)),jc 37 50 [34,36],jm 33 37,je 38 33 0,je 39 33 1,je 40 33 2,jm 9 38,jm 10 39,jm 11 40] [0,2,6,8,9]
(jq [jm 41 0,jm 42 9,jm 43 2,jm 44 8,jb 45 .add 43 44,js 46 (.build [(.bool false), .nil, (.int .i64 0)] [(0, 1, (.t 41)), (1, 1, (.t 42)), (2, 1, (.t 45))]),jw 3 6 46,jk 7 .i64 0] [6,7]
.ret)))))))⟩
def c_dyad_both_b1 : IC :=
(jq [jb 8 .lss 7 6] [5,6,7,8]
(.seq (jC 8
.skip
(.exit 0))
(.seq (.block 1
(jq [ja 9 3 5 7,jL 10 3 9,js 4 (.alloc [(.bool false), .nil, (.int .i64 0)]),jw 3 4 10] [4,5,6,7]
(jq [jL 11 3 4,jc 12 48 [11],js 13 (.un .not (.t 12))] [5,6,7,13]
(jC 13
(jq [jv 2 false] [2]
.ret)
.skip))))
(jr [ji 14 .add 7 .i64 1,jm 7 14] [5,6,7]))))
def c_dyad_both_l1 : IC := .loop [5, 6, 7] c_dyad_both_b1
def c_dyad_both : IFn := ⟨[.tmp 2],
(jq [jv 2 false] [0]
(.seq (jq [jm 5 0,jn 6 5,jk 7 .i64 0] [5,6,7]
(.block 0
 c_dyad_both_l1))
(jq [jv 2 true] [2]
.ret)))⟩
def c_dyad_asked : IFn := ⟨[.tmp 2],
(jq [jk 2 .i64 0] [0]
(.seq (.block 0
(jq [jm 4 0,ji 5 .lss 4 .i64 1,jm 3 5] [0,3]
(jC 3
(jq [jk 2 .i64 2] [2]
.ret)
(jq [jm 7 0,ji 8 .gtr 7 .i64 8192,jm 6 8] [6]
(jC 6
(jq [jk 2 .i64 3] [2]
.ret)
.skip)))))
(jq [jk 2 .i64 0] [2]
.ret)))⟩
def c_dyad_wide_b1 : IC :=
(.seq (jq [jm 49 13,jc 50 49 [49],jm 51 2,jb 52 .leq 50 51,jm 53 52,jg (jm 54 14) 53 true,jg (jn 55 54) 53 true,jg (ji 56 .gtr 55 .i64 0) 53 true,jp 57 53 56] [2,3,4,6,13,14,16,57]
(jC 57
.skip
(.exit 0)))
(.block 1
(jq [jf 59 1 4,jl 60 1 59,jm 61 14,jc 62 103 [60,61],jm 58 62,je 63 58 0,je 64 58 1,jm 17 63,jm 18 64] [2,3,4,6,13,14,16,17,18]
(jq [jk 19 .u64 0] [2,3,4,6,13,14,16,17,18,19]
(.seq (jq [jm 66 14,jm 67 17,jc 68 104 [66,67],jm 65 68,je 69 65 0,je 70 65 1,jm 20 69,jm 21 70] [2,3,4,6,13,14,16,17,18,19,20]
(jq [jm 71 18,ji 72 .eql 71 .i64 0,jm 73 72,jg (jm 74 20) 73 true,jg (ji 75 .geq 74 .i64 0) 73 true,jp 76 73 75] [2,3,4,6,13,14,16,17,19,76]
(jC 76
(jq [jm 78 14,jm 79 17,jc 80 103 [78,79],jm 77 80,je 81 77 0,je 82 77 1,jm 14 81] [2,3,4,6,13,14,16]
(jr [jk 19 .u64 1] [2,3,4,6,13,14,16,19]))
(jr [jm 84 14,jm 85 14,jc 86 105 [84,85],jm 83 86,je 87 83 0,je 88 83 1,jm 14 87] [2,3,4,6,13,14,16,19]))))
(jq [jm 90 13,js 91 (.call false (.f 50) [(.t 90), (.c (.int .i64 1))]),jm 89 91,je 92 89 0,je 93 89 1,je 94 89 2,jm 13 92] [2,3,4,6,13,14,16,19]
(jq [jm 96 13,jm 97 19,jc 98 55 [97],jc 99 105 [96,98],jm 95 99,je 100 95 0,je 101 95 1,jm 13 100] [2,3,4,6,13,14,16]
(jr [jm 102 16,ji 103 .sub 102 .i64 1,jm 16 103] [2,3,4,6,13,14,16]))))))))
def c_dyad_wide_l1 : IC := .loop [2, 3, 4, 6, 13, 14, 16] c_dyad_wide_b1
def c_dyad_wide : IFn := ⟨[.cell 6 true 3, .tmp 7, .tmp 8],
(jq [jx 3 3 0,jx 4 3 1,js 6 (.alloc [(.bool false), .nil, (.int .i64 0)]),jv 7 false,jk 8 .i64 0] [2,3,4,6]
(jq [jf 22 1 3,jl 23 1 22,jc 24 49 [23],js 25 (.bin .sub (.c (.int .i64 131072)) (.t 24)),jm 9 25] [2,3,4,6,9]
(jq [jf 27 1 3,jl 28 1 27,jm 29 9,jc 30 50 [28,29],jm 26 30,je 31 26 0,je 32 26 1,je 33 26 2,jm 10 31,jm 11 32,jm 12 33] [2,3,4,6,9,10]
(jq [jm 35 10,jf 36 1 4,jl 37 1 36,jc 38 77 [35,37],jm 34 38,je 39 34 0,je 40 34 1,je 41 34 2,jm 13 39,jm 14 40,jm 15 41] [2,3,4,6,9,13,14]
(jq [jf 42 2 3,jl 43 1 42,jf 44 2 4,jl 45 1 44,jb 46 .sub 43 45,jm 47 9,jb 48 .sub 46 47,jm 16 48] [2,3,4,6,13,14,16]
(.seq (.block 0
 c_dyad_wide_l1)
(jq [jf 104 0 3,jl 105 1 104,jf 106 0 4,jl 107 1 106,js 108 (.eqb true (.t 105) (.t 107)),jm 109 13,jm 110 16,jm 111 14,jn 112 111,ji 113 .gtr 112 .i64 0,jm 114 2,jc 115 78 [108,109,110,113,114],je 116 115 0,je 117 115 1,je 118 115 2,jw 3 6 116,jm 7 117,jm 8 118] [6,7,8]
.ret)))))))⟩
def c_dyad_made : IFn := ⟨[.cell 10 true 3, .tmp 11, .tmp 12],
(jq [js 10 (.alloc [(.bool false), .nil, (.int .i64 0)]),jv 11 false,jk 12 .i64 0] [0,1,2,3,4,10]
(jq [jm 18 1,jc 19 49 [18],jm 20 4,jb 21 .sub 19 20,js 22 (.mm true (.c (.int .i64 0)) [(.t 21)]),jm 13 22] [0,1,2,3,10,13]
(jq [jm 24 1,jm 25 13,js 26 (.un .neg (.t 25)),jc 27 50 [24,26],jm 23 27,je 28 23 0,je 29 23 1,je 30 23 2,jm 1 28,jm 14 29,jm 15 30] [0,1,2,3,10,13,14]
(jq [jm 32 0,jm 33 1,jm 34 2,jm 35 13,jb 36 .add 34 35,jc 37 54 [32,33,36],jm 31 37,je 38 31 0,je 39 31 1,js 16 (.alloc [(.bool false), .nil, (.int .i64 0)]),jw 3 16 38,jm 17 39] [3,10,14,16,17]
(.seq (jq [jm 40 17,ji 41 .neq 40 .i64 0] [3,10,14,16,17,41]
(jC 41
(jq [js 42 (.build [(.bool false), .nil, (.int .i64 0)] []),jm 43 17,jw 3 10 42,jv 11 false,jm 12 43] [10,11,12]
.ret)
.skip))
(jq [jL 44 3 16,jm 45 14,jm 46 45,jg (jm 47 3) 46 false,jP 48 46 47,jw 3 10 44,jm 11 48,jk 12 .i64 0] [10,11,12]
.ret))))))⟩
def c_dyad_inside : IFn := ⟨[.tmp 2],
(jq [jv 2 false] [0]
(jq [jm 3 0,js 4 (.bin .leq (.c (.int .i64 (-16777216))) (.t 3)),jm 5 4,jg (jm 6 0) 5 true,jg (ji 7 .leq 6 .i64 16777216) 5 true,jp 8 5 7,jm 2 8] [2]
.ret))⟩
structure HasC (gdb : Nat) (T : Tbl) : Prop where
  dyad_Sign : T 22 = some c_dyad_Sign
  dyad_Quo : T 40 = some c_dyad_Quo
  dyad_Root : T 43 = some c_dyad_Root
  dyad_May : T 48 = some c_dyad_May
  dyad_Make : T 54 = some c_dyad_Make
  dyad_both : T 74 = some c_dyad_both
  dyad_asked : T 75 = some c_dyad_asked
  dyad_wide : T 76 = some c_dyad_wide
  dyad_made : T 78 = some c_dyad_made
  dyad_inside : T 87 = some c_dyad_inside
end Go.Cv
namespace Go.Cv
def c_word_Greatest : IFn := ⟨[.tmp 4, .tmp 5],
(jq [jk 4 .u64 0,jk 5 .i64 0] [0,1]
(jq [jm 6 0,jm 7 1,js 8 (.call false (.f 58) [(.t 6), (.t 7), (.f 59)]),je 9 8 0,je 10 8 1,jm 4 9,jm 5 10] [4,5]
.ret))⟩
def c_word_Inf : IFn := ⟨[.tmp 4, .tmp 5],
(jq [jk 4 .u64 0,jk 5 .i64 0] [0,1]
(jq [jm 6 0,jm 7 1,js 8 (.call false (.f 58) [(.t 6), (.t 7), (.f 60)]),je 9 8 0,je 10 8 1,jm 4 9,jm 5 10] [4,5]
.ret))⟩
def c_ref03_Frac : IFn := ⟨[.tmp 2],
(jq [jk 2 .i64 0] [0]
(.seq (jq [jm 3 0,ji 4 .eql 3 .u8 1] [4]
(jC 4
(jq [jk 2 .i64 23] [2]
.ret)
.skip))
(jq [jk 2 .i64 52] [2]
.ret)))⟩
def c_word_Of : IFn := ⟨[.tmp 4, .tmp 5],
(jq [jx 3 3 1,jk 4 .u64 0,jk 5 .i64 0] [0,3]
(jq [jm 14 0,js 15 (.call false (.f 95) [(.t 14), (.c .nil)]),jm 13 15,je 16 13 0,je 17 13 1,js 6 (.alloc [(.int .i64 0), (.int .i64 0), (.int .u64 0)]),jw 3 6 16,jm 7 17] [3,6,7]
(.seq (jq [jm 18 7,ji 19 .neq 18 .i64 0] [3,6,7,19]
(jC 19
(jq [jm 20 7,jk 4 .u64 0,jm 5 20] [4,5]
.ret)
.skip))
(.seq (jq [jL 21 3 3,jc 22 48 [21],js 23 (.un .not (.t 22))] [3,6,23]
(jC 23
(jq [jk 4 .u64 0,jk 5 .i64 2] [4,5]
.ret)
.skip))
(jq [jf 25 1 3,jl 26 1 25,jc 27 51 [26],jm 24 27,je 28 24 0,je 29 24 1,jm 8 28,jm 9 29] [3,6,8,9]
(jq [jm 30 8,jc 31 53 [30],jm 10 31] [3,6,8,9,10]
(jq [jf 32 2 3,jl 33 1 32,jm 34 10,jb 35 .add 33 34,jm 11 35] [3,6,8,9,10,11]
(.seq (jq [jm 36 9,js 37 (.un .not (.t 36)),jm 38 37,jg (jm 39 10) 38 false,jg (jf 40 0 6) 38 false,jg (jl 41 1 40) 38 false,jg (ji 42 .add 41 .i64 1) 38 false,jg (jb 43 .gtr 39 42) 38 false,jP 44 38 43,jm 45 44,jg (jm 46 8) 45 false,jg (ji 47 .neq 46 .u64 0) 45 false,jg (jm 48 47) 45 false,jg (jf 49 2 3) 48 true,jg (jl 50 1 49) 48 true,jg (jL 51 3 6) 48 true,jg (jc 52 96 [51]) 48 true,jg (jb 53 .lss 50 52) 48 true,jg (jm 54 53) 48 true,jg (jm 55 11) 54 false,jg (jf 56 1 6) 54 false,jg (jl 57 1 56) 54 false,jg (ji 58 .quo 57 .i64 2) 54 false,jg (ji 59 .add 58 .i64 1) 54 false,jg (jb 60 .gtr 55 59) 54 false,jg (jP 61 54 60) 48 true,jg (jp 62 48 61) 45 false,jP 63 45 62] [3,6,8,11,63]
(jC 63
(jq [jk 4 .u64 0,jk 5 .i64 7] [4,5]
.ret)
.skip))
(.seq (jq [jm 64 8,ji 65 .eql 64 .u64 0] [3,6,8,11,65]
(jC 65
(jq [jk 4 .u64 0,jk 5 .i64 0] [4,5]
.ret)
.skip))
(jq [jm 66 11,jf 67 0 6,jl 68 1 67,jb 69 .sub 66 68,ji 70 .sub 69 .i64 1,jL 71 3 6,jc 72 96 [71],js 73 (.mm true (.t 70) [(.t 72)]),jm 12 73] [3,6,8,12]
(jq [jm 74 8,jf 75 2 3,jl 76 1 75,jm 77 12,jb 78 .sub 76 77,jb 79 .shl 74 78,jm 8 79] [3,6,8,12]
(jq [jL 80 3 6,jf 81 0 3,jl 82 1 81,jm 83 12,jL 84 3 6,jc 85 96 [84],jb 86 .sub 83 85,js 87 (.cvt .u64 (.t 86)),jf 88 0 6,jl 89 1 88,jb 90 .shl 87 89,jm 91 8,jb 92 .add 90 91,js 93 (.build [(.bool false), (.int .i64 0), (.int .u64 0)] [(0, 1, (.t 82)), (2, 1, (.t 92))]),jc 94 97 [80,93],jm 4 94,jk 5 .i64 0] [4,5]
.ret))))))))))))⟩
def c_word_Zero : IFn := ⟨[.tmp 4, .tmp 5],
(jq [jk 4 .u64 0,jk 5 .i64 0] [0,1]
(jq [jm 6 0,jm 7 1,js 8 (.call false (.f 58) [(.t 6), (.t 7), (.f 98)]),je 9 8 0,je 10 8 1,jm 4 9,jm 5 10] [4,5]
.ret))⟩
def c_word_named : IFn := ⟨[.tmp 6, .tmp 7],
(jq [jk 6 .u64 0,jk 7 .i64 0] [0,1,2]
(jq [jm 12 0,js 13 (.call false (.f 95) [(.t 12), (.c .nil)]),jm 11 13,je 14 11 0,je 15 11 1,js 8 (.alloc [(.int .i64 0), (.int .i64 0), (.int .u64 0)]),jw 3 8 14,jm 9 15] [1,2,8,9]
(.seq (jq [jm 16 9,ji 17 .neq 16 .i64 0] [1,2,8,9,17]
(jC 17
(jq [jm 18 9,jk 6 .u64 0,jm 7 18] [6,7]
.ret)
.skip))
(jq [jm 19 2,jL 20 3 8,js 21 (.call false (.t 19) [(.t 20)]),jm 10 21] [1,8,10]
(.seq (jq [jm 22 1] [8,10,22]
(jC 22
(jr [jm 23 10,jf 24 2 8,jl 25 1 24,jb 26 .or 23 25,jm 10 26] [10])
.skip))
(jq [jm 27 10,jm 6 27,jk 7 .i64 0] [6,7]
.ret))))))⟩
def c_word_Greatest_1 : IFn := ⟨[.tmp 2],
(jq [jx 1 3 0,jk 2 .u64 0] [1]
(jq [jL 3 3 1,jc 4 60 [3],ji 5 .sub 4 .u64 1,jm 2 5] [2]
.ret))⟩
def c_word_shape_inf : IFn := ⟨[.tmp 2],
(jq [jx 1 3 0,jk 2 .u64 0] [1]
(jq [jf 3 1 1,jl 4 1 3,js 5 (.cvt .u64 (.t 4)),jf 6 0 1,jl 7 1 6,jb 8 .shl 5 7,jm 2 8] [2]
.ret))⟩
def c_ref03_Join : IFn := ⟨[.tmp 4],
(jq [jx 3 3 1,jk 4 .u64 0] [0,3]
(jq [jf 6 1 3,jl 7 1 6,js 8 (.cvt .u64 (.t 7)),jm 9 0,jc 10 31 [9],jb 11 .shl 8 10,jf 12 2 3,jl 13 1 12,jb 14 .add 11 13,jm 5 14] [0,3,5]
(.seq (jq [jf 15 0 3,jl 16 1 15] [0,5,16]
(jC 16
(jr [jm 17 5,jm 18 0,jc 19 73 [18],jb 20 .add 17 19,jm 5 20] [5])
.skip))
(jq [jm 21 5,jm 4 21] [4]
.ret))))⟩
def c_ref03_Most : IFn := ⟨[.tmp 2],
(jq [jk 2 .i64 0] [0]
(.seq (jq [jm 3 0,ji 4 .eql 3 .u8 1] [4]
(jC 4
(jq [jk 2 .i64 255] [2]
.ret)
.skip))
(jq [jk 2 .i64 2047] [2]
.ret)))⟩
def c_ref03_Sign : IFn := ⟨[.tmp 2],
(jq [jk 2 .u64 0] [0]
(.seq (jq [jm 3 0,ji 4 .eql 3 .u8 1] [4]
(jC 4
(jq [jk 2 .u64 2147483648] [2]
.ret)
.skip))
(jq [jk 2 .u64 9223372036854775808] [2]
.ret)))⟩
def c_word_open_b1 : IC :=
(jq [jb 21 .lss 20 19] [4,6,18,19,20,21]
(.seq (jC 21
.skip
(.exit 0))
(.seq (.block 1
(jq [ja 22 1 18 20,jl 23 1 22,jm 9 23] [4,6,9,18,19,20]
(jq [jm 24 9,jf 25 2 6,jl 26 1 25,jf 27 2 6,jl 28 1 27,ji 29 .sub 28 .u64 1,jb 30 .or 26 29,jb 31 .gtr 24 30] [4,6,18,19,20,31]
(jC 31
(jq [jL 32 3 6,jw 3 4 32,jk 5 .i64 6] [4,5]
.ret)
.skip))))
(jr [ji 33 .add 20 .i64 1,jm 20 33] [4,6,18,19,20]))))
def c_word_open_l1 : IC := .loop [4, 6, 18, 19, 20] c_word_open_b1
def c_word_open : IFn := ⟨[.cell 4 true 3, .tmp 5],
(jq [js 4 (.alloc [(.int .i64 0), (.int .i64 0), (.int .u64 0)]),jk 5 .i64 0] [0,1,4]
(jq [jm 11 0,jc 12 115 [11],jm 10 12,je 13 10 0,je 14 10 1,js 6 (.alloc [(.int .i64 0), (.int .i64 0), (.int .u64 0)]),jw 3 6 13,jm 7 14] [1,4,6,7]
(.seq (jq [jm 15 7,js 16 (.un .not (.t 15))] [1,4,6,16]
(jC 16
(jq [jL 17 3 6,jw 3 4 17,jk 5 .i64 4] [4,5]
.ret)
.skip))
(.seq (jq [jm 18 1,jn 19 18,jk 20 .i64 0] [4,6,18,19,20]
(.block 0
 c_word_open_l1))
(jq [jL 34 3 6,jw 3 4 34,jk 5 .i64 0] [4,5]
.ret)))))⟩
def c_word_shape_low : IFn := ⟨[.tmp 2],
(jq [jx 1 3 0,jk 2 .i64 0] [1]
(jq [jf 3 1 1,jl 4 1 3,ji 5 .quo 4 .i64 2,js 6 (.bin .sub (.c (.int .i64 1)) (.t 5)),jf 7 0 1,jl 8 1 7,jb 9 .sub 6 8,jm 2 9] [2]
.ret))⟩
def c_word_shape_join : IFn := ⟨[.tmp 4],
(jq [jx 2 3 0,jx 3 3 1,jk 4 .u64 0] [2,3]
(jq [jf 6 1 3,jl 7 1 6,js 8 (.cvt .u64 (.t 7)),jf 9 0 2,jl 10 1 9,jb 11 .shl 8 10,jf 12 2 3,jl 13 1 12,jb 14 .or 11 13,jm 5 14] [2,3,5]
(.seq (jq [jf 15 0 3,jl 16 1 15] [2,5,16]
(jC 16
(jr [jm 17 5,jf 18 2 2,jl 19 1 18,jb 20 .or 17 19,jm 5 20] [5])
.skip))
(jq [jm 21 5,jm 4 21] [4]
.ret))))⟩
def c_word_Zero_1 : IFn := ⟨[.tmp 2],
(jq [jx 1 3 0,jk 2 .u64 0] []
(jq [jk 2 .u64 0] [2]
.ret))⟩
def c_word_shapeOf : IFn := ⟨[.cell 2 true 3, .tmp 3],
(jq [js 2 (.alloc [(.int .i64 0), (.int .i64 0), (.int .u64 0)]),jv 3 false] [0,2]
(.seq (jq [jm 4 0] [2,4]
(.block 0
(jq [ji 6 .eql 4 .u8 1,jm 5 6] [2,4,5]
(jC 5
(jq [js 7 (.build [(.int .i64 0), (.int .i64 0), (.int .u64 0)] [(0, 1, (.c (.int .i64 23))), (1, 1, (.c (.int .i64 255))), (2, 1, (.c (.int .u64 2147483648)))]),jw 3 2 7,jv 3 true] [2,3]
.ret)
(jq [ji 9 .eql 4 .u8 2,jm 8 9] [2,8]
(jC 8
(jq [js 10 (.build [(.int .i64 0), (.int .i64 0), (.int .u64 0)] [(0, 1, (.c (.int .i64 52))), (1, 1, (.c (.int .i64 2047))), (2, 1, (.c (.int .u64 9223372036854775808)))]),jw 3 2 10,jv 3 true] [2,3]
.ret)
.skip))))))
(jq [js 11 (.build [(.int .i64 0), (.int .i64 0), (.int .u64 0)] []),jw 3 2 11,jv 3 false] [2,3]
.ret)))⟩
structure HasD (gdb : Nat) (T : Tbl) : Prop where
  word_Greatest : T 25 = some c_word_Greatest
  word_Inf : T 26 = some c_word_Inf
  ref03_Frac : T 31 = some c_ref03_Frac
  word_Of : T 56 = some c_word_Of
  word_Zero : T 57 = some c_word_Zero
  word_named : T 58 = some c_word_named
  word_Greatest_1 : T 59 = some c_word_Greatest_1
  word_shape_inf : T 60 = some c_word_shape_inf
  ref03_Join : T 62 = some c_ref03_Join
  ref03_Most : T 63 = some c_ref03_Most
  ref03_Sign : T 73 = some c_ref03_Sign
  word_open : T 95 = some c_word_open
  word_shape_low : T 96 = some c_word_shape_low
  word_shape_join : T 97 = some c_word_shape_join
  word_Zero_1 : T 98 = some c_word_Zero_1
  word_shapeOf : T 115 = some c_word_shapeOf
end Go.Cv
namespace Go.Cv
def c_round_Round : IFn := ⟨[.tmp 6, .tmp 7, .tmp 8],
(jq [jx 5 3 2,jk 6 .u64 0,jk 7 .u8 0,jk 8 .i64 0] [0,1,5]
(jq [jm 14 0,jm 15 1,jL 16 3 5,js 17 (.bslice 1 3 [(.bool false), .nil, (.int .i64 0)] [(0, 3, (.t 16))]),jc 18 21 [14,15,17],jm 13 18,je 19 13 0,je 20 13 1,js 9 (.alloc [(.int .i64 0), (.int .i64 0), (.int .i64 0)]),jw 3 9 19,jm 10 20] [0,1,5,9,10]
(.seq (jq [jm 21 10,ji 22 .neq 21 .i64 0] [0,1,5,9,10,22]
(jC 22
(jq [jm 23 10,jk 6 .u64 0,jk 7 .u8 0,jm 8 23] [6,7,8]
.ret)
.skip))
(.seq (jq [jL 24 3 5,jc 25 22 [24],ji 26 .eql 25 .i64 0] [0,1,5,9,26]
(jC 26
(jq [jk 6 .u64 0,jk 7 .u8 0,jk 8 .i64 0] [6,7,8]
.ret)
.skip))
(jq [jL 28 3 5,jc 29 23 [28],jm 30 0,jL 31 3 9,jm 32 1,jf 33 0 5,jl 34 1 33,jc 35 24 [29,30,31,32,34],jm 27 35,je 36 27 0,je 37 27 1,jm 11 36,jm 12 37] [11,12]
(jq [jm 38 11,jm 39 12,jm 6 38,jm 7 39,jk 8 .i64 0] [6,7,8]
.ret))))))⟩
def c_round_Over : IFn := ⟨[.tmp 6, .tmp 7],
(jq [jk 6 .u64 0,jk 7 .i64 0] [0,1,2]
(.seq (jq [jm 11 0,jm 12 1,js 13 (.call false (.f 21) [(.t 11), (.t 12), (.c .nil)]),jm 10 13,je 14 10 0,je 15 10 1,js 8 (.alloc [(.int .i64 0), (.int .i64 0), (.int .i64 0)]),jw 3 8 14,jm 9 15] [0,1,2,9]
(jq [jm 16 9,ji 17 .neq 16 .i64 0] [0,1,2,9,17]
(jC 17
(jq [jm 18 9,jk 6 .u64 0,jm 7 18] [6,7]
.ret)
.skip)))
(.seq (jq [jm 19 1,ji 20 .eql 19 .u8 3,jm 21 20,jg (jm 22 1) 21 false,jg (ji 23 .eql 22 .u8 4) 21 false,jg (jm 24 23) 21 false,jg (jm 25 2) 24 true,jg (jp 26 24 25) 21 false,jP 27 21 26,jm 28 27,jg (jm 29 1) 28 false,jg (ji 30 .eql 29 .u8 5) 28 false,jg (jm 31 30) 28 false,jg (jm 32 2) 31 true,jg (js 33 (.un .not (.t 32))) 31 true,jg (jp 34 31 33) 28 false,jP 35 28 34] [0,2,35]
(jC 35
(jq [jm 36 0,jm 37 2,jc 38 25 [36,37],je 39 38 0,je 40 38 1,jm 6 39,jm 7 40] [6,7]
.ret)
.skip))
(jq [jm 41 0,jm 42 2,jc 43 26 [41,42],je 44 43 0,je 45 43 1,jm 6 44,jm 7 45] [6,7]
.ret))))⟩
def c_round_Quo : IFn := ⟨[.tmp 8, .tmp 9, .tmp 10],
(jq [jx 6 3 2,jx 7 3 3,jk 8 .u64 0,jk 9 .u8 0,jk 10 .i64 0] [0,1,6,7]
(jq [jm 21 0,jm 22 1,jL 23 3 6,jL 24 3 7,js 25 (.bslice 2 3 [(.bool false), .nil, (.int .i64 0)] [(0, 3, (.t 23)), (3, 3, (.t 24))]),jc 26 21 [21,22,25],jm 20 26,je 27 20 0,je 28 20 1,js 11 (.alloc [(.int .i64 0), (.int .i64 0), (.int .i64 0)]),jw 3 11 27,jm 12 28] [0,1,6,7,11,12]
(.seq (.block 0
(jq [jm 30 12,ji 31 .neq 30 .i64 0,jm 29 31] [0,1,6,7,11,12,29]
(jC 29
(jq [jm 32 12,jk 8 .u64 0,jk 9 .u8 0,jm 10 32] [8,9,10]
.ret)
(jq [jL 34 3 7,jc 35 22 [34],ji 36 .eql 35 .i64 0,jm 33 36] [0,1,6,7,11,33]
(jC 33
(jq [jk 8 .u64 0,jk 9 .u8 0,jk 10 .i64 11] [8,9,10]
.ret)
(jq [jL 38 3 6,jc 39 22 [38],ji 40 .eql 39 .i64 0,jm 37 40] [0,1,6,7,11,37]
(jC 37
(jq [jk 8 .u64 0,jk 9 .u8 0,jk 10 .i64 0] [8,9,10]
.ret)
.skip)))))))
(jq [jf 41 0 6,jl 42 1 41,jf 43 0 7,jl 44 1 43,js 45 (.eqb true (.t 42) (.t 44)),jm 13 45] [0,1,6,7,11,13]
(jq [jf 47 1 6,jl 48 1 47,js 49 (.build [(.bool false), .nil, (.int .i64 0)] [(1, 1, (.t 48))]),jf 50 1 7,jl 51 1 50,js 52 (.build [(.bool false), .nil, (.int .i64 0)] [(1, 1, (.t 51))]),js 53 (.call false (.f 40) [(.t 49), (.t 52), (.c (.int .i64 64))]),jm 46 53,je 54 46 0,je 55 46 1,je 56 46 2,js 14 (.alloc [(.bool false), .nil, (.int .i64 0)]),jw 3 14 54,jm 15 55,jm 16 56] [0,1,6,7,11,13,14,15]
(jq [jL 57 3 14,jc 58 23 [57],js 17 (.alloc [(.int .u64 0), (.int .i64 0), (.bool false)]),jw 3 17 58] [0,1,6,7,11,13,15,17]
(jq [jf 59 2 17,jl 60 1 59,jm 61 60,jg (jm 62 15) 61 false,jP 63 61 62,jf 64 2 17,jw 1 64 63] [0,1,6,7,11,13,17]
(jq [jf 65 1 17,jl 66 1 65,jf 67 2 6,jl 68 1 67,jf 69 2 7,jl 70 1 69,jb 71 .sub 68 70,jb 72 .add 66 71,jf 73 1 17,jw 1 73 72] [0,1,11,13,17]
(jq [jL 75 3 17,jm 76 0,jL 77 3 11,jm 78 1,jm 79 13,jc 80 24 [75,76,77,78,79],jm 74 80,je 81 74 0,je 82 74 1,jm 18 81,jm 19 82] [18,19]
(jq [jm 83 18,jm 84 19,jm 8 83,jm 9 84,jk 10 .i64 0] [8,9,10]
.ret))))))))))⟩
def c_round_Root : IFn := ⟨[.tmp 6, .tmp 7, .tmp 8],
(jq [jx 5 3 2,jk 6 .u64 0,jk 7 .u8 0,jk 8 .i64 0] [0,1,5]
(jq [jm 18 0,jm 19 1,jL 20 3 5,js 21 (.bslice 1 3 [(.bool false), .nil, (.int .i64 0)] [(0, 3, (.t 20))]),jc 22 21 [18,19,21],jm 17 22,je 23 17 0,je 24 17 1,js 9 (.alloc [(.int .i64 0), (.int .i64 0), (.int .i64 0)]),jw 3 9 23,jm 10 24] [0,1,5,9,10]
(.seq (.block 0
(jq [jm 26 10,ji 27 .neq 26 .i64 0,jm 25 27] [0,1,5,9,10,25]
(jC 25
(jq [jm 28 10,jk 6 .u64 0,jk 7 .u8 0,jm 8 28] [6,7,8]
.ret)
(jq [jf 30 0 5,jl 31 1 30,jm 29 31] [0,1,5,9,29]
(jC 29
(jq [jk 6 .u64 0,jk 7 .u8 0,jk 8 .i64 10] [6,7,8]
.ret)
(jq [jL 33 3 5,jc 34 22 [33],ji 35 .eql 34 .i64 0,jm 32 35] [0,1,5,9,32]
(jC 32
(jq [jk 6 .u64 0,jk 7 .u8 0,jk 8 .i64 0] [6,7,8]
.ret)
.skip)))))))
(jq [jL 37 3 5,js 38 (.call false (.f 43) [(.t 37), (.c (.int .i64 64))]),jm 36 38,je 39 36 0,je 40 36 1,je 41 36 2,js 11 (.alloc [(.bool false), .nil, (.int .i64 0)]),jw 3 11 39,jm 12 40,jm 13 41] [0,1,9,11,12]
(jq [jL 42 3 11,jc 43 23 [42],js 14 (.alloc [(.int .u64 0), (.int .i64 0), (.bool false)]),jw 3 14 43] [0,1,9,12,14]
(jq [jf 44 2 14,jl 45 1 44,jm 46 45,jg (jm 47 12) 46 false,jP 48 46 47,jf 49 2 14,jw 1 49 48] [0,1,9,14]
(jq [jL 51 3 14,jm 52 0,jL 53 3 9,jm 54 1,js 55 (.call false (.f 24) [(.t 51), (.t 52), (.t 53), (.t 54), (.c (.bool false))]),jm 50 55,je 56 50 0,je 57 50 1,jm 15 56,jm 16 57] [15,16]
(jq [jm 58 15,jm 59 16,jm 6 58,jm 7 59,jk 8 .i64 0] [6,7,8]
.ret))))))))⟩
def c_round_open_b1 : IC :=
(jq [jb 30 .lss 29 28] [6,8,27,28,29,30]
(.seq (jC 30
.skip
(.exit 0))
(.seq (.block 1
(jq [ja 31 3 27 29,jL 32 3 31,js 11 (.alloc [(.bool false), .nil, (.int .i64 0)]),jw 3 11 32] [6,8,11,27,28,29]
(jq [jL 33 3 11,jc 34 48 [33],js 35 (.un .not (.t 34))] [6,8,27,28,29,35]
(jC 35
(jq [jL 36 3 8,jw 3 6 36,jk 7 .i64 2] [6,7]
.ret)
.skip))))
(jr [ji 37 .add 29 .i64 1,jm 29 37] [6,8,27,28,29]))))
def c_round_open_l1 : IC := .loop [6, 8, 27, 28, 29] c_round_open_b1
def c_round_open : IFn := ⟨[.cell 6 true 3, .tmp 7],
(jq [js 6 (.alloc [(.int .i64 0), (.int .i64 0), (.int .i64 0)]),jk 7 .i64 0] [0,1,2,6]
(jq [jm 13 0,jc 14 47 [13],jm 12 14,je 15 12 0,je 16 12 1,js 8 (.alloc [(.int .i64 0), (.int .i64 0), (.int .i64 0)]),jw 3 8 15,jm 9 16] [1,2,6,8,9]
(.seq (jq [jm 17 9,js 18 (.un .not (.t 17))] [1,2,6,8,18]
(jC 18
(jq [jL 19 3 8,jw 3 6 19,jk 7 .i64 4] [6,7]
.ret)
.skip))
(.seq (jq [jm 20 1,ji 21 .lss 20 .u8 1,jm 22 21,jg (jm 23 1) 22 false,jg (ji 24 .gtr 23 .u8 5) 22 false,jP 25 22 24] [2,6,8,25]
(jC 25
(jq [jL 26 3 8,jw 3 6 26,jk 7 .i64 5] [6,7]
.ret)
.skip))
(.seq (jq [jm 27 2,jn 28 27,jk 29 .i64 0] [6,8,27,28,29]
(.block 0
 c_round_open_l1))
(jq [jL 38 3 8,jw 3 6 38,jk 7 .i64 0] [6,7]
.ret))))))⟩
def c_round_partOf : IFn := ⟨[.cell 2 true 3],
(jq [jx 1 3 0,js 2 (.alloc [(.int .u64 0), (.int .i64 0), (.bool false)])] [1,2]
(jq [jf 9 1 1,jl 10 1 9,jc 11 49 [10],jm 3 11] [1,2,3]
(jq [jf 13 1 1,jl 14 1 13,jm 15 3,js 16 (.bin .sub (.c (.int .i64 64)) (.t 15)),jc 17 50 [14,16],jm 12 17,je 18 12 0,je 19 12 1,je 20 12 2,jm 4 18,jm 5 19,jm 6 20] [1,2,3,4,5]
(jq [jm 22 4,jc 23 51 [22],jm 21 23,je 24 21 0,je 25 21 1,jm 7 24,jm 8 25] [1,2,3,5,7]
(jq [jm 26 7,jf 27 2 1,jl 28 1 27,jm 29 3,jb 30 .add 28 29,jm 31 5,js 32 (.build [(.int .u64 0), (.int .i64 0), (.bool false)] [(0, 1, (.t 26)), (1, 1, (.t 30)), (2, 1, (.t 31))]),jw 3 2 32] [2]
.ret)))))⟩
def c_round_part_word : IFn := ⟨[.tmp 10, .tmp 11],
(jq [jx 5 3 0,jx 7 3 2,jk 10 .u64 0,jk 11 .u8 0] [1,3,4,5,7]
(jq [jf 23 1 5,jl 24 1 23,jf 25 0 7,jl 26 1 25,jb 27 .sub 24 26,jf 28 1 7,jl 29 1 28,js 30 (.mm true (.t 27) [(.t 29)]),jm 12 30] [1,3,4,5,7,12]
(jq [jL 32 3 5,jm 33 3,jm 34 4,jm 35 12,jc 36 52 [32,33,34,35],jm 31 36,je 37 31 0,je 38 31 1,jm 13 37,jm 14 38] [1,3,4,5,7,12,13,14]
(.seq (jq [jm 39 13,jc 40 53 [39],jm 41 12,jb 42 .add 40 41,jf 43 2 7,jl 44 1 43,jb 45 .gtr 42 44] [1,3,4,5,7,12,13,14,45]
(jC 45
(jq [jm 47 1,jm 48 3,jm 49 4,jc 50 8 [47,48,49],jm 46 50,je 51 46 0,je 52 46 1,jm 15 51,jm 16 52] [15]
(jq [jm 53 15,jm 10 53,jk 11 .u8 20] [10,11]
.ret))
.skip))
(jq [jm 55 4,jm 56 13,jc 57 55 [56],jm 58 12,jc 59 54 [55,57,58],jm 54 59,je 60 54 0,je 61 54 1,js 17 (.alloc [(.bool false), .nil, (.int .i64 0)]),jw 3 17 60,jm 18 61] [1,3,4,5,7,13,14,17]
(jq [jm 63 1,jL 64 3 17,jc 65 56 [63,64],jm 62 65,je 66 62 0,je 67 62 1,jm 19 66,jm 20 67] [1,3,4,5,7,13,14,19]
(.seq (jq [jm 68 13,ji 69 .eql 68 .u64 0] [1,3,4,5,7,14,19,69]
(jC 69
(jr [jm 71 1,jm 72 4,jc 73 57 [71,72],jm 70 73,je 74 70 0,je 75 70 1,jm 19 74] [3,4,5,7,14,19])
.skip))
(.seq (jq [jm 76 14] [3,4,5,7,19,76]
(jC 76
(jq [jm 77 19,jm 10 77,jk 11 .u8 0] [10,11]
.ret)
.skip))
(jq [jL 79 3 5,jm 80 3,jm 81 4,jf 82 1 5,jl 83 1 82,jf 84 0 7,jl 85 1 84,jb 86 .sub 83 85,jc 87 52 [79,80,81,86],jm 78 87,je 88 78 0,je 89 78 1,jm 21 88,jm 22 89] [5,7,19,21]
(.seq (jq [jm 90 21,jc 91 53 [90],jf 92 1 5,jl 93 1 92,jb 94 .add 91 93,jf 95 0 7,jl 96 1 95,jb 97 .sub 94 96,jf 98 1 7,jl 99 1 98,jf 100 0 7,jl 101 1 100,jb 102 .add 99 101,jb 103 .lss 97 102] [19,103]
(jC 103
(jq [jm 104 19,jm 10 104,jk 11 .u8 24] [10,11]
.ret)
.skip))
(jq [jm 105 19,jm 10 105,jk 11 .u8 16] [10,11]
.ret)))))))))))⟩
def c_round_formOf : IFn := ⟨[.cell 2 true 3, .tmp 3],
(jq [js 2 (.alloc [(.int .i64 0), (.int .i64 0), (.int .i64 0)]),jv 3 false] [0,2]
(.seq (jq [jm 4 0] [2,4]
(.block 0
(jq [ji 6 .eql 4 .u8 1,jm 5 6] [2,4,5]
(jC 5
(jq [js 7 (.build [(.int .i64 0), (.int .i64 0), (.int .i64 0)] [(0, 1, (.c (.int .i64 24))), (1, 1, (.c (.int .i64 (-149)))), (2, 1, (.c (.int .i64 128)))]),jw 3 2 7,jv 3 true] [2,3]
.ret)
(jq [ji 9 .eql 4 .u8 2,jm 8 9] [2,8]
(jC 8
(jq [js 10 (.build [(.int .i64 0), (.int .i64 0), (.int .i64 0)] [(0, 1, (.c (.int .i64 53))), (1, 1, (.c (.int .i64 (-1074)))), (2, 1, (.c (.int .i64 1024)))]),jw 3 2 10,jv 3 true] [2,3]
.ret)
.skip))))))
(jq [js 11 (.build [(.int .i64 0), (.int .i64 0), (.int .i64 0)] []),jw 3 2 11,jv 3 false] [2,3]
.ret)))⟩
def c_round_part_units : IFn := ⟨[.tmp 8, .tmp 9],
(jq [jx 4 3 0,jk 8 .u64 0,jv 9 false] [1,2,3,4]
(jq [jm 14 3,jf 15 1 4,jl 16 1 15,jb 17 .sub 14 16,ji 18 .add 17 .i64 64,jm 10 18] [1,2,4,10]
(.seq (jq [jm 19 10,ji 20 .gtr 19 .i64 64] [1,2,4,10,20]
(jC 20
(jq [jm 21 1,jm 22 2,js 23 (.call false (.f 93) [(.t 21), (.t 22), (.c (.bool false)), (.c (.bool false)), (.c (.bool true))]),jc 24 92 [23],jm 8 24,jv 9 false] [8,9]
.ret)
.skip))
(jq [jf 25 2 4,jl 26 1 25,jk 11 .u64 0,jv 12 false,jm 13 26] [1,2,4,10,11,12,13]
(.seq (jq [jm 27 10,ji 28 .lss 27 .i64 64] [1,2,4,10,11,12,13,28]
(jC 28
(jr [jf 29 0 4,jl 30 1 29,jm 31 10,jb 32 .shr 30 31,jm 11 32] [1,2,4,10,11,12,13])
.skip))
(.seq (jq [jm 33 10,ji 34 .gtr 33 .i64 0] [1,2,4,10,11,12,13,34]
(jC 34
(jq [jf 35 0 4,jl 36 1 35,jm 37 10,ji 38 .sub 37 .i64 1,jb 39 .shr 36 38,ji 40 .and 39 .u64 1,ji 41 .eql 40 .u64 1,jm 12 41] [1,2,4,10,11,12,13]
(jr [jm 42 13,jm 43 42,jg (jf 44 0 4) 43 false,jg (jl 45 1 44) 43 false,jg (jm 46 10) 43 false,jg (ji 47 .sub 46 .i64 1) 43 false,jg (js 48 (.bin .shl (.c (.int .u64 1)) (.t 47))) 43 false,jg (ji 49 .sub 48 .u64 1) 43 false,jg (jb 50 .and 45 49) 43 false,jg (ji 51 .neq 50 .u64 0) 43 false,jP 52 43 51,jm 13 52] [1,2,11,12,13]))
.skip))
(jq [jm 53 11,jm 54 1,jm 55 2,jm 56 11,ji 57 .and 56 .u64 1,ji 58 .eql 57 .u64 1,jm 59 12,jm 60 13,jc 61 93 [54,55,58,59,60],jc 62 92 [61],jb 63 .add 53 62,jm 64 12,js 65 (.un .not (.t 64)),jm 66 65,jg (jm 67 13) 66 true,jg (js 68 (.un .not (.t 67))) 66 true,jp 69 66 68,jm 8 63,jm 9 69] [8,9]
.ret)))))))⟩
def c_round_btoi : IFn := ⟨[.tmp 2],
(jq [jk 2 .u64 0] [0]
(.seq (jq [jm 3 0] [3]
(jC 3
(jq [jk 2 .u64 1] [2]
.ret)
.skip))
(jq [jk 2 .u64 0] [2]
.ret)))⟩
def c_round_up : IFn := ⟨[.tmp 10],
(jq [jv 10 false] [0,1,2,3,4]
(.seq (jq [jm 11 0] [1,2,3,4,11]
(.block 0
(.seq (.block 4
(.seq (.block 3
(.seq (.block 2
(.seq (.block 1
(.seq (.seq (jq [ji 13 .eql 11 .u8 1,jm 12 13] [1,2,3,4,11,12]
(jC 12
(.exit 1)
.skip))
(.seq (jq [ji 15 .eql 11 .u8 2,jm 14 15] [1,3,4,11,14]
(jC 14
(.exit 2)
.skip))
(.seq (jq [ji 17 .eql 11 .u8 4,jm 16 17] [1,3,4,11,16]
(jC 16
(.exit 3)
.skip))
(jq [ji 19 .eql 11 .u8 5,jm 18 19] [1,3,4,18]
(jC 18
(.exit 4)
.skip)))))
(.exit 0)))
(jq [jm 20 4,js 21 (.un .not (.t 20)),jm 22 21,jg (jm 23 2) 22 true,jg (js 24 (.un .not (.t 23))) 22 true,jp 25 22 24] [3,25]
(jC 25
(jq [jv 10 false] [10]
.ret)
.skip))))
(.seq (jq [jm 26 3,jm 10 26] [10]
.ret)
(.exit 0))))
(.seq (jq [jm 27 1,js 28 (.un .not (.t 27)),jm 29 28,jg (jm 30 3) 29 true,jg (jm 31 30) 29 true,jg (jm 32 4) 31 false,jg (jP 33 31 32) 29 true,jp 34 29 33,jm 10 34] [10]
.ret)
(.exit 0))))
(.seq (jq [jm 35 1,jm 36 35,jg (jm 37 3) 36 true,jg (jm 38 37) 36 true,jg (jm 39 4) 38 false,jg (jP 40 38 39) 36 true,jp 41 36 40,jm 10 41] [10]
.ret)
(.exit 0)))))
(jq [jv 10 false] [10]
.ret)))⟩
structure HasE (gdb : Nat) (T : Tbl) : Prop where
  round_Round : T 7 = some c_round_Round
  round_Over : T 8 = some c_round_Over
  round_Quo : T 15 = some c_round_Quo
  round_Root : T 18 = some c_round_Root
  round_open : T 21 = some c_round_open
  round_partOf : T 23 = some c_round_partOf
  round_part_word : T 24 = some c_round_part_word
  round_formOf : T 47 = some c_round_formOf
  round_part_units : T 52 = some c_round_part_units
  round_btoi : T 92 = some c_round_btoi
  round_up : T 93 = some c_round_up
end Go.Cv
namespace Go.Cv
def c_ref03_None : IFn := ⟨[.tmp 2],
(jq [jk 2 .u64 0] [0]
(jq [jm 3 0,jm 4 0,jc 5 63 [4],jm 6 0,jc 7 31 [6],ji 8 .sub 7 .i64 1,js 9 (.bin .shl (.c (.int .u64 1)) (.t 8)),js 10 (.build [(.bool false), (.int .i64 0), (.int .u64 0)] [(1, 1, (.t 5)), (2, 1, (.t 9))]),jc 11 62 [3,10],jm 2 11] [2]
.ret))⟩
structure HasF (gdb : Nat) (T : Tbl) : Prop where
  ref03_None : T 157 = some c_ref03_None
end Go.Cv
namespace Go.Cv
def c_law05_known : IFn := ⟨[.tmp 0],
(jq [jv 0 false] []
(jq [js 8 (.call false (.f 164) [(.c (.int .u8 1)), (.c (.int .u8 1)), (.c (.int .u64 1065353216)), (.c (.int .u64 1065353216))]),jm 7 8,je 9 7 0,je 10 7 1,je 11 7 2,jm 1 9,jm 2 10,jm 3 11] [1,2,3]
(jq [js 13 (.call false (.f 175) [(.c (.int .u8 1)), (.c (.int .u8 1)), (.c (.int .u64 1065353216)), (.c (.int .u64 813694976)), (.c (.int .u64 1065353216))]),jm 12 13,je 14 12 0,je 15 12 1,je 16 12 2,jm 4 14,jm 5 15,jm 6 16] [1,2,3,4,5,6]
(jq [jm 17 1,ji 18 .eql 17 .u64 1073741824,jm 19 18,jg (jm 20 2) 19 true,jg (ji 21 .eql 20 .u8 0) 19 true,jp 22 19 21,jm 23 22,jg (jm 24 3) 23 true,jg (ji 25 .eql 24 .i64 0) 23 true,jp 26 23 25,jm 27 26,jg (jm 28 4) 27 true,jg (ji 29 .eql 28 .u64 1065353216) 27 true,jp 30 27 29,jm 31 30,jg (jm 32 5) 31 true,jg (ji 33 .eql 32 .u8 16) 31 true,jp 34 31 33,jm 35 34,jg (jm 36 6) 35 true,jg (ji 37 .eql 36 .i64 0) 35 true,jp 38 35 37,jm 0 38] [0]
.ret))))⟩
def c_soft_Add : IFn := ⟨[.tmp 8, .tmp 9, .tmp 10],
(jq [jk 8 .u64 0,jk 9 .u8 0,jk 10 .i64 0] [0,1,2,3]
(jq [jm 14 0,jm 15 1,jm 16 2,jm 17 3,js 18 (.bslice 2 1 [(.int .u64 0)] [(0, 1, (.t 16)), (1, 1, (.t 17))]),jc 19 176 [14,15,18],jm 13 19,je 20 13 0,je 21 13 1,jm 11 20,jm 12 21] [0,1,11,12]
(.seq (jq [jm 22 12,ji 23 .neq 22 .i64 0] [0,1,11,12,23]
(jC 23
(jq [jm 24 12,jk 8 .u64 0,jk 9 .u8 0,jm 10 24] [8,9,10]
.ret)
.skip))
(jq [jm 25 0,jm 26 1,js 27 (.build [(.int .u8 0), (.int .u8 0)] [(0, 1, (.t 25)), (1, 1, (.t 26))]),jm 28 11,js 29 (.iaddr 5 (.t 28) (.c (.int .i64 0))),jL 30 5 29,jm 31 11,js 32 (.iaddr 5 (.t 31) (.c (.int .i64 1))),jL 33 5 32,jc 34 177 [27,30,33],je 35 34 0,je 36 34 1,je 37 34 2,jm 8 35,jm 9 36,jm 10 37] [8,9,10]
.ret))))⟩
def c_soft_Mul : IFn := ⟨[.tmp 8, .tmp 9, .tmp 10],
(jq [jk 8 .u64 0,jk 9 .u8 0,jk 10 .i64 0] [0,1,2,3]
(jq [jm 20 0,jm 21 1,jm 22 2,jm 23 3,js 24 (.bslice 2 1 [(.int .u64 0)] [(0, 1, (.t 22)), (1, 1, (.t 23))]),jc 25 176 [20,21,24],jm 19 25,je 26 19 0,je 27 19 1,jm 11 26,jm 12 27] [0,1,11,12]
(.seq (jq [jm 28 12,ji 29 .neq 28 .i64 0] [0,1,11,12,29]
(jC 29
(jq [jm 30 12,jk 8 .u64 0,jk 9 .u8 0,jm 10 30] [8,9,10]
.ret)
.skip))
(.seq (.reg [jm 31 0,jm 32 1,js 33 (.build [(.int .u8 0), (.int .u8 0)] [(0, 1, (.t 31)), (1, 1, (.t 32))]),jm 34 11,js 35 (.iaddr 5 (.t 34) (.c (.int .i64 0))),jL 36 5 35,jm 37 11,js 38 (.iaddr 5 (.t 37) (.c (.int .i64 1))),jL 39 5 38,js 13 (.alloc [(.int .u8 0), (.int .u8 0)]),js 14 (.alloc [(.int .u8 0), (.bool false), (.bool false), .nil, (.int .i64 0)]),js 15 (.alloc [(.int .u8 0), (.bool false), (.bool false), .nil, (.int .i64 0)]),jw 2 13 33,jw 5 14 36,jw 5 15 39] [11, 13, 14, 15] [(5, 12), (8, 12), (8, 13)])
(jq [jf 40 1 14,jl 41 1 40,jf 42 1 15,jl 43 1 42,js 44 (.eqb true (.t 41) (.t 43)),jm 16 44] [11,13,14,15,16]
(.seq (.block 0
(jq [jm 46 11,js 47 (.call false (.f 178) [(.c (.int .u8 5)), (.t 46)]),jm 45 47] [11,13,14,15,16,45]
(jC 45
(jq [jL 48 2 13,js 49 (.call false (.f 179) [(.t 48), (.c (.int .u8 0))]),je 50 49 0,je 51 49 1,je 52 49 2,jm 8 50,jm 9 51,jm 10 52] [8,9,10]
.ret)
(jq [jm 54 11,js 55 (.call false (.f 178) [(.c (.int .u8 4)), (.t 54)]),jm 56 55,jg (jm 57 11) 56 true,jg (js 58 (.call false (.f 178) [(.c (.int .u8 1)), (.t 57)])) 56 true,jp 59 56 58,jm 53 59] [11,13,14,15,16,53]
(jC 53
(jq [jL 60 2 13,js 61 (.call false (.f 179) [(.t 60), (.c (.int .u8 1))]),je 62 61 0,je 63 61 1,je 64 61 2,jm 8 62,jm 9 63,jm 10 64] [8,9,10]
.ret)
(jq [jm 66 11,js 67 (.call false (.f 178) [(.c (.int .u8 4)), (.t 66)]),jm 65 67] [11,13,14,15,16,65]
(jC 65
(jq [jL 68 2 13,jm 69 16,js 70 (.call false (.f 180) [(.t 68), (.t 69), (.c (.int .u8 0))]),je 71 70 0,je 72 70 1,je 73 70 2,jm 8 71,jm 9 72,jm 10 73] [8,9,10]
.ret)
(jq [jm 75 11,js 76 (.call false (.f 178) [(.c (.int .u8 1)), (.t 75)]),jm 74 76] [13,14,15,16,74]
(jC 74
(jq [jL 77 2 13,jm 78 16,jc 79 181 [77,78],je 80 79 0,je 81 79 1,je 82 79 2,jm 8 80,jm 9 81,jm 10 82] [8,9,10]
.ret)
.skip)))))))))
(jq [jf 84 2 14,jL 85 3 84,jf 86 2 15,jL 87 3 86,jc 88 182 [85,87],jm 83 88,je 89 83 0,je 90 83 1,js 17 (.alloc [(.bool false), .nil, (.int .i64 0)]),jw 3 17 89,jm 18 90] [13,17]
(jq [jL 91 2 13,jL 92 3 17,jc 93 183 [91,92],je 94 93 0,je 95 93 1,je 96 93 2,jm 8 94,jm 9 95,jm 10 96] [8,9,10]
.ret))))))))⟩
def c_soft_Sub : IFn := ⟨[.tmp 8, .tmp 9, .tmp 10],
(jq [jk 8 .u64 0,jk 9 .u8 0,jk 10 .i64 0] [0,1,2,3]
(jq [jm 15 0,jm 16 1,jm 17 2,jm 18 3,js 19 (.bslice 2 1 [(.int .u64 0)] [(0, 1, (.t 17)), (1, 1, (.t 18))]),jc 20 176 [15,16,19],jm 14 20,je 21 14 0,je 22 14 1,jm 11 21,jm 12 22] [0,1,11,12]
(.seq (jq [jm 23 12,ji 24 .neq 23 .i64 0] [0,1,11,12,24]
(jC 24
(jq [jm 25 12,jk 8 .u64 0,jk 9 .u8 0,jm 10 25] [8,9,10]
.ret)
.skip))
(jq [jm 26 11,js 27 (.iaddr 5 (.t 26) (.c (.int .i64 1))),jL 28 5 27,js 13 (.alloc [(.int .u8 0), (.bool false), (.bool false), .nil, (.int .i64 0)]),jw 5 13 28] [0,1,11,13]
(jq [jf 29 1 13,jl 30 1 29,js 31 (.un .not (.t 30)),jf 32 1 13,jw 1 32 31] [0,1,11,13]
(jq [jf 34 2 13,jL 35 3 34,jc 36 184 [35],jm 33 36,je 37 33 0,je 38 33 1,jf 39 2 13,jw 3 39 37] [0,1,11,13]
(jq [jm 40 0,jm 41 1,js 42 (.build [(.int .u8 0), (.int .u8 0)] [(0, 1, (.t 40)), (1, 1, (.t 41))]),jm 43 11,js 44 (.iaddr 5 (.t 43) (.c (.int .i64 0))),jL 45 5 44,jL 46 5 13,jc 47 177 [42,45,46],je 48 47 0,je 49 47 1,je 50 47 2,jm 8 48,jm 9 49,jm 10 50] [8,9,10]
.ret)))))))⟩
def c_soft_MulAdd : IFn := ⟨[.tmp 10, .tmp 11, .tmp 12],
(jq [jk 10 .u64 0,jk 11 .u8 0,jk 12 .i64 0] [0,1,2,3,4]
(jq [jm 21 0,jm 22 1,jm 23 2,jm 24 3,jm 25 4,js 26 (.bslice 3 1 [(.int .u64 0)] [(0, 1, (.t 23)), (1, 1, (.t 24)), (2, 1, (.t 25))]),jc 27 176 [21,22,26],jm 20 27,je 28 20 0,je 29 20 1,jm 13 28,jm 14 29] [0,1,13,14]
(.seq (jq [jm 30 14,ji 31 .neq 30 .i64 0] [0,1,13,14,31]
(jC 31
(jq [jm 32 14,jk 10 .u64 0,jk 11 .u8 0,jm 12 32] [10,11,12]
.ret)
.skip))
(.seq (.reg [jm 33 0,jm 34 1,js 35 (.build [(.int .u8 0), (.int .u8 0)] [(0, 1, (.t 33)), (1, 1, (.t 34))]),jm 36 13,js 37 (.iaddr 5 (.t 36) (.c (.int .i64 0))),jL 38 5 37,jm 39 13,js 40 (.iaddr 5 (.t 39) (.c (.int .i64 1))),jL 41 5 40,jm 42 13,js 43 (.iaddr 5 (.t 42) (.c (.int .i64 2))),jL 44 5 43,js 15 (.alloc [(.int .u8 0), (.int .u8 0)]),js 16 (.alloc [(.int .u8 0), (.bool false), (.bool false), .nil, (.int .i64 0)]),js 17 (.alloc [(.int .u8 0), (.bool false), (.bool false), .nil, (.int .i64 0)]),js 18 (.alloc [(.int .u8 0), (.bool false), (.bool false), .nil, (.int .i64 0)]),jw 2 15 35,jw 5 16 38,jw 5 17 41,jw 5 18 44] [13, 15, 16, 17, 18] [(5, 16), (8, 16), (11, 16), (8, 17), (11, 17), (11, 18)])
(jq [jf 45 1 16,jl 46 1 45,jf 47 1 17,jl 48 1 47,js 49 (.eqb true (.t 46) (.t 48)),js 50 (.build [(.int .u8 0), (.bool false), (.bool false), .nil, (.int .i64 0)] [(0, 1, (.c (.int .u8 3))), (1, 1, (.t 49))]),js 19 (.alloc [(.int .u8 0), (.bool false), (.bool false), .nil, (.int .i64 0)]),jw 5 19 50] [13,15,16,17,18,19]
(.seq (.block 0
(jq [jm 61 13,js 62 (.call false (.f 178) [(.c (.int .u8 5)), (.t 61)]),jm 60 62] [15,16,17,18,19,60]
(jC 60
(jq [jL 63 2 15,js 64 (.call false (.f 179) [(.t 63), (.c (.int .u8 0))]),je 65 64 0,je 66 64 1,je 67 64 2,jm 10 65,jm 11 66,jm 12 67] [10,11,12]
.ret)
(jq [jL 69 5 16,jL 70 5 17,js 71 (.bslice 2 5 [(.int .u8 0), (.bool false), (.bool false), .nil, (.int .i64 0)] [(0, 5, (.t 69)), (5, 5, (.t 70))]),js 72 (.call false (.f 178) [(.c (.int .u8 4)), (.t 71)]),jm 73 72,jg (jL 74 5 16) 73 true,jg (jL 75 5 17) 73 true,jg (js 76 (.bslice 2 5 [(.int .u8 0), (.bool false), (.bool false), .nil, (.int .i64 0)] [(0, 5, (.t 74)), (5, 5, (.t 75))])) 73 true,jg (js 77 (.call false (.f 178) [(.c (.int .u8 1)), (.t 76)])) 73 true,jp 78 73 77,jm 68 78] [15,16,17,18,19,68]
(jC 68
(jq [jL 79 2 15,js 80 (.call false (.f 179) [(.t 79), (.c (.int .u8 1))]),je 81 80 0,je 82 80 1,je 83 80 2,jm 10 81,jm 11 82,jm 12 83] [10,11,12]
.ret)
(jq [jL 85 5 16,jL 86 5 17,js 87 (.bslice 2 5 [(.int .u8 0), (.bool false), (.bool false), .nil, (.int .i64 0)] [(0, 5, (.t 85)), (5, 5, (.t 86))]),js 88 (.call false (.f 178) [(.c (.int .u8 4)), (.t 87)]),jm 84 88] [15,16,17,18,19,84]
(jC 84
(jr [jf 89 0 19,⟨none, .store 1 (.t 89) (.c (.int .u8 4)), none⟩] [15,18,19])
(jq [jL 91 5 16,jL 92 5 17,js 93 (.bslice 2 5 [(.int .u8 0), (.bool false), (.bool false), .nil, (.int .i64 0)] [(0, 5, (.t 91)), (5, 5, (.t 92))]),js 94 (.call false (.f 178) [(.c (.int .u8 1)), (.t 93)]),jm 90 94] [15,16,17,18,19,90]
(jC 90
(jr [jf 95 0 19,⟨none, .store 1 (.t 95) (.c (.int .u8 1)), none⟩] [15,18,19])
(jr [jf 52 2 16,jL 53 3 52,jf 54 2 17,jL 55 3 54,jc 56 182 [53,55],jm 51 56,je 57 51 0,je 58 51 1,jf 59 2 19,jw 3 59 57] [15,18,19]))))))))))
(jq [jL 96 2 15,jL 97 5 19,jL 98 5 18,jc 99 177 [96,97,98],je 100 99 0,je 101 99 1,je 102 99 2,jm 10 100,jm 11 101,jm 12 102] [10,11,12]
.ret)))))))⟩
def c_soft_open_b1 : IC :=
(jq [jb 34 .lss 33 32] [0,10,31,32,33,34]
(.seq (jC 34
.skip
(.exit 0))
(.seq (.block 1
(jq [ja 35 1 31 33,jl 36 1 35,jm 12 36] [0,10,12,31,32,33]
(jq [jm 38 0,jm 39 12,jc 40 192 [38,39],jm 37 40,je 41 37 0,je 42 37 1,js 13 (.alloc [(.bool false), (.int .i64 0), (.int .u64 0)]),jw 3 13 41,jm 14 42] [0,10,12,13,14,31,32,33]
(.seq (jq [jm 43 14,ji 44 .neq 43 .i64 0] [0,10,12,13,14,31,32,33,44]
(jC 44
(jq [jm 45 14,js 6 (.mov (.c .nil)),jm 7 45] [6,7]
.ret)
.skip))
(jq [jm 47 0,jm 48 12,jc 49 193 [47,48],jm 46 49,je 50 46 0,je 51 46 1,jm 15 50,jm 16 51] [0,10,12,13,15,31,32,33]
(jq [jm 53 0,jm 54 12,jc 55 194 [53,54],jm 52 55,je 56 52 0,je 57 52 1,js 17 (.alloc [(.bool false), .nil, (.int .i64 0)]),jw 3 17 56,jm 18 57] [0,10,13,15,17,31,32,33]
(jr [jm 58 10,jm 59 15,jf 60 0 13,jl 61 1 60,jL 62 3 17,js 63 (.build [(.int .u8 0), (.bool false), (.bool false), .nil, (.int .i64 0)] [(0, 1, (.t 59)), (1, 1, (.t 61)), (2, 3, (.t 62))]),js 64 (.bslice 1 5 [(.int .u8 0), (.bool false), (.bool false), .nil, (.int .i64 0)] [(0, 5, (.t 63))]),js 65 (.app 5 48 (.t 58) (.t 64)),jm 10 65] [0,10,31,32,33])))))))
(jr [ji 66 .add 33 .i64 1,jm 33 66] [0,10,31,32,33]))))
def c_soft_open_l1 : IC := .loop [0, 10, 31, 32, 33] c_soft_open_b1
def c_soft_open : IFn := ⟨[.tmp 6, .tmp 7],
(jq [js 6 (.mov (.c .nil)),jk 7 .i64 0] [0,1,2]
(.seq (jq [jm 20 0,jm 21 1,js 22 (.call false (.f 8) [(.t 20), (.t 21), (.c (.bool false))]),jm 19 22,je 23 19 0,je 24 19 1,jm 8 23,jm 9 24] [0,2,9]
(jq [jm 25 9,ji 26 .neq 25 .i64 0] [0,2,9,26]
(jC 26
(jq [jm 27 9,js 6 (.mov (.c .nil)),jm 7 27] [6,7]
.ret)
.skip)))
(jq [jm 28 2,jn 29 28,js 30 (.mk 5 48 [(.int .u8 0), (.bool false), (.bool false), .nil, (.int .i64 0)] (.c (.int .i64 0)) (.t 29)),jm 10 30] [0,2,10]
(.seq (jq [jm 31 2,jn 32 31,jk 33 .i64 0] [0,10,31,32,33]
(.block 0
 c_soft_open_l1))
(jq [jm 67 10,jm 6 67,jk 7 .i64 0] [6,7]
.ret)))))⟩
def c_soft_desk_add : IFn := ⟨[.tmp 6, .tmp 7, .tmp 8],
(jq [jx 3 2 0,jx 4 5 1,jx 5 5 2,jk 6 .u64 0,jk 7 .u8 0,jk 8 .i64 0] [3,4,5]
(.seq (.block 0
(jq [jL 12 5 4,jL 13 5 5,js 14 (.bslice 2 5 [(.int .u8 0), (.bool false), (.bool false), .nil, (.int .i64 0)] [(0, 5, (.t 12)), (5, 5, (.t 13))]),js 15 (.call false (.f 178) [(.c (.int .u8 5)), (.t 14)]),jm 11 15] [3,4,5,11]
(jC 11
(jq [jL 16 2 3,js 17 (.call false (.f 179) [(.t 16), (.c (.int .u8 0))]),je 18 17 0,je 19 17 1,je 20 17 2,jm 6 18,jm 7 19,jm 8 20] [6,7,8]
.ret)
(jq [jf 22 0 4,jl 23 1 22,ji 24 .eql 23 .u8 4,jm 25 24,jg (jf 26 0 5) 25 true,jg (jl 27 1 26) 25 true,jg (ji 28 .eql 27 .u8 4) 25 true,jp 29 25 28,jm 30 29,jg (jf 31 1 4) 30 true,jg (jl 32 1 31) 30 true,jg (jf 33 1 5) 30 true,jg (jl 34 1 33) 30 true,jg (js 35 (.eqb true (.t 32) (.t 34))) 30 true,jp 36 30 35,jm 21 36] [3,4,5,21]
(jC 21
(jq [jL 37 2 3,js 38 (.call false (.f 179) [(.t 37), (.c (.int .u8 1))]),je 39 38 0,je 40 38 1,je 41 38 2,jm 6 39,jm 7 40,jm 8 41] [6,7,8]
.ret)
(jq [jf 43 0 4,jl 44 1 43,ji 45 .eql 44 .u8 4,jm 42 45] [3,4,5,42]
(jC 42
(jq [jL 46 2 3,jf 47 1 4,jl 48 1 47,js 49 (.call false (.f 180) [(.t 46), (.t 48), (.c (.int .u8 0))]),je 50 49 0,je 51 49 1,je 52 49 2,jm 6 50,jm 7 51,jm 8 52] [6,7,8]
.ret)
(jq [jf 54 0 5,jl 55 1 54,ji 56 .eql 55 .u8 4,jm 53 56] [3,4,5,53]
(jC 53
(jq [jL 57 2 3,jf 58 1 5,jl 59 1 58,js 60 (.call false (.f 180) [(.t 57), (.t 59), (.c (.int .u8 0))]),je 61 60 0,je 62 60 1,je 63 60 2,jm 6 61,jm 7 62,jm 8 63] [6,7,8]
.ret)
(jq [jf 65 0 4,jl 66 1 65,ji 67 .eql 66 .u8 1,jm 68 67,jg (jf 69 0 5) 68 true,jg (jl 70 1 69) 68 true,jg (ji 71 .eql 70 .u8 1) 68 true,jp 72 68 71,jm 73 72,jg (jf 74 1 4) 73 true,jg (jl 75 1 74) 73 true,jg (jf 76 1 5) 73 true,jg (jl 77 1 76) 73 true,jg (js 78 (.eqb false (.t 75) (.t 77))) 73 true,jp 79 73 78,jm 64 79] [3,4,5,64]
(jC 64
(jq [jL 80 2 3,jf 81 1 4,jl 82 1 81,jc 83 181 [80,82],je 84 83 0,je 85 83 1,je 86 83 2,jm 6 84,jm 7 85,jm 8 86] [6,7,8]
.ret)
.skip)))))))))))
(jq [jf 88 2 4,jL 89 3 88,jf 90 2 5,jL 91 3 90,jc 92 195 [89,91],jm 87 92,je 93 87 0,je 94 87 1,js 9 (.alloc [(.bool false), .nil, (.int .i64 0)]),jw 3 9 93,jm 10 94] [3,9]
(jq [jL 95 2 3,jL 96 3 9,jc 97 183 [95,96],je 98 97 0,je 99 97 1,je 100 97 2,jm 6 98,jm 7 99,jm 8 100] [6,7,8]
.ret))))⟩
def c_soft_has_b1 : IC :=
(jq [jb 10 .lss 9 8] [0,7,8,9,10]
(.seq (jC 10
.skip
(.exit 0))
(.seq (.block 1
(jq [ja 11 5 7 9,jL 12 5 11,js 6 (.alloc [(.int .u8 0), (.bool false), (.bool false), .nil, (.int .i64 0)]),jw 5 6 12] [0,6,7,8,9]
(jq [jf 13 0 6,jl 14 1 13,jm 15 0,jb 16 .eql 14 15] [0,7,8,9,16]
(jC 16
(jq [jv 4 true] [4]
.ret)
.skip))))
(jr [ji 17 .add 9 .i64 1,jm 9 17] [0,7,8,9]))))
def c_soft_has_l1 : IC := .loop [0, 7, 8, 9] c_soft_has_b1
def c_soft_has : IFn := ⟨[.tmp 4],
(jq [jv 4 false] [0,1]
(.seq (jq [jm 7 1,jn 8 7,jk 9 .i64 0] [0,7,8,9]
(.block 0
 c_soft_has_l1))
(jq [jv 4 false] [4]
.ret)))⟩
def c_soft_desk_none : IFn := ⟨[.tmp 4, .tmp 5, .tmp 6],
(jq [jx 2 2 0,jk 4 .u64 0,jk 5 .u8 0,jk 6 .i64 0] [1,2]
(jq [jf 10 0 2,jl 11 1 10,jc 12 196 [11],jm 9 12,je 13 9 0,je 14 9 1,jm 7 13,jm 8 14] [1,7,8]
(jq [jm 15 7,jm 16 1,jm 17 8,jm 4 15,jm 5 16,jm 6 17] [4,5,6]
.ret)))⟩
def c_soft_desk_inf : IFn := ⟨[.tmp 6, .tmp 7, .tmp 8],
(jq [jx 3 2 0,jk 6 .u64 0,jk 7 .u8 0,jk 8 .i64 0] [1,2,3]
(jq [jf 12 0 3,jl 13 1 12,jm 14 1,jc 15 26 [13,14],jm 11 15,je 16 11 0,je 17 11 1,jm 9 16,jm 10 17] [2,9,10]
(jq [jm 18 9,jm 19 2,jm 20 10,jm 6 18,jm 7 19,jm 8 20] [6,7,8]
.ret)))⟩
def c_soft_desk_zero : IFn := ⟨[.tmp 4, .tmp 5, .tmp 6],
(jq [jx 2 2 0,jk 4 .u64 0,jk 5 .u8 0,jk 6 .i64 0] [1,2]
(jq [jf 10 0 2,jl 11 1 10,jm 12 1,jc 13 57 [11,12],jm 9 13,je 14 9 0,je 15 9 1,jm 7 14,jm 8 15] [7,8]
(jq [jm 16 7,jm 17 8,jm 4 16,jk 5 .u8 0,jm 6 17] [4,5,6]
.ret)))⟩
def c_dyad_Mul : IFn := ⟨[.cell 4 true 3, .tmp 5],
(jq [jx 2 3 0,jx 3 3 1,js 4 (.alloc [(.bool false), .nil, (.int .i64 0)]),jk 5 .i64 0] [2,3,4]
(.seq (jq [jL 8 3 2,jL 9 3 3,js 10 (.bslice 2 3 [(.bool false), .nil, (.int .i64 0)] [(0, 3, (.t 8)), (3, 3, (.t 9))]),jc 11 74 [10],js 12 (.un .not (.t 11))] [2,3,4,12]
(jC 12
(jq [js 13 (.build [(.bool false), .nil, (.int .i64 0)] []),jw 3 4 13,jk 5 .i64 2] [4,5]
.ret)
.skip))
(jq [jf 15 1 2,jl 16 1 15,jf 17 1 3,jl 18 1 17,jc 19 197 [16,18],jm 14 19,je 20 14 0,je 21 14 1,jm 6 20,jm 7 21] [2,3,4,6,7]
(.seq (jq [jm 22 7,ji 23 .neq 22 .i64 0] [2,3,4,6,7,23]
(jC 23
(jq [js 24 (.build [(.bool false), .nil, (.int .i64 0)] []),jm 25 7,jw 3 4 24,jm 5 25] [4,5]
.ret)
.skip))
(jq [jf 26 0 2,jl 27 1 26,jf 28 0 3,jl 29 1 28,js 30 (.eqb true (.t 27) (.t 29)),jm 31 6,jf 32 2 2,jl 33 1 32,jf 34 2 3,jl 35 1 34,jb 36 .add 33 35,jc 37 54 [30,31,36],je 38 37 0,je 39 37 1,jw 3 4 38,jm 5 39] [4,5]
.ret)))))⟩
def c_soft_desk_sum : IFn := ⟨[.tmp 4, .tmp 5, .tmp 6],
(jq [jx 2 2 0,jx 3 3 1,jk 4 .u64 0,jk 5 .u8 0,jk 6 .i64 0] [2,3]
(.seq (jq [jL 7 3 3,jc 8 22 [7],ji 9 .eql 8 .i64 0] [2,3,9]
(jC 9
(jq [jL 10 2 2,jf 11 1 2,jl 12 1 11,ji 13 .eql 12 .u8 5,jc 14 181 [10,13],je 15 14 0,je 16 14 1,je 17 14 2,jm 4 15,jm 5 16,jm 6 17] [4,5,6]
.ret)
.skip))
(jq [jf 18 0 2,jl 19 1 18,jf 20 1 2,jl 21 1 20,jL 22 3 3,jc 23 7 [19,21,22],je 24 23 0,je 25 23 1,je 26 23 2,jm 4 24,jm 5 25,jm 6 26] [4,5,6]
.ret)))⟩
def c_dyad_Neg : IFn := ⟨[.cell 2 true 3, .tmp 3],
(jq [jx 1 3 0,js 2 (.alloc [(.bool false), .nil, (.int .i64 0)]),jk 3 .i64 0] [1,2]
(.seq (jq [jL 4 3 1,jc 5 48 [4],js 6 (.un .not (.t 5))] [1,2,6]
(jC 6
(jq [js 7 (.build [(.bool false), .nil, (.int .i64 0)] []),jw 3 2 7,jk 3 .i64 2] [2,3]
.ret)
.skip))
(jq [jL 8 3 1,jf 9 0 1,jl 10 1 9,js 11 (.un .not (.t 10)),jc 12 198 [8,11],jw 3 2 12,jk 3 .i64 0] [2,3]
.ret)))⟩
def c_word_Split : IFn := ⟨[.cell 4 true 3, .tmp 5],
(jq [js 4 (.alloc [(.bool false), (.int .i64 0), (.int .u64 0)]),jk 5 .i64 0] [0,1,4]
(jq [jm 9 0,jm 10 1,js 11 (.bslice 1 1 [(.int .u64 0)] [(0, 1, (.t 10))]),jc 12 95 [9,11],jm 8 12,je 13 8 0,je 14 8 1,js 6 (.alloc [(.int .i64 0), (.int .i64 0), (.int .u64 0)]),jw 3 6 13,jm 7 14] [1,4,6,7]
(.seq (jq [jm 15 7,ji 16 .neq 15 .i64 0] [1,4,6,7,16]
(jC 16
(jq [js 17 (.build [(.bool false), (.int .i64 0), (.int .u64 0)] []),jm 18 7,jw 3 4 17,jm 5 18] [4,5]
.ret)
.skip))
(jq [jL 19 3 6,jm 20 1,jc 21 200 [19,20],jw 3 4 21,jk 5 .i64 0] [4,5]
.ret))))⟩
def c_word_Class : IFn := ⟨[.tmp 4, .tmp 5],
(jq [jk 4 .u8 0,jk 5 .i64 0] [0,1]
(jq [jm 9 0,jm 10 1,js 11 (.bslice 1 1 [(.int .u64 0)] [(0, 1, (.t 10))]),jc 12 95 [9,11],jm 8 12,je 13 8 0,je 14 8 1,js 6 (.alloc [(.int .i64 0), (.int .i64 0), (.int .u64 0)]),jw 3 6 13,jm 7 14] [1,6,7]
(.seq (jq [jm 15 7,ji 16 .neq 15 .i64 0] [1,6,7,16]
(jC 16
(jq [jm 17 7,jk 4 .u8 0,jm 5 17] [4,5]
.ret)
.skip))
(jq [jL 18 3 6,jm 19 1,jc 20 201 [18,19],jm 4 20,jk 5 .i64 0] [4,5]
.ret))))⟩
def c_word_Value : IFn := ⟨[.cell 4 true 3, .tmp 5],
(jq [js 4 (.alloc [(.bool false), .nil, (.int .i64 0)]),jk 5 .i64 0] [0,1,4]
(jq [jm 10 0,jm 11 1,jc 12 202 [10,11],jm 9 12,je 13 9 0,je 14 9 1,js 6 (.alloc [(.int .i64 0), (.int .i64 0), (.int .u64 0)]),jw 3 6 13,jm 7 14] [1,4,6,7]
(.seq (jq [jm 15 7,ji 16 .neq 15 .i64 0] [1,4,6,7,16]
(jC 16
(jq [js 17 (.build [(.bool false), .nil, (.int .i64 0)] []),jm 18 7,jw 3 4 17,jm 5 18] [4,5]
.ret)
.skip))
(jq [jL 19 3 6,jm 20 1,jc 21 200 [19,20],js 8 (.alloc [(.bool false), (.int .i64 0), (.int .u64 0)]),jw 3 8 21] [4,6,8]
(.seq (jq [jf 22 1 8,jl 23 1 22,ji 24 .gtr 23 .i64 0] [4,6,8,24]
(jC 24
(jr [jf 25 2 8,jl 26 1 25,jf 27 0 6,jl 28 1 27,js 29 (.bin .shl (.c (.int .u64 1)) (.t 28)),jb 30 .or 26 29,jf 31 2 8,jw 1 31 30] [4,6,8])
.skip))
(jq [jf 32 0 8,jl 33 1 32,jf 34 2 8,jl 35 1 34,jc 36 55 [35],jf 37 1 8,jl 38 1 37,js 39 (.mm true (.t 38) [(.c (.int .i64 1))]),ji 40 .sub 39 .i64 1,jL 41 3 6,jc 42 96 [41],jb 43 .add 40 42,jc 44 54 [33,36,43],je 45 44 0,je 46 44 1,jw 3 4 45,jm 5 46] [4,5]
.ret))))))⟩
def c_dyad_Add : IFn := ⟨[.cell 4 true 3, .tmp 5],
(jq [jx 2 3 0,jx 3 3 1,js 4 (.alloc [(.bool false), .nil, (.int .i64 0)]),jk 5 .i64 0] [2,3,4]
(.seq (jq [jL 6 3 2,jL 7 3 3,js 8 (.bslice 2 3 [(.bool false), .nil, (.int .i64 0)] [(0, 3, (.t 6)), (3, 3, (.t 7))]),jc 9 74 [8],js 10 (.un .not (.t 9))] [2,3,4,10]
(jC 10
(jq [js 11 (.build [(.bool false), .nil, (.int .i64 0)] []),jw 3 4 11,jk 5 .i64 2] [4,5]
.ret)
.skip))
(jq [jL 12 3 2,jL 13 3 3,jc 14 203 [12,13],je 15 14 0,je 16 14 1,jw 3 4 15,jm 5 16] [4,5]
.ret)))⟩
def c_word_None : IFn := ⟨[.tmp 2, .tmp 3],
(jq [jk 2 .u64 0,jk 3 .i64 0] [0]
(jq [jm 4 0,js 5 (.call false (.f 58) [(.t 4), (.c (.bool false)), (.f 204)]),je 6 5 0,je 7 5 1,jm 2 6,jm 3 7] [2,3]
.ret))⟩
def c_nat_Mul : IFn := ⟨[.tmp 4, .tmp 5],
(jq [js 4 (.mov (.c .nil)),jk 5 .i64 0] [0,1]
(.seq (jq [jm 6 0,jm 7 1,js 8 (.bslice 2 1 [.nil] [(0, 1, (.t 6)), (1, 1, (.t 7))]),jc 9 106 [8],js 10 (.un .not (.t 9))] [0,1,10]
(jC 10
(jq [js 4 (.mov (.c .nil)),jk 5 .i64 2] [4,5]
.ret)
.skip))
(.seq (jq [jm 11 0,jn 12 11,ji 13 .gtr 12 .i64 0,jm 14 13,jg (jm 15 1) 14 true,jg (jn 16 15) 14 true,jg (ji 17 .gtr 16 .i64 0) 14 true,jp 18 14 17,jm 19 18,jg (jm 20 0) 19 true,jg (jn 21 20) 19 true,jg (jm 22 1) 19 true,jg (jn 23 22) 19 true,jg (jb 24 .add 21 23) 19 true,jg (ji 25 .sub 24 .i64 1) 19 true,jg (ji 26 .gtr 25 .i64 4096) 19 true,jp 27 19 26] [0,1,27]
(jC 27
(jq [js 4 (.mov (.c .nil)),jk 5 .i64 3] [4,5]
.ret)
.skip))
(jq [jm 28 0,jm 29 1,jc 30 113 [28,29],jc 31 117 [30],je 32 31 0,je 33 31 1,jm 4 32,jm 5 33] [4,5]
.ret))))⟩
def c_dyad_signed : IFn := ⟨[.cell 4 true 3],
(jq [jx 2 3 0,js 4 (.alloc [(.bool false), .nil, (.int .i64 0)])] [1,2,4]
(jq [jL 5 3 2,jc 6 205 [5],jw 3 2 6] [1,2,4]
(jq [jm 7 1,jm 8 7,jg (jf 9 1 2) 8 true,jg (jl 10 1 9) 8 true,jg (jn 11 10) 8 true,jg (ji 12 .gtr 11 .i64 0) 8 true,jp 13 8 12,jf 14 0 2,jw 1 14 13] [2,4]
(jq [jL 15 3 2,jw 3 4 15] [4]
.ret))))⟩
def c_word_shape_split : IFn := ⟨[.cell 4 true 3],
(jq [jx 2 3 0,js 4 (.alloc [(.bool false), (.int .i64 0), (.int .u64 0)])] [1,2,4]
(jq [jm 6 1,jf 7 2 2,jl 8 1 7,jb 9 .andNot 6 8,jm 5 9] [1,2,4,5]
(jq [jm 10 1,jf 11 2 2,jl 12 1 11,jb 13 .and 10 12,ji 14 .neq 13 .u64 0,jm 15 5,jf 16 0 2,jl 17 1 16,jb 18 .shr 15 17,js 19 (.cvt .i64 (.t 18)),jm 20 5,jf 21 0 2,jl 22 1 21,js 23 (.bin .shl (.c (.int .u64 1)) (.t 22)),ji 24 .sub 23 .u64 1,jb 25 .and 20 24,js 26 (.build [(.bool false), (.int .i64 0), (.int .u64 0)] [(0, 1, (.t 14)), (1, 1, (.t 19)), (2, 1, (.t 25))]),jw 3 4 26] [4]
.ret)))⟩
def c_word_shape_class : IFn := ⟨[.tmp 4],
(jq [jx 2 3 0,jk 4 .u8 0] [1,2]
(jq [jm 6 1,jf 7 2 2,jl 8 1 7,jb 9 .andNot 6 8,jm 5 9] [2,5]
(.seq (.block 0
(jq [jm 11 5,ji 12 .eql 11 .u64 0,jm 10 12] [2,5,10]
(jC 10
(jq [jk 4 .u8 1] [4]
.ret)
(jq [jm 14 5,jf 15 0 2,jl 16 1 15,js 17 (.bin .shl (.c (.int .u64 1)) (.t 16)),jb 18 .lss 14 17,jm 13 18] [2,5,13]
(jC 13
(jq [jk 4 .u8 2] [4]
.ret)
(jq [jm 20 5,jL 21 3 2,jc 22 60 [21],jb 23 .lss 20 22,jm 19 23] [2,5,19]
(jC 19
(jq [jk 4 .u8 3] [4]
.ret)
(jq [jm 25 5,jL 26 3 2,jc 27 60 [26],jb 28 .eql 25 27,jm 24 28] [24]
(jC 24
(jq [jk 4 .u8 4] [4]
.ret)
.skip)))))))))
(jq [jk 4 .u8 5] [4]
.ret))))⟩
def c_word_finite : IFn := ⟨[.cell 4 true 3, .tmp 5],
(jq [js 4 (.alloc [(.int .i64 0), (.int .i64 0), (.int .u64 0)]),jk 5 .i64 0] [0,1,4]
(jq [jm 9 0,jm 10 1,js 11 (.bslice 1 1 [(.int .u64 0)] [(0, 1, (.t 10))]),jc 12 95 [9,11],jm 8 12,je 13 8 0,je 14 8 1,js 6 (.alloc [(.int .i64 0), (.int .i64 0), (.int .u64 0)]),jw 3 6 13,jm 7 14] [1,4,6,7]
(.seq (jq [jm 15 7,ji 16 .eql 15 .i64 0,jm 17 16,jg (jL 18 3 6) 17 true,jg (jm 19 1) 17 true,jg (jc 20 201 [18,19]) 17 true,jg (ji 21 .geq 20 .u8 4) 17 true,jp 22 17 21] [4,6,7,22]
(jC 22
(jr [jk 7 .i64 7] [4,6,7])
.skip))
(jq [jL 23 3 6,jm 24 7,jw 3 4 23,jm 5 24] [4,5]
.ret))))⟩
def c_dyad_add : IFn := ⟨[.cell 4 true 3, .tmp 5],
(jq [jx 2 3 0,jx 3 3 1,js 4 (.alloc [(.bool false), .nil, (.int .i64 0)]),jk 5 .i64 0] [2,3,4]
(.seq (.block 0
(jq [jf 11 1 2,jl 12 1 11,jn 13 12,ji 14 .eql 13 .i64 0,jm 10 14] [2,3,4,10]
(jC 10
(jq [jL 15 3 3,jc 16 205 [15],jw 3 4 16,jk 5 .i64 0] [4,5]
.ret)
(jq [jf 18 1 3,jl 19 1 18,jn 20 19,ji 21 .eql 20 .i64 0,jm 17 21] [2,3,4,17]
(jC 17
(jq [jL 22 3 2,jc 23 205 [22],jw 3 4 23,jk 5 .i64 0] [4,5]
.ret)
.skip)))))
(.seq (jq [jf 24 2 2,jl 25 1 24,jf 26 2 3,jl 27 1 26,jb 28 .lss 25 27] [2,3,4,28]
(jC 28
(jr [jL 29 3 3,jL 30 3 2,jw 3 2 29,jw 3 3 30] [2,3,4])
.skip))
(.seq (jq [jf 31 2 2,jl 32 1 31,jf 33 2 3,jl 34 1 33,jb 35 .sub 32 34,jf 36 1 2,jl 37 1 36,jc 38 49 [37],jb 39 .add 35 38,ji 40 .gtr 39 .i64 131073] [2,3,4,40]
(jC 40
(jq [js 41 (.build [(.bool false), .nil, (.int .i64 0)] []),jw 3 4 41,jk 5 .i64 3] [4,5]
.ret)
.skip))
(jq [jf 42 2 2,jl 43 1 42,jf 44 2 3,jl 45 1 44,jb 46 .sub 43 45,jm 6 46] [2,3,4,6]
(.seq (jq [jm 47 6,jf 48 1 2,jl 49 1 48,jc 50 49 [49],jb 51 .add 47 50,ji 52 .gtr 51 .i64 131072] [2,3,4,6,52]
(jC 52
(jq [jL 53 3 2,jL 54 3 3,jm 55 6,jc 56 207 [53,54,55],je 57 56 0,je 58 56 1,jw 3 4 57,jm 5 58] [4,5]
.ret)
.skip))
(jq [jf 60 1 2,jl 61 1 60,jm 62 6,jc 63 50 [61,62],jm 59 63,je 64 59 0,je 65 59 1,je 66 59 2,jm 7 64,jm 8 65,jm 9 66] [2,3,4,7]
(jq [jf 67 0 2,jl 68 1 67,jm 69 7,jf 70 0 3,jl 71 1 70,jf 72 1 3,jl 73 1 72,jf 74 2 3,jl 75 1 74,jc 76 208 [68,69,71,73,75],je 77 76 0,je 78 76 1,jw 3 4 77,jm 5 78] [4,5]
.ret))))))))⟩
def c_word_shape_none : IFn := ⟨[.tmp 2],
(jq [jx 1 3 0,jk 2 .u64 0] [1]
(jq [jL 3 3 1,jc 4 60 [3],jf 5 0 1,jl 6 1 5,ji 7 .sub 6 .i64 1,js 8 (.bin .shl (.c (.int .u64 1)) (.t 7)),jb 9 .or 4 8,jm 2 9] [2]
.ret))⟩
def c_dyad_own : IFn := ⟨[.cell 2 true 3],
(jq [jx 1 3 0,js 2 (.alloc [(.bool false), .nil, (.int .i64 0)])] [1,2]
(jq [jf 3 1 1,jl 4 1 3,js 5 (.app 1 4 (.c .nil) (.t 4)),jf 6 1 1,jw 1 6 5] [1,2]
(jq [jL 7 3 1,jw 3 2 7] [2]
.ret)))⟩
def c_dyad_edge : IFn := ⟨[.cell 6 true 3, .tmp 7],
(jq [jx 3 3 0,jx 4 3 1,js 6 (.alloc [(.bool false), .nil, (.int .i64 0)]),jk 7 .i64 0] [2,3,4,6]
(.seq (jq [jf 17 0 3,jl 18 1 17,jf 19 0 4,jl 20 1 19,js 21 (.eqb false (.t 18) (.t 20))] [2,3,4,6,21]
(jC 21
(jq [js 22 (.build [(.bool false), .nil, (.int .i64 0)] []),jw 3 6 22,jk 7 .i64 3] [6,7]
.ret)
.skip))
(jq [jf 24 1 3,jl 25 1 24,jm 26 2,ji 27 .sub 26 .i64 1,jc 28 50 [25,27],jm 23 28,je 29 23 0,je 30 23 1,je 31 23 2,jm 8 29,jm 9 30,jm 10 31] [3,4,6,8]
(jq [jf 33 1 4,jl 34 1 33,js 35 (.call false (.f 50) [(.t 34), (.c (.int .i64 (-1)))]),jm 32 35,je 36 32 0,je 37 32 1,je 38 32 2,jm 11 36,jm 12 37,jm 13 38] [3,4,6,8,11]
(jq [jm 40 8,jm 41 11,jc 42 103 [40,41],jm 39 42,je 43 39 0,je 44 39 1,jm 14 43,jm 15 44] [3,4,6,14,15]
(.seq (jq [jm 45 15,ji 46 .neq 45 .i64 0] [3,4,6,14,46]
(jC 46
(jq [js 47 (.build [(.bool false), .nil, (.int .i64 0)] []),jw 3 6 47,jk 7 .i64 3] [6,7]
.ret)
.skip))
(jq [jm 49 14,jm 50 14,jc 51 105 [49,50],jm 48 51,je 52 48 0,je 53 48 1,jm 16 52,jm 15 53] [3,4,6,14,15,16]
(.seq (jq [jm 54 15,ji 55 .eql 54 .i64 0] [3,4,6,14,16,55]
(jC 55
(jq [jm 57 16,js 58 (.call false (.f 55) [(.c (.int .u64 1))]),jc 59 103 [57,58],jm 56 59,je 60 56 0,je 61 56 1,jm 16 60] [3,4,6,16]
(jq [jf 62 0 3,jl 63 1 62,jm 64 16,jf 65 2 4,jl 66 1 65,jc 67 54 [63,64,66],je 68 67 0,je 69 67 1,jw 3 6 68,jm 7 69] [6,7]
.ret))
.skip))
(.seq (jq [jm 70 14,jc 71 49 [70],jm 72 14,jc 73 90 [72],ji 74 .add 73 .i64 1,jb 75 .eql 71 74] [3,4,6,14,75]
(jC 75
(jq [jm 77 14,js 78 (.call false (.f 55) [(.c (.int .u64 1))]),jc 79 103 [77,78],jm 76 79,je 80 76 0,je 81 76 1,jm 16 80] [3,4,6,14,16]
(jq [jm 83 16,jm 84 14,jc 85 105 [83,84],jm 82 85,je 86 82 0,je 87 82 1,jm 16 86] [3,4,6,16]
(jq [jf 88 0 3,jl 89 1 88,jm 90 16,jf 91 2 4,jl 92 1 91,jc 93 54 [89,90,92],je 94 93 0,je 95 93 1,jw 3 6 94,jm 7 95] [6,7]
.ret)))
.skip))
(jq [js 96 (.build [(.bool false), .nil, (.int .i64 0)] []),jw 3 6 96,jk 7 .i64 3] [6,7]
.ret))))))))))⟩
def c_dyad_join : IFn := ⟨[.cell 10 true 3, .tmp 11],
(jq [js 10 (.alloc [(.bool false), .nil, (.int .i64 0)]),jk 11 .i64 0] [0,1,2,3,4,10]
(.seq (jq [jm 18 0,jm 19 2,js 20 (.eqb false (.t 18) (.t 19))] [0,1,2,3,4,10,20]
(jC 20
(jq [jm 22 1,jm 23 3,jc 24 105 [22,23],jm 21 24,je 25 21 0,je 26 21 1,jm 12 25,jm 13 26] [0,1,3,4,10,12,13]
(.seq (jq [jm 27 13,ji 28 .neq 27 .i64 0] [0,1,3,4,10,12,28]
(jC 28
(jq [jm 29 0,jm 30 1,jm 31 3,jm 32 4,jc 33 209 [29,30,31,32],je 34 33 0,je 35 33 1,jw 3 10 34,jm 11 35] [10,11]
.ret)
.skip))
(jq [jm 36 0,jm 37 12,jm 38 4,jc 39 54 [36,37,38],je 40 39 0,je 41 39 1,jw 3 10 40,jm 11 41] [10,11]
.ret)))
.skip))
(.seq (jq [jm 43 1,jm 44 3,jc 45 104 [43,44],jm 42 45,je 46 42 0,je 47 42 1,jm 14 46,jm 15 47] [0,1,2,3,4,10,14]
(jq [jm 48 14,ji 49 .lss 48 .i64 0] [0,1,2,3,4,10,49]
(jC 49
(jr [jm 50 2,jm 51 3,jm 52 1,jm 0 50,jm 1 51,jm 3 52] [0,1,3,4,10])
.skip)))
(jq [jm 54 1,jm 55 3,jc 56 103 [54,55],jm 53 56,je 57 53 0,je 58 53 1,jm 16 57,jm 17 58] [0,4,10,16]
(jq [jm 59 0,jm 60 16,jm 61 4,jc 62 54 [59,60,61],je 63 62 0,je 64 62 1,jw 3 10 63,jm 11 64] [10,11]
.ret)))))⟩
def c_dyad_halved : IFn := ⟨[.cell 8 true 3, .tmp 9],
(jq [js 8 (.alloc [(.bool false), .nil, (.int .i64 0)]),jk 9 .i64 0] [0,1,2,3,8]
(.seq (jq [jm 18 1,js 19 (.iaddr 1 (.t 18) (.c (.int .i64 0))),jl 20 1 19,ji 21 .and 20 .u32 1,jm 22 2,js 23 (.iaddr 1 (.t 22) (.c (.int .i64 0))),jl 24 1 23,ji 25 .and 24 .u32 1,jb 26 .neq 21 25] [0,1,2,3,8,26]
(jC 26
(jq [js 27 (.build [(.bool false), .nil, (.int .i64 0)] []),jw 3 8 27,jk 9 .i64 3] [8,9]
.ret)
.skip))
(jq [jm 29 1,js 30 (.call false (.f 50) [(.t 29), (.c (.int .i64 (-1)))]),jm 28 30,je 31 28 0,je 32 28 1,je 33 28 2,jm 10 31,jm 11 32,jm 12 33] [0,1,2,3,8,10]
(jq [jm 35 2,js 36 (.call false (.f 50) [(.t 35), (.c (.int .i64 (-1)))]),jm 34 36,je 37 34 0,je 38 34 1,je 39 34 2,jm 13 37,jm 14 38,jm 15 39] [0,1,3,8,10,13]
(jq [jm 41 10,jm 42 13,jc 43 105 [41,42],jm 40 43,je 44 40 0,je 45 40 1,jm 16 44,jm 17 45] [0,1,3,8,16]
(.seq (jq [jm 46 1,js 47 (.iaddr 1 (.t 46) (.c (.int .i64 0))),jl 48 1 47,ji 49 .and 48 .u32 1,ji 50 .eql 49 .u32 1] [0,3,8,16,50]
(jC 50
(jr [jm 52 16,js 53 (.call false (.f 55) [(.c (.int .u64 1))]),jc 54 105 [52,53],jm 51 54,je 55 51 0,je 56 51 1,jm 16 55] [0,3,8,16])
.skip))
(jq [jm 57 0,jm 58 16,jm 59 3,ji 60 .add 59 .i64 1,jc 61 54 [57,58,60],je 62 61 0,je 63 61 1,jw 3 8 62,jm 9 63] [8,9]
.ret)))))))⟩
structure HasG (gdb : Nat) (T : Tbl) : Prop where
  law05_known : T 163 = some c_law05_known
  soft_Add : T 164 = some c_soft_Add
  soft_Mul : T 165 = some c_soft_Mul
  soft_Sub : T 166 = some c_soft_Sub
  soft_MulAdd : T 175 = some c_soft_MulAdd
  soft_open : T 176 = some c_soft_open
  soft_desk_add : T 177 = some c_soft_desk_add
  soft_has : T 178 = some c_soft_has
  soft_desk_none : T 179 = some c_soft_desk_none
  soft_desk_inf : T 180 = some c_soft_desk_inf
  soft_desk_zero : T 181 = some c_soft_desk_zero
  dyad_Mul : T 182 = some c_dyad_Mul
  soft_desk_sum : T 183 = some c_soft_desk_sum
  dyad_Neg : T 184 = some c_dyad_Neg
  word_Split : T 192 = some c_word_Split
  word_Class : T 193 = some c_word_Class
  word_Value : T 194 = some c_word_Value
  dyad_Add : T 195 = some c_dyad_Add
  word_None : T 196 = some c_word_None
  nat_Mul : T 197 = some c_nat_Mul
  dyad_signed : T 198 = some c_dyad_signed
  word_shape_split : T 200 = some c_word_shape_split
  word_shape_class : T 201 = some c_word_shape_class
  word_finite : T 202 = some c_word_finite
  dyad_add : T 203 = some c_dyad_add
  word_shape_none : T 204 = some c_word_shape_none
  dyad_own : T 205 = some c_dyad_own
  dyad_edge : T 207 = some c_dyad_edge
  dyad_join : T 208 = some c_dyad_join
  dyad_halved : T 209 = some c_dyad_halved
end Go.Cv
namespace Go.Cv
def c_soft_Div : IFn := ⟨[.tmp 8, .tmp 9, .tmp 10],
(jq [jk 8 .u64 0,jk 9 .u8 0,jk 10 .i64 0] [0,1,2,3]
(jq [jm 18 0,jm 19 1,jm 20 2,jm 21 3,js 22 (.bslice 2 1 [(.int .u64 0)] [(0, 1, (.t 20)), (1, 1, (.t 21))]),jc 23 176 [18,19,22],jm 17 23,je 24 17 0,je 25 17 1,jm 11 24,jm 12 25] [0,1,11,12]
(.seq (jq [jm 26 12,ji 27 .neq 26 .i64 0] [0,1,11,12,27]
(jC 27
(jq [jm 28 12,jk 8 .u64 0,jk 9 .u8 0,jm 10 28] [8,9,10]
.ret)
.skip))
(.seq (.reg [jm 29 0,jm 30 1,js 31 (.build [(.int .u8 0), (.int .u8 0)] [(0, 1, (.t 29)), (1, 1, (.t 30))]),jm 32 11,js 33 (.iaddr 5 (.t 32) (.c (.int .i64 0))),jL 34 5 33,jm 35 11,js 36 (.iaddr 5 (.t 35) (.c (.int .i64 1))),jL 37 5 36,js 13 (.alloc [(.int .u8 0), (.int .u8 0)]),js 14 (.alloc [(.int .u8 0), (.bool false), (.bool false), .nil, (.int .i64 0)]),js 15 (.alloc [(.int .u8 0), (.bool false), (.bool false), .nil, (.int .i64 0)]),jw 2 13 31,jw 5 14 34,jw 5 15 37] [0, 1, 11, 13, 14, 15] [(5, 12), (8, 12), (8, 13)])
(jq [jf 38 1 14,jl 39 1 38,jf 40 1 15,jl 41 1 40,js 42 (.eqb true (.t 39) (.t 41)),jm 16 42] [0,1,11,13,14,15,16]
(.seq (.block 0
(jq [jm 44 11,js 45 (.call false (.f 178) [(.c (.int .u8 5)), (.t 44)]),jm 43 45] [0,1,13,14,15,16,43]
(jC 43
(jq [jL 46 2 13,js 47 (.call false (.f 179) [(.t 46), (.c (.int .u8 0))]),je 48 47 0,je 49 47 1,je 50 47 2,jm 8 48,jm 9 49,jm 10 50] [8,9,10]
.ret)
(jq [jf 52 0 14,jl 53 1 52,jf 54 0 15,jl 55 1 54,jb 56 .eql 53 55,jm 57 56,jg (jf 58 0 14) 57 true,jg (jl 59 1 58) 57 true,jg (ji 60 .eql 59 .u8 1) 57 true,jg (jm 61 60) 57 true,jg (jf 62 0 14) 61 false,jg (jl 63 1 62) 61 false,jg (ji 64 .eql 63 .u8 4) 61 false,jg (jP 65 61 64) 57 true,jp 66 57 65,jm 51 66] [0,1,13,14,15,16,51]
(jC 51
(jq [jL 67 2 13,js 68 (.call false (.f 179) [(.t 67), (.c (.int .u8 1))]),je 69 68 0,je 70 68 1,je 71 68 2,jm 8 69,jm 9 70,jm 10 71] [8,9,10]
.ret)
(jq [jf 73 0 14,jl 74 1 73,ji 75 .eql 74 .u8 4,jm 72 75] [0,1,13,14,15,16,72]
(jC 72
(jq [jL 76 2 13,jm 77 16,js 78 (.call false (.f 180) [(.t 76), (.t 77), (.c (.int .u8 0))]),je 79 78 0,je 80 78 1,je 81 78 2,jm 8 79,jm 9 80,jm 10 81] [8,9,10]
.ret)
(jq [jf 83 0 15,jl 84 1 83,ji 85 .eql 84 .u8 1,jm 82 85] [0,1,13,14,15,16,82]
(jC 82
(jq [jL 86 2 13,jm 87 16,js 88 (.call false (.f 180) [(.t 86), (.t 87), (.c (.int .u8 2))]),je 89 88 0,je 90 88 1,je 91 88 2,jm 8 89,jm 9 90,jm 10 91] [8,9,10]
.ret)
(jq [jf 93 0 14,jl 94 1 93,ji 95 .eql 94 .u8 1,jm 96 95,jg (jf 97 0 15) 96 false,jg (jl 98 1 97) 96 false,jg (ji 99 .eql 98 .u8 4) 96 false,jP 100 96 99,jm 92 100] [0,1,13,14,15,16,92]
(jC 92
(jq [jL 101 2 13,jm 102 16,jc 103 181 [101,102],je 104 103 0,je 105 103 1,je 106 103 2,jm 8 104,jm 9 105,jm 10 106] [8,9,10]
.ret)
.skip)))))))))))
(jq [jm 107 0,jm 108 1,jf 109 2 14,jL 110 3 109,jf 111 2 15,jL 112 3 111,jc 113 15 [107,108,110,112],je 114 113 0,je 115 113 1,je 116 113 2,jm 8 114,jm 9 115,jm 10 116] [8,9,10]
.ret)))))))⟩
def c_soft_Sqrt : IFn := ⟨[.tmp 6, .tmp 7, .tmp 8],
(jq [jk 6 .u64 0,jk 7 .u8 0,jk 8 .i64 0] [0,1,2]
(jq [jm 14 0,jm 15 1,jm 16 2,js 17 (.bslice 1 1 [(.int .u64 0)] [(0, 1, (.t 16))]),jc 18 176 [14,15,17],jm 13 18,je 19 13 0,je 20 13 1,jm 9 19,jm 10 20] [0,1,9,10]
(.seq (jq [jm 21 10,ji 22 .neq 21 .i64 0] [0,1,9,10,22]
(jC 22
(jq [jm 23 10,jk 6 .u64 0,jk 7 .u8 0,jm 8 23] [6,7,8]
.ret)
.skip))
(.seq (.reg [jm 24 0,jm 25 1,js 26 (.build [(.int .u8 0), (.int .u8 0)] [(0, 1, (.t 24)), (1, 1, (.t 25))]),jm 27 9,js 28 (.iaddr 5 (.t 27) (.c (.int .i64 0))),jL 29 5 28,js 11 (.alloc [(.int .u8 0), (.int .u8 0)]),js 12 (.alloc [(.int .u8 0), (.bool false), (.bool false), .nil, (.int .i64 0)]),jw 2 11 26,jw 5 12 29] [0, 1, 11, 12] [(5, 8)])
(.seq (.block 0
(jq [jf 31 0 12,jl 32 1 31,ji 33 .eql 32 .u8 5,jm 30 33] [0,1,11,12,30]
(jC 30
(jq [jL 34 2 11,js 35 (.call false (.f 179) [(.t 34), (.c (.int .u8 0))]),je 36 35 0,je 37 35 1,je 38 35 2,jm 6 36,jm 7 37,jm 8 38] [6,7,8]
.ret)
(jq [jf 40 0 12,jl 41 1 40,ji 42 .eql 41 .u8 1,jm 39 42] [0,1,11,12,39]
(jC 39
(jq [jL 43 2 11,jf 44 1 12,jl 45 1 44,jc 46 181 [43,45],je 47 46 0,je 48 46 1,je 49 46 2,jm 6 47,jm 7 48,jm 8 49] [6,7,8]
.ret)
(jq [jf 51 1 12,jl 52 1 51,jm 50 52] [0,1,11,12,50]
(jC 50
(jq [jL 53 2 11,js 54 (.call false (.f 179) [(.t 53), (.c (.int .u8 1))]),je 55 54 0,je 56 54 1,je 57 54 2,jm 6 55,jm 7 56,jm 8 57] [6,7,8]
.ret)
(jq [jf 59 0 12,jl 60 1 59,ji 61 .eql 60 .u8 4,jm 58 61] [0,1,11,12,58]
(jC 58
(jq [jL 62 2 11,js 63 (.call false (.f 180) [(.t 62), (.c (.bool false)), (.c (.int .u8 0))]),je 64 63 0,je 65 63 1,je 66 63 2,jm 6 64,jm 7 65,jm 8 66] [6,7,8]
.ret)
.skip)))))))))
(jq [jm 67 0,jm 68 1,jf 69 2 12,jL 70 3 69,jc 71 18 [67,68,70],je 72 71 0,je 73 71 1,je 74 71 2,jm 6 72,jm 7 73,jm 8 74] [6,7,8]
.ret))))))⟩
structure HasH (gdb : Nat) (T : Tbl) : Prop where
  soft_Div : T 221 = some c_soft_Div
  soft_Sqrt : T 224 = some c_soft_Sqrt
end Go.Cv
namespace Go.Cv
structure HasJ (gdb : Nat) (T : Tbl) : Prop where
end Go.Cv
namespace Go.Cv
end Go.Cv
namespace Go.Cv
def c_math_Float32frombits : IFn := primFn .of32
def c_math_Float32bits : IFn := primFn .b32
def c_math_Float64frombits : IFn := primFn .of64
def c_math_Float64bits : IFn := primFn .b64
def c_math_sqrt : IFn := primFn .sqrt
structure HasL (gdb : Nat) (T : Tbl) : Prop where
  math_Float32frombits : T 370 = some c_math_Float32frombits
  math_Float32bits : T 371 = some c_math_Float32bits
  math_Float64frombits : T 373 = some c_math_Float64frombits
  math_Float64bits : T 374 = some c_math_Float64bits
  math_sqrt : T 392 = some c_math_sqrt
end Go.Cv
namespace Go.Cv
def c_math_Sqrt : IFn := ⟨[.tmp 2],
(jq [js 2 (.mov (.c (.fl .f64 0)))] [0]
(jq [jm 3 0,jc 4 392 [3],jm 2 4] [2]
.ret))⟩
structure HasM (gdb : Nat) (T : Tbl) : Prop where
  math_Sqrt : T 372 = some c_math_Sqrt
end Go.Cv
namespace Go.Cv
def c_law05_SoftNative : IFn := ⟨[.tmp 4],
(jq [jv 4 false] [0,1]
(jq [jm 26 0,jc 27 373 [26],jm 28 1,jc 29 373 [28],jm 5 27,jm 6 29] [0,1,5,6]
(jq [jm 31 0,jm 32 1,js 33 (.call false (.f 164) [(.c (.int .u8 2)), (.c (.int .u8 1)), (.t 31), (.t 32)]),jm 30 33,je 34 30 0,je 35 30 1,je 36 30 2,jm 7 34,jm 8 35,jm 9 36] [0,1,5,6,7,9]
(jq [jm 38 0,jm 39 1,js 40 (.call false (.f 166) [(.c (.int .u8 2)), (.c (.int .u8 1)), (.t 38), (.t 39)]),jm 37 40,je 41 37 0,je 42 37 1,je 43 37 2,jm 10 41,jm 11 42,jm 12 43] [0,1,5,6,7,9,10,12]
(jq [jm 45 0,jm 46 1,js 47 (.call false (.f 165) [(.c (.int .u8 2)), (.c (.int .u8 1)), (.t 45), (.t 46)]),jm 44 47,je 48 44 0,je 49 44 1,je 50 44 2,jm 13 48,jm 14 49,jm 15 50] [0,1,5,6,7,9,10,12,13,15]
(jq [jm 52 0,jm 53 1,js 54 (.call false (.f 221) [(.c (.int .u8 2)), (.c (.int .u8 1)), (.t 52), (.t 53)]),jm 51 54,je 55 51 0,je 56 51 1,je 57 51 2,jm 16 55,jm 17 56,jm 18 57] [0,1,5,6,7,9,10,12,13,15,16,18]
(jq [jm 59 0,js 60 (.call false (.f 224) [(.c (.int .u8 2)), (.c (.int .u8 1)), (.t 59)]),jm 58 60,je 61 58 0,je 62 58 1,je 63 58 2,jm 19 61,jm 20 62,jm 21 63] [0,1,5,6,7,9,10,12,13,15,16,18,19,21]
(.seq (jq [jm 64 9,ji 65 .neq 64 .i64 0,jm 66 65,jg (jm 67 12) 66 false,jg (ji 68 .neq 67 .i64 0) 66 false,jP 69 66 68,jm 70 69,jg (jm 71 15) 70 false,jg (ji 72 .neq 71 .i64 0) 70 false,jP 73 70 72,jm 74 73,jg (jm 75 18) 74 false,jg (ji 76 .neq 75 .i64 0) 74 false,jP 77 74 76,jm 78 77,jg (jm 79 21) 78 false,jg (ji 80 .neq 79 .i64 0) 78 false,jP 81 78 80] [0,1,5,6,7,10,13,16,19,81]
(jC 81
(jq [jv 4 false] [4]
.ret)
.skip))
(.seq (jq [jm 82 7,jm 83 5,jm 84 6,js 85 (.fbin .add .f64 (.t 83) (.t 84)),jc 86 408 [82,85],js 87 (.un .not (.t 86)),jm 88 87,jg (jm 89 10) 88 false,jg (jm 90 5) 88 false,jg (jm 91 6) 88 false,jg (js 92 (.fbin .sub .f64 (.t 90) (.t 91))) 88 false,jg (jc 93 408 [89,92]) 88 false,jg (js 94 (.un .not (.t 93))) 88 false,jP 95 88 94,jm 96 95,jg (jm 97 13) 96 false,jg (jm 98 5) 96 false,jg (jm 99 6) 96 false,jg (js 100 (.fbin .mul .f64 (.t 98) (.t 99))) 96 false,jg (jc 101 408 [97,100]) 96 false,jg (js 102 (.un .not (.t 101))) 96 false,jP 103 96 102,jm 104 103,jg (jm 105 16) 104 false,jg (jm 106 5) 104 false,jg (jm 107 6) 104 false,jg (js 108 (.fbin .quo .f64 (.t 106) (.t 107))) 104 false,jg (jc 109 408 [105,108]) 104 false,jg (js 110 (.un .not (.t 109))) 104 false,jP 111 104 110,jm 112 111,jg (jm 113 19) 112 false,jg (jm 114 5) 112 false,jg (jc 115 372 [114]) 112 false,jg (jc 116 408 [113,115]) 112 false,jg (js 117 (.un .not (.t 116))) 112 false,jP 118 112 117] [0,1,118]
(jC 118
(jq [jv 4 false] [4]
.ret)
.skip))
(jq [jm 119 0,ji 120 .rem 119 .u64 4294967296,jm 121 1,ji 122 .rem 121 .u64 4294967296,jm 22 120,jm 23 122] [22,23]
(jq [jm 123 22,js 124 (.cvt .u32 (.t 123)),jc 125 370 [124],jm 126 23,js 127 (.cvt .u32 (.t 126)),jc 128 370 [127],jm 24 125,jm 25 128] [22,23,24,25]
(jq [jm 130 22,jm 131 23,js 132 (.call false (.f 164) [(.c (.int .u8 1)), (.c (.int .u8 1)), (.t 130), (.t 131)]),jm 129 132,je 133 129 0,je 134 129 1,je 135 129 2,jm 7 133,jm 9 135] [7,9,22,23,24,25]
(jq [jm 137 22,jm 138 23,js 139 (.call false (.f 166) [(.c (.int .u8 1)), (.c (.int .u8 1)), (.t 137), (.t 138)]),jm 136 139,je 140 136 0,je 141 136 1,je 142 136 2,jm 10 140,jm 12 142] [7,9,10,12,22,23,24,25]
(jq [jm 144 22,jm 145 23,js 146 (.call false (.f 165) [(.c (.int .u8 1)), (.c (.int .u8 1)), (.t 144), (.t 145)]),jm 143 146,je 147 143 0,je 148 143 1,je 149 143 2,jm 13 147,jm 15 149] [7,9,10,12,13,15,22,23,24,25]
(jq [jm 151 22,jm 152 23,js 153 (.call false (.f 221) [(.c (.int .u8 1)), (.c (.int .u8 1)), (.t 151), (.t 152)]),jm 150 153,je 154 150 0,je 155 150 1,je 156 150 2,jm 16 154,jm 18 156] [7,9,10,12,13,15,16,18,24,25]
(.seq (jq [jm 157 9,ji 158 .neq 157 .i64 0,jm 159 158,jg (jm 160 12) 159 false,jg (ji 161 .neq 160 .i64 0) 159 false,jP 162 159 161,jm 163 162,jg (jm 164 15) 163 false,jg (ji 165 .neq 164 .i64 0) 163 false,jP 166 163 165,jm 167 166,jg (jm 168 18) 167 false,jg (ji 169 .neq 168 .i64 0) 167 false,jP 170 167 169] [7,10,13,16,24,25,170]
(jC 170
(jq [jv 4 false] [4]
.ret)
.skip))
(jq [jm 171 7,jm 172 24,jm 173 25,js 174 (.fbin .add .f32 (.t 172) (.t 173)),jc 175 409 [171,174],jm 176 175,jg (jm 177 10) 176 true,jg (jm 178 24) 176 true,jg (jm 179 25) 176 true,jg (js 180 (.fbin .sub .f32 (.t 178) (.t 179))) 176 true,jg (jc 181 409 [177,180]) 176 true,jp 182 176 181,jm 183 182,jg (jm 184 13) 183 true,jg (jm 185 24) 183 true,jg (jm 186 25) 183 true,jg (js 187 (.fbin .mul .f32 (.t 185) (.t 186))) 183 true,jg (jc 188 409 [184,187]) 183 true,jp 189 183 188,jm 190 189,jg (jm 191 16) 190 true,jg (jm 192 24) 190 true,jg (jm 193 25) 190 true,jg (js 194 (.fbin .quo .f32 (.t 192) (.t 193))) 190 true,jg (jc 195 409 [191,194]) 190 true,jp 196 190 195,jm 197 196,jg (jc 198 163 []) 197 true,jp 199 197 198,jm 4 199] [4]
.ret)))))))))))))))))⟩
def c_law05_wide : IFn := ⟨[.tmp 4],
(jq [jv 4 false] [0,1]
(.seq (jq [jm 5 1,jm 6 1,js 7 (.fbin .neq .f64 (.t 5) (.t 6))] [0,1,7]
(jC 7
(jq [jm 8 0,js 9 (.call false (.f 157) [(.c (.int .u8 2))]),jb 10 .eql 8 9,jm 4 10] [4]
.ret)
.skip))
(jq [jm 11 0,jm 12 1,jc 13 374 [12],jb 14 .eql 11 13,jm 4 14] [4]
.ret)))⟩
def c_law05_narrow : IFn := ⟨[.tmp 4],
(jq [jv 4 false] [0,1]
(.seq (jq [jm 5 1,jm 6 1,js 7 (.fbin .neq .f32 (.t 5) (.t 6))] [0,1,7]
(jC 7
(jq [jm 8 0,js 9 (.call false (.f 157) [(.c (.int .u8 1))]),jb 10 .eql 8 9,jm 4 10] [4]
.ret)
.skip))
(jq [jm 11 0,jm 12 1,jc 13 371 [12],js 14 (.cvt .u64 (.t 13)),jb 15 .eql 11 14,jm 4 15] [4]
.ret)))⟩
structure HasN (gdb : Nat) (T : Tbl) : Prop where
  law05_SoftNative : T 407 = some c_law05_SoftNative
  law05_wide : T 408 = some c_law05_wide
  law05_narrow : T 409 = some c_law05_narrow
end Go.Cv
