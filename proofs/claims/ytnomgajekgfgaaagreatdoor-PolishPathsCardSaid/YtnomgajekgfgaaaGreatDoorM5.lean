/-
 A part of the proof of the statements of this seat (texts that the law's own text leans on): no condition.
-/
import Derived.Test.YtnomgajekgfgaaaGreatDoorM1
set_option linter.unusedVariables false
set_option linter.unusedSimpArgs false
set_option linter.defProp false
namespace Go.Cv
theorem ai {a b : Prop} (x : a) (y : b) : a∧b:=⟨x,y⟩
def jm (a x : Nat) : IOper:=⟨some a,.mov (.t x),none⟩
def je (a x k : Nat) : IOper:=⟨some a,.ext (.t x) k,none⟩
def jl (a n x : Nat) : IOper:=⟨some a,.load false n (.t x),none⟩
def jL (a n x : Nat) : IOper:=⟨some a,.load true n (.t x),none⟩
def jf (a k x : Nat) : IOper:=⟨some a,.faddr k (.t x),none⟩
def jp (a x y : Nat) : IOper:=⟨some a,.pick (.t x) (.t y) (.c (.bool false)),none⟩
def jP (a x y : Nat) : IOper:=⟨some a,.pick (.t x) (.c (.bool true)) (.t y),none⟩
def jb (a : Nat) (o : BinOp) (x y : Nat) : IOper:=⟨some a,.bin o (.t x) (.t y),none⟩
def ji (a : Nat) (o : BinOp) (x : Nat) (k : IntKind) (n : Int) : IOper:=⟨some a,.bin o (.t x) (.c (.int k n)),none⟩
def jk (a : Nat) (k : IntKind) (n : Int) : IOper:=⟨some a,.mov (.c (.int k n)),none⟩
def jv (a : Nat) (b : Bool) : IOper:=⟨some a,.mov (.c (.bool b)),none⟩
def jx (a n x : Nat) : IOper:=⟨some a,.box n (.t x),none⟩
def jn (a x : Nat) : IOper:=⟨some a,.len (.t x),none⟩
def ja (a n x y : Nat) : IOper:=⟨some a,.iaddr n (.t x) (.t y),none⟩
def jw (n x y : Nat) : IOper:=⟨none,.store n (.t x) (.t y),none⟩
def js (a : Nat) (o : IOp) : IOper:=⟨some a,o,none⟩
def jc (a f : Nat) (l : List Nat) : IOper:=⟨some a,.call false (.f f) (l.map .t),none⟩
def jg (o : IOper) (n : Nat) (b : Bool) : IOper:=⟨o.dst,o.op,some (n,b)⟩
def jr (l : List IOper) (k : List Nat) : IC:=.reg l k []
def jq (l : List IOper) (k : List Nat) (r : IC) : IC:=.seq (.reg l k []) r
def jC (x : Nat) (a b : IC) : IC:=.cond (.t x) a b
theorem ZJH (d : Option Nat) (o : IOp) (n : Nat) (b : Bool) : jg ⟨d,o,none⟩ n b = ⟨d,o,some (n,b)⟩:=rfl
theorem jc_0 (a f : Nat) : jc a f [] = ⟨some a,.call false (.f f) [],none⟩:=rfl
theorem jc_1 (a f x : Nat) : jc a f [x] = ⟨some a,.call false (.f f) [.t x],none⟩:=rfl
theorem jc_2 (a f x y : Nat) : jc a f [x,y] = ⟨some a,.call false (.f f) [.t x,.t y],none⟩:=rfl
theorem jc_3 (a f x y z : Nat) : jc a f [x,y,z] = ⟨some a,.call false (.f f) [.t x,.t y,.t z],none⟩:=rfl
theorem jc_4 (a f x y z u : Nat) : jc a f [x,y,z,u] = ⟨some a,.call false (.f f) [.t x,.t y,.t z,.t u],none⟩:=rfl
theorem jc_5 (a f x y z u v : Nat) : jc a f [x,y,z,u,v] = ⟨some a,.call false (.f f) [.t x,.t y,.t z,.t u,.t v],none⟩:=rfl
theorem jc_6 (a f x y z u v w : Nat) : jc a f [x,y,z,u,v,w] = ⟨some a,.call false (.f f) [.t x,.t y,.t z,.t u,.t v,.t w],none⟩:=rfl
theorem jc_7 (a f x y z u v w p : Nat) : jc a f [x,y,z,u,v,w,p] = ⟨some a,.call false (.f f) [.t x,.t y,.t z,.t u,.t v,.t w,.t p],none⟩:=rfl
theorem jc_8 (a f x y z u v w p q : Nat) : jc a f [x,y,z,u,v,w,p,q] = ⟨some a,.call false (.f f) [.t x,.t y,.t z,.t u,.t v,.t w,.t p,.t q],none⟩:=rfl
def jB:=(ai (ai (ai jm.eq_1 (ai je.eq_1 jl.eq_1)) (ai (ai jL.eq_1 jf.eq_1) (ai jp.eq_1 jP.eq_1))) (ai (ai (ai jb.eq_1 ji.eq_1) (ai jk.eq_1 jv.eq_1)) (ai (ai jx.eq_1 jn.eq_1) (ai ja.eq_1 (ai jw.eq_1 (ai js.eq_1 (ai jr.eq_1 (ai jq.eq_1 (ai jC.eq_1 (ai ZJH (ai (ai jc_0 (ai jc_1 jc_2)) (ai (ai jc_3 (ai jc_4 jc_5)) (ai jc_6 (ai jc_7 jc_8))))))))))))))
end Go.Cv
namespace Go.Cv
def ZnM : List Nat:=[0,1,2,2,3,3,3,3,4,4,4,4,4,4,4,4,5,5,5,5,5,5,5,5,5,5,5,5,5,5,5,5,6,6,6,6,6,6,6,6,6,6,6,6,6,6,6,6,6,6,6,6,6,6,6,6,6,6,6,6,6,6,6,6,7,7,7,7,7,7,7,7,7,7,7,7,7,7,7,7,7,7,7,7,7,7,7,7,7,7,7,7,7,7,7,7,7,7,7,7,7,7,7,7,7,7,7,7,7,7,7,7,7,7,7,7,7,7,7,7,7,7,7,7,7,7,7,7,8,8,8,8,8,8,8,8,8,8,8,8,8,8,8,8,8,8,8,8,8,8,8,8,8,8,8,8,8,8,8,8,8,8,8,8,8,8,8,8,8,8,8,8,8,8,8,8,8,8,8,8,8,8,8,8,8,8,8,8,8,8,8,8,8,8,8,8,8,8,8,8,8,8,8,8,8,8,8,8,8,8,8,8,8,8,8,8,8,8,8,8,8,8,8,8,8,8,8,8,8,8,8,8,8,8,8,8,8,8,8,8,8,8,8,8,8,8,8,8,8,8,8,8,8,8,8,8]
def Zlr : IFn:=⟨[.tmp 2],
(jq [jk 2 .i64 0] [0]
(.seq (jq [jm 3 0,jc 4 86 [3],js 5 (.un .not (.t 4)),jm 6 5,jg (jm 7 0) 6 false,jg (jn 8 7) 6 false,jg (ji 9 .eql 8 .i64 0) 6 false,jP 10 6 9] [0,10]
(jC 10
(jq [jk 2 .i64 0] [2]
.ret)
.skip))
(jq [jm 11 0,jn 12 11,ji 13 .sub 12 .i64 1,js 14 (.bin .mul (.c (.int .i64 32)) (.t 13)),jm 15 0,jm 16 0,jn 17 16,ji 18 .sub 17 .i64 1,ja 19 1 15 18,jl 20 1 19,jc 21 88 [20],jb 22 .add 14 21,jm 2 22] [2]
.ret)))⟩
def Zdi : IFn:=⟨[.tmp 4,.tmp 5,.tmp 6],
(jq [js 4 (.mov (.c .nil)),jv 5 false,jk 6 .i64 0] [0,1]
(.seq (.block 0
(jq [jm 8 0,jc 9 86 [8],js 10 (.un .not (.t 9)),jm 7 10] [0,1,7]
(jC 7
(jq [js 4 (.mov (.c .nil)),jv 5 false,jk 6 .i64 2] [4,5,6]
.ret)
(jq [jm 12 0,jn 13 12,ji 14 .eql 13 .i64 0,jm 11 14] [0,1,11]
(jC 11
(jq [js 4 (.mov (.c .nil)),jv 5 false,jk 6 .i64 0] [4,5,6]
.ret)
(jq [jm 16 1,ji 17 .lss 16 .i64 (-131072),jm 15 17] [0,1,15]
(jC 15
(jq [js 4 (.mov (.c .nil)),jv 5 true,jk 6 .i64 0] [4,5,6]
.ret)
(jq [jm 19 1,ji 20 .lss 19 .i64 0,jm 18 20] [0,1,18]
(jC 18
(jq [jm 21 0,jm 22 1,js 23 (.un .neg (.t 22)),jc 24 89 [21,23],jm 25 0,jc 26 90 [25],jm 27 1,js 28 (.un .neg (.t 27)),jb 29 .lss 26 28,jm 4 24,jm 5 29,jk 6 .i64 0] [4,5,6]
.ret)
(jq [jm 31 1,jm 32 0,jc 33 49 [32],js 34 (.bin .sub (.c (.int .i64 131072)) (.t 33)),jb 35 .gtr 31 34,jm 30 35] [0,1,30]
(jC 30
(jq [js 4 (.mov (.c .nil)),jv 5 false,jk 6 .i64 3] [4,5,6]
.ret)
.skip)))))))))))
(jq [jm 36 0,jm 37 1,jc 38 91 [36,37],jm 4 38,jv 5 false,jk 6 .i64 0] [4,5,6]
.ret)))⟩
def Zlt : IC :=
(jq [jb 18 .lss 17 16] [4,15,16,17,18]
(.seq (jC 18
.skip
(.exit 0))
(.seq (.block 1
(jq [jm 19 17,ja 20 1 15 17,jl 21 1 20,jm 5 19,jm 6 21] [4,5,6,15,16,17]
(jr [jm 22 4,jm 23 6,js 24 (.cvt .u64 (.t 23)),jm 25 5,js 26 (.bin .mul (.c (.int .i64 32)) (.t 25)),jb 27 .shl 24 26,jb 28 .or 22 27,jm 4 28] [4,15,16,17])))
(jr [ji 29 .add 17 .i64 1,jm 17 29] [4,15,16,17]))))
def ZiI : IC:=.loop [4,15,16,17] Zlt
def ZnH : IFn:=⟨[.tmp 2,.tmp 3],
(jq [jk 2 .u64 0,jv 3 false] [0]
(.seq (jq [jm 7 0,jc 8 86 [7],js 9 (.un .not (.t 8)),jm 10 9,jg (jm 11 0) 10 false,jg (jn 12 11) 10 false,jg (ji 13 .gtr 12 .i64 2) 10 false,jP 14 10 13] [0,14]
(jC 14
(jq [jk 2 .u64 0,jv 3 false] [2,3]
.ret)
.skip))
(jq [jk 4 .u64 0] [0,4]
(.seq (jq [jm 15 0,jn 16 15,jk 17 .i64 0] [4,15,16,17]
(.block 0
 ZiI))
(jq [jm 30 4,jm 2 30,jv 3 true] [2,3]
.ret)))))⟩
def Zbc : IFn:=⟨[.tmp 2],
(jq [jk 2 .i64 0] [0,2]
(.seq (jq [jm 3 0,ji 4 .geq 3 .u64 4294967296] [0,2,4]
(jC 4
(jq [jm 5 0,ji 6 .shr 5 .u64 32,jm 0 6] [0]
(jr [jk 2 .i64 32] [0,2]))
.skip))
(.seq (jq [jm 7 0,ji 8 .geq 7 .u64 65536] [0,2,8]
(jC 8
(jq [jm 9 0,ji 10 .shr 9 .u64 16,jm 0 10] [0,2]
(jr [jm 11 2,ji 12 .add 11 .i64 16,jm 2 12] [0,2]))
.skip))
(.seq (jq [jm 13 0,ji 14 .geq 13 .u64 256] [0,2,14]
(jC 14
(jq [jm 15 0,ji 16 .shr 15 .u64 8,jm 0 16] [0,2]
(jr [jm 17 2,ji 18 .add 17 .i64 8,jm 2 18] [0,2]))
.skip))
(jq [jm 19 2,jm 20 0,js 21 (.cvt .u8 (.t 20)),js 22 (.strix ZnM (.t 21)),js 23 (.cvt .i64 (.t 22)),jb 24 .add 19 23,jm 2 24] [2]
.ret)))))⟩
def Zpz : IFn:=⟨[.tmp 2],
(jq [js 2 (.mov (.c .nil))] [0]
(jq [jm 3 0,js 4 (.cvt .u32 (.t 3)),jm 5 0,ji 6 .shr 5 .u64 32,js 7 (.cvt .u32 (.t 6)),js 8 (.bslice 2 1 [(.int .u32 0)] [(0,1,(.t 4)),(1,1,(.t 7))]),jc 9 94 [8],jm 2 9] [2]
.ret))⟩
def Zdh : IFn:=⟨[.tmp 4,.tmp 5,.tmp 6],
(jq [js 4 (.mov (.c .nil)),js 5 (.mov (.c .nil)),jk 6 .i64 0] [0,1]
(.seq (jq [jm 9 0,jm 10 1,js 11 (.bslice 2 1 [.nil] [(0,1,(.t 9)),(1,1,(.t 10))]),jc 12 106 [11],js 13 (.un .not (.t 12))] [0,1,13]
(jC 13
(jq [js 4 (.mov (.c .nil)),js 5 (.mov (.c .nil)),jk 6 .i64 2] [4,5,6]
.ret)
.skip))
(.seq (.block 0
(jq [jm 15 1,jn 16 15,ji 17 .eql 16 .i64 0,jm 14 17] [0,1,14]
(jC 14
(jq [js 4 (.mov (.c .nil)),js 5 (.mov (.c .nil)),jk 6 .i64 11] [4,5,6]
.ret)
(jq [jm 19 0,jm 20 1,jc 21 107 [19,20],ji 22 .lss 21 .i64 0,jm 18 22] [0,1,18]
(jC 18
(jq [jm 23 0,js 24 (.app 1 4 (.c .nil) (.t 23)),js 4 (.mov (.c .nil)),jm 5 24,jk 6 .i64 0] [4,5,6]
.ret)
(jq [jm 26 1,jn 27 26,ji 28 .eql 27 .i64 1,jm 25 28] [0,1,25]
(jC 25
(jq [jm 30 0,jm 31 1,js 32 (.iaddr 1 (.t 31) (.c (.int .i64 0))),jl 33 1 32,jc 34 108 [30,33],jm 29 34,je 35 29 0,je 36 29 1,jm 7 35,jm 8 36] [7,8]
(jq [jm 37 7,jm 38 8,js 39 (.bslice 1 1 [(.int .u32 0)] [(0,1,(.t 38))]),jc 40 94 [39],jm 4 37,jm 5 40,jk 6 .i64 0] [4,5,6]
.ret))
.skip)))))))
(jq [jm 42 0,jm 43 1,jc 44 109 [42,43],jm 41 44,je 45 41 0,je 46 41 1,jm 4 45,jm 5 46] [4,5]
(jq [jm 47 4,jm 48 5,jm 4 47,jm 5 48,jk 6 .i64 0] [4,5,6]
.ret)))))⟩
def ZdB : IC :=
(jq [jb 44 .lss 43 42] [0,5,6,9,10,42,43,44]
(.seq (jC 44
.skip
(.exit 2))
(.seq (.block 3
(jq [jm 45 43,jm 11 45] [0,5,6,9,10,11,42,43]
(jq [jk 12 .u32 0,jk 13 .u32 0] [0,5,6,9,10,11,12,13,42,43]
(.seq (jq [jm 46 11,jm 47 6,jn 48 47,jb 49 .lss 46 48] [0,5,6,9,10,11,12,13,42,43,49]
(jC 49
(jr [jm 50 6,jm 51 11,ja 52 1 50 51,jl 53 1 52,jm 12 53] [0,5,6,9,10,11,12,13,42,43])
.skip))
(.seq (jq [jm 54 11,jm 55 5,jn 56 55,jb 57 .lss 54 56] [0,5,6,9,10,11,12,13,42,43,57]
(jC 57
(jr [jm 58 5,jm 59 11,ja 60 1 58 59,jl 61 1 60,jm 13 61] [0,5,6,9,10,11,12,13,42,43])
.skip))
(jr [jm 63 9,jm 64 11,jm 65 12,jm 66 13,jm 67 10,jc 68 112 [65,66,67],jm 62 68,je 69 62 0,je 70 62 1,ja 71 1 63 64,jw 1 71 69,jm 10 70] [0,5,6,9,10,42,43]))))))
(jr [ji 72 .add 43 .i64 1,jm 43 72] [0,5,6,9,10,42,43]))))
def Zhq : IC:=.loop [0,5,6,9,10,42,43] ZdB
def Zkt : IC :=
(.block 1
(jq [jm 28 0,jm 29 5,jc 30 77 [28,29],jm 27 30,je 31 27 0,je 32 27 1,je 33 27 2,jm 6 31,jm 7 32,jm 8 33] [0,5,6]
(jq [jm 34 6,jn 35 34,jm 36 5,jn 37 36,js 38 (.mm true (.t 35) [(.t 37)]),ji 39 .add 38 .i64 1,js 40 (.mk 1 4 [(.int .u32 0)] (.t 39) (.t 39)),jm 9 40] [0,5,6,9]
(jq [jk 10 .u32 0] [0,5,6,9,10]
(.seq (jq [jm 41 9,jn 42 41,jk 43 .i64 0] [0,5,6,9,10,42,43]
(.block 2
 Zhq))
(jq [jm 73 9,jc 74 94 [73],js 75 (.call false (.f 89) [(.t 74),(.c (.int .i64 1))]),jm 14 75] [0,5,14]
(.seq (jq [jm 76 14,jm 77 5,jc 78 107 [76,77],ji 79 .geq 78 .i64 0] [0,5,14,79]
(jC 79
(jq [jm 80 5,jm 81 5,jm 82 5,jc 83 113 [81,82],jm 84 0,jc 85 107 [83,84],ji 86 .eql 85 .i64 0,jm 2 80,jm 3 86,jk 4 .i64 0] [2,3,4]
.ret)
.skip))
(jr [jm 87 14,jm 5 87] [0,5]))))))))
def Zku : IC:=.loop [0,5] Zkt
def ZjO : IFn:=⟨[.tmp 2,.tmp 3,.tmp 4],
(jq [js 2 (.mov (.c .nil)),jv 3 false,jk 4 .i64 0] [0]
(.seq (jq [jm 15 0,jc 16 86 [15],js 17 (.un .not (.t 16))] [0,17]
(jC 17
(jq [js 2 (.mov (.c .nil)),jv 3 false,jk 4 .i64 2] [2,3,4]
.ret)
.skip))
(.seq (jq [jm 18 0,jn 19 18,ji 20 .eql 19 .i64 0] [0,20]
(jC 20
(jq [js 2 (.mov (.c .nil)),jv 3 true,jk 4 .i64 0] [2,3,4]
.ret)
.skip))
(jq [js 21 (.bslice 1 1 [(.int .u32 0)] [(0,1,(.c (.int .u32 1)))]),jm 22 0,jc 23 49 [22],ji 24 .add 23 .i64 1,ji 25 .quo 24 .i64 2,jc 26 91 [21,25],jm 5 26] [0,5]
(.block 0
 Zku)))))⟩
def ZjM : IFn:=⟨[.tmp 2],
(jq [jv 2 false] [0]
(jq [jm 3 0,jn 4 3,ji 5 .leq 4 .i64 4096,jm 6 5,jg (jm 7 0) 6 true,jg (jn 8 7) 6 true,jg (ji 9 .eql 8 .i64 0) 6 true,jg (jm 10 9) 6 true,jg (jm 11 0) 10 false,jg (jm 12 0) 10 false,jg (jn 13 12) 10 false,jg (ji 14 .sub 13 .i64 1) 10 false,jg (ja 15 1 11 14) 10 false,jg (jl 16 1 15) 10 false,jg (ji 17 .neq 16 .u32 0) 10 false,jg (jP 18 10 17) 6 true,jp 19 6 18,jm 2 19] [2]
.ret))⟩
def Zdd : IFn:=⟨[.tmp 2],
(jq [jk 2 .i64 0] [0,2]
(.seq (jq [jm 3 0,ji 4 .geq 3 .u32 65536] [0,2,4]
(jC 4
(jq [jm 5 0,ji 6 .shr 5 .u64 16,jm 0 6] [0]
(jr [jk 2 .i64 16] [0,2]))
.skip))
(.seq (jq [jm 7 0,ji 8 .geq 7 .u32 256] [0,2,8]
(jC 8
(jq [jm 9 0,ji 10 .shr 9 .u64 8,jm 0 10] [0,2]
(jr [jm 11 2,ji 12 .add 11 .i64 8,jm 2 12] [0,2]))
.skip))
(jq [jm 13 2,jm 14 0,js 15 (.cvt .u8 (.t 14)),js 16 (.strix ZnM (.t 15)),js 17 (.cvt .i64 (.t 16)),jb 18 .add 13 17,jm 2 18] [2]
.ret))))⟩
def Zhr : IC :=
(jq [jb 26 .lss 25 24] [0,5,6,23,24,25,26]
(.seq (jC 26
.skip
(.exit 0))
(.seq (.block 1
(jq [jm 27 25,ja 28 1 23 25,jl 29 1 28,jm 7 27,jm 8 29] [0,5,6,7,8,23,24,25]
(jq [jm 30 6,jm 31 7,jm 32 8,jm 33 5,jb 34 .shr 32 33,ja 35 1 30 31,jw 1 35 34] [0,5,6,7,23,24,25]
(jq [jm 36 7,ji 37 .add 36 .i64 1,jm 38 0,jn 39 38,jb 40 .lss 37 39] [0,5,6,7,23,24,25,40]
(jC 40
(jr [jm 41 6,jm 42 7,ja 43 1 41 42,jl 44 1 43,jm 45 0,jm 46 7,ji 47 .add 46 .i64 1,ja 48 1 45 47,jl 49 1 48,js 50 (.cvt .u64 (.t 49)),jm 51 5,js 52 (.bin .sub (.c (.int .i64 32)) (.t 51)),jb 53 .shl 50 52,js 54 (.cvt .u32 (.t 53)),jb 55 .or 44 54,ja 56 1 41 42,jw 1 56 55] [0,5,6,23,24,25])
.skip)))))
(jr [ji 57 .add 25 .i64 1,jm 25 57] [0,5,6,23,24,25]))))
def Zhs : IC:=.loop [0,5,6,23,24,25] Zhr
def ZjP : IFn:=⟨[.tmp 4],
(jq [js 4 (.mov (.c .nil))] [0,1]
(.seq (jq [jm 9 1,ji 10 .quo 9 .i64 32,jm 11 0,jn 12 11,jb 13 .geq 10 12] [0,1,13]
(jC 13
(jq [js 4 (.mov (.c .nil))] [4]
.ret)
.skip))
(jq [jm 14 0,jm 15 1,ji 16 .quo 15 .i64 32,js 17 (.slice 1 (.t 14) (some (.t 16)) none),jm 0 17] [0,1]
(jq [jm 18 1,ji 19 .rem 18 .i64 32,jm 5 19] [0,5]
(jq [jm 20 0,jn 21 20,js 22 (.mk 1 4 [(.int .u32 0)] (.t 21) (.t 21)),jm 6 22] [0,5,6]
(.seq (jq [jm 23 0,jn 24 23,jk 25 .i64 0] [0,5,6,23,24,25]
(.block 0
 Zhs))
(jq [jm 58 6,jc 59 94 [58],jm 4 59] [4]
.ret)))))))⟩
def ZiG : IC :=
(jq [jb 11 .lss 10 9] [8,9,10,11]
(.seq (jC 11
.skip
(.exit 0))
(.seq (.block 1
(jq [jm 12 10,ja 13 1 8 10,jl 14 1 13,jm 3 12,jm 4 14] [3,4,8,9,10]
(jq [jm 15 4,ji 16 .neq 15 .u32 0] [3,4,8,9,10,16]
(jC 16
(jq [jm 17 3,js 18 (.bin .mul (.c (.int .i64 32)) (.t 17)),jm 19 4,jc 20 114 [19],jb 21 .add 18 20,jm 2 21] [2]
.ret)
.skip))))
(jr [ji 22 .add 10 .i64 1,jm 10 22] [8,9,10]))))
def ZiH : IC:=.loop [8,9,10] ZiG
def Zls : IFn:=⟨[.tmp 2],
(jq [jk 2 .i64 0] [0]
(.seq (jq [jm 5 0,jc 6 86 [5],js 7 (.un .not (.t 6))] [0,7]
(jC 7
(jq [jk 2 .i64 0] [2]
.ret)
.skip))
(.seq (jq [jm 8 0,jn 9 8,jk 10 .i64 0] [8,9,10]
(.block 0
 ZiH))
(jq [jk 2 .i64 0] [2]
.ret))))⟩
def Zia : IC :=
(jq [jb 27 .lss 26 25] [5,6,7,24,25,26,27]
(.seq (jC 27
.skip
(.exit 0))
(.seq (.block 1
(jq [ja 28 1 24 26,jl 29 1 28,jm 9 29] [5,6,7,9,24,25,26]
(jq [jm 30 5,jm 31 9,jm 32 6,jb 33 .shl 31 32,jm 34 7,jb 35 .or 33 34,js 36 (.bslice 1 1 [(.int .u32 0)] [(0,1,(.t 35))]),js 37 (.app 1 4 (.t 30) (.t 36)),jm 5 37] [5,6,9,24,25,26]
(jr [jm 38 9,js 39 (.cvt .u64 (.t 38)),jm 40 6,js 41 (.bin .sub (.c (.int .i64 32)) (.t 40)),jb 42 .shr 39 41,js 43 (.cvt .u32 (.t 42)),jm 7 43] [5,6,7,24,25,26]))))
(jr [ji 44 .add 26 .i64 1,jm 26 44] [5,6,7,24,25,26]))))
def Zet : IC:=.loop [5,6,7,24,25,26] Zia
def ZiO : IFn:=⟨[.tmp 4],
(jq [js 4 (.mov (.c .nil))] [0,1]
(.seq (jq [jm 10 0,jn 11 10,ji 12 .eql 11 .i64 0] [0,1,12]
(jC 12
(jq [js 4 (.mov (.c .nil))] [4]
.ret)
.skip))
(jq [jm 13 1,ji 14 .quo 13 .i64 32,jm 15 1,ji 16 .quo 15 .i64 32,jm 17 0,jn 18 17,jb 19 .add 16 18,ji 20 .add 19 .i64 1,js 21 (.mk 1 4 [(.int .u32 0)] (.t 14) (.t 20)),jm 5 21] [0,1,5]
(jq [jm 22 1,ji 23 .rem 22 .i64 32,jm 6 23,jk 7 .u32 0] [0,5,6,7]
(.seq (jq [jm 24 0,jn 25 24,jk 26 .i64 0] [5,6,7,24,25,26]
(.block 0
 Zet))
(jq [jm 45 5,jm 46 7,js 47 (.bslice 1 1 [(.int .u32 0)] [(0,1,(.t 46))]),js 48 (.app 1 4 (.t 45) (.t 47)),js 49 (.call true (.f 94) [(.t 48)]),jm 4 49] [4]
.ret))))))⟩
def Zcx : IC :=
(.seq (jq [jm 3 0,jn 4 3,ji 5 .gtr 4 .i64 0,jm 6 5,jg (jm 7 0) 6 true,jg (jm 8 0) 6 true,jg (jn 9 8) 6 true,jg (ji 10 .sub 9 .i64 1) 6 true,jg (ja 11 1 7 10) 6 true,jg (jl 12 1 11) 6 true,jg (ji 13 .eql 12 .u32 0) 6 true,jp 14 6 13] [0,14]
(jC 14
.skip
(.exit 0)))
(.block 1
(jr [jm 15 0,jm 16 0,jn 17 16,ji 18 .sub 17 .i64 1,js 19 (.slice 1 (.t 15) none (some (.t 18))),jm 0 19] [0])))
def Zbr : IC:=.loop [0] Zcx
def ZhK : IFn:=⟨[.tmp 2],
(jq [js 2 (.mov (.c .nil))] [0]
(.seq (.block 0
 Zbr)
(jq [jm 20 0,jm 2 20] [2]
.ret)))⟩
def ZnI : IFn:=⟨[.tmp 4,.tmp 5],
(jq [js 4 (.mov (.c .nil)),jk 5 .i64 0] [0,1]
(.seq (jq [jm 6 0,jm 7 1,js 8 (.bslice 2 1 [.nil] [(0,1,(.t 6)),(1,1,(.t 7))]),jc 9 106 [8],js 10 (.un .not (.t 9))] [0,1,10]
(jC 10
(jq [js 4 (.mov (.c .nil)),jk 5 .i64 2] [4,5]
.ret)
.skip))
(.seq (jq [jm 11 0,jm 12 1,jc 13 107 [11,12],ji 14 .lss 13 .i64 0] [0,1,14]
(jC 14
(jq [js 4 (.mov (.c .nil)),jk 5 .i64 10] [4,5]
.ret)
.skip))
(jq [jm 15 0,jm 16 1,jc 17 116 [15,16],jm 4 17,jk 5 .i64 0] [4,5]
.ret))))⟩
def ZnG : IFn:=⟨[.tmp 4,.tmp 5],
(jq [jk 4 .i64 0,jk 5 .i64 0] [0,1]
(.seq (jq [jm 6 0,jm 7 1,js 8 (.bslice 2 1 [.nil] [(0,1,(.t 6)),(1,1,(.t 7))]),jc 9 106 [8],js 10 (.un .not (.t 9))] [0,1,10]
(jC 10
(jq [jk 4 .i64 0,jk 5 .i64 2] [4,5]
.ret)
.skip))
(jq [jm 11 0,jm 12 1,jc 13 107 [11,12],jm 4 13,jk 5 .i64 0] [4,5]
.ret)))⟩
def ZiE : IC :=
(jq [jb 29 .lss 28 27] [0,1,6,7,27,28,29]
(.seq (jC 29
.skip
(.exit 0))
(.seq (.block 1
(jq [jm 30 28,jm 8 30] [0,1,6,7,8,27,28]
(jq [jk 9 .u32 0] [0,1,6,7,8,9,27,28]
(.seq (jq [jm 31 8,jm 32 1,jn 33 32,jb 34 .lss 31 33] [0,1,6,7,8,9,27,28,34]
(jC 34
(jr [jm 35 1,jm 36 8,ja 37 1 35 36,jl 38 1 37,jm 9 38] [0,1,6,7,8,9,27,28])
.skip))
(jr [jm 40 6,jm 41 8,jm 42 0,jm 43 8,ja 44 1 42 43,jl 45 1 44,jm 46 9,jm 47 7,jc 48 112 [45,46,47],jm 39 48,je 49 39 0,je 50 39 1,ja 51 1 40 41,jw 1 51 49,jm 7 50] [0,1,6,7,27,28])))))
(jr [ji 52 .add 28 .i64 1,jm 28 52] [0,1,6,7,27,28]))))
def ZiF : IC:=.loop [0,1,6,7,27,28] ZiE
def Zlq : IFn:=⟨[.tmp 4,.tmp 5],
(jq [js 4 (.mov (.c .nil)),jk 5 .i64 0] [0,1]
(.seq (jq [jm 10 0,jm 11 1,js 12 (.bslice 2 1 [.nil] [(0,1,(.t 10)),(1,1,(.t 11))]),jc 13 106 [12],js 14 (.un .not (.t 13))] [0,1,14]
(jC 14
(jq [js 4 (.mov (.c .nil)),jk 5 .i64 2] [4,5]
.ret)
.skip))
(.seq (jq [jm 15 0,jn 16 15,jm 17 1,jn 18 17,jb 19 .lss 16 18] [0,1,19]
(jC 19
(jr [jm 20 1,jm 21 0,jm 0 20,jm 1 21] [0,1])
.skip))
(jq [jm 22 0,jn 23 22,ji 24 .add 23 .i64 1,js 25 (.mk 1 4 [(.int .u32 0)] (.t 24) (.t 24)),jm 6 25] [0,1,6]
(jq [jk 7 .u32 0] [0,1,6,7]
(.seq (jq [jm 26 0,jn 27 26,jk 28 .i64 0] [0,1,6,7,27,28]
(.block 0
 ZiF))
(jq [jm 53 6,jm 54 0,jn 55 54,jm 56 7,ja 57 1 53 55,jw 1 57 56] [6]
(jq [jm 58 6,jc 59 94 [58],jc 60 117 [59],je 61 60 0,je 62 60 1,jm 4 61,jm 5 62] [4,5]
.ret))))))))⟩
def Zlu : IC :=
(jq [jb 8 .lss 7 6] [5,6,7,8]
(.seq (jC 8
.skip
(.exit 0))
(.seq (.block 1
(jq [ja 9 1 5 7,jl 10 1 9,jm 4 10] [4,5,6,7]
(jq [jm 11 4,jc 12 86 [11],js 13 (.un .not (.t 12))] [5,6,7,13]
(jC 13
(jq [jv 2 false] [2]
.ret)
.skip))))
(jr [ji 14 .add 7 .i64 1,jm 7 14] [5,6,7]))))
def Zlv : IC:=.loop [5,6,7] Zlu
def ZnJ : IFn:=⟨[.tmp 2],
(jq [jv 2 false] [0]
(.seq (jq [jm 5 0,jn 6 5,jk 7 .i64 0] [5,6,7]
(.block 0
 Zlv))
(jq [jv 2 true] [2]
.ret)))⟩
def ZgE : IC :=
(.seq (jq [jm 21 5,ji 22 .geq 21 .i64 0] [0,1,5,22]
(jC 22
.skip
(.exit 1)))
(.seq (.block 2
(jq [jm 25 0,jm 26 5,ja 27 1 25 26,jl 28 1 27,jm 29 1,jm 30 5,ja 31 1 29 30,jl 32 1 31,jb 33 .neq 28 32] [0,1,5,33]
(jC 33
(.seq (jq [jm 34 0,jm 35 5,ja 36 1 34 35,jl 37 1 36,jm 38 1,jm 39 5,ja 40 1 38 39,jl 41 1 40,jb 42 .lss 37 41] [42]
(jC 42
(jq [jk 4 .i64 (-1)] [4]
.ret)
.skip))
(jq [jk 4 .i64 1] [4]
.ret))
.skip)))
(jr [jm 23 5,ji 24 .sub 23 .i64 1,jm 5 24] [0,1,5])))
def ZiJ : IC:=.loop [0,1,5] ZgE
def ZhZ : IFn:=⟨[.tmp 4],
(jq [jk 4 .i64 0] [0,1]
(.seq (.block 0
(jq [jm 7 0,jn 8 7,jm 9 1,jn 10 9,jb 11 .lss 8 10,jm 6 11] [0,1,6]
(jC 6
(jq [jk 4 .i64 (-1)] [4]
.ret)
(jq [jm 13 0,jn 14 13,jm 15 1,jn 16 15,jb 17 .gtr 14 16,jm 12 17] [0,1,12]
(jC 12
(jq [jk 4 .i64 1] [4]
.ret)
.skip)))))
(.seq (jq [jm 18 0,jn 19 18,ji 20 .sub 19 .i64 1,jm 5 20] [0,1,5]
(.block 1
 ZiJ))
(jq [jk 4 .i64 0] [4]
.ret))))⟩
def Zjt : IC :=
(.seq (jq [jm 15 8,ji 16 .geq 15 .i64 0] [0,1,6,7,8,16]
(jC 16
.skip
(.exit 0)))
(.seq (.block 1
(jr [jm 20 6,jm 21 8,jm 22 7,jm 23 0,jm 24 8,ja 25 1 23 24,jl 26 1 25,jm 27 1,jc 28 118 [22,26,27],jm 19 28,je 29 19 0,je 30 19 1,ja 31 1 20 21,jw 1 31 29,jm 7 30] [0,1,6,7,8]))
(jr [jm 17 8,ji 18 .sub 17 .i64 1,jm 8 18] [0,1,6,7,8])))
def Zgf : IC:=.loop [0,1,6,7,8] Zjt
def Zkx : IFn:=⟨[.tmp 4,.tmp 5],
(jq [js 4 (.mov (.c .nil)),jk 5 .u32 0] [0,1]
(jq [jm 9 0,jn 10 9,js 11 (.mk 1 4 [(.int .u32 0)] (.t 10) (.t 10)),jm 6 11] [0,1,6]
(jq [jk 7 .u32 0] [0,1,6,7]
(.seq (jq [jm 12 0,jn 13 12,ji 14 .sub 13 .i64 1,jm 8 14] [0,1,6,7,8]
(.block 0
 Zgf))
(jq [jm 32 6,jc 33 94 [32],jm 34 7,jm 4 33,jm 5 34] [4,5]
.ret)))))⟩
def Zkw : IC :=
(.seq (jq [jm 43 11,ji 44 .geq 43 .i64 0] [6,7,8,9,10,11,44]
(jC 44
.skip
(.exit 2)))
(.seq (.block 3
(jr [jm 47 10,jm 48 11,jm 49 8,jm 50 11,jm 51 11,jm 52 9,jb 53 .add 51 52,ji 54 .add 53 .i64 1,js 55 (.slice 1 (.t 49) (some (.t 50)) (some (.t 54))),jm 56 7,js 57 (.call true (.f 120) [(.t 55),(.t 56)]),ja 58 1 47 48,jw 1 58 57] [6,7,8,9,10,11]))
(jr [jm 45 11,ji 46 .sub 45 .i64 1,jm 11 46] [6,7,8,9,10,11])))
def Zhu : IC:=.loop [6,7,8,9,10,11] Zkw
def Zht : IC :=
(.seq (jq [jm 25 8,jn 26 25,jm 27 0,jn 28 27,jb 29 .leq 26 28] [0,6,7,8,29]
(jC 29
.skip
(.exit 0)))
(.block 1
(jr [jm 30 8,js 31 (.bslice 1 1 [(.int .u32 0)] [(0,1,(.c (.int .u32 0)))]),js 32 (.app 1 4 (.t 30) (.t 31)),jm 8 32] [0,6,7,8])))
def ZeW : IC:=.loop [0,6,7,8] Zht
def Zmm : IFn:=⟨[.tmp 4,.tmp 5],
(jq [js 4 (.mov (.c .nil)),js 5 (.mov (.c .nil))] [0,1]
(jq [jm 12 1,jm 13 1,jn 14 13,ji 15 .sub 14 .i64 1,ja 16 1 12 15,jl 17 1 16,jc 18 119 [17],jm 6 18] [0,1,6]
(jq [jm 19 1,jm 20 6,js 21 (.call true (.f 91) [(.t 19),(.t 20)]),jm 7 21] [0,6,7]
(jq [jm 22 0,jm 23 6,js 24 (.call true (.f 91) [(.t 22),(.t 23)]),jm 8 24] [0,6,7,8]
(.seq (.block 0
 ZeW)
(jq [jm 33 7,jn 34 33,jm 9 34] [6,7,8,9]
(jq [jm 35 8,jn 36 35,jm 37 9,jb 38 .sub 36 37,js 39 (.mk 1 4 [(.int .u32 0)] (.t 38) (.t 38)),jm 10 39] [6,7,8,9,10]
(.seq (jq [jm 40 10,jn 41 40,ji 42 .sub 41 .i64 1,jm 11 42] [6,7,8,9,10,11]
(.block 2
 Zhu))
(jq [jm 59 10,jc 60 94 [59],jm 61 8,jm 62 9,js 63 (.slice 1 (.t 61) none (some (.t 62))),jc 64 94 [63],jm 65 6,jc 66 89 [64,65],jc 67 94 [66],jm 4 60,jm 5 67] [4,5]
.ret)))))))))⟩
def Ziy : IFn:=⟨[.tmp 6,.tmp 7],
(jq [jk 6 .u32 0,jk 7 .u32 0] [0,1,2]
(jq [jm 9 0,js 10 (.cvt .u64 (.t 9)),jm 11 1,js 12 (.cvt .u64 (.t 11)),jb 13 .add 10 12,jm 14 2,js 15 (.cvt .u64 (.t 14)),jb 16 .add 13 15,jm 8 16] [8]
(jq [jm 17 8,js 18 (.cvt .u32 (.t 17)),jm 6 18] [6,8]
(jq [jm 19 8,ji 20 .shr 19 .u64 32,js 21 (.cvt .u32 (.t 20)),jm 7 21] [6,7]
.ret))))⟩
def Zlw : IC :=
(jq [jb 28 .lss 27 26] [1,5,6,7,8,18,19,20,25,26,27,28]
(.seq (jC 28
.skip
(.exit 2))
(.seq (.block 3
(jq [jm 29 27,ja 30 1 25 27,jl 31 1 30,jm 9 29,jm 10 31] [1,5,6,7,8,9,10,18,19,20,25,26,27]
(jq [jm 32 7,js 33 (.cvt .u64 (.t 32)),jm 34 10,js 35 (.cvt .u64 (.t 34)),jb 36 .mul 33 35,jm 37 5,jm 38 6,jm 39 9,jb 40 .add 38 39,ja 41 1 37 40,jl 42 1 41,js 43 (.cvt .u64 (.t 42)),jb 44 .add 36 43,jm 45 8,jb 46 .add 44 45,jm 11 46] [1,5,6,7,9,11,18,19,20,25,26,27]
(jq [jm 47 5,jm 48 6,jm 49 9,jb 50 .add 48 49,jm 51 11,js 52 (.cvt .u32 (.t 51)),ja 53 1 47 50,jw 1 53 52] [1,5,6,7,11,18,19,20,25,26,27]
(jr [jm 54 11,ji 55 .shr 54 .u64 32,jm 8 55] [1,5,6,7,8,18,19,20,25,26,27])))))
(jr [ji 56 .add 27 .i64 1,jm 27 56] [1,5,6,7,8,18,19,20,25,26,27]))))
def ZiK : IC:=.loop [1,5,6,7,8,18,19,20,25,26,27] Zlw
def Zlx : IC :=
(jq [jb 21 .lss 20 19] [1,5,18,19,20,21]
(.seq (jC 21
.skip
(.exit 0))
(.seq (.block 1
(jq [jm 22 20,ja 23 1 18 20,jl 24 1 23,jm 6 22,jm 7 24] [1,5,6,7,18,19,20]
(jq [jk 8 .u64 0] [1,5,6,7,8,18,19,20]
(.seq (jq [jm 25 1,jn 26 25,jk 27 .i64 0] [1,5,6,7,8,18,19,20,25,26,27]
(.block 2
 ZiK))
(jr [jm 57 5,jm 58 6,jm 59 1,jn 60 59,jb 61 .add 58 60,jm 62 8,js 63 (.cvt .u32 (.t 62)),ja 64 1 57 61,jw 1 64 63] [1,5,18,19,20])))))
(jr [ji 65 .add 20 .i64 1,jm 20 65] [1,5,18,19,20]))))
def ZiL : IC:=.loop [1,5,18,19,20] Zlx
def ZnK : IFn:=⟨[.tmp 4],
(jq [js 4 (.mov (.c .nil))] [0,1]
(jq [jm 12 0,jn 13 12,jm 14 1,jn 15 14,jb 16 .add 13 15,js 17 (.mk 1 4 [(.int .u32 0)] (.t 16) (.t 16)),jm 5 17] [0,1,5]
(.seq (jq [jm 18 0,jn 19 18,jk 20 .i64 0] [1,5,18,19,20]
(.block 0
 ZiL))
(jq [jm 66 5,jc 67 94 [66],jm 4 67] [4]
.ret))))⟩
def ZaT (gdb : Nat) : IFn:=⟨[.tmp 2],
(jq [jk 2 .i64 0] [0]
(.seq (jq [jm 3 0,ji 4 .eql 3 .u32 0] [0,4]
(jC 4
(jq [jk 2 .i64 32] [2]
.ret)
.skip))
(jq [jm 5 0,jm 6 0,js 7 (.un .neg (.t 6)),jb 8 .and 5 7,ji 9 .mul 8 .u32 125613361,ji 10 .shr 9 .u64 27,js 11 (.iaddrA 32 1 (.g gdb) (.t 10)),jl 12 1 11,js 13 (.cvt .i64 (.t 12)),jm 2 13] [2]
.ret)))⟩
def ZiM : IC :=
(jq [jb 15 .lss 14 13] [0,1,5,6,13,14,15]
(.seq (jC 15
.skip
(.exit 0))
(.seq (.block 1
(jq [jm 16 14,jm 7 16] [0,1,5,6,7,13,14]
(jq [jk 8 .u32 0] [0,1,5,6,7,8,13,14]
(.seq (jq [jm 17 7,jm 18 1,jn 19 18,jb 20 .lss 17 19] [0,1,5,6,7,8,13,14,20]
(jC 20
(jr [jm 21 1,jm 22 7,ja 23 1 21 22,jl 24 1 23,jm 8 24] [0,1,5,6,7,8,13,14])
.skip))
(jr [jm 26 5,jm 27 7,jm 28 0,jm 29 7,ja 30 1 28 29,jl 31 1 30,jm 32 8,jm 33 6,jc 34 121 [31,32,33],jm 25 34,je 35 25 0,je 36 25 1,ja 37 1 26 27,jw 1 37 35,jm 6 36] [0,1,5,6,13,14])))))
(jr [ji 38 .add 14 .i64 1,jm 14 38] [0,1,5,6,13,14]))))
def ZiN : IC:=.loop [0,1,5,6,13,14] ZiM
def ZnL : IFn:=⟨[.tmp 4],
(jq [js 4 (.mov (.c .nil))] [0,1]
(jq [jm 9 0,jn 10 9,js 11 (.mk 1 4 [(.int .u32 0)] (.t 10) (.t 10)),jm 5 11] [0,1,5]
(jq [jk 6 .u32 0] [0,1,5,6]
(.seq (jq [jm 12 0,jn 13 12,jk 14 .i64 0] [0,1,5,6,13,14]
(.block 0
 ZiN))
(jq [jm 39 5,jc 40 94 [39],jm 4 40] [4]
.ret)))))⟩
def Zkv : IFn:=⟨[.tmp 2,.tmp 3],
(jq [js 2 (.mov (.c .nil)),jk 3 .i64 0] [0]
(.seq (jq [jm 4 0,jn 5 4,ji 6 .gtr 5 .i64 4096] [0,6]
(jC 6
(jq [js 2 (.mov (.c .nil)),jk 3 .i64 3] [2,3]
.ret)
.skip))
(jq [jm 7 0,jm 2 7,jk 3 .i64 0] [2,3]
.ret)))⟩
def Ziz : IFn:=⟨[.tmp 6,.tmp 7],
(jq [jk 6 .u32 0,jk 7 .u32 0] [0,1,2]
(.seq (jq [jm 9 2,ji 10 .neq 9 .u32 0,jm 11 10,jg (jm 12 2) 11 true,jg (jm 13 0) 11 true,jg (jb 14 .leq 12 13) 11 true,jp 15 11 14] [0,1,2,15]
(jC 15
.fail
.skip))
(jq [jm 17 0,js 18 (.cvt .u64 (.t 17)),ji 19 .shl 18 .u64 32,jm 20 1,js 21 (.cvt .u64 (.t 20)),jb 22 .or 19 21,jm 8 22] [2,8]
(jq [jm 23 8,jm 24 2,js 25 (.cvt .u64 (.t 24)),jb 26 .quo 23 25,js 27 (.cvt .u32 (.t 26)),jm 28 8,jm 29 2,js 30 (.cvt .u64 (.t 29)),jb 31 .rem 28 30,js 32 (.cvt .u32 (.t 31)),jm 6 27,jm 7 32] [6,7]
.ret))))⟩
def ZbP : IFn:=⟨[.tmp 2],
(jq [jk 2 .i64 0] [0]
(jq [jm 3 0,jc 4 88 [3],js 5 (.bin .sub (.c (.int .i64 32)) (.t 4)),jm 2 5] [2]
.ret))⟩
def Zky : IC :=
(jq [jb 132 .lss 131 130] [0,5,7,13,129,130,131,132]
(.seq (jC 132
.skip
(.exit 4))
(.seq (.block 5
(jq [jm 133 131,ja 134 1 129 131,jl 135 1 134,jm 14 133,jm 15 135] [0,5,7,13,14,15,129,130,131]
(jr [jm 137 0,jm 138 14,jm 139 0,jm 140 14,ja 141 1 139 140,jl 142 1 141,jm 143 15,jm 144 13,jc 145 112 [142,143,144],jm 136 145,je 146 136 0,je 147 136 1,ja 148 1 137 138,jw 1 148 146,jm 13 147] [0,5,7,13,129,130,131])))
(jr [ji 149 .add 131 .i64 1,jm 131 149] [0,5,7,13,129,130,131]))))
def Zhv : IC:=.loop [0,5,7,13,129,130,131] Zky
def Zkz : IC :=
(jq [jb 84 .lss 83 82] [0,1,5,7,9,10,81,82,83,84]
(.seq (jC 84
.skip
(.exit 2))
(.seq (.block 3
(jq [jm 85 83,ja 86 1 81 83,jl 87 1 86,jm 11 85,jm 12 87] [0,1,5,7,9,10,11,12,81,82,83]
(jq [jm 88 10,jm 89 7,jm 90 12,js 91 (.cvt .u64 (.t 90)),jb 92 .mul 89 91,jb 93 .add 88 92,jm 10 93] [0,1,5,7,9,10,11,81,82,83]
(jq [jm 95 0,jm 96 11,jm 97 0,jm 98 11,ja 99 1 97 98,jl 100 1 99,jm 101 10,js 102 (.cvt .u32 (.t 101)),jm 103 9,jc 104 121 [100,102,103],jm 94 104,je 105 94 0,je 106 94 1,ja 107 1 95 96,jw 1 107 105,jm 9 106] [0,1,5,7,9,10,81,82,83]
(jr [jm 108 10,ji 109 .shr 108 .u64 32,jm 10 109] [0,1,5,7,9,10,81,82,83])))))
(jr [ji 110 .add 83 .i64 1,jm 83 110] [0,1,5,7,9,10,81,82,83]))))
def Zhw : IC:=.loop [0,1,5,7,9,10,81,82,83] Zkz
def ZdC : IC :=
(.seq (jq [jm 47 7,ji 48 .geq 47 .u64 4294967296,jm 49 48,jg (jm 50 7) 49 false,jg (jm 51 1) 49 false,jg (jm 52 5) 49 false,jg (ji 53 .sub 52 .i64 2) 49 false,jg (ja 54 1 51 53) 49 false,jg (jl 55 1 54) 49 false,jg (js 56 (.cvt .u64 (.t 55))) 49 false,jg (jb 57 .mul 50 56) 49 false,jg (jm 58 8) 49 false,jg (ji 59 .shl 58 .u64 32) 49 false,jg (jm 60 0) 49 false,jg (jm 61 5) 49 false,jg (ji 62 .sub 61 .i64 2) 49 false,jg (ja 63 1 60 62) 49 false,jg (jl 64 1 63) 49 false,jg (js 65 (.cvt .u64 (.t 64))) 49 false,jg (jb 66 .or 59 65) 49 false,jg (jb 67 .gtr 57 66) 49 false,jP 68 49 67] [0,1,5,7,8,68]
(jC 68
.skip
(.exit 0)))
(.block 1
(jq [jm 69 7,ji 70 .sub 69 .u64 1,jm 7 70] [0,1,5,7,8]
(jq [jm 71 8,jm 72 1,jm 73 5,ji 74 .sub 73 .i64 1,ja 75 1 72 74,jl 76 1 75,js 77 (.cvt .u64 (.t 76)),jb 78 .add 71 77,jm 8 78] [0,1,5,7,8]
(jq [jm 79 8,ji 80 .geq 79 .u64 4294967296] [0,1,5,7,8,80]
(jC 80
(.exit 0)
.skip))))))
def ZbQ : IC:=.loop [0,1,5,7,8] ZdC
def ZfS : IFn:=⟨[.tmp 4],
(jq [jk 4 .u32 0] [0,1]
(jq [jm 16 1,jn 17 16,jm 5 17] [0,1,5]
(jq [jm 18 0,jm 19 5,ja 20 1 18 19,jl 21 1 20,js 22 (.cvt .u64 (.t 21)),ji 23 .shl 22 .u64 32,jm 24 0,jm 25 5,ji 26 .sub 25 .i64 1,ja 27 1 24 26,jl 28 1 27,js 29 (.cvt .u64 (.t 28)),jb 30 .or 23 29,jm 6 30] [0,1,5,6]
(jq [jm 31 6,jm 32 1,jm 33 5,ji 34 .sub 33 .i64 1,ja 35 1 32 34,jl 36 1 35,js 37 (.cvt .u64 (.t 36)),jb 38 .quo 31 37,jm 39 6,jm 40 1,jm 41 5,ji 42 .sub 41 .i64 1,ja 43 1 40 42,jl 44 1 43,js 45 (.cvt .u64 (.t 44)),jb 46 .rem 39 45,jm 7 38,jm 8 46] [0,1,5,7,8]
(.seq (.block 0
 ZbQ)
(jq [jk 9 .u32 0,jk 10 .u64 0] [0,1,5,7,9,10]
(.seq (jq [jm 81 1,jn 82 81,jk 83 .i64 0] [0,1,5,7,9,10,81,82,83]
(.block 2
 Zhw))
(jq [jm 112 0,jm 113 5,jm 114 0,jm 115 5,ja 116 1 114 115,jl 117 1 116,jm 118 10,js 119 (.cvt .u32 (.t 118)),jm 120 9,jc 121 121 [117,119,120],jm 111 121,je 122 111 0,je 123 111 1,ja 124 1 112 113,jw 1 124 122,jm 9 123] [0,1,5,7,9]
(.seq (jq [jm 125 9,ji 126 .eql 125 .u32 0] [0,1,5,7,126]
(jC 126
(jq [jm 127 7,js 128 (.cvt .u32 (.t 127)),jm 4 128] [4]
.ret)
.skip))
(jq [jk 13 .u32 0] [0,1,5,7,13]
(.seq (jq [jm 129 1,jn 130 129,jk 131 .i64 0] [0,5,7,13,129,130,131]
(.block 4
 Zhv))
(jq [jm 150 0,jm 151 5,ja 152 1 150 151,jl 153 1 152,jm 154 13,jb 155 .add 153 154,ja 156 1 150 151,jw 1 156 155] [7]
(jq [jm 157 7,ji 158 .sub 157 .u64 1,js 159 (.cvt .u32 (.t 158)),jm 4 159] [4]
.ret)))))))))))))⟩
def ZiA : IFn:=⟨[.tmp 6,.tmp 7],
(jq [jk 6 .u32 0,jk 7 .u32 0] [0,1,2]
(jq [jm 8 0,jm 9 1,jb 10 .sub 8 9,jm 11 2,jb 12 .sub 10 11,jm 6 12] [0,1,6]
(jq [jm 13 0,js 14 (.un .xor (.t 13)),jm 15 1,jb 16 .and 14 15,jm 17 0,jm 18 1,jb 19 .xor 17 18,js 20 (.un .xor (.t 19)),jm 21 6,jb 22 .and 20 21,jb 23 .or 16 22,ji 24 .shr 23 .u64 31,jm 7 24] [6,7]
.ret)))⟩
structure HasA (gdb : Nat) (T : Tbl) : Prop where
 ZfG : T 49 = some Zlr
 nat_Shift : T 50 = some Zdi
 ZqK : T 51 = some ZnH
 ZhI : T 53 = some Zbc
 ZqL : T 55 = some Zpz
 Zgb : T 77 = some Zdh
 ZpJ : T 81 = some ZjO
 ZbJ : T 86 = some ZjM
 Zmh : T 88 = some Zdd
 ZnX : T 89 = some ZjP
 ZsM : T 90 = some Zls
 Zum : T 91 = some ZiO
 Zcg : T 94 = some ZhK
 ZsN : T 103 = some ZnI
 ZqJ : T 104 = some ZnG
 ZsL : T 105 = some Zlq
 ZlM : T 106 = some ZnJ
 Zno : T 107 = some ZhZ
 ZqM : T 108 = some Zkx
 ZsO : T 109 = some Zmm
 ZjH : T 112 = some Ziy
 ZsP : T 113 = some ZnK
 bits_TrailingZeros32 : T 114 = some (ZaT gdb)
 Zvs : T 116 = some ZnL
 ZlN : T 117 = some Zkv
 ZoG : T 118 = some Ziz
 bits_LeadingZeros32 : T 119 = some ZbP
 ZsQ : T 120 = some ZfS
 ZjI : T 121 = some ZiA
end Go.Cv
namespace Go.Cv
def Zfc : IC :=
(.seq (jq [jm 11 5,jm 12 0,jn 13 12,jb 14 .lss 11 13] [0,1,5,14]
(jC 14
.skip
(.exit 0)))
(.seq (.block 1
(jq [jm 17 0,jm 18 5,ja 19 1 17 18,jl 20 1 19,jm 21 1,jm 22 5,ja 23 1 21 22,jl 24 1 23,jb 25 .neq 20 24] [0,1,5,25]
(jC 25
(jq [jv 4 false] [4]
.ret)
.skip)))
(jr [jm 15 5,ji 16 .add 15 .i64 1,jm 5 16] [0,1,5])))
def Zfd : IC:=.loop [0,1,5] Zfc
def ZeE : IFn:=⟨[.tmp 4],
(jq [jv 4 false] [0,1]
(.seq (jq [jm 6 0,jn 7 6,jm 8 1,jn 9 8,jb 10 .neq 7 9] [0,1,10]
(jC 10
(jq [jv 4 false] [4]
.ret)
.skip))
(.seq (jq [jk 5 .i64 0] [0,1,5]
(.block 0
 Zfd))
(jq [jv 4 true] [4]
.ret))))⟩
def Zmn : IFn:=⟨[.tmp 2],
(jq [js 2 (.mov (.c .nil))] [0]
(jq [jm 3 0,js 4 (.cvt .u32 (.t 3)),jm 5 0,ji 6 .shr 5 .u64 32,js 7 (.cvt .u32 (.t 6)),js 8 (.bslice 2 1 [(.int .u32 0)] [(0,1,(.t 4)),(1,1,(.t 7))]),jc 9 85 [8],jm 2 9] [2]
.ret))⟩
def Zju : IC :=
(.seq (jq [jm 18 4,ji 19 .gtr 18 .u32 0] [3,4,19]
(jC 19
.skip
(.exit 0)))
(.seq (.block 1
(jr [jm 22 3,ji 23 .add 22 .i64 1,jm 3 23] [3,4]))
(jr [jm 20 4,ji 21 .shr 20 .u64 1,jm 4 21] [3,4])))
def Zgk : IC:=.loop [3,4] Zju
def Zic : IFn:=⟨[.tmp 2],
(jq [jk 2 .i64 0] [0]
(.seq (jq [jm 5 0,jn 6 5,ji 7 .eql 6 .i64 0] [0,7]
(jC 7
(jq [jk 2 .i64 0] [2]
.ret)
.skip))
(jq [jm 8 0,jn 9 8,ji 10 .sub 9 .i64 1,js 11 (.bin .mul (.c (.int .i64 32)) (.t 10)),jm 3 11] [0,3]
(.seq (jq [jm 12 0,jm 13 0,jn 14 13,ji 15 .sub 14 .i64 1,ja 16 1 12 15,jl 17 1 16,jm 4 17] [3,4]
(.block 0
 Zgk))
(jq [jm 24 3,jm 2 24] [2]
.ret)))))⟩
def ZkC : IC :=
(.seq (jq [jm 17 8,jm 18 0,jn 19 18,jb 20 .lss 17 19] [0,5,6,7,8,20]
(jC 20
.skip
(.exit 0)))
(.seq (.block 1
(jq [jm 23 7,jm 24 0,jm 25 8,ja 26 1 24 25,jl 27 1 26,js 28 (.cvt .u64 (.t 27)),jm 29 6,jb 30 .shl 28 29,jb 31 .or 23 30,jm 7 31] [0,5,6,7,8]
(jq [jm 32 5,jm 33 7,js 34 (.cvt .u32 (.t 33)),js 35 (.bslice 1 1 [(.int .u32 0)] [(0,1,(.t 34))]),js 36 (.app 1 4 (.t 32) (.t 35)),jm 5 36] [0,5,6,7,8]
(jr [jm 37 7,ji 38 .shr 37 .u64 32,jm 7 38] [0,5,6,7,8]))))
(jr [jm 21 8,ji 22 .add 21 .i64 1,jm 8 22] [0,5,6,7,8])))
def ZhA : IC:=.loop [0,5,6,7,8] ZkC
def ZjQ : IFn:=⟨[.tmp 4],
(jq [js 4 (.mov (.c .nil))] [0,1]
(.seq (jq [jm 9 0,jn 10 9,ji 11 .eql 10 .i64 0] [0,1,11]
(jC 11
(jq [js 4 (.mov (.c .nil))] [4]
.ret)
.skip))
(jq [jm 12 1,ji 13 .quo 12 .i64 32,js 14 (.mk 1 4 [(.int .u32 0)] (.t 13) (.t 13)),jm 5 14] [0,1,5]
(jq [jm 15 1,ji 16 .rem 15 .i64 32,jm 6 16] [0,5,6]
(jq [jk 7 .u64 0] [0,5,6,7]
(.seq (jq [jk 8 .i64 0] [0,5,6,7,8]
(.block 0
 ZhA))
(jq [jm 39 5,jm 40 7,js 41 (.cvt .u32 (.t 40)),js 42 (.bslice 1 1 [(.int .u32 0)] [(0,1,(.t 41))]),js 43 (.app 1 4 (.t 39) (.t 42)),jc 44 85 [43],jm 4 44] [4]
.ret)))))))⟩
def Zbv : IC :=
(.seq (jq [jm 39 10,ji 40 .geq 39 .i64 0] [0,1,6,8,10,40]
(jC 40
.skip
(.exit 0)))
(.seq (.block 1
(jq [jm 43 8,js 44 (.call false (.f 72) [(.t 43),(.c (.int .i64 1))]),jm 8 44] [0,1,6,8,10]
(.seq (jq [jm 45 0,jm 46 10,jc 47 111 [45,46],ji 48 .eql 47 .u32 1] [0,1,6,8,10,48]
(jC 48
(jr [jm 49 8,js 50 (.bslice 1 1 [(.int .u32 0)] [(0,1,(.c (.int .u32 1)))]),jc 51 99 [49,50],jm 8 51] [0,1,6,8,10])
.skip))
(jq [jm 52 8,jm 53 1,jc 54 100 [52,53],ji 55 .geq 54 .i64 0] [0,1,6,8,10,55]
(jC 55
(jq [jm 56 8,jm 57 1,jc 58 101 [56,57],jm 8 58] [0,1,6,8,10]
(jr [jm 59 6,jm 60 10,ji 61 .quo 60 .i64 32,jm 62 6,jm 63 10,ji 64 .quo 63 .i64 32,ja 65 1 62 64,jl 66 1 65,jm 67 10,ji 68 .rem 67 .i64 32,js 69 (.bin .shl (.c (.int .u32 1)) (.t 68)),jb 70 .or 66 69,ja 71 1 59 61,jw 1 71 70] [0,1,6,8,10]))
.skip)))))
(jr [jm 41 10,ji 42 .sub 41 .i64 1,jm 10 42] [0,1,6,8,10])))
def ZdD : IC:=.loop [0,1,6,8,10] Zbv
def Zea : IFn:=⟨[.tmp 4,.tmp 5],
(jq [js 4 (.mov (.c .nil)),js 5 (.mov (.c .nil))] [0,1]
(.seq (jq [jm 11 1,jn 12 11,ji 13 .eql 12 .i64 1] [0,1,13]
(jC 13
(jq [jm 14 0,jm 15 1,js 16 (.iaddr 1 (.t 15) (.c (.int .i64 0))),jl 17 1 16,jc 18 110 [14,17],je 19 18 0,je 20 18 1,jm 4 19,jm 5 20] [4,5]
.ret)
.skip))
(jq [jm 21 0,jn 22 21,js 23 (.mk 1 4 [(.int .u32 0)] (.t 22) (.t 22)),jm 6 23] [0,1,6]
(jq [jm 24 0,jc 25 64 [24],jm 26 1,jc 27 64 [26],jb 28 .sub 25 27,ji 29 .add 28 .i64 1,js 30 (.mm true (.c (.int .i64 0)) [(.t 29)]),jm 7 30] [0,1,6,7]
(jq [jm 32 0,jm 33 7,jc 34 84 [32,33],jm 31 34,je 35 31 0,je 36 31 1,jm 8 35,jm 9 36] [0,1,6,7,8]
(.seq (jq [jm 37 7,ji 38 .sub 37 .i64 1,jm 10 38] [0,1,6,8,10]
(.block 0
 ZdD))
(jq [jm 72 6,jc 73 85 [72],jm 74 8,jm 4 73,jm 5 74] [4,5]
.ret)))))))⟩
def Zfb : IC :=
(.seq (jq [jm 18 7,ji 19 .geq 18 .i64 0] [0,4,5,7,19]
(jC 19
.skip
(.exit 0)))
(.seq (.block 1
(jq [jm 22 5,js 23 (.call false (.f 72) [(.t 22),(.c (.int .i64 2))]),jm 24 0,jm 25 7,ji 26 .add 25 .i64 1,jc 27 111 [24,26],js 28 (.bin .mul (.c (.int .u32 2)) (.t 27)),jm 29 0,jm 30 7,jc 31 111 [29,30],jb 32 .add 28 31,js 33 (.cvt .u64 (.t 32)),jc 34 46 [33],jc 35 99 [23,34],jm 5 35] [0,4,5,7]
(jq [jm 36 4,js 37 (.call false (.f 72) [(.t 36),(.c (.int .i64 2))]),js 38 (.bslice 1 1 [(.int .u32 0)] [(0,1,(.c (.int .u32 1)))]),jc 39 99 [37,38],jm 8 39] [0,4,5,7,8]
(jq [jm 40 4,js 41 (.call false (.f 72) [(.t 40),(.c (.int .i64 1))]),jm 4 41] [0,4,5,7,8]
(jq [jm 42 5,jm 43 8,jc 44 100 [42,43],ji 45 .geq 44 .i64 0] [0,4,5,7,8,45]
(jC 45
(jq [jm 46 5,jm 47 8,jc 48 101 [46,47],jm 5 48] [0,4,5,7]
(jr [jm 49 4,js 50 (.bslice 1 1 [(.int .u32 0)] [(0,1,(.c (.int .u32 1)))]),jc 51 99 [49,50],jm 4 51] [0,4,5,7]))
.skip))))))
(jr [jm 20 7,ji 21 .sub 20 .i64 2,jm 7 21] [0,4,5,7])))
def Zdl : IC:=.loop [0,4,5,7] Zfb
def ZgG : IFn:=⟨[.tmp 2,.tmp 3],
(jq [js 2 (.mov (.c .nil)),jv 3 false] [0]
(jq [js 4 (.mov (.c .nil)),js 5 (.mov (.c .nil))] [0,4,5]
(jq [jm 9 0,jc 10 64 [9],jm 6 10] [0,4,5,6]
(.seq (jq [jm 11 6,ji 12 .rem 11 .i64 2,ji 13 .eql 12 .i64 1] [0,4,5,6,13]
(jC 13
(jr [jm 14 6,ji 15 .add 14 .i64 1,jm 6 15] [0,4,5,6])
.skip))
(.seq (jq [jm 16 6,ji 17 .sub 16 .i64 2,jm 7 17] [0,4,5,7]
(.block 0
 Zdl))
(jq [jm 52 4,jm 53 5,jn 54 53,ji 55 .eql 54 .i64 0,jm 2 52,jm 3 55] [2,3]
.ret))))))⟩
def ZdY : IC :=
(.seq (jq [jm 4 3,jm 5 0,jn 6 5,js 7 (.bin .mul (.c (.int .i64 32)) (.t 6)),jb 8 .lss 4 7,jm 9 8,jg (jm 10 0) 9 true,jg (jm 11 3) 9 true,jg (jc 12 111 [10,11]) 9 true,jg (ji 13 .eql 12 .u32 0) 9 true,jp 14 9 13] [0,3,14]
(jC 14
.skip
(.exit 0)))
(.block 1
(jq [jm 15 0,jm 16 3,ji 17 .quo 16 .i64 32,ja 18 1 15 17,jl 19 1 18,ji 20 .eql 19 .u32 0] [0,3,20]
(jC 20
(jr [jm 21 3,ji 22 .add 21 .i64 32,jm 3 22] [0,3])
(jr [jm 23 3,ji 24 .add 23 .i64 1,jm 3 24] [0,3])))))
def Zjv : IC:=.loop [0,3] ZdY
def Zid : IFn:=⟨[.tmp 2],
(jq [jk 2 .i64 0] [0]
(jq [jk 3 .i64 0] [0,3]
(.seq (.block 0
 Zjv)
(.seq (jq [jm 25 3,jm 26 0,jn 27 26,js 28 (.bin .mul (.c (.int .i64 32)) (.t 27)),jb 29 .eql 25 28] [3,29]
(jC 29
(jq [jk 2 .i64 0] [2]
.ret)
.skip))
(jq [jm 30 3,jm 2 30] [2]
.ret)))))⟩
def ZeZ : IC :=
(.seq (jq [jm 26 9,jm 27 0,jn 28 27,jb 29 .lss 26 28] [0,6,7,8,9,29]
(jC 29
.skip
(.exit 0)))
(.seq (.block 1
(jq [jm 32 0,jm 33 9,ja 34 1 32 33,jl 35 1 34,js 36 (.cvt .u64 (.t 35)),jm 37 8,jb 38 .shr 36 37,jm 10 38] [0,6,7,8,9,10]
(.seq (jq [jm 39 9,ji 40 .add 39 .i64 1,jm 41 0,jn 42 41,jb 43 .lss 40 42] [0,6,7,8,9,10,43]
(jC 43
(jr [jm 44 10,jm 45 0,jm 46 9,ji 47 .add 46 .i64 1,ja 48 1 45 47,jl 49 1 48,js 50 (.cvt .u64 (.t 49)),jm 51 8,js 52 (.bin .sub (.c (.int .i64 32)) (.t 51)),jb 53 .shl 50 52,jb 54 .or 44 53,jm 10 54] [0,6,7,8,9,10])
.skip))
(jr [jm 55 7,jm 56 10,js 57 (.cvt .u32 (.t 56)),js 58 (.bslice 1 1 [(.int .u32 0)] [(0,1,(.t 57))]),js 59 (.app 1 4 (.t 55) (.t 58)),jm 7 59] [0,6,7,8,9]))))
(jr [jm 30 9,ji 31 .add 30 .i64 1,jm 9 31] [0,6,7,8,9])))
def Zfa : IC:=.loop [0,6,7,8,9] ZeZ
def ZgF : IFn:=⟨[.tmp 4,.tmp 5],
(jq [js 4 (.mov (.c .nil)),jv 5 false] [0,1]
(.seq (jq [jm 11 1,jm 12 0,jc 13 64 [12],jb 14 .geq 11 13] [0,1,14]
(jC 14
(jq [jm 15 0,jn 16 15,ji 17 .gtr 16 .i64 0,js 4 (.mov (.c .nil)),jm 5 17] [4,5]
.ret)
.skip))
(jq [jm 18 1,jm 19 0,jc 20 83 [19],jb 21 .gtr 18 20,jm 6 21] [0,1,6]
(jq [js 7 (.mov (.c .nil))] [0,1,6,7]
(jq [jm 22 1,ji 23 .rem 22 .i64 32,jm 8 23] [0,1,6,7,8]
(.seq (jq [jm 24 1,ji 25 .quo 24 .i64 32,jm 9 25] [0,6,7,8,9]
(.block 0
 Zfa))
(jq [jm 60 7,jc 61 85 [60],jm 62 6,jm 4 61,jm 5 62] [4,5]
.ret)))))))⟩
def Zfe : IC :=
(.seq (jq [jm 6 3,ji 7 .gtr 6 .i64 0,jm 8 7,jg (jm 9 0) 8 true,jg (jm 10 3) 8 true,jg (ji 11 .sub 10 .i64 1) 8 true,jg (ja 12 1 9 11) 8 true,jg (jl 13 1 12) 8 true,jg (ji 14 .eql 13 .u32 0) 8 true,jp 15 8 14] [0,3,15]
(jC 15
.skip
(.exit 0)))
(.block 1
(jr [jm 16 3,ji 17 .sub 16 .i64 1,jm 3 17] [0,3])))
def Zdm : IC:=.loop [0,3] Zfe
def ZiP : IFn:=⟨[.tmp 2],
(jq [js 2 (.mov (.c .nil))] [0]
(jq [jm 4 0,jn 5 4,jm 3 5] [0,3]
(.seq (.block 0
 Zdm)
(jq [jm 18 0,jm 19 3,js 20 (.slice 1 (.t 18) none (some (.t 19))),jm 2 20] [2]
.ret))))⟩
def ZdW : IC :=
(.seq (jq [jm 8 7,jm 9 0,jn 10 9,jb 11 .lss 8 10,jm 12 11,jg (jm 13 7) 12 false,jg (jm 14 1) 12 false,jg (jn 15 14) 12 false,jg (jb 16 .lss 13 15) 12 false,jP 17 12 16] [0,1,5,6,7,17]
(jC 17
.skip
(.exit 0)))
(.seq (.block 1
(.seq (jq [jm 20 7,jm 21 0,jn 22 21,jb 23 .lss 20 22] [0,1,5,6,7,23]
(jC 23
(jr [jm 24 6,jm 25 0,jm 26 7,ja 27 1 25 26,jl 28 1 27,js 29 (.cvt .u64 (.t 28)),jb 30 .add 24 29,jm 6 30] [0,1,5,6,7])
.skip))
(.seq (jq [jm 31 7,jm 32 1,jn 33 32,jb 34 .lss 31 33] [0,1,5,6,7,34]
(jC 34
(jr [jm 35 6,jm 36 1,jm 37 7,ja 38 1 36 37,jl 39 1 38,js 40 (.cvt .u64 (.t 39)),jb 41 .add 35 40,jm 6 41] [0,1,5,6,7])
.skip))
(jq [jm 42 5,jm 43 6,js 44 (.cvt .u32 (.t 43)),js 45 (.bslice 1 1 [(.int .u32 0)] [(0,1,(.t 44))]),js 46 (.app 1 4 (.t 42) (.t 45)),jm 5 46] [0,1,5,6,7]
(jr [jm 47 6,ji 48 .shr 47 .u64 32,jm 6 48] [0,1,5,6,7])))))
(jr [jm 18 7,ji 19 .add 18 .i64 1,jm 7 19] [0,1,5,6,7])))
def Zgi : IC:=.loop [0,1,5,6,7] ZdW
def ZkA : IFn:=⟨[.tmp 4],
(jq [js 4 (.mov (.c .nil))] [0,1]
(jq [js 5 (.mov (.c .nil))] [0,1,5]
(jq [jk 6 .u64 0] [0,1,5,6]
(.seq (jq [jk 7 .i64 0] [0,1,5,6,7]
(.block 0
 Zgi))
(jq [jm 49 5,jm 50 6,js 51 (.cvt .u32 (.t 50)),js 52 (.bslice 1 1 [(.int .u32 0)] [(0,1,(.t 51))]),js 53 (.app 1 4 (.t 49) (.t 52)),jc 54 85 [53],jm 4 54] [4]
.ret)))))⟩
def ZdX : IC :=
(.seq (jq [jm 19 5,ji 20 .geq 19 .i64 0] [0,1,5,20]
(jC 20
.skip
(.exit 0)))
(.seq (.block 1
(.seq (jq [jm 23 0,jm 24 5,ja 25 1 23 24,jl 26 1 25,jm 27 1,jm 28 5,ja 29 1 27 28,jl 30 1 29,jb 31 .lss 26 30] [0,1,5,31]
(jC 31
(jq [jk 4 .i64 (-1)] [4]
.ret)
.skip))
(jq [jm 32 0,jm 33 5,ja 34 1 32 33,jl 35 1 34,jm 36 1,jm 37 5,ja 38 1 36 37,jl 39 1 38,jb 40 .gtr 35 39] [0,1,5,40]
(jC 40
(jq [jk 4 .i64 1] [4]
.ret)
.skip))))
(jr [jm 21 5,ji 22 .sub 21 .i64 1,jm 5 22] [0,1,5])))
def Zgj : IC:=.loop [0,1,5] ZdX
def Zev : IFn:=⟨[.tmp 4],
(jq [jk 4 .i64 0] [0,1]
(.seq (jq [jm 6 0,jn 7 6,jm 8 1,jn 9 8,jb 10 .neq 7 9] [0,1,10]
(jC 10
(.seq (jq [jm 11 0,jn 12 11,jm 13 1,jn 14 13,jb 15 .lss 12 14] [15]
(jC 15
(jq [jk 4 .i64 (-1)] [4]
.ret)
.skip))
(jq [jk 4 .i64 1] [4]
.ret))
.skip))
(.seq (jq [jm 16 0,jn 17 16,ji 18 .sub 17 .i64 1,jm 5 18] [0,1,5]
(.block 0
 Zgj))
(jq [jk 4 .i64 0] [4]
.ret))))⟩
def ZcM : IC :=
(.seq (jq [jm 10 7,jm 11 0,jn 12 11,jb 13 .lss 10 12] [0,1,5,6,7,13]
(jC 13
.skip
(.exit 0)))
(.seq (.block 1
(jq [jm 16 6,jm 8 16] [0,1,5,7,8]
(.seq (jq [jm 17 7,jm 18 1,jn 19 18,jb 20 .lss 17 19] [0,1,5,7,8,20]
(jC 20
(jr [jm 21 8,jm 22 1,jm 23 7,ja 24 1 22 23,jl 25 1 24,js 26 (.cvt .u64 (.t 25)),jb 27 .add 21 26,jm 8 27] [0,1,5,7,8])
.skip))
(jq [jm 28 0,jm 29 7,ja 30 1 28 29,jl 31 1 30,js 32 (.cvt .u64 (.t 31)),jm 9 32] [0,1,5,7,8,9]
(jq [jk 6 .u64 0] [0,1,5,6,7,8,9]
(.seq (jq [jm 33 9,jm 34 8,jb 35 .lss 33 34] [0,1,5,6,7,8,9,35]
(jC 35
(jq [jm 36 9,ji 37 .add 36 .u64 4294967296,jm 9 37] [0,1,5,7,8,9]
(jr [jk 6 .u64 1] [0,1,5,6,7,8,9]))
.skip))
(jr [jm 38 5,jm 39 9,jm 40 8,jb 41 .sub 39 40,js 42 (.cvt .u32 (.t 41)),js 43 (.bslice 1 1 [(.int .u32 0)] [(0,1,(.t 42))]),js 44 (.app 1 4 (.t 38) (.t 43)),jm 5 44] [0,1,5,6,7])))))))
(jr [jm 14 7,ji 15 .add 14 .i64 1,jm 7 15] [0,1,5,6,7])))
def Zgo : IC:=.loop [0,1,5,6,7] ZcM
def ZkB : IFn:=⟨[.tmp 4],
(jq [js 4 (.mov (.c .nil))] [0,1]
(jq [js 5 (.mov (.c .nil))] [0,1,5]
(jq [jk 6 .u64 0] [0,1,5,6]
(.seq (jq [jk 7 .i64 0] [0,1,5,6,7]
(.block 0
 Zgo))
(jq [jm 45 5,jc 46 85 [45],jm 4 46] [4]
.ret)))))⟩
def Zfg : IC :=
(.seq (jq [jm 15 8,ji 16 .geq 15 .i64 0] [0,1,6,7,8,16]
(jC 16
.skip
(.exit 0)))
(.seq (.block 1
(jq [jm 19 7,ji 20 .shl 19 .u64 32,jm 21 0,jm 22 8,ja 23 1 21 22,jl 24 1 23,js 25 (.cvt .u64 (.t 24)),jb 26 .or 20 25,jm 7 26] [0,1,6,7,8]
(jq [jm 27 6,jm 28 8,jm 29 7,jm 30 1,js 31 (.cvt .u64 (.t 30)),jb 32 .quo 29 31,js 33 (.cvt .u32 (.t 32)),ja 34 1 27 28,jw 1 34 33] [0,1,6,7,8]
(jr [jm 35 7,jm 36 1,js 37 (.cvt .u64 (.t 36)),jb 38 .rem 35 37,jm 7 38] [0,1,6,7,8]))))
(jr [jm 17 8,ji 18 .sub 17 .i64 1,jm 8 18] [0,1,6,7,8])))
def ZcZ : IC:=.loop [0,1,6,7,8] Zfg
def Zff : IFn:=⟨[.tmp 4,.tmp 5],
(jq [js 4 (.mov (.c .nil)),js 5 (.mov (.c .nil))] [0,1]
(jq [jm 9 0,jn 10 9,js 11 (.mk 1 4 [(.int .u32 0)] (.t 10) (.t 10)),jm 6 11] [0,1,6]
(jq [jk 7 .u64 0] [0,1,6,7]
(.seq (jq [jm 12 0,jn 13 12,ji 14 .sub 13 .i64 1,jm 8 14] [0,1,6,7,8]
(.block 0
 ZcZ))
(jq [jm 39 6,jc 40 85 [39],jm 41 7,jc 42 46 [41],jm 4 40,jm 5 42] [4,5]
.ret)))))⟩
def Zib : IFn:=⟨[.tmp 4],
(jq [jk 4 .u32 0] [0,1]
(.seq (jq [jm 5 1,ji 6 .lss 5 .i64 0,jm 7 6,jg (jm 8 1) 7 false,jg (ji 9 .quo 8 .i64 32) 7 false,jg (jm 10 0) 7 false,jg (jn 11 10) 7 false,jg (jb 12 .geq 9 11) 7 false,jP 13 7 12] [0,1,13]
(jC 13
(jq [jk 4 .u32 0] [4]
.ret)
.skip))
(jq [jm 14 0,jm 15 1,ji 16 .quo 15 .i64 32,ja 17 1 14 16,jl 18 1 17,jm 19 1,ji 20 .rem 19 .i64 32,jb 21 .shr 18 20,ji 22 .and 21 .u32 1,jm 4 22] [4]
.ret)))⟩
structure HasB (gdb : Nat) (T : Tbl) : Prop where
 Zkb : T 39 = some ZeE
 Zjh : T 46 = some Zmn
 Zcp : T 64 = some Zic
 ZfH : T 72 = some ZjQ
 Zji : T 79 = some Zea
 ZoR : T 82 = some ZgG
 Zof : T 83 = some Zid
 ZhN : T 84 = some ZgF
 ZcQ : T 85 = some ZiP
 ZgT : T 99 = some ZkA
 Zka : T 100 = some Zev
 Zit : T 101 = some ZkB
 Zlc : T 110 = some Zff
 ZjZ : T 111 = some Zib
end Go.Cv
namespace Go.Cv
def ZeF : IFn:=⟨[.tmp 4],
(jq [jx 2 3 0,jx 3 3 1,jv 4 false] [2,3]
(jq [jf 5 0 2,jl 6 1 5,jf 7 0 3,jl 8 1 7,js 9 (.eqb false (.t 6) (.t 8)),jm 10 9,jg (jf 11 2 2) 10 true,jg (jl 12 1 11) 10 true,jg (jf 13 2 3) 10 true,jg (jl 14 1 13) 10 true,jg (jb 15 .eql 12 14) 10 true,jp 16 10 15,jm 17 16,jg (jf 18 1 2) 17 true,jg (jl 19 1 18) 17 true,jg (jf 20 1 3) 17 true,jg (jl 21 1 20) 17 true,jg (jc 22 39 [19,21]) 17 true,jp 23 17 22,jm 4 23] [4]
.ret))⟩
def ZeG : IFn:=⟨[.tmp 2],
(jq [jx 1 3 0,jk 2 .i64 0] [1]
(.seq (jq [jf 3 1 1,jl 4 1 3,jn 5 4,ji 6 .eql 5 .i64 0] [1,6]
(jC 6
(jq [jk 2 .i64 0] [2]
.ret)
.skip))
(.seq (jq [jf 7 0 1,jl 8 1 7] [8]
(jC 8
(jq [jk 2 .i64 (-1)] [2]
.ret)
.skip))
(jq [jk 2 .i64 1] [2]
.ret))))⟩
def ZfV : IFn:=⟨[.cell 2 true 3],
(jq [js 2 (.alloc [(.bool false),.nil,(.int .i64 0)])] [0,2]
(jq [jm 4 0,js 5 (.cvt .u64 (.t 4)),jm 3 5] [0,2,3]
(.seq (jq [jm 6 0,ji 7 .lss 6 .i64 0] [0,2,3,7]
(jC 7
(jr [jm 8 3,js 9 (.un .neg (.t 8)),jm 3 9] [0,2,3])
.skip))
(jq [jm 10 0,ji 11 .lss 10 .i64 0,jm 12 3,jc 13 46 [12],js 14 (.call false (.f 45) [(.t 11),(.t 13),(.c (.int .i64 0))]),jw 3 2 14] [2]
.ret))))⟩
def Zkn : IFn:=⟨[.tmp 2],
(jq [jx 1 3 0,jk 2 .i64 0] [1]
(.seq (.block 0
(jq [jL 4 3 1,jc 5 48 [4],js 6 (.un .not (.t 5)),jm 7 6,jg (jf 8 1 1) 7 false,jg (jl 9 1 8) 7 false,jg (jn 10 9) 7 false,jg (ji 11 .eql 10 .i64 0) 7 false,jP 12 7 11,jm 3 12] [1,3]
(jC 3
(jq [jk 2 .i64 0] [2]
.ret)
(jq [jf 14 0 1,jl 15 1 14,jm 13 15] [13]
(jC 13
(jq [jk 2 .i64 (-1)] [2]
.ret)
.skip)))))
(jq [jk 2 .i64 1] [2]
.ret)))⟩
def Zih : IFn:=⟨[.tmp 2],
(jq [jx 1 3 0,jk 2 .i64 0] [1]
(.seq (jq [jf 3 1 1,jl 4 1 3,jn 5 4,ji 6 .eql 5 .i64 0] [1,6]
(jC 6
(jq [jk 2 .i64 0] [2]
.ret)
.skip))
(jq [jf 7 2 1,jl 8 1 7,jf 9 1 1,jl 10 1 9,jc 11 64 [10],jb 12 .add 8 11,jm 2 12] [2]
.ret)))⟩
def ZkD : IFn:=⟨[.cell 2 true 3],
(jq [jx 1 3 0,js 2 (.alloc [(.bool false),.nil,(.int .i64 0)])] [1,2]
(jq [jf 3 0 1,⟨none,.store 1 (.t 3) (.c (.bool false)),none⟩] [1,2]
(jq [jL 4 3 1,jw 3 2 4] [2]
.ret)))⟩
def Zml : IFn:=⟨[.cell 6 true 3,.tmp 7,.tmp 8],
(jq [jx 3 3 0,jx 4 3 1,js 6 (.alloc [(.bool false),.nil,(.int .i64 0)]),jv 7 false,jk 8 .i64 0] [2,3,4,6]
(.seq (jq [jL 16 3 3,jL 17 3 4,js 18 (.bslice 2 3 [(.bool false),.nil,(.int .i64 0)] [(0,3,(.t 16)),(3,3,(.t 17))]),jc 19 74 [18],js 20 (.un .not (.t 19)),jm 21 20,jg (jm 22 2) 21 false,jg (ji 23 .lss 22 .i64 1) 21 false,jP 24 21 23] [2,3,4,6,24]
(jC 24
(jq [js 25 (.build [(.bool false),.nil,(.int .i64 0)] []),jw 3 6 25,jv 7 false,jk 8 .i64 2] [6,7,8]
.ret)
.skip))
(.seq (jq [jm 26 2,jc 27 75 [26],jm 9 27] [2,3,4,6,9]
(jq [jm 28 9,ji 29 .neq 28 .i64 0] [2,3,4,6,9,29]
(jC 29
(jq [js 30 (.build [(.bool false),.nil,(.int .i64 0)] []),jm 31 9,jw 3 6 30,jv 7 false,jm 8 31] [6,7,8]
.ret)
.skip)))
(.seq (.block 0
(jq [jf 33 1 4,jl 34 1 33,jn 35 34,ji 36 .eql 35 .i64 0,jm 32 36] [2,3,4,6,32]
(jC 32
(jq [js 37 (.build [(.bool false),.nil,(.int .i64 0)] []),jw 3 6 37,jv 7 false,jk 8 .i64 11] [6,7,8]
.ret)
(jq [jf 39 1 3,jl 40 1 39,jn 41 40,ji 42 .eql 41 .i64 0,jm 38 42] [2,3,4,6,38]
(jC 38
(jq [js 43 (.build [(.bool false),.nil,(.int .i64 0)] []),jw 3 6 43,jv 7 false,jk 8 .i64 0] [6,7,8]
.ret)
.skip)))))
(jq [jm 44 2,ji 45 .add 44 .i64 1,jf 46 1 4,jl 47 1 46,jc 48 49 [47],jb 49 .add 45 48,jf 50 1 3,jl 51 1 50,jc 52 49 [51],jb 53 .sub 49 52,js 54 (.mm true (.c (.int .i64 0)) [(.t 53)]),jm 10 54] [2,3,4,6,10]
(jq [jf 55 1 3,jl 56 1 55,jf 57 1 4,jl 58 1 57,jm 11 56,jm 12 58] [2,3,4,6,10,11,12]
(.seq (jq [jm 59 10,jm 60 11,jc 61 49 [60],js 62 (.bin .sub (.c (.int .i64 131072)) (.t 61)),jb 63 .gtr 59 62] [2,3,4,6,10,11,12,63]
(jC 63
(jq [jL 64 3 3,jL 65 3 4,jm 66 2,jc 67 76 [64,65,66],je 68 67 0,je 69 67 1,je 70 67 2,jw 3 6 68,jm 7 69,jm 8 70] [6,7,8]
.ret)
.skip))
(jq [jm 72 11,jm 73 10,jc 74 50 [72,73],jm 71 74,je 75 71 0,je 76 71 1,je 77 71 2,jm 11 75] [2,3,4,6,10,11,12]
(jq [jm 79 11,jm 80 12,jc 81 77 [79,80],jm 78 81,je 82 78 0,je 83 78 1,je 84 78 2,jm 13 82,jm 14 83,jm 15 84] [2,3,4,6,10,13,14]
(jq [jf 85 0 3,jl 86 1 85,jf 87 0 4,jl 88 1 87,js 89 (.eqb true (.t 86) (.t 88)),jm 90 13,jf 91 2 3,jl 92 1 91,jf 93 2 4,jl 94 1 93,jb 95 .sub 92 94,jm 96 10,jb 97 .sub 95 96,jm 98 14,jn 99 98,ji 100 .gtr 99 .i64 0,jm 101 2,jc 102 78 [89,90,97,100,101],je 103 102 0,je 104 102 1,je 105 102 2,jw 3 6 103,jm 7 104,jm 8 105] [6,7,8]
.ret))))))))))⟩
def Zig : IFn:=⟨[.cell 6 true 3,.tmp 7],
(jq [jx 3 3 0,jx 4 3 1,js 6 (.alloc [(.bool false),.nil,(.int .i64 0)]),jv 7 false] [2,3,4,6]
(.seq (jq [jf 13 1 3,jl 14 1 13,jn 15 14,ji 16 .eql 15 .i64 0] [2,3,4,6,16]
(jC 16
(jq [js 17 (.build [(.bool false),.nil,(.int .i64 0)] []),jw 3 6 17,jv 7 false] [6,7]
.ret)
.skip))
(jq [jm 18 2,ji 19 .add 18 .i64 1,jf 20 1 4,jl 21 1 20,jc 22 64 [21],jb 23 .add 19 22,jf 24 1 3,jl 25 1 24,jc 26 64 [25],jb 27 .sub 23 26,jm 8 27] [2,3,4,6,8]
(.seq (jq [jm 28 8,ji 29 .lss 28 .i64 0] [2,3,4,6,8,29]
(jC 29
(jr [jk 8 .i64 0] [2,3,4,6,8])
.skip))
(jq [jf 31 1 3,jl 32 1 31,jm 33 8,jc 34 72 [32,33],jf 35 1 4,jl 36 1 35,jc 37 79 [34,36],jm 30 37,je 38 30 0,je 39 30 1,jm 9 38,jm 10 39] [2,3,4,6,8,9,10]
(jq [jf 41 0 3,jl 42 1 41,jf 43 0 4,jl 44 1 43,js 45 (.eqb true (.t 42) (.t 44)),jm 46 9,jf 47 2 3,jl 48 1 47,jf 49 2 4,jl 50 1 49,jb 51 .sub 48 50,jm 52 8,jb 53 .sub 51 52,jc 54 45 [45,46,53],jm 55 2,jc 56 80 [54,55],jm 40 56,je 57 40 0,je 58 40 1,js 11 (.alloc [(.bool false),.nil,(.int .i64 0)]),jw 3 11 57,jm 12 58] [6,10,11,12]
(jq [jL 59 3 11,jm 60 12,jm 61 60,jg (jm 62 10) 61 false,jg (jn 63 62) 61 false,jg (ji 64 .gtr 63 .i64 0) 61 false,jP 65 61 64,jw 3 6 59,jm 7 65] [6,7]
.ret)))))))⟩
def ZhV : IFn:=⟨[.cell 4 true 3,.tmp 5,.tmp 6],
(jq [jx 2 3 0,js 4 (.alloc [(.bool false),.nil,(.int .i64 0)]),jv 5 false,jk 6 .i64 0] [1,2,4]
(.seq (jq [jL 15 3 2,jc 16 48 [15],js 17 (.un .not (.t 16))] [1,2,4,17]
(jC 17
(jq [js 18 (.build [(.bool false),.nil,(.int .i64 0)] []),jw 3 4 18,jv 5 false,jk 6 .i64 2] [4,5,6]
.ret)
.skip))
(.seq (jq [jm 19 1,jc 20 75 [19],jm 7 20] [1,2,4,7]
(jq [jm 21 7,ji 22 .neq 21 .i64 0] [1,2,4,7,22]
(jC 22
(jq [js 23 (.build [(.bool false),.nil,(.int .i64 0)] []),jm 24 7,jw 3 4 23,jv 5 false,jm 6 24] [4,5,6]
.ret)
.skip)))
(.seq (.block 0
(jq [jf 26 1 2,jl 27 1 26,jn 28 27,ji 29 .eql 28 .i64 0,jm 25 29] [1,2,4,25]
(jC 25
(jq [js 30 (.build [(.bool false),.nil,(.int .i64 0)] []),jw 3 4 30,jv 5 false,jk 6 .i64 0] [4,5,6]
.ret)
(jq [jf 32 0 2,jl 33 1 32,jm 31 33] [1,2,4,31]
(jC 31
(jq [js 34 (.build [(.bool false),.nil,(.int .i64 0)] []),jw 3 4 34,jv 5 false,jk 6 .i64 10] [4,5,6]
.ret)
.skip)))))
(jq [jm 35 1,js 36 (.bin .mul (.c (.int .i64 2)) (.t 35)),ji 37 .add 36 .i64 2,jf 38 1 2,jl 39 1 38,jc 40 49 [39],jb 41 .sub 37 40,jm 8 41] [1,2,4,8]
(.seq (jq [jf 42 2 2,jl 43 1 42,jm 44 8,jb 45 .sub 43 44,ji 46 .and 45 .i64 1,ji 47 .neq 46 .i64 0] [1,2,4,8,47]
(jC 47
(jr [jm 48 8,ji 49 .add 48 .i64 1,jm 8 49] [1,2,4,8])
.skip))
(jq [jf 51 1 2,jl 52 1 51,jm 53 8,jc 54 50 [52,53],jm 50 54,je 55 50 0,je 56 50 1,je 57 50 2,jm 9 55,jm 10 56,jm 11 57] [1,2,4,8,9,10]
(jq [jm 59 9,jc 60 81 [59],jm 58 60,je 61 58 0,je 62 58 1,je 63 58 2,jm 12 61,jm 13 62,jm 14 63] [1,2,4,8,10,12,13]
(jq [jm 64 12,jf 65 2 2,jl 66 1 65,jm 67 8,jb 68 .sub 66 67,ji 69 .quo 68 .i64 2,jm 70 10,jm 71 70,jg (jm 72 13) 71 false,jg (js 73 (.un .not (.t 72))) 71 false,jP 74 71 73,jm 75 1,js 76 (.call false (.f 78) [(.c (.bool false)),(.t 64),(.t 69),(.t 74),(.t 75)]),je 77 76 0,je 78 76 1,je 79 76 2,jw 3 4 77,jm 5 78,jm 6 79] [4,5,6]
.ret)))))))))⟩
def Zdn : IFn:=⟨[.cell 4 true 3,.tmp 5],
(jq [jx 2 3 0,js 4 (.alloc [(.bool false),.nil,(.int .i64 0)]),jv 5 false] [1,2,4]
(jq [jm 11 1,js 12 (.bin .mul (.c (.int .i64 2)) (.t 11)),ji 13 .add 12 .i64 2,jf 14 1 2,jl 15 1 14,jc 16 64 [15],jb 17 .sub 13 16,jm 6 17] [1,2,4,6]
(.seq (jq [jm 18 6,ji 19 .lss 18 .i64 0] [1,2,4,6,19]
(jC 19
(jr [jk 6 .i64 0] [1,2,4,6])
.skip))
(.seq (jq [jf 20 2 2,jl 21 1 20,jm 22 6,jb 23 .sub 21 22,ji 24 .rem 23 .i64 2,ji 25 .neq 24 .i64 0] [1,2,4,6,25]
(jC 25
(jr [jm 26 6,ji 27 .add 26 .i64 1,jm 6 27] [1,2,4,6])
.skip))
(jq [jf 29 1 2,jl 30 1 29,jm 31 6,jc 32 72 [30,31],jc 33 82 [32],jm 28 33,je 34 28 0,je 35 28 1,jm 7 34,jm 8 35] [1,2,4,6,7,8]
(jq [jm 37 7,jf 38 2 2,jl 39 1 38,jm 40 6,jb 41 .sub 39 40,ji 42 .quo 41 .i64 2,js 43 (.call false (.f 45) [(.c (.bool false)),(.t 37),(.t 42)]),jm 44 1,jc 45 80 [43,44],jm 36 45,je 46 36 0,je 47 36 1,js 9 (.alloc [(.bool false),.nil,(.int .i64 0)]),jw 3 9 46,jm 10 47] [4,8,9,10]
(jq [jL 48 3 9,jm 49 10,jm 50 49,jg (jm 51 8) 50 false,jg (js 52 (.un .not (.t 51))) 50 false,jP 53 50 52,jw 3 4 48,jm 5 53] [4,5]
.ret)))))))⟩
def ZgH : IFn:=⟨[.cell 6 true 3],
(jq [js 6 (.alloc [(.bool false),.nil,(.int .i64 0)])] [0,1,2,6]
(.seq (jq [jm 10 1,jn 11 10,ji 12 .eql 11 .i64 0] [0,1,2,6,12]
(jC 12
(jq [js 13 (.build [(.bool false),.nil,(.int .i64 0)] []),jw 3 6 13] [6]
.ret)
.skip))
(jq [jm 14 1,jc 15 83 [14],jm 7 15] [0,1,2,6,7]
(jq [jm 17 1,jm 18 7,jc 19 84 [17,18],jm 16 19,je 20 16 0,je 21 16 1,jm 8 20,jm 9 21] [0,2,6,7,8]
(jq [jm 22 0,jm 23 8,jm 24 2,jm 25 7,jb 26 .add 24 25,js 27 (.build [(.bool false),.nil,(.int .i64 0)] [(0,1,(.t 22)),(1,1,(.t 23)),(2,1,(.t 26))]),jw 3 6 27] [6]
.ret)))))⟩
def ZeC : IFn:=⟨[.tmp 2],
(jq [jx 1 3 0,jv 2 false] [1]
(.seq (jq [jf 3 1 1,jl 4 1 3,jc 5 86 [4],js 6 (.un .not (.t 5))] [1,6]
(jC 6
(jq [jv 2 false] [2]
.ret)
.skip))
(.seq (jq [jf 7 1 1,jl 8 1 7,jn 9 8,ji 10 .eql 9 .i64 0] [1,10]
(jC 10
(jq [jf 11 0 1,jl 12 1 11,js 13 (.un .not (.t 12)),jm 14 13,jg (jf 15 2 1) 14 true,jg (jl 16 1 15) 14 true,jg (ji 17 .eql 16 .i64 0) 14 true,jp 18 14 17,jm 2 18] [2]
.ret)
.skip))
(jq [jf 19 1 1,jl 20 1 19,js 21 (.iaddr 1 (.t 20) (.c (.int .i64 0))),jl 22 1 21,ji 23 .and 22 .u32 1,ji 24 .eql 23 .u32 1,jm 25 24,jg (jf 26 2 1) 25 true,jg (jl 27 1 26) 25 true,jg (jc 28 87 [27]) 25 true,jp 29 25 28,jm 2 29] [2]
.ret))))⟩
def ZhU : IFn:=⟨[.cell 6 true 3,.tmp 7],
(jq [js 6 (.alloc [(.bool false),.nil,(.int .i64 0)]),jk 7 .i64 0] [0,1,2,6]
(.seq (jq [jm 12 1,jc 13 86 [12],js 14 (.un .not (.t 13))] [0,1,2,6,14]
(jC 14
(jq [js 15 (.build [(.bool false),.nil,(.int .i64 0)] []),jw 3 6 15,jk 7 .i64 2] [6,7]
.ret)
.skip))
(.seq (jq [jm 16 1,jn 17 16,ji 18 .eql 17 .i64 0] [0,1,2,6,18]
(jC 18
(jq [js 19 (.build [(.bool false),.nil,(.int .i64 0)] []),jw 3 6 19,jk 7 .i64 0] [6,7]
.ret)
.skip))
(jq [jm 20 1,jc 21 90 [20],jm 8 21] [0,1,2,6,8]
(.seq (jq [jm 22 2,jm 23 8,js 24 (.bin .sub (.c (.int .i64 16777216)) (.t 23)),jb 25 .gtr 22 24,jm 26 25,jg (jm 27 2) 26 false,jg (jm 28 8) 26 false,jg (js 29 (.bin .sub (.c (.int .i64 (-16777216))) (.t 28))) 26 false,jg (jb 30 .lss 27 29) 26 false,jP 31 26 30] [0,1,2,6,8,31]
(jC 31
(jq [js 32 (.build [(.bool false),.nil,(.int .i64 0)] []),jw 3 6 32,jk 7 .i64 20] [6,7]
.ret)
.skip))
(jq [jm 34 1,jm 35 8,js 36 (.un .neg (.t 35)),jc 37 50 [34,36],jm 33 37,je 38 33 0,je 39 33 1,je 40 33 2,jm 9 38,jm 10 39,jm 11 40] [0,2,6,8,9]
(jq [jm 41 0,jm 42 9,jm 43 2,jm 44 8,jb 45 .add 43 44,js 46 (.build [(.bool false),.nil,(.int .i64 0)] [(0,1,(.t 41)),(1,1,(.t 42)),(2,1,(.t 45))]),jw 3 6 46,jk 7 .i64 0] [6,7]
.ret)))))))⟩
def Zfh : IFn:=⟨[.cell 4 true 3],
(jq [jx 2 3 0,js 4 (.alloc [(.bool false),.nil,(.int .i64 0)])] [1,2,4]
(.seq (jq [jf 5 1 2,jl 6 1 5,jn 7 6,ji 8 .gtr 7 .i64 0] [1,2,4,8]
(jC 8
(jr [jf 9 2 2,jl 10 1 9,jm 11 1,jb 12 .add 10 11,jf 13 2 2,jw 1 13 12] [2,4])
.skip))
(jq [jL 14 3 2,jw 3 4 14] [4]
.ret)))⟩
def Zcz : IFn:=⟨[.cell 2 true 3],
(jq [jx 1 3 0,js 2 (.alloc [(.bool false),.nil,(.int .i64 0)])] [1,2]
(.seq (jq [jf 5 2 1,jl 6 1 5,ji 7 .geq 6 .i64 0] [1,2,7]
(jC 7
(jq [jL 8 3 1,jw 3 2 8] [2]
.ret)
.skip))
(jq [jf 10 1 1,jl 11 1 10,jf 12 2 1,jl 13 1 12,js 14 (.un .neg (.t 13)),jc 15 84 [11,14],jm 9 15,je 16 9 0,je 17 9 1,jm 3 16,jm 4 17] [1,2,3,4]
(.seq (jq [jf 18 0 1,jl 19 1 18,jm 20 19,jg (jm 21 4) 20 true,jp 22 20 21] [1,2,3,22]
(jC 22
(jr [jm 23 3,js 24 (.bslice 1 1 [(.int .u32 0)] [(0,1,(.c (.int .u32 1)))]),jc 25 99 [23,24],jm 3 25] [1,2,3])
.skip))
(jq [jf 26 0 1,jl 27 1 26,jm 28 3,js 29 (.call false (.f 45) [(.t 27),(.t 28),(.c (.int .i64 0))]),jw 3 2 29] [2]
.ret)))))⟩
def ZaV : IFn:=⟨[.cell 4 true 3],
(jq [jx 2 3 0,jx 3 3 1,js 4 (.alloc [(.bool false),.nil,(.int .i64 0)])] [2,3,4]
(.seq (jq [jf 8 1 2,jl 9 1 8,jn 10 9,ji 11 .eql 10 .i64 0] [2,3,4,11]
(jC 11
(jq [jL 12 3 3,jw 3 4 12] [4]
.ret)
.skip))
(.seq (jq [jf 13 1 3,jl 14 1 13,jn 15 14,ji 16 .eql 15 .i64 0] [2,3,4,16]
(jC 16
(jq [jL 17 3 2,jw 3 4 17] [4]
.ret)
.skip))
(jq [jf 18 2 2,jl 19 1 18,jm 5 19] [2,3,4,5]
(.seq (jq [jf 20 2 3,jl 21 1 20,jm 22 5,jb 23 .lss 21 22] [2,3,4,5,23]
(jC 23
(jr [jf 24 2 3,jl 25 1 24,jm 5 25] [2,3,4,5])
.skip))
(jq [jf 26 1 2,jl 27 1 26,jf 28 2 2,jl 29 1 28,jm 30 5,jb 31 .sub 29 30,jc 32 72 [27,31],jm 6 32] [2,3,4,5,6]
(jq [jf 33 1 3,jl 34 1 33,jf 35 2 3,jl 36 1 35,jm 37 5,jb 38 .sub 36 37,jc 39 72 [34,38],jm 7 39] [2,3,4,5,6,7]
(.seq (jq [jf 40 0 2,jl 41 1 40,jf 42 0 3,jl 43 1 42,js 44 (.eqb false (.t 41) (.t 43))] [2,3,4,5,6,7,44]
(jC 44
(jq [jf 45 0 2,jl 46 1 45,jm 47 6,jm 48 7,jc 49 99 [47,48],jm 50 5,jc 51 45 [46,49,50],jw 3 4 51] [4]
.ret)
.skip))
(.seq (jq [jm 52 6,jm 53 7,jc 54 100 [52,53],ji 55 .geq 54 .i64 0] [2,3,4,5,6,7,55]
(jC 55
(jq [jf 56 0 2,jl 57 1 56,jm 58 6,jm 59 7,jc 60 101 [58,59],jm 61 5,jc 62 45 [57,60,61],jw 3 4 62] [4]
.ret)
.skip))
(jq [jf 63 0 3,jl 64 1 63,jm 65 7,jm 66 6,jc 67 101 [65,66],jm 68 5,jc 69 45 [64,67,68],jw 3 4 69] [4]
.ret))))))))))⟩
def ZkH : IFn:=⟨[.cell 2 true 3],
(jq [js 2 (.alloc [(.bool false),.nil,(.int .i64 0)])] [0,2]
(jq [js 3 (.bslice 1 1 [(.int .u32 0)] [(0,1,(.c (.int .u32 1)))]),jm 4 0,js 5 (.build [(.bool false),.nil,(.int .i64 0)] [(1,1,(.t 3)),(2,1,(.t 4))]),jw 3 2 5] [2]
.ret))⟩
def ZkE : IFn:=⟨[.tmp 4],
(jq [jx 2 3 0,jx 3 3 1,jk 4 .i64 0] [2,3]
(jq [jL 7 3 2,jc 8 16 [7],jL 9 3 3,jc 10 16 [9],jm 5 8,jm 6 10] [2,3,5,6]
(.seq (jq [jm 11 5,jm 12 6,jb 13 .neq 11 12] [2,3,5,6,13]
(jC 13
(.seq (jq [jm 14 5,jm 15 6,jb 16 .lss 14 15] [16]
(jC 16
(jq [jk 4 .i64 (-1)] [4]
.ret)
.skip))
(jq [jk 4 .i64 1] [4]
.ret))
.skip))
(.seq (jq [jm 17 5,ji 18 .eql 17 .i64 0] [2,3,5,18]
(jC 18
(jq [jk 4 .i64 0] [4]
.ret)
.skip))
(.seq (jq [jL 19 3 2,jc 20 32 [19],jL 21 3 3,jc 22 32 [21],jb 23 .neq 20 22] [2,3,5,23]
(jC 23
(.seq (jq [jL 24 3 2,jc 25 32 [24],jL 26 3 3,jc 27 32 [26],jb 28 .lss 25 27,jm 29 5,ji 30 .gtr 29 .i64 0,js 31 (.eqb false (.t 28) (.t 30))] [31]
(jC 31
(jq [jk 4 .i64 (-1)] [4]
.ret)
.skip))
(jq [jk 4 .i64 1] [4]
.ret))
.skip))
(jq [jL 32 3 2,jL 33 3 3,jc 34 70 [32,33],jc 35 16 [34],jm 4 35] [4]
.ret))))))⟩
def ZkG : IFn:=⟨[.cell 4 true 3],
(jq [jx 2 3 0,jx 3 3 1,js 4 (.alloc [(.bool false),.nil,(.int .i64 0)])] [2,3,4]
(jq [jL 5 3 2,jL 6 3 3,jc 7 102 [6],jc 8 67 [5,7],jw 3 4 8] [4]
.ret))⟩
def Zjr : IC :=
(jq [jb 8 .lss 7 6] [5,6,7,8]
(.seq (jC 8
.skip
(.exit 0))
(.seq (.block 1
(jq [ja 9 3 5 7,jL 10 3 9,js 4 (.alloc [(.bool false),.nil,(.int .i64 0)]),jw 3 4 10] [4,5,6,7]
(jq [jL 11 3 4,jc 12 48 [11],js 13 (.un .not (.t 12))] [5,6,7,13]
(jC 13
(jq [jv 2 false] [2]
.ret)
.skip))))
(jr [ji 14 .add 7 .i64 1,jm 7 14] [5,6,7]))))
def Zjs : IC:=.loop [5,6,7] Zjr
def Zko : IFn:=⟨[.tmp 2],
(jq [jv 2 false] [0]
(.seq (jq [jm 5 0,jn 6 5,jk 7 .i64 0] [5,6,7]
(.block 0
 Zjs))
(jq [jv 2 true] [2]
.ret)))⟩
def ZiB : IFn:=⟨[.tmp 2],
(jq [jk 2 .i64 0] [0]
(.seq (.block 0
(jq [jm 4 0,ji 5 .lss 4 .i64 1,jm 3 5] [0,3]
(jC 3
(jq [jk 2 .i64 2] [2]
.ret)
(jq [jm 7 0,ji 8 .gtr 7 .i64 8192,jm 6 8] [6]
(jC 6
(jq [jk 2 .i64 3] [2]
.ret)
.skip)))))
(jq [jk 2 .i64 0] [2]
.ret)))⟩
def Zrw : IC :=
(.seq (jq [jm 49 13,jc 50 49 [49],jm 51 2,jb 52 .leq 50 51,jm 53 52,jg (jm 54 14) 53 true,jg (jn 55 54) 53 true,jg (ji 56 .gtr 55 .i64 0) 53 true,jp 57 53 56] [2,3,4,6,13,14,16,57]
(jC 57
.skip
(.exit 0)))
(.block 1
(jq [jf 59 1 4,jl 60 1 59,jm 61 14,jc 62 103 [60,61],jm 58 62,je 63 58 0,je 64 58 1,jm 17 63,jm 18 64] [2,3,4,6,13,14,16,17,18]
(jq [jk 19 .u64 0] [2,3,4,6,13,14,16,17,18,19]
(.seq (jq [jm 66 14,jm 67 17,jc 68 104 [66,67],jm 65 68,je 69 65 0,je 70 65 1,jm 20 69,jm 21 70] [2,3,4,6,13,14,16,17,18,19,20]
(jq [jm 71 18,ji 72 .eql 71 .i64 0,jm 73 72,jg (jm 74 20) 73 true,jg (ji 75 .geq 74 .i64 0) 73 true,jp 76 73 75] [2,3,4,6,13,14,16,17,19,76]
(jC 76
(jq [jm 78 14,jm 79 17,jc 80 103 [78,79],jm 77 80,je 81 77 0,je 82 77 1,jm 14 81] [2,3,4,6,13,14,16]
(jr [jk 19 .u64 1] [2,3,4,6,13,14,16,19]))
(jr [jm 84 14,jm 85 14,jc 86 105 [84,85],jm 83 86,je 87 83 0,je 88 83 1,jm 14 87] [2,3,4,6,13,14,16,19]))))
(jq [jm 90 13,js 91 (.call false (.f 50) [(.t 90),(.c (.int .i64 1))]),jm 89 91,je 92 89 0,je 93 89 1,je 94 89 2,jm 13 92] [2,3,4,6,13,14,16,19]
(jq [jm 96 13,jm 97 19,jc 98 55 [97],jc 99 105 [96,98],jm 95 99,je 100 95 0,je 101 95 1,jm 13 100] [2,3,4,6,13,14,16]
(jr [jm 102 16,ji 103 .sub 102 .i64 1,jm 16 103] [2,3,4,6,13,14,16]))))))))
def Zrx : IC:=.loop [2,3,4,6,13,14,16] Zrw
def Zng : IFn:=⟨[.cell 6 true 3,.tmp 7,.tmp 8],
(jq [jx 3 3 0,jx 4 3 1,js 6 (.alloc [(.bool false),.nil,(.int .i64 0)]),jv 7 false,jk 8 .i64 0] [2,3,4,6]
(jq [jf 22 1 3,jl 23 1 22,jc 24 49 [23],js 25 (.bin .sub (.c (.int .i64 131072)) (.t 24)),jm 9 25] [2,3,4,6,9]
(jq [jf 27 1 3,jl 28 1 27,jm 29 9,jc 30 50 [28,29],jm 26 30,je 31 26 0,je 32 26 1,je 33 26 2,jm 10 31,jm 11 32,jm 12 33] [2,3,4,6,9,10]
(jq [jm 35 10,jf 36 1 4,jl 37 1 36,jc 38 77 [35,37],jm 34 38,je 39 34 0,je 40 34 1,je 41 34 2,jm 13 39,jm 14 40,jm 15 41] [2,3,4,6,9,13,14]
(jq [jf 42 2 3,jl 43 1 42,jf 44 2 4,jl 45 1 44,jb 46 .sub 43 45,jm 47 9,jb 48 .sub 46 47,jm 16 48] [2,3,4,6,13,14,16]
(.seq (.block 0
 Zrx)
(jq [jf 104 0 3,jl 105 1 104,jf 106 0 4,jl 107 1 106,js 108 (.eqb true (.t 105) (.t 107)),jm 109 13,jm 110 16,jm 111 14,jn 112 111,ji 113 .gtr 112 .i64 0,jm 114 2,jc 115 78 [108,109,110,113,114],je 116 115 0,je 117 115 1,je 118 115 2,jw 3 6 116,jm 7 117,jm 8 118] [6,7,8]
.ret)))))))⟩
def Zkq : IFn:=⟨[.cell 10 true 3,.tmp 11,.tmp 12],
(jq [js 10 (.alloc [(.bool false),.nil,(.int .i64 0)]),jv 11 false,jk 12 .i64 0] [0,1,2,3,4,10]
(jq [jm 18 1,jc 19 49 [18],jm 20 4,jb 21 .sub 19 20,js 22 (.mm true (.c (.int .i64 0)) [(.t 21)]),jm 13 22] [0,1,2,3,10,13]
(jq [jm 24 1,jm 25 13,js 26 (.un .neg (.t 25)),jc 27 50 [24,26],jm 23 27,je 28 23 0,je 29 23 1,je 30 23 2,jm 1 28,jm 14 29,jm 15 30] [0,1,2,3,10,13,14]
(jq [jm 32 0,jm 33 1,jm 34 2,jm 35 13,jb 36 .add 34 35,jc 37 54 [32,33,36],jm 31 37,je 38 31 0,je 39 31 1,js 16 (.alloc [(.bool false),.nil,(.int .i64 0)]),jw 3 16 38,jm 17 39] [3,10,14,16,17]
(.seq (jq [jm 40 17,ji 41 .neq 40 .i64 0] [3,10,14,16,17,41]
(jC 41
(jq [js 42 (.build [(.bool false),.nil,(.int .i64 0)] []),jm 43 17,jw 3 10 42,jv 11 false,jm 12 43] [10,11,12]
.ret)
.skip))
(jq [jL 44 3 16,jm 45 14,jm 46 45,jg (jm 47 3) 46 false,jP 48 46 47,jw 3 10 44,jm 11 48,jk 12 .i64 0] [10,11,12]
.ret))))))⟩
def Zie : IFn:=⟨[.cell 4 true 3,.tmp 5],
(jq [jx 2 3 0,js 4 (.alloc [(.bool false),.nil,(.int .i64 0)]),jv 5 false] [1,2,4]
(jq [jf 9 1 2,jl 10 1 9,jc 11 64 [10],jm 12 1,jb 13 .sub 11 12,jm 6 13] [2,4,6]
(.seq (jq [jm 14 6,ji 15 .leq 14 .i64 0] [2,4,6,15]
(jC 15
(jq [jL 16 3 2,jw 3 4 16,jv 5 false] [4,5]
.ret)
.skip))
(jq [jf 18 1 2,jl 19 1 18,jm 20 6,jc 21 84 [19,20],jm 17 21,je 22 17 0,je 23 17 1,jm 7 22,jm 8 23] [2,4,6,7,8]
(jq [jf 24 0 2,jl 25 1 24,jm 26 7,jf 27 2 2,jl 28 1 27,jm 29 6,jb 30 .add 28 29,jc 31 45 [25,26,30],jm 32 8,jw 3 4 31,jm 5 32] [4,5]
.ret)))))⟩
def ZeS : IFn:=⟨[.tmp 2],
(jq [jv 2 false] [0]
(jq [jm 3 0,js 4 (.bin .leq (.c (.int .i64 (-16777216))) (.t 3)),jm 5 4,jg (jm 6 0) 5 true,jg (ji 7 .leq 6 .i64 16777216) 5 true,jp 8 5 7,jm 2 8] [2]
.ret))⟩
def Zif : IFn:=⟨[.cell 2 true 3],
(jq [jx 1 3 0,js 2 (.alloc [(.bool false),.nil,(.int .i64 0)])] [1,2]
(.seq (jq [jf 3 1 1,jl 4 1 3,jn 5 4,ji 6 .gtr 5 .i64 0] [1,2,6]
(jC 6
(jr [jf 7 0 1,jl 8 1 7,js 9 (.un .not (.t 8)),jf 10 0 1,jw 1 10 9] [1,2])
.skip))
(jq [jL 11 3 1,jw 3 2 11] [2]
.ret)))⟩
structure HasC (gdb : Nat) (T : Tbl) : Prop where
 ZoT : T 14 = some ZeF
 Zbi : T 16 = some ZeG
 Zoi : T 20 = some ZfV
 Zcn : T 22 = some Zkn
 ZfI : T 32 = some Zih
 ZqV : T 37 = some ZkD
 Zsw : T 40 = some Zml
 ZqW : T 41 = some Zig
 Zqo : T 43 = some ZhV
 ZoS : T 44 = some Zdn
 ZaQ : T 45 = some ZgH
 Zda : T 48 = some ZeC
 Zcm : T 54 = some ZhU
 Zez : T 65 = some Zfh
 Zld : T 66 = some Zcz
 Zef : T 67 = some ZaV
 Zok : T 68 = some ZkH
 Zog : T 69 = some ZkE
 Zkd : T 70 = some ZkG
 ZjU : T 74 = some Zko
 Zmw : T 75 = some ZiB
 dyad_wide : T 76 = some Zng
 ZnR : T 78 = some Zkq
 Zoh : T 80 = some Zie
 ZkY : T 87 = some ZeS
 Zoj : T 102 = some Zif
end Go.Cv
namespace Go.Cv
def Zfy : IFn:=⟨[.tmp 4,.tmp 5],
(jq [jk 4 .u64 0,jk 5 .i64 0] [0,1]
(jq [jm 6 0,jm 7 1,js 8 (.call false (.f 58) [(.t 6),(.t 7),(.f 59)]),je 9 8 0,je 10 8 1,jm 4 9,jm 5 10] [4,5]
.ret))⟩
def Zmr : IFn:=⟨[.tmp 4,.tmp 5],
(jq [jk 4 .u64 0,jk 5 .i64 0] [0,1]
(jq [jm 6 0,jm 7 1,js 8 (.call false (.f 58) [(.t 6),(.t 7),(.f 60)]),je 9 8 0,je 10 8 1,jm 4 9,jm 5 10] [4,5]
.ret))⟩
def Zmo : IFn:=⟨[.tmp 2],
(jq [jv 2 false] [0]
(jq [jm 3 0,ji 4 .eql 3 .u8 1,jm 5 4,jg (jm 6 0) 5 false,jg (ji 7 .eql 6 .u8 2) 5 false,jP 8 5 7,jm 2 8] [2]
.ret))⟩
def ZkI : IFn:=⟨[.tmp 4],
(jq [jk 4 .u64 0] [0,1]
(jq [jm 5 0,jm 6 1,jm 7 0,jc 8 63 [7],js 9 (.build [(.bool false),(.int .i64 0),(.int .u64 0)] [(0,1,(.t 6)),(1,1,(.t 8))]),jc 10 62 [5,9],jm 4 10] [4]
.ret))⟩
def ZiQ : IFn:=⟨[.tmp 2],
(jq [jk 2 .i64 0] [0]
(.seq (jq [jm 3 0,ji 4 .eql 3 .u8 1] [4]
(jC 4
(jq [jk 2 .i64 23] [2]
.ret)
.skip))
(jq [jk 2 .i64 52] [2]
.ret)))⟩
def ZkJ : IFn:=⟨[.tmp 2],
(jq [jk 2 .i64 0] [0]
(.seq (jq [jm 3 0,ji 4 .eql 3 .u8 1] [4]
(jC 4
(jq [jk 2 .i64 (-149)] [2]
.ret)
.skip))
(jq [jk 2 .i64 (-1074)] [2]
.ret)))⟩
def ZiU : IFn:=⟨[.tmp 2],
(jq [jk 2 .i64 0] [0]
(.seq (jq [jm 3 0,ji 4 .eql 3 .u8 1] [4]
(jC 4
(jq [jk 2 .i64 128] [2]
.ret)
.skip))
(jq [jk 2 .i64 1024] [2]
.ret)))⟩
def ZbL : IFn:=⟨[.tmp 4,.tmp 5],
(jq [jx 3 3 1,jk 4 .u64 0,jv 5 false] [0,3]
(.seq (jq [jL 11 3 3,jc 12 16 [11],ji 13 .eql 12 .i64 0] [0,3,13]
(jC 13
(jq [jk 4 .u64 0,jv 5 true] [4,5]
.ret)
.skip))
(jq [jL 14 3 3,jc 15 32 [14],jm 6 15] [0,3,6]
(.seq (jq [jm 16 6,jm 17 0,jc 18 35 [17],jb 19 .gtr 16 18,jm 20 19,jg (jf 21 2 3) 20 false,jg (jl 22 1 21) 20 false,jg (jm 23 0) 20 false,jg (jc 24 33 [23]) 20 false,jg (jb 25 .lss 22 24) 20 false,jP 26 20 25,jm 27 26,jg (jf 28 1 3) 27 false,jg (jl 29 1 28) 27 false,jg (jc 30 64 [29]) 27 false,jg (jm 31 0) 27 false,jg (jc 32 31 [31]) 27 false,jg (ji 33 .add 32 .i64 1) 27 false,jg (jb 34 .gtr 30 33) 27 false,jP 35 27 34] [0,3,6,35]
(jC 35
(jq [jk 4 .u64 0,jv 5 false] [4,5]
.ret)
.skip))
(jq [jm 36 6,jm 37 0,jc 38 31 [37],jb 39 .sub 36 38,ji 40 .sub 39 .i64 1,jm 7 40] [0,3,7]
(.seq (jq [jm 41 7,jm 42 0,jc 43 33 [42],jb 44 .lss 41 43] [0,3,7,44]
(jC 44
(jr [jm 45 0,jc 46 33 [45],jm 7 46] [0,3,7])
.skip))
(jq [jf 47 1 3,jl 48 1 47,jf 49 2 3,jl 50 1 49,jm 51 7,jb 52 .sub 50 51,jc 53 72 [48,52],jm 8 53] [0,3,7,8]
(jq [jm 54 8,js 55 (.iaddr 1 (.t 54) (.c (.int .i64 0))),jl 56 1 55,js 57 (.cvt .u64 (.t 56)),jm 9 57] [0,3,7,8,9]
(.seq (jq [jm 58 8,jn 59 58,ji 60 .gtr 59 .i64 1] [0,3,7,8,9,60]
(jC 60
(jr [jm 61 9,jm 62 8,js 63 (.iaddr 1 (.t 62) (.c (.int .i64 1))),jl 64 1 63,js 65 (.cvt .u64 (.t 64)),ji 66 .shl 65 .u64 32,jb 67 .add 61 66,jm 9 67] [0,3,7,9])
.skip))
(jq [jf 68 0 3,jl 69 1 68,jm 70 9,js 71 (.build [(.bool false),(.int .i64 0),(.int .u64 0)] [(0,1,(.t 69)),(2,1,(.t 70))]),js 10 (.alloc [(.bool false),(.int .i64 0),(.int .u64 0)]),jw 3 10 71] [0,7,9,10]
(.seq (jq [jm 72 9,jm 73 0,jc 74 31 [73],jb 75 .shr 72 74,ji 76 .gtr 75 .u64 0] [0,7,9,10,76]
(jC 76
(jq [jm 77 9,jm 78 0,jc 79 31 [78],js 80 (.bin .shl (.c (.int .u64 1)) (.t 79)),jb 81 .sub 77 80,jf 82 2 10,jw 1 82 81] [0,7,10]
(jr [jm 83 7,jm 84 0,jc 85 33 [84],jb 86 .sub 83 85,ji 87 .add 86 .i64 1,jf 88 1 10,jw 1 88 87] [0,10]))
.skip))
(jq [jm 89 0,jL 90 3 10,jc 91 62 [89,90],jm 4 91,jv 5 true] [4,5]
.ret))))))))))))⟩
def Zgp : IFn:=⟨[.tmp 6],
(jq [jk 6 .u64 0] [0,1,2]
(jq [jm 7 1,jm 8 0,jc 9 73 [8],jb 10 .rem 7 9,jm 1 10] [0,1,2]
(.seq (jq [jm 11 2] [0,1,11]
(jC 11
(jr [jm 12 1,jm 13 0,jc 14 73 [13],jb 15 .add 12 14,jm 1 15] [1])
.skip))
(jq [jm 16 1,jm 6 16] [6]
.ret))))⟩
def ZjS : IFn:=⟨[.tmp 4,.tmp 5],
(jq [jx 3 3 1,jk 4 .u64 0,jk 5 .i64 0] [0,3]
(jq [jm 14 0,js 15 (.call false (.f 95) [(.t 14),(.c .nil)]),jm 13 15,je 16 13 0,je 17 13 1,js 6 (.alloc [(.int .i64 0),(.int .i64 0),(.int .u64 0)]),jw 3 6 16,jm 7 17] [3,6,7]
(.seq (jq [jm 18 7,ji 19 .neq 18 .i64 0] [3,6,7,19]
(jC 19
(jq [jm 20 7,jk 4 .u64 0,jm 5 20] [4,5]
.ret)
.skip))
(.seq (jq [jL 21 3 3,jc 22 48 [21],js 23 (.un .not (.t 22))] [3,6,23]
(jC 23
(jq [jk 4 .u64 0,jk 5 .i64 2] [4,5]
.ret)
.skip))
(jq [jf 25 1 3,jl 26 1 25,jc 27 51 [26],jm 24 27,je 28 24 0,je 29 24 1,jm 8 28,jm 9 29] [3,6,8,9]
(jq [jm 30 8,jc 31 53 [30],jm 10 31] [3,6,8,9,10]
(jq [jf 32 2 3,jl 33 1 32,jm 34 10,jb 35 .add 33 34,jm 11 35] [3,6,8,9,10,11]
(.seq (jq [jm 36 9,js 37 (.un .not (.t 36)),jm 38 37,jg (jm 39 10) 38 false,jg (jf 40 0 6) 38 false,jg (jl 41 1 40) 38 false,jg (ji 42 .add 41 .i64 1) 38 false,jg (jb 43 .gtr 39 42) 38 false,jP 44 38 43,jm 45 44,jg (jm 46 8) 45 false,jg (ji 47 .neq 46 .u64 0) 45 false,jg (jm 48 47) 45 false,jg (jf 49 2 3) 48 true,jg (jl 50 1 49) 48 true,jg (jL 51 3 6) 48 true,jg (jc 52 96 [51]) 48 true,jg (jb 53 .lss 50 52) 48 true,jg (jm 54 53) 48 true,jg (jm 55 11) 54 false,jg (jf 56 1 6) 54 false,jg (jl 57 1 56) 54 false,jg (ji 58 .quo 57 .i64 2) 54 false,jg (ji 59 .add 58 .i64 1) 54 false,jg (jb 60 .gtr 55 59) 54 false,jg (jP 61 54 60) 48 true,jg (jp 62 48 61) 45 false,jP 63 45 62] [3,6,8,11,63]
(jC 63
(jq [jk 4 .u64 0,jk 5 .i64 7] [4,5]
.ret)
.skip))
(.seq (jq [jm 64 8,ji 65 .eql 64 .u64 0] [3,6,8,11,65]
(jC 65
(jq [jk 4 .u64 0,jk 5 .i64 0] [4,5]
.ret)
.skip))
(jq [jm 66 11,jf 67 0 6,jl 68 1 67,jb 69 .sub 66 68,ji 70 .sub 69 .i64 1,jL 71 3 6,jc 72 96 [71],js 73 (.mm true (.t 70) [(.t 72)]),jm 12 73] [3,6,8,12]
(jq [jm 74 8,jf 75 2 3,jl 76 1 75,jm 77 12,jb 78 .sub 76 77,jb 79 .shl 74 78,jm 8 79] [3,6,8,12]
(jq [jL 80 3 6,jf 81 0 3,jl 82 1 81,jm 83 12,jL 84 3 6,jc 85 96 [84],jb 86 .sub 83 85,js 87 (.cvt .u64 (.t 86)),jf 88 0 6,jl 89 1 88,jb 90 .shl 87 89,jm 91 8,jb 92 .add 90 91,js 93 (.build [(.bool false),(.int .i64 0),(.int .u64 0)] [(0,1,(.t 82)),(2,1,(.t 92))]),jc 94 97 [80,93],jm 4 94,jk 5 .i64 0] [4,5]
.ret))))))))))))⟩
def ZkV : IFn:=⟨[.tmp 4,.tmp 5],
(jq [jk 4 .u64 0,jk 5 .i64 0] [0,1]
(jq [jm 6 0,jm 7 1,js 8 (.call false (.f 58) [(.t 6),(.t 7),(.f 98)]),je 9 8 0,je 10 8 1,jm 4 9,jm 5 10] [4,5]
.ret))⟩
def ZgP : IFn:=⟨[.tmp 6,.tmp 7],
(jq [jk 6 .u64 0,jk 7 .i64 0] [0,1,2]
(jq [jm 12 0,js 13 (.call false (.f 95) [(.t 12),(.c .nil)]),jm 11 13,je 14 11 0,je 15 11 1,js 8 (.alloc [(.int .i64 0),(.int .i64 0),(.int .u64 0)]),jw 3 8 14,jm 9 15] [1,2,8,9]
(.seq (jq [jm 16 9,ji 17 .neq 16 .i64 0] [1,2,8,9,17]
(jC 17
(jq [jm 18 9,jk 6 .u64 0,jm 7 18] [6,7]
.ret)
.skip))
(jq [jm 19 2,jL 20 3 8,js 21 (.call false (.t 19) [(.t 20)]),jm 10 21] [1,8,10]
(.seq (jq [jm 22 1] [8,10,22]
(jC 22
(jr [jm 23 10,jf 24 2 8,jl 25 1 24,jb 26 .or 23 25,jm 10 26] [10])
.skip))
(jq [jm 27 10,jm 6 27,jk 7 .i64 0] [6,7]
.ret))))))⟩
def ZdH : IFn:=⟨[.tmp 2],
(jq [jx 1 3 0,jk 2 .u64 0] [1]
(jq [jL 3 3 1,jc 4 60 [3],ji 5 .sub 4 .u64 1,jm 2 5] [2]
.ret))⟩
def Zen : IFn:=⟨[.tmp 2],
(jq [jx 1 3 0,jk 2 .u64 0] [1]
(jq [jf 3 1 1,jl 4 1 3,js 5 (.cvt .u64 (.t 4)),jf 6 0 1,jl 7 1 6,jb 8 .shl 5 7,jm 2 8] [2]
.ret))⟩
def ZiR : IFn:=⟨[.tmp 4],
(jq [jx 3 3 1,jk 4 .u64 0] [0,3]
(jq [jf 6 1 3,jl 7 1 6,js 8 (.cvt .u64 (.t 7)),jm 9 0,jc 10 31 [9],jb 11 .shl 8 10,jf 12 2 3,jl 13 1 12,jb 14 .add 11 13,jm 5 14] [0,3,5]
(.seq (jq [jf 15 0 3,jl 16 1 15] [0,5,16]
(jC 16
(jr [jm 17 5,jm 18 0,jc 19 73 [18],jb 20 .add 17 19,jm 5 20] [5])
.skip))
(jq [jm 21 5,jm 4 21] [4]
.ret))))⟩
def ZiS : IFn:=⟨[.tmp 2],
(jq [jk 2 .i64 0] [0]
(.seq (jq [jm 3 0,ji 4 .eql 3 .u8 1] [4]
(jC 4
(jq [jk 2 .i64 255] [2]
.ret)
.skip))
(jq [jk 2 .i64 2047] [2]
.ret)))⟩
def ZiT : IFn:=⟨[.tmp 2],
(jq [jk 2 .u64 0] [0]
(.seq (jq [jm 3 0,ji 4 .eql 3 .u8 1] [4]
(jC 4
(jq [jk 2 .u64 2147483648] [2]
.ret)
.skip))
(jq [jk 2 .u64 9223372036854775808] [2]
.ret)))⟩
def ZbY : IC :=
(jq [jb 21 .lss 20 19] [4,6,18,19,20,21]
(.seq (jC 21
.skip
(.exit 0))
(.seq (.block 1
(jq [ja 22 1 18 20,jl 23 1 22,jm 9 23] [4,6,9,18,19,20]
(jq [jm 24 9,jf 25 2 6,jl 26 1 25,jf 27 2 6,jl 28 1 27,ji 29 .sub 28 .u64 1,jb 30 .or 26 29,jb 31 .gtr 24 30] [4,6,18,19,20,31]
(jC 31
(jq [jL 32 3 6,jw 3 4 32,jk 5 .i64 6] [4,5]
.ret)
.skip))))
(jr [ji 33 .add 20 .i64 1,jm 20 33] [4,6,18,19,20]))))
def ZcP : IC:=.loop [4,6,18,19,20] ZbY
def Zdv : IFn:=⟨[.cell 4 true 3,.tmp 5],
(jq [js 4 (.alloc [(.int .i64 0),(.int .i64 0),(.int .u64 0)]),jk 5 .i64 0] [0,1,4]
(jq [jm 11 0,jc 12 115 [11],jm 10 12,je 13 10 0,je 14 10 1,js 6 (.alloc [(.int .i64 0),(.int .i64 0),(.int .u64 0)]),jw 3 6 13,jm 7 14] [1,4,6,7]
(.seq (jq [jm 15 7,js 16 (.un .not (.t 15))] [1,4,6,16]
(jC 16
(jq [jL 17 3 6,jw 3 4 17,jk 5 .i64 4] [4,5]
.ret)
.skip))
(.seq (jq [jm 18 1,jn 19 18,jk 20 .i64 0] [4,6,18,19,20]
(.block 0
 ZcP))
(jq [jL 34 3 6,jw 3 4 34,jk 5 .i64 0] [4,5]
.ret)))))⟩
def Zeo : IFn:=⟨[.tmp 2],
(jq [jx 1 3 0,jk 2 .i64 0] [1]
(jq [jf 3 1 1,jl 4 1 3,ji 5 .quo 4 .i64 2,js 6 (.bin .sub (.c (.int .i64 1)) (.t 5)),jf 7 0 1,jl 8 1 7,jb 9 .sub 6 8,jm 2 9] [2]
.ret))⟩
def ZdI : IFn:=⟨[.tmp 4],
(jq [jx 2 3 0,jx 3 3 1,jk 4 .u64 0] [2,3]
(jq [jf 6 1 3,jl 7 1 6,js 8 (.cvt .u64 (.t 7)),jf 9 0 2,jl 10 1 9,jb 11 .shl 8 10,jf 12 2 3,jl 13 1 12,jb 14 .or 11 13,jm 5 14] [2,3,5]
(.seq (jq [jf 15 0 3,jl 16 1 15] [2,5,16]
(jC 16
(jr [jm 17 5,jf 18 2 2,jl 19 1 18,jb 20 .or 17 19,jm 5 20] [5])
.skip))
(jq [jm 21 5,jm 4 21] [4]
.ret))))⟩
def ZhE : IFn:=⟨[.tmp 2],
(jq [jx 1 3 0,jk 2 .u64 0] []
(jq [jk 2 .u64 0] [2]
.ret))⟩
def Zed : IFn:=⟨[.cell 2 true 3,.tmp 3],
(jq [js 2 (.alloc [(.int .i64 0),(.int .i64 0),(.int .u64 0)]),jv 3 false] [0,2]
(.seq (jq [jm 4 0] [2,4]
(.block 0
(jq [ji 6 .eql 4 .u8 1,jm 5 6] [2,4,5]
(jC 5
(jq [js 7 (.build [(.int .i64 0),(.int .i64 0),(.int .u64 0)] [(0,1,(.c (.int .i64 23))),(1,1,(.c (.int .i64 255))),(2,1,(.c (.int .u64 2147483648)))]),jw 3 2 7,jv 3 true] [2,3]
.ret)
(jq [ji 9 .eql 4 .u8 2,jm 8 9] [2,8]
(jC 8
(jq [js 10 (.build [(.int .i64 0),(.int .i64 0),(.int .u64 0)] [(0,1,(.c (.int .i64 52))),(1,1,(.c (.int .i64 2047))),(2,1,(.c (.int .u64 9223372036854775808)))]),jw 3 2 10,jv 3 true] [2,3]
.ret)
.skip))))))
(jq [js 11 (.build [(.int .i64 0),(.int .i64 0),(.int .u64 0)] []),jw 3 2 11,jv 3 false] [2,3]
.ret)))⟩
structure HasD (gdb : Nat) (T : Tbl) : Prop where
 Zlm : T 25 = some Zfy
 Zjp : T 26 = some Zmr
 ZpM : T 27 = some Zmo
 ZgU : T 30 = some ZkI
 ZdO : T 31 = some ZiQ
 ZlR : T 33 = some ZkJ
 ZmF : T 35 = some ZiU
 ZpN : T 36 = some ZbL
 Zbe : T 38 = some Zgp
 Zts : T 56 = some ZjS
 Zmg : T 57 = some ZkV
 Zgd : T 58 = some ZgP
 word_Greatest_1 : T 59 = some ZdH
 word_shape_inf : T 60 = some Zen
 ZeN : T 62 = some ZiR
 ZhP : T 63 = some ZiS
 ZhQ : T 73 = some ZiT
 word_open : T 95 = some Zdv
 word_shape_low : T 96 = some Zeo
 word_shape_join : T 97 = some ZdI
 word_Zero_1 : T 98 = some ZhE
 Zhd : T 115 = some Zed
end Go.Cv
namespace Go.Cv
def Zft : IFn:=⟨[.tmp 6,.tmp 7,.tmp 8],
(jq [jx 5 3 2,jk 6 .u64 0,jk 7 .u8 0,jk 8 .i64 0] [0,1,5]
(jq [jm 14 0,jm 15 1,jL 16 3 5,js 17 (.bslice 1 3 [(.bool false),.nil,(.int .i64 0)] [(0,3,(.t 16))]),jc 18 21 [14,15,17],jm 13 18,je 19 13 0,je 20 13 1,js 9 (.alloc [(.int .i64 0),(.int .i64 0),(.int .i64 0)]),jw 3 9 19,jm 10 20] [0,1,5,9,10]
(.seq (jq [jm 21 10,ji 22 .neq 21 .i64 0] [0,1,5,9,10,22]
(jC 22
(jq [jm 23 10,jk 6 .u64 0,jk 7 .u8 0,jm 8 23] [6,7,8]
.ret)
.skip))
(.seq (jq [jL 24 3 5,jc 25 22 [24],ji 26 .eql 25 .i64 0] [0,1,5,9,26]
(jC 26
(jq [jk 6 .u64 0,jk 7 .u8 0,jk 8 .i64 0] [6,7,8]
.ret)
.skip))
(jq [jL 28 3 5,jc 29 23 [28],jm 30 0,jL 31 3 9,jm 32 1,jf 33 0 5,jl 34 1 33,jc 35 24 [29,30,31,32,34],jm 27 35,je 36 27 0,je 37 27 1,jm 11 36,jm 12 37] [11,12]
(jq [jm 38 11,jm 39 12,jm 6 38,jm 7 39,jk 8 .i64 0] [6,7,8]
.ret))))))⟩
def ZgM : IFn:=⟨[.tmp 6,.tmp 7],
(jq [jk 6 .u64 0,jk 7 .i64 0] [0,1,2]
(.seq (jq [jm 11 0,jm 12 1,js 13 (.call false (.f 21) [(.t 11),(.t 12),(.c .nil)]),jm 10 13,je 14 10 0,je 15 10 1,js 8 (.alloc [(.int .i64 0),(.int .i64 0),(.int .i64 0)]),jw 3 8 14,jm 9 15] [0,1,2,9]
(jq [jm 16 9,ji 17 .neq 16 .i64 0] [0,1,2,9,17]
(jC 17
(jq [jm 18 9,jk 6 .u64 0,jm 7 18] [6,7]
.ret)
.skip)))
(.seq (jq [jm 19 1,ji 20 .eql 19 .u8 3,jm 21 20,jg (jm 22 1) 21 false,jg (ji 23 .eql 22 .u8 4) 21 false,jg (jm 24 23) 21 false,jg (jm 25 2) 24 true,jg (jp 26 24 25) 21 false,jP 27 21 26,jm 28 27,jg (jm 29 1) 28 false,jg (ji 30 .eql 29 .u8 5) 28 false,jg (jm 31 30) 28 false,jg (jm 32 2) 31 true,jg (js 33 (.un .not (.t 32))) 31 true,jg (jp 34 31 33) 28 false,jP 35 28 34] [0,2,35]
(jC 35
(jq [jm 36 0,jm 37 2,jc 38 25 [36,37],je 39 38 0,je 40 38 1,jm 6 39,jm 7 40] [6,7]
.ret)
.skip))
(jq [jm 41 0,jm 42 2,jc 43 26 [41,42],je 44 43 0,je 45 43 1,jm 6 44,jm 7 45] [6,7]
.ret))))⟩
def ZgK : IFn:=⟨[.tmp 6],
(jq [jk 6 .u64 0] [0,1,2]
(.seq (jq [jm 7 1,ji 8 .eql 7 .u8 3,jm 9 8,jg (jm 10 1) 9 false,jg (ji 11 .eql 10 .u8 4) 9 false,jg (jm 12 11) 9 false,jg (jm 13 2) 12 true,jg (jp 14 12 13) 9 false,jP 15 9 14,jm 16 15,jg (jm 17 1) 16 false,jg (ji 18 .eql 17 .u8 5) 16 false,jg (jm 19 18) 16 false,jg (jm 20 2) 19 true,jg (js 21 (.un .not (.t 20))) 19 true,jg (jp 22 19 21) 16 false,jP 23 16 22] [0,2,23]
(jC 23
(jq [jm 24 0,jm 25 2,jc 26 30 [24,25],ji 27 .sub 26 .u64 1,jm 6 27] [6]
.ret)
.skip))
(jq [jm 28 0,jm 29 2,jc 30 30 [28,29],jm 6 30] [6]
.ret)))⟩
def Zbt : IFn:=⟨[.tmp 6,.tmp 7],
(jq [jx 5 3 2,jk 6 .u64 0,jk 7 .u8 0] [0,1,5]
(.seq (jq [jL 14 3 5,jc 15 16 [14],ji 16 .eql 15 .i64 0] [0,1,5,16]
(jC 16
(jq [jk 6 .u64 0,jk 7 .u8 0] [6,7]
.ret)
.skip))
(jq [jm 17 0,jc 18 31 [17],ji 19 .add 18 .i64 1,jm 8 19] [0,1,5,8]
(jq [jL 20 3 5,jc 21 32 [20],jm 22 8,jb 23 .sub 21 22,jm 9 23] [0,1,5,8,9]
(jq [jm 24 9,jm 10 24] [0,1,5,8,9,10]
(.seq (jq [jm 25 10,jm 26 0,jc 27 33 [26],jb 28 .lss 25 27] [0,1,5,8,9,10,28]
(jC 28
(jr [jm 29 0,jc 30 33 [29],jm 10 30] [0,1,5,8,9,10])
.skip))
(jq [jm 31 1,jL 32 3 5,jm 33 10,jc 34 34 [31,32,33],js 11 (.alloc [(.bool false),.nil,(.int .i64 0)]),jw 3 11 34] [0,1,5,8,9,11]
(.seq (jq [jL 35 3 11,jc 36 32 [35],jm 37 0,jc 38 35 [37],jb 39 .gtr 36 38] [0,1,5,8,9,11,39]
(jC 39
(jq [jm 40 0,jm 41 1,jf 42 0 5,jl 43 1 42,jc 44 10 [40,41,43],jm 6 44,jk 7 .u8 20] [6,7]
.ret)
.skip))
(jq [jm 46 0,jL 47 3 11,jc 48 37 [47],jc 49 36 [46,48],jm 45 49,je 50 45 0,je 51 45 1,jm 12 50,jm 13 51] [0,1,5,8,9,11,12]
(jq [jm 52 0,jm 53 12,jf 54 0 5,jl 55 1 54,jc 56 38 [52,53,55],jm 12 56] [0,1,5,8,9,11,12]
(.seq (jq [jL 57 3 5,jL 58 3 11,jc 59 14 [57,58]] [0,1,5,8,9,12,59]
(jC 59
(jq [jm 60 12,jm 6 60,jk 7 .u8 0] [6,7]
.ret)
.skip))
(.seq (jq [jm 61 1,jL 62 3 5,jm 63 9,jc 64 34 [61,62,63],jc 65 32 [64],jm 66 0,jc 67 33 [66],jm 68 8,jb 69 .add 67 68,jb 70 .lss 65 69] [12,70]
(jC 70
(jq [jm 71 12,jm 6 71,jk 7 .u8 24] [6,7]
.ret)
.skip))
(jq [jm 72 12,jm 6 72,jk 7 .u8 16] [6,7]
.ret)))))))))))))⟩
def ZkR : IFn:=⟨[.tmp 8,.tmp 9,.tmp 10],
(jq [jx 6 3 2,jx 7 3 3,jk 8 .u64 0,jk 9 .u8 0,jk 10 .i64 0] [0,1,6,7]
(jq [jm 21 0,jm 22 1,jL 23 3 6,jL 24 3 7,js 25 (.bslice 2 3 [(.bool false),.nil,(.int .i64 0)] [(0,3,(.t 23)),(3,3,(.t 24))]),jc 26 21 [21,22,25],jm 20 26,je 27 20 0,je 28 20 1,js 11 (.alloc [(.int .i64 0),(.int .i64 0),(.int .i64 0)]),jw 3 11 27,jm 12 28] [0,1,6,7,11,12]
(.seq (.block 0
(jq [jm 30 12,ji 31 .neq 30 .i64 0,jm 29 31] [0,1,6,7,11,12,29]
(jC 29
(jq [jm 32 12,jk 8 .u64 0,jk 9 .u8 0,jm 10 32] [8,9,10]
.ret)
(jq [jL 34 3 7,jc 35 22 [34],ji 36 .eql 35 .i64 0,jm 33 36] [0,1,6,7,11,33]
(jC 33
(jq [jk 8 .u64 0,jk 9 .u8 0,jk 10 .i64 11] [8,9,10]
.ret)
(jq [jL 38 3 6,jc 39 22 [38],ji 40 .eql 39 .i64 0,jm 37 40] [0,1,6,7,11,37]
(jC 37
(jq [jk 8 .u64 0,jk 9 .u8 0,jk 10 .i64 0] [8,9,10]
.ret)
.skip)))))))
(jq [jf 41 0 6,jl 42 1 41,jf 43 0 7,jl 44 1 43,js 45 (.eqb true (.t 42) (.t 44)),jm 13 45] [0,1,6,7,11,13]
(jq [jf 47 1 6,jl 48 1 47,js 49 (.build [(.bool false),.nil,(.int .i64 0)] [(1,1,(.t 48))]),jf 50 1 7,jl 51 1 50,js 52 (.build [(.bool false),.nil,(.int .i64 0)] [(1,1,(.t 51))]),js 53 (.call false (.f 40) [(.t 49),(.t 52),(.c (.int .i64 64))]),jm 46 53,je 54 46 0,je 55 46 1,je 56 46 2,js 14 (.alloc [(.bool false),.nil,(.int .i64 0)]),jw 3 14 54,jm 15 55,jm 16 56] [0,1,6,7,11,13,14,15]
(jq [jL 57 3 14,jc 58 23 [57],js 17 (.alloc [(.int .u64 0),(.int .i64 0),(.bool false)]),jw 3 17 58] [0,1,6,7,11,13,15,17]
(jq [jf 59 2 17,jl 60 1 59,jm 61 60,jg (jm 62 15) 61 false,jP 63 61 62,jf 64 2 17,jw 1 64 63] [0,1,6,7,11,13,17]
(jq [jf 65 1 17,jl 66 1 65,jf 67 2 6,jl 68 1 67,jf 69 2 7,jl 70 1 69,jb 71 .sub 68 70,jb 72 .add 66 71,jf 73 1 17,jw 1 73 72] [0,1,11,13,17]
(jq [jL 75 3 17,jm 76 0,jL 77 3 11,jm 78 1,jm 79 13,jc 80 24 [75,76,77,78,79],jm 74 80,je 81 74 0,je 82 74 1,jm 18 81,jm 19 82] [18,19]
(jq [jm 83 18,jm 84 19,jm 8 83,jm 9 84,jk 10 .i64 0] [8,9,10]
.ret))))))))))⟩
def ZkK : IFn:=⟨[.tmp 8,.tmp 9],
(jq [jx 6 3 2,jx 7 3 3,jk 8 .u64 0,jk 9 .u8 0] [0,1,6,7]
(jq [jL 13 3 6,jL 14 3 7,js 15 (.call false (.f 41) [(.t 13),(.t 14),(.c (.int .i64 60))]),jm 12 15,je 16 12 0,je 17 12 1,js 10 (.alloc [(.bool false),.nil,(.int .i64 0)]),jw 3 10 16,jm 11 17] [0,1,10,11]
(jq [jm 18 0,jm 19 1,jL 20 3 10,jm 21 11,jc 22 42 [20,21],jc 23 12 [18,19,22],je 24 23 0,je 25 23 1,jm 8 24,jm 9 25] [8,9]
.ret)))⟩
def ZgN : IFn:=⟨[.tmp 6,.tmp 7,.tmp 8],
(jq [jx 5 3 2,jk 6 .u64 0,jk 7 .u8 0,jk 8 .i64 0] [0,1,5]
(jq [jm 18 0,jm 19 1,jL 20 3 5,js 21 (.bslice 1 3 [(.bool false),.nil,(.int .i64 0)] [(0,3,(.t 20))]),jc 22 21 [18,19,21],jm 17 22,je 23 17 0,je 24 17 1,js 9 (.alloc [(.int .i64 0),(.int .i64 0),(.int .i64 0)]),jw 3 9 23,jm 10 24] [0,1,5,9,10]
(.seq (.block 0
(jq [jm 26 10,ji 27 .neq 26 .i64 0,jm 25 27] [0,1,5,9,10,25]
(jC 25
(jq [jm 28 10,jk 6 .u64 0,jk 7 .u8 0,jm 8 28] [6,7,8]
.ret)
(jq [jf 30 0 5,jl 31 1 30,jm 29 31] [0,1,5,9,29]
(jC 29
(jq [jk 6 .u64 0,jk 7 .u8 0,jk 8 .i64 10] [6,7,8]
.ret)
(jq [jL 33 3 5,jc 34 22 [33],ji 35 .eql 34 .i64 0,jm 32 35] [0,1,5,9,32]
(jC 32
(jq [jk 6 .u64 0,jk 7 .u8 0,jk 8 .i64 0] [6,7,8]
.ret)
.skip)))))))
(jq [jL 37 3 5,js 38 (.call false (.f 43) [(.t 37),(.c (.int .i64 64))]),jm 36 38,je 39 36 0,je 40 36 1,je 41 36 2,js 11 (.alloc [(.bool false),.nil,(.int .i64 0)]),jw 3 11 39,jm 12 40,jm 13 41] [0,1,9,11,12]
(jq [jL 42 3 11,jc 43 23 [42],js 14 (.alloc [(.int .u64 0),(.int .i64 0),(.bool false)]),jw 3 14 43] [0,1,9,12,14]
(jq [jf 44 2 14,jl 45 1 44,jm 46 45,jg (jm 47 12) 46 false,jP 48 46 47,jf 49 2 14,jw 1 49 48] [0,1,9,14]
(jq [jL 51 3 14,jm 52 0,jL 53 3 9,jm 54 1,js 55 (.call false (.f 24) [(.t 51),(.t 52),(.t 53),(.t 54),(.c (.bool false))]),jm 50 55,je 56 50 0,je 57 50 1,jm 15 56,jm 16 57] [15,16]
(jq [jm 58 15,jm 59 16,jm 6 58,jm 7 59,jk 8 .i64 0] [6,7,8]
.ret))))))))⟩
def ZgL : IFn:=⟨[.tmp 6,.tmp 7],
(jq [jx 5 3 2,jk 6 .u64 0,jk 7 .u8 0] [0,1,5]
(.seq (jq [jL 10 3 5,jc 11 16 [10],ji 12 .eql 11 .i64 0] [0,1,5,12]
(jC 12
(jq [jk 6 .u64 0,jk 7 .u8 0] [6,7]
.ret)
.skip))
(jq [jL 14 3 5,js 15 (.call false (.f 44) [(.t 14),(.c (.int .i64 60))]),jm 13 15,je 16 13 0,je 17 13 1,js 8 (.alloc [(.bool false),.nil,(.int .i64 0)]),jw 3 8 16,jm 9 17] [0,1,8,9]
(jq [jm 18 0,jm 19 1,jL 20 3 8,jm 21 9,jc 22 42 [20,21],jc 23 12 [18,19,22],je 24 23 0,je 25 23 1,jm 6 24,jm 7 25] [6,7]
.ret))))⟩
def Zdt : IC :=
(jq [jb 30 .lss 29 28] [6,8,27,28,29,30]
(.seq (jC 30
.skip
(.exit 0))
(.seq (.block 1
(jq [ja 31 3 27 29,jL 32 3 31,js 11 (.alloc [(.bool false),.nil,(.int .i64 0)]),jw 3 11 32] [6,8,11,27,28,29]
(jq [jL 33 3 11,jc 34 48 [33],js 35 (.un .not (.t 34))] [6,8,27,28,29,35]
(jC 35
(jq [jL 36 3 8,jw 3 6 36,jk 7 .i64 2] [6,7]
.ret)
.skip))))
(jr [ji 37 .add 29 .i64 1,jm 29 37] [6,8,27,28,29]))))
def Zfu : IC:=.loop [6,8,27,28,29] Zdt
def ZeI : IFn:=⟨[.cell 6 true 3,.tmp 7],
(jq [js 6 (.alloc [(.int .i64 0),(.int .i64 0),(.int .i64 0)]),jk 7 .i64 0] [0,1,2,6]
(jq [jm 13 0,jc 14 47 [13],jm 12 14,je 15 12 0,je 16 12 1,js 8 (.alloc [(.int .i64 0),(.int .i64 0),(.int .i64 0)]),jw 3 8 15,jm 9 16] [1,2,6,8,9]
(.seq (jq [jm 17 9,js 18 (.un .not (.t 17))] [1,2,6,8,18]
(jC 18
(jq [jL 19 3 8,jw 3 6 19,jk 7 .i64 4] [6,7]
.ret)
.skip))
(.seq (jq [jm 20 1,ji 21 .lss 20 .u8 1,jm 22 21,jg (jm 23 1) 22 false,jg (ji 24 .gtr 23 .u8 5) 22 false,jP 25 22 24] [2,6,8,25]
(jC 25
(jq [jL 26 3 8,jw 3 6 26,jk 7 .i64 5] [6,7]
.ret)
.skip))
(.seq (jq [jm 27 2,jn 28 27,jk 29 .i64 0] [6,8,27,28,29]
(.block 0
 Zfu))
(jq [jL 38 3 8,jw 3 6 38,jk 7 .i64 0] [6,7]
.ret))))))⟩
def Zgt : IFn:=⟨[.cell 2 true 3],
(jq [jx 1 3 0,js 2 (.alloc [(.int .u64 0),(.int .i64 0),(.bool false)])] [1,2]
(jq [jf 9 1 1,jl 10 1 9,jc 11 49 [10],jm 3 11] [1,2,3]
(jq [jf 13 1 1,jl 14 1 13,jm 15 3,js 16 (.bin .sub (.c (.int .i64 64)) (.t 15)),jc 17 50 [14,16],jm 12 17,je 18 12 0,je 19 12 1,je 20 12 2,jm 4 18,jm 5 19,jm 6 20] [1,2,3,4,5]
(jq [jm 22 4,jc 23 51 [22],jm 21 23,je 24 21 0,je 25 21 1,jm 7 24,jm 8 25] [1,2,3,5,7]
(jq [jm 26 7,jf 27 2 1,jl 28 1 27,jm 29 3,jb 30 .add 28 29,jm 31 5,js 32 (.build [(.int .u64 0),(.int .i64 0),(.bool false)] [(0,1,(.t 26)),(1,1,(.t 30)),(2,1,(.t 31))]),jw 3 2 32] [2]
.ret)))))⟩
def ZaJ : IFn:=⟨[.tmp 10,.tmp 11],
(jq [jx 5 3 0,jx 7 3 2,jk 10 .u64 0,jk 11 .u8 0] [1,3,4,5,7]
(jq [jf 23 1 5,jl 24 1 23,jf 25 0 7,jl 26 1 25,jb 27 .sub 24 26,jf 28 1 7,jl 29 1 28,js 30 (.mm true (.t 27) [(.t 29)]),jm 12 30] [1,3,4,5,7,12]
(jq [jL 32 3 5,jm 33 3,jm 34 4,jm 35 12,jc 36 52 [32,33,34,35],jm 31 36,je 37 31 0,je 38 31 1,jm 13 37,jm 14 38] [1,3,4,5,7,12,13,14]
(.seq (jq [jm 39 13,jc 40 53 [39],jm 41 12,jb 42 .add 40 41,jf 43 2 7,jl 44 1 43,jb 45 .gtr 42 44] [1,3,4,5,7,12,13,14,45]
(jC 45
(jq [jm 47 1,jm 48 3,jm 49 4,jc 50 8 [47,48,49],jm 46 50,je 51 46 0,je 52 46 1,jm 15 51,jm 16 52] [15]
(jq [jm 53 15,jm 10 53,jk 11 .u8 20] [10,11]
.ret))
.skip))
(jq [jm 55 4,jm 56 13,jc 57 55 [56],jm 58 12,jc 59 54 [55,57,58],jm 54 59,je 60 54 0,je 61 54 1,js 17 (.alloc [(.bool false),.nil,(.int .i64 0)]),jw 3 17 60,jm 18 61] [1,3,4,5,7,13,14,17]
(jq [jm 63 1,jL 64 3 17,jc 65 56 [63,64],jm 62 65,je 66 62 0,je 67 62 1,jm 19 66,jm 20 67] [1,3,4,5,7,13,14,19]
(.seq (jq [jm 68 13,ji 69 .eql 68 .u64 0] [1,3,4,5,7,14,19,69]
(jC 69
(jr [jm 71 1,jm 72 4,jc 73 57 [71,72],jm 70 73,je 74 70 0,je 75 70 1,jm 19 74] [3,4,5,7,14,19])
.skip))
(.seq (jq [jm 76 14] [3,4,5,7,19,76]
(jC 76
(jq [jm 77 19,jm 10 77,jk 11 .u8 0] [10,11]
.ret)
.skip))
(jq [jL 79 3 5,jm 80 3,jm 81 4,jf 82 1 5,jl 83 1 82,jf 84 0 7,jl 85 1 84,jb 86 .sub 83 85,jc 87 52 [79,80,81,86],jm 78 87,je 88 78 0,je 89 78 1,jm 21 88,jm 22 89] [5,7,19,21]
(.seq (jq [jm 90 21,jc 91 53 [90],jf 92 1 5,jl 93 1 92,jb 94 .add 91 93,jf 95 0 7,jl 96 1 95,jb 97 .sub 94 96,jf 98 1 7,jl 99 1 98,jf 100 0 7,jl 101 1 100,jb 102 .add 99 101,jb 103 .lss 97 102] [19,103]
(jC 103
(jq [jm 104 19,jm 10 104,jk 11 .u8 24] [10,11]
.ret)
.skip))
(jq [jm 105 19,jm 10 105,jk 11 .u8 16] [10,11]
.ret)))))))))))⟩
def ZhD : IFn:=⟨[.cell 6 true 3],
(jq [jx 4 3 1,js 6 (.alloc [(.bool false),.nil,(.int .i64 0)])] [0,2,4,6]
(jq [jL 13 3 4,jm 14 2,js 15 (.un .neg (.t 14)),jc 16 65 [13,15],jc 17 66 [16],jm 18 2,jc 19 65 [17,18],js 7 (.alloc [(.bool false),.nil,(.int .i64 0)]),jw 3 7 19] [0,2,4,6,7]
(.seq (jq [jL 20 3 7,jL 21 3 4,jc 22 14 [20,21]] [0,2,4,6,7,22]
(jC 22
(jq [jL 23 3 4,jw 3 6 23] [6]
.ret)
.skip))
(jq [jL 24 3 7,jm 25 2,jc 26 68 [25],jc 27 67 [24,26],js 8 (.alloc [(.bool false),.nil,(.int .i64 0)]),jw 3 8 27] [0,2,4,6,7,8]
(.seq (.reg [jL 28 3 8,jL 29 3 7,js 9 (.alloc [(.bool false),.nil,(.int .i64 0)]),js 10 (.alloc [(.bool false),.nil,(.int .i64 0)]),jw 3 9 28,jw 3 10 29] [0,2,4,6,7,8,9,10] [(1,4)])
(.seq (jq [jf 30 0 4,jl 31 1 30] [0,2,4,6,7,8,9,10,31]
(jC 31
(.reg [jL 32 3 7,jL 33 3 8,jw 3 9 32,jw 3 10 33] [0,2,4,6,7,8,9,10] [(1,2)])
.skip))
(.seq (jq [jm 34 0,ji 35 .eql 34 .u8 5] [0,2,4,6,7,8,9,10,35]
(jC 35
(jq [jL 36 3 7,jw 3 6 36] [6]
.ret)
.skip))
(.seq (jq [jm 37 0,ji 38 .eql 37 .u8 4] [0,2,4,6,7,8,9,10,38]
(jC 38
(jq [jL 39 3 8,jw 3 6 39] [6]
.ret)
.skip))
(.seq (jq [jm 40 0,ji 41 .eql 40 .u8 3] [0,2,4,6,7,8,9,10,41]
(jC 41
(jq [jL 42 3 10,jw 3 6 42] [6]
.ret)
.skip))
(jq [jL 43 3 4,jL 44 3 7,jc 45 70 [43,44],jL 46 3 8,jL 47 3 4,jc 48 70 [46,47],jc 49 69 [45,48],jm 11 49] [0,2,6,7,8,9,11]
(.seq (jq [jm 50 11,ji 51 .lss 50 .i64 0] [0,2,6,7,8,9,11,51]
(jC 51
(jq [jL 52 3 7,jw 3 6 52] [6]
.ret)
.skip))
(.seq (jq [jm 53 11,ji 54 .gtr 53 .i64 0] [0,2,6,7,8,9,54]
(jC 54
(jq [jL 55 3 8,jw 3 6 55] [6]
.ret)
.skip))
(.seq (jq [jm 56 0,ji 57 .eql 56 .u8 2] [2,6,7,8,9,57]
(jC 57
(jq [jL 58 3 9,jw 3 6 58] [6]
.ret)
.skip))
(jq [jL 59 3 7,jm 60 2,js 61 (.un .neg (.t 60)),jc 62 65 [59,61],js 12 (.alloc [(.bool false),.nil,(.int .i64 0)]),jw 3 12 62] [6,7,8,12]
(.seq (jq [jL 63 3 12,jc 64 71 [63],jc 65 66 [64],jL 66 3 12,jc 67 71 [66],jc 68 14 [65,67]] [6,7,8,68]
(jC 68
(jq [jL 69 3 7,jw 3 6 69] [6]
.ret)
.skip))
(jq [jL 70 3 8,jw 3 6 70] [6]
.ret))))))))))))))))⟩
def ZbW : IFn:=⟨[.cell 4 true 3],
(jq [jx 2 3 0,js 4 (.alloc [(.bool false),.nil,(.int .i64 0)])] [1,2,4]
(.seq (jq [jm 6 1,js 7 (.un .not (.t 6))] [2,4,7]
(jC 7
(jq [jL 8 3 2,jw 3 4 8] [4]
.ret)
.skip))
(jq [jL 9 3 2,jc 10 32 [9],ji 11 .sub 10 .i64 60,ji 12 .sub 11 .i64 2,jc 13 68 [12],js 5 (.alloc [(.bool false),.nil,(.int .i64 0)]),jw 3 5 13] [2,4,5]
(.seq (jq [jf 14 0 2,jl 15 1 14] [2,4,5,15]
(jC 15
(jq [jL 16 3 2,jL 17 3 5,jc 18 70 [16,17],jw 3 4 18] [4]
.ret)
.skip))
(jq [jL 19 3 2,jL 20 3 5,jc 21 67 [19,20],jw 3 4 21] [4]
.ret)))))⟩
def Zgs : IFn:=⟨[.cell 2 true 3,.tmp 3],
(jq [js 2 (.alloc [(.int .i64 0),(.int .i64 0),(.int .i64 0)]),jv 3 false] [0,2]
(.seq (jq [jm 4 0] [2,4]
(.block 0
(jq [ji 6 .eql 4 .u8 1,jm 5 6] [2,4,5]
(jC 5
(jq [js 7 (.build [(.int .i64 0),(.int .i64 0),(.int .i64 0)] [(0,1,(.c (.int .i64 24))),(1,1,(.c (.int .i64 (-149)))),(2,1,(.c (.int .i64 128)))]),jw 3 2 7,jv 3 true] [2,3]
.ret)
(jq [ji 9 .eql 4 .u8 2,jm 8 9] [2,8]
(jC 8
(jq [js 10 (.build [(.int .i64 0),(.int .i64 0),(.int .i64 0)] [(0,1,(.c (.int .i64 53))),(1,1,(.c (.int .i64 (-1074)))),(2,1,(.c (.int .i64 1024)))]),jw 3 2 10,jv 3 true] [2,3]
.ret)
.skip))))))
(jq [js 11 (.build [(.int .i64 0),(.int .i64 0),(.int .i64 0)] []),jw 3 2 11,jv 3 false] [2,3]
.ret)))⟩
def ZaB : IFn:=⟨[.tmp 8,.tmp 9],
(jq [jx 4 3 0,jk 8 .u64 0,jv 9 false] [1,2,3,4]
(jq [jm 14 3,jf 15 1 4,jl 16 1 15,jb 17 .sub 14 16,ji 18 .add 17 .i64 64,jm 10 18] [1,2,4,10]
(.seq (jq [jm 19 10,ji 20 .gtr 19 .i64 64] [1,2,4,10,20]
(jC 20
(jq [jm 21 1,jm 22 2,js 23 (.call false (.f 93) [(.t 21),(.t 22),(.c (.bool false)),(.c (.bool false)),(.c (.bool true))]),jc 24 92 [23],jm 8 24,jv 9 false] [8,9]
.ret)
.skip))
(jq [jf 25 2 4,jl 26 1 25,jk 11 .u64 0,jv 12 false,jm 13 26] [1,2,4,10,11,12,13]
(.seq (jq [jm 27 10,ji 28 .lss 27 .i64 64] [1,2,4,10,11,12,13,28]
(jC 28
(jr [jf 29 0 4,jl 30 1 29,jm 31 10,jb 32 .shr 30 31,jm 11 32] [1,2,4,10,11,12,13])
.skip))
(.seq (jq [jm 33 10,ji 34 .gtr 33 .i64 0] [1,2,4,10,11,12,13,34]
(jC 34
(jq [jf 35 0 4,jl 36 1 35,jm 37 10,ji 38 .sub 37 .i64 1,jb 39 .shr 36 38,ji 40 .and 39 .u64 1,ji 41 .eql 40 .u64 1,jm 12 41] [1,2,4,10,11,12,13]
(jr [jm 42 13,jm 43 42,jg (jf 44 0 4) 43 false,jg (jl 45 1 44) 43 false,jg (jm 46 10) 43 false,jg (ji 47 .sub 46 .i64 1) 43 false,jg (js 48 (.bin .shl (.c (.int .u64 1)) (.t 47))) 43 false,jg (ji 49 .sub 48 .u64 1) 43 false,jg (jb 50 .and 45 49) 43 false,jg (ji 51 .neq 50 .u64 0) 43 false,jP 52 43 51,jm 13 52] [1,2,11,12,13]))
.skip))
(jq [jm 53 11,jm 54 1,jm 55 2,jm 56 11,ji 57 .and 56 .u64 1,ji 58 .eql 57 .u64 1,jm 59 12,jm 60 13,jc 61 93 [54,55,58,59,60],jc 62 92 [61],jb 63 .add 53 62,jm 64 12,js 65 (.un .not (.t 64)),jm 66 65,jg (jm 67 13) 66 true,jg (js 68 (.un .not (.t 67))) 66 true,jp 69 66 68,jm 8 63,jm 9 69] [8,9]
.ret)))))))⟩
def ZiV : IFn:=⟨[.cell 2 true 3],
(jq [jx 1 3 0,js 2 (.alloc [(.bool false),.nil,(.int .i64 0)])] [1,2]
(jq [jL 3 3 1,js 4 (.call false (.f 65) [(.t 3),(.c (.int .i64 (-1)))]),jw 3 2 4] [2]
.ret))⟩
def ZiZ : IFn:=⟨[.tmp 2],
(jq [jk 2 .u64 0] [0]
(.seq (jq [jm 3 0] [3]
(jC 3
(jq [jk 2 .u64 1] [2]
.ret)
.skip))
(jq [jk 2 .u64 0] [2]
.ret)))⟩
def ZeJ : IFn:=⟨[.tmp 10],
(jq [jv 10 false] [0,1,2,3,4]
(.seq (jq [jm 11 0] [1,2,3,4,11]
(.block 0
(.seq (.block 4
(.seq (.block 3
(.seq (.block 2
(.seq (.block 1
(.seq (.seq (jq [ji 13 .eql 11 .u8 1,jm 12 13] [1,2,3,4,11,12]
(jC 12
(.exit 1)
.skip))
(.seq (jq [ji 15 .eql 11 .u8 2,jm 14 15] [1,3,4,11,14]
(jC 14
(.exit 2)
.skip))
(.seq (jq [ji 17 .eql 11 .u8 4,jm 16 17] [1,3,4,11,16]
(jC 16
(.exit 3)
.skip))
(jq [ji 19 .eql 11 .u8 5,jm 18 19] [1,3,4,18]
(jC 18
(.exit 4)
.skip)))))
(.exit 0)))
(jq [jm 20 4,js 21 (.un .not (.t 20)),jm 22 21,jg (jm 23 2) 22 true,jg (js 24 (.un .not (.t 23))) 22 true,jp 25 22 24] [3,25]
(jC 25
(jq [jv 10 false] [10]
.ret)
.skip))))
(.seq (jq [jm 26 3,jm 10 26] [10]
.ret)
(.exit 0))))
(.seq (jq [jm 27 1,js 28 (.un .not (.t 27)),jm 29 28,jg (jm 30 3) 29 true,jg (jm 31 30) 29 true,jg (jm 32 4) 31 false,jg (jP 33 31 32) 29 true,jp 34 29 33,jm 10 34] [10]
.ret)
(.exit 0))))
(.seq (jq [jm 35 1,jm 36 35,jg (jm 37 3) 36 true,jg (jm 38 37) 36 true,jg (jm 39 4) 38 false,jg (jP 40 38 39) 36 true,jp 41 36 40,jm 10 41] [10]
.ret)
(.exit 0)))))
(jq [jv 10 false] [10]
.ret)))⟩
structure HasE (gdb : Nat) (T : Tbl) : Prop where
 Ziw : T 7 = some Zft
 ZeO : T 8 = some ZgM
 ZoU : T 10 = some ZgK
 Zdw : T 12 = some Zbt
 Zrh : T 15 = some ZkR
 ZqX : T 17 = some ZkK
 ZmN : T 18 = some ZgN
 ZmG : T 19 = some ZgL
 round_open : T 21 = some ZeI
 ZgZ : T 23 = some Zgt
 round_part_word : T 24 = some ZaJ
 Zle : T 34 = some ZhD
 Zjj : T 42 = some ZbW
 ZgY : T 47 = some Zgs
 round_part_units : T 52 = some ZaB
 ZoV : T 71 = some ZiV
 Zki : T 92 = some ZiZ
 Zos : T 93 = some ZeJ
end Go.Cv
namespace Go.Cv
def ZgI : IFn:=⟨[.tmp 4],
(jq [jk 4 .i64 0] [0,1]
(.seq (jq [jm 5 0,jc 6 27 [5],js 7 (.un .not (.t 6))] [0,1,7]
(jC 7
(jq [jk 4 .i64 4] [4]
.ret)
.skip))
(.seq (jq [jm 8 0,ji 9 .eql 8 .u8 1,jm 10 9,jg (jm 11 1) 10 true,jg (ji 12 .geq 11 .u64 4294967296) 10 true,jp 13 10 12] [13]
(jC 13
(jq [jk 4 .i64 6] [4]
.ret)
.skip))
(jq [jk 4 .i64 0] [4]
.ret))))⟩
def Zeb : IFn:=⟨[.tmp 4],
(jq [jv 4 false] [0,1]
(jq [jm 6 0,jm 7 1,jc 8 155 [6,7],jm 5 8] [5]
(jq [jm 9 5,ji 10 .neq 9 .u8 4,jm 11 10,jg (jm 12 5) 11 true,jg (ji 13 .neq 12 .u8 5) 11 true,jp 14 11 13,jm 4 14] [4]
.ret)))⟩
def Zfj : IFn:=⟨[.cell 4 true 3],
(jq [js 4 (.alloc [(.bool false),.nil,(.int .i64 0)])] [0,1,4]
(jq [jm 6 0,jm 7 1,jc 8 156 [6,7],js 5 (.alloc [(.bool false),(.int .i64 0),(.int .u64 0)]),jw 3 5 8] [0,4,5]
(.seq (jq [jf 9 1 5,jl 10 1 9,ji 11 .eql 10 .i64 0] [0,4,5,11]
(jC 11
(jq [jf 12 0 5,jl 13 1 12,jf 14 2 5,jl 15 1 14,jc 16 46 [15],jm 17 0,jc 18 33 [17],jc 19 45 [13,16,18],jw 3 4 19] [4]
.ret)
.skip))
(jq [jf 20 0 5,jl 21 1 20,jm 22 0,jc 23 31 [22],js 24 (.bin .shl (.c (.int .u64 1)) (.t 23)),jf 25 2 5,jl 26 1 25,jb 27 .add 24 26,jc 28 46 [27],jf 29 1 5,jl 30 1 29,ji 31 .sub 30 .i64 1,jm 32 0,jc 33 33 [32],jb 34 .add 31 33,jc 35 45 [21,28,34],jw 3 4 35] [4]
.ret))))⟩
def ZkF : IFn:=⟨[.cell 4 true 3],
(jq [jx 2 3 0,jx 3 3 1,js 4 (.alloc [(.bool false),.nil,(.int .i64 0)])] [2,3,4]
(jq [jf 5 0 2,jl 6 1 5,jf 7 0 3,jl 8 1 7,js 9 (.eqb true (.t 6) (.t 8)),jf 10 1 2,jl 11 1 10,jf 12 1 3,jl 13 1 12,jc 14 158 [11,13],jf 15 2 2,jl 16 1 15,jf 17 2 3,jl 18 1 17,jb 19 .add 16 18,jc 20 45 [9,14,19],jw 3 4 20] [4]
.ret))⟩
def ZhB : IFn:=⟨[.tmp 4],
(jq [jk 4 .u8 0] [0,1]
(jq [jm 6 0,jm 7 1,jc 8 156 [6,7],js 5 (.alloc [(.bool false),(.int .i64 0),(.int .u64 0)]),jw 3 5 8] [0,5]
(.seq (jq [jf 9 1 5,jl 10 1 9,ji 11 .eql 10 .i64 0,jm 12 11,jg (jf 13 2 5) 12 true,jg (jl 14 1 13) 12 true,jg (ji 15 .eql 14 .u64 0) 12 true,jp 16 12 15] [0,5,16]
(jC 16
(jq [jk 4 .u8 1] [4]
.ret)
.skip))
(.seq (jq [jf 17 1 5,jl 18 1 17,ji 19 .eql 18 .i64 0] [0,5,19]
(jC 19
(jq [jk 4 .u8 2] [4]
.ret)
.skip))
(.seq (jq [jf 20 1 5,jl 21 1 20,jm 22 0,jc 23 63 [22],jb 24 .lss 21 23] [5,24]
(jC 24
(jq [jk 4 .u8 3] [4]
.ret)
.skip))
(.seq (jq [jf 25 2 5,jl 26 1 25,ji 27 .eql 26 .u64 0] [27]
(jC 27
(jq [jk 4 .u8 4] [4]
.ret)
.skip))
(jq [jk 4 .u8 5] [4]
.ret)))))))⟩
def ZhC : IFn:=⟨[.cell 4 true 3],
(jq [js 4 (.alloc [(.bool false),(.int .i64 0),(.int .u64 0)])] [0,1,4]
(jq [jm 6 1,jm 7 0,jc 8 73 [7],jb 9 .geq 6 8,js 10 (.build [(.bool false),(.int .i64 0),(.int .u64 0)] [(0,1,(.t 9))]),js 5 (.alloc [(.bool false),(.int .i64 0),(.int .u64 0)]),jw 3 5 10] [0,1,4,5]
(jq [jm 11 1,jm 12 0,jc 13 73 [12],jb 14 .rem 11 13,jm 1 14] [0,1,4,5]
(jq [jm 15 1,jm 16 0,jc 17 31 [16],js 18 (.bin .shl (.c (.int .u64 1)) (.t 17)),jb 19 .rem 15 18,jf 20 2 5,jw 1 20 19] [0,1,4,5]
(jq [jm 21 1,jm 22 0,jc 23 31 [22],jb 24 .shr 21 23,js 25 (.cvt .i64 (.t 24)),jf 26 1 5,jw 1 26 25] [4,5]
(jq [jL 27 3 5,jw 3 4 27] [4]
.ret))))))⟩
def ZgJ : IFn:=⟨[.tmp 2],
(jq [jk 2 .u64 0] [0]
(jq [jm 3 0,jm 4 0,jc 5 63 [4],jm 6 0,jc 7 31 [6],ji 8 .sub 7 .i64 1,js 9 (.bin .shl (.c (.int .u64 1)) (.t 8)),js 10 (.build [(.bool false),(.int .i64 0),(.int .u64 0)] [(1,1,(.t 5)),(2,1,(.t 9))]),jc 11 62 [3,10],jm 2 11] [2]
.ret))⟩
def ZdZ : IC :=
(.seq (jq [jm 39 10,jm 40 8,jb 41 .leq 39 40,jm 42 41,jg (jm 43 10) 42 true,jg (jm 44 0) 42 true,jg (jn 45 44) 42 true,jg (jb 46 .lss 43 45) 42 true,jp 47 42 46] [0,1,5,6,7,8,10,47]
(jC 47
.skip
(.exit 2)))
(.seq (.block 3
(jq [jm 50 0,jm 51 10,ja 52 1 50 51,jl 53 1 52,js 54 (.cvt .u64 (.t 53)),jm 55 1,jm 56 8,jm 57 10,jb 58 .sub 56 57,ja 59 1 55 58,jl 60 1 59,js 61 (.cvt .u64 (.t 60)),jb 62 .mul 54 61,jm 11 62] [0,1,5,6,7,8,10,11]
(jq [jm 63 6,jm 64 11,jb 65 .add 63 64,jm 6 65] [0,1,5,6,7,8,10,11]
(jq [jm 66 6,jm 67 11,jb 68 .lss 66 67] [0,1,5,6,7,8,10,68]
(jC 68
(jr [jm 69 7,ji 70 .add 69 .u64 1,jm 7 70] [0,1,5,6,7,8,10])
.skip)))))
(jr [jm 48 10,ji 49 .add 48 .i64 1,jm 10 49] [0,1,5,6,7,8,10])))
def Zgm : IC:=.loop [0,1,5,6,7,8,10] ZdZ
def Zgl : IC :=
(.seq (jq [jm 20 8,jm 21 0,jn 22 21,jm 23 1,jn 24 23,jb 25 .add 22 24,jb 26 .lss 20 25] [0,1,5,6,7,8,26]
(jC 26
.skip
(.exit 0)))
(.seq (.block 1
(jq [jk 9 .i64 0] [0,1,5,6,7,8,9]
(.seq (jq [jm 29 8,jm 30 1,jn 31 30,jb 32 .geq 29 31] [0,1,5,6,7,8,9,32]
(jC 32
(jr [jm 33 8,jm 34 1,jn 35 34,jb 36 .sub 33 35,ji 37 .add 36 .i64 1,jm 9 37] [0,1,5,6,7,8,9])
.skip))
(.seq (jq [jm 38 9,jm 10 38] [0,1,5,6,7,8,10]
(.block 2
 Zgm))
(jq [jm 71 5,jm 72 6,js 73 (.cvt .u32 (.t 72)),js 74 (.bslice 1 1 [(.int .u32 0)] [(0,1,(.t 73))]),js 75 (.app 1 4 (.t 71) (.t 74)),jm 5 75] [0,1,5,6,7,8]
(jq [jm 76 6,ji 77 .shr 76 .u64 32,jm 78 7,ji 79 .shl 78 .u64 32,jb 80 .or 77 79,jm 6 80] [0,1,5,6,7,8]
(jr [jm 81 7,ji 82 .shr 81 .u64 32,jm 7 82] [0,1,5,6,7,8])))))))
(jr [jm 27 8,ji 28 .add 27 .i64 1,jm 8 28] [0,1,5,6,7,8])))
def Zgn : IC:=.loop [0,1,5,6,7,8] Zgl
def ZfU : IFn:=⟨[.tmp 4],
(jq [js 4 (.mov (.c .nil))] [0,1]
(.seq (jq [jm 12 0,jn 13 12,ji 14 .eql 13 .i64 0,jm 15 14,jg (jm 16 1) 15 false,jg (jn 17 16) 15 false,jg (ji 18 .eql 17 .i64 0) 15 false,jP 19 15 18] [0,1,19]
(jC 19
(jq [js 4 (.mov (.c .nil))] [4]
.ret)
.skip))
(jq [js 5 (.mov (.c .nil))] [0,1,5]
(jq [jk 6 .u64 0] [0,1,5,6]
(jq [jk 7 .u64 0] [0,1,5,6,7]
(.seq (jq [jk 8 .i64 0] [0,1,5,6,7,8]
(.block 0
 Zgn))
(jq [jm 83 5,jc 84 85 [83],jm 4 84] [4]
.ret)))))))⟩
structure HasF (gdb : Nat) (T : Tbl) : Prop where
 ZhO : T 149 = some ZgI
 ZeM : T 150 = some Zeb
 ZaX : T 151 = some Zfj
 Zkc : T 154 = some ZkF
 ZaA : T 155 = some ZhB
 ZbZ : T 156 = some ZhC
 ZdP : T 157 = some ZgJ
 ZqU : T 158 = some ZfU
end Go.Cv
