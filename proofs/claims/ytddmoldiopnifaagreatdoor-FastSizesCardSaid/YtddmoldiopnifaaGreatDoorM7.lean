/-
 A part of the proof of the statements of this seat (texts that the law's own text leans on): no condition.
-/
import Derived.Test.YtddmoldiopnifaaGreatDoorM6
import Derived.Test.YtddmoldiopnifaaGreatDoorM1
set_option linter.unusedVariables false
set_option linter.unusedSimpArgs false
namespace Go.Cv
def ZfA : IFn:=⟨[.tmp 6,.tmp 7,.tmp 8],
(jq [jx 5 2 2,jk 6 .u64 0,jk 7 .u8 0,jk 8 .i64 0] [0,1,5]
(jq [jm 9 0,jm 10 1,jL 11 2 5,js 12 (.call false (.f 186) [(.t 9),(.t 10),(.t 11),(.f 18)]),je 13 12 0,je 14 12 1,je 15 12 2,jm 6 13,jm 7 14,jm 8 15] [6,7,8]
.ret))⟩
def ZjX : IFn:=⟨[.cell 4 true 3,.tmp 5],
(jq [jx 2 3 0,jx 3 3 1,js 4 (.alloc [(.bool false),.nil,(.int .i64 0)]),jk 5 .i64 0] [2,3,4]
(.seq (jq [jL 8 3 2,jL 9 3 3,js 10 (.bslice 2 3 [(.bool false),.nil,(.int .i64 0)] [(0,3,(.t 8)),(3,3,(.t 9))]),jc 11 74 [10],js 12 (.un .not (.t 11))] [2,3,4,12]
(jC 12
(jq [js 13 (.build [(.bool false),.nil,(.int .i64 0)] []),jw 3 4 13,jk 5 .i64 2] [4,5]
.ret)
.skip))
(jq [jf 15 1 2,jl 16 1 15,jf 17 1 3,jl 18 1 17,jc 19 197 [16,18],jm 14 19,je 20 14 0,je 21 14 1,jm 6 20,jm 7 21] [2,3,4,6,7]
(.seq (jq [jm 22 7,ji 23 .neq 22 .i64 0] [2,3,4,6,7,23]
(jC 23
(jq [js 24 (.build [(.bool false),.nil,(.int .i64 0)] []),jm 25 7,jw 3 4 24,jm 5 25] [4,5]
.ret)
.skip))
(jq [jf 26 0 2,jl 27 1 26,jf 28 0 3,jl 29 1 28,js 30 (.eqb true (.t 27) (.t 29)),jm 31 6,jf 32 2 2,jl 33 1 32,jf 34 2 3,jl 35 1 34,jb 36 .add 33 35,jc 37 54 [30,31,36],je 38 37 0,je 39 37 1,jw 3 4 38,jm 5 39] [4,5]
.ret)))))⟩
def ZjY : IFn:=⟨[.cell 2 true 3,.tmp 3],
(jq [jx 1 3 0,js 2 (.alloc [(.bool false),.nil,(.int .i64 0)]),jk 3 .i64 0] [1,2]
(.seq (jq [jL 4 3 1,jc 5 48 [4],js 6 (.un .not (.t 5))] [1,2,6]
(jC 6
(jq [js 7 (.build [(.bool false),.nil,(.int .i64 0)] []),jw 3 2 7,jk 3 .i64 2] [2,3]
.ret)
.skip))
(jq [jL 8 3 1,jf 9 0 1,jl 10 1 9,js 11 (.un .not (.t 10)),jc 12 198 [8,11],jw 3 2 12,jk 3 .i64 0] [2,3]
.ret)))⟩
def ZaK : IC :=
(.seq (jq [jm 9 5,jm 10 1,jn 11 10,jb 12 .lss 9 11] [0,1,5,12]
(jC 12
.skip
(.exit 0)))
(.seq (.block 1
(jq [jm 15 0,jm 16 1,jm 17 5,ja 18 2 16 17,jf 19 0 18,jl 20 1 19,jc 21 149 [15,20],ji 22 .neq 21 .i64 0,jm 23 22,jg (jm 24 0) 23 false,jg (jm 25 1) 23 false,jg (jm 26 5) 23 false,jg (ja 27 2 25 26) 23 false,jg (jf 28 1 27) 23 false,jg (jl 29 1 28) 23 false,jg (jc 30 149 [24,29]) 23 false,jg (ji 31 .neq 30 .i64 0) 23 false,jP 32 23 31] [0,1,5,32]
(jC 32
(jq [jk 4 .i64 6] [4]
.ret)
.skip)))
(jr [jm 13 5,ji 14 .add 13 .i64 1,jm 5 14] [0,1,5])))
def Zgo : IC:=.loop [0,1,5] ZaK
def Zbf : IFn:=⟨[.tmp 4],
(jq [jk 4 .i64 0] [0,1]
(.seq (jq [jm 6 0,jc 7 27 [6],js 8 (.un .not (.t 7))] [0,1,8]
(jC 8
(jq [jk 4 .i64 4] [4]
.ret)
.skip))
(.seq (jq [jk 5 .i64 0] [0,1,5]
(.block 0
 Zgo))
(jq [jk 4 .i64 0] [4]
.ret))))⟩
def Zcc : IFn:=⟨[.tmp 8,.tmp 9,.tmp 10],
(jq [jx 6 2 2,jk 8 .u64 0,jk 9 .u8 0,jk 10 .i64 0] [0,1,3,6]
(.seq (jq [jm 20 0,jm 21 1,js 22 (.call false (.f 8) [(.t 20),(.t 21),(.c (.bool false))]),jm 19 22,je 23 19 0,je 24 19 1,jm 11 23,jm 12 24] [0,1,3,6,12]
(jq [jm 25 12,ji 26 .neq 25 .i64 0] [0,1,3,6,12,26]
(jC 26
(jq [jm 27 12,jk 8 .u64 0,jk 9 .u8 0,jm 10 27] [8,9,10]
.ret)
.skip)))
(jq [jm 29 0,jL 30 2 6,jc 31 189 [29,30],jm 28 31,je 32 28 0,je 33 28 1,jm 13 32,jm 14 33] [0,1,3,6,13,14]
(.seq (.block 0
(jq [jm 35 14,ji 36 .neq 35 .i64 0,jm 34 36] [0,1,3,6,13,14,34]
(jC 34
(jq [jm 37 14,jk 8 .u64 0,jk 9 .u8 0,jm 10 37] [8,9,10]
.ret)
(jq [jm 39 13,ji 40 .eql 39 .u8 3,jm 38 40] [0,1,3,6,13,38]
(jC 38
(jq [jm 42 0,js 43 (.call false (.f 26) [(.t 42),(.c (.bool false))]),jm 41 43,je 44 41 0,je 45 41 1,jm 15 44,jm 16 45] [15]
(jq [jm 46 15,jm 8 46,jk 9 .u8 0,jk 10 .i64 0] [8,9,10]
.ret))
(jq [jm 48 13,ji 49 .eql 48 .u8 4,jm 47 49] [0,1,3,6,47]
(jC 47
(jq [jm 51 0,jc 52 196 [51],jm 50 52,je 53 50 0,je 54 50 1,jm 17 53,jm 18 54] [17]
(jq [jm 55 17,jm 8 55,jk 9 .u8 0,jk 10 .i64 0] [8,9,10]
.ret))
.skip)))))))
(jq [jm 56 3,jm 57 0,jm 58 1,jm 59 0,jL 60 2 6,jc 61 191 [59,60],js 62 (.call false (.t 56) [(.t 57),(.t 58),(.t 61)]),je 63 62 0,je 64 62 1,je 65 62 2,jm 8 63,jm 9 64,jm 10 65] [8,9,10]
.ret)))))⟩
def Zbu : IFn:=⟨[.tmp 4,.tmp 5],
(jq [jx 3 2 1,jk 4 .u8 0,jk 5 .i64 0] [0,3]
(jq [jm 10 0,jf 11 0 3,jl 12 1 11,jc 13 193 [10,12],jm 9 13,je 14 9 0,je 15 9 1,jm 6 14,jm 7 15] [0,3,6,7]
(.seq (jq [jm 16 7,ji 17 .neq 16 .i64 0] [0,3,6,7,17]
(jC 17
(jq [jm 18 7,jk 4 .u8 0,jm 5 18] [4,5]
.ret)
.skip))
(jq [jm 20 0,jf 21 1 3,jl 22 1 21,jc 23 193 [20,22],jm 19 23,je 24 19 0,je 25 19 1,jm 8 24,jm 7 25] [6,7,8]
(.seq (.block 0
(jq [jm 27 7,ji 28 .neq 27 .i64 0,jm 26 28] [6,7,8,26]
(jC 26
(jq [jm 29 7,jk 4 .u8 0,jm 5 29] [4,5]
.ret)
(jq [jm 31 6,ji 32 .eql 31 .u8 4,jm 33 32,jg (jm 34 8) 33 false,jg (ji 35 .eql 34 .u8 4) 33 false,jP 36 33 35,jm 30 36] [6,8,30]
(jC 30
(jq [jk 4 .u8 3,jk 5 .i64 0] [4,5]
.ret)
(jq [jm 38 6,ji 39 .eql 38 .u8 5,jm 40 39,jg (jm 41 8) 40 false,jg (ji 42 .eql 41 .u8 5) 40 false,jP 43 40 42,jm 37 43] [6,8,37]
(jC 37
(jq [jk 4 .u8 4,jk 5 .i64 0] [4,5]
.ret)
(jq [jm 45 6,ji 46 .eql 45 .u8 1,jm 47 46,jg (jm 48 8) 47 true,jg (ji 49 .eql 48 .u8 1) 47 true,jp 50 47 49,jm 44 50] [44]
(jC 44
(jq [jk 4 .u8 1,jk 5 .i64 0] [4,5]
.ret)
.skip)))))))))
(jq [jk 4 .u8 2,jk 5 .i64 0] [4,5]
.ret))))))⟩
def Zdi : IFn:=⟨[.cell 4 true 3],
(jq [jx 3 2 1,js 4 (.alloc [(.bool false),.nil,(.int .i64 0)])] [0,3,4]
(jq [jm 16 0,jf 17 0 3,jl 18 1 17,jc 19 194 [16,18],jm 15 19,je 20 15 0,je 21 15 1,js 5 (.alloc [(.bool false),.nil,(.int .i64 0)]),jw 3 5 20,jm 6 21] [0,3,4,5]
(jq [jm 23 0,jf 24 1 3,jl 25 1 24,jc 26 194 [23,25],jm 22 26,je 27 22 0,je 28 22 1,js 7 (.alloc [(.bool false),.nil,(.int .i64 0)]),jw 3 7 27,jm 8 28] [4,5,7]
(jq [jL 30 3 5,jL 31 3 5,jc 32 182 [30,31],jm 29 32,je 33 29 0,je 34 29 1,js 9 (.alloc [(.bool false),.nil,(.int .i64 0)]),jw 3 9 33,jm 10 34] [4,7,9]
(jq [jL 36 3 7,jL 37 3 7,jc 38 182 [36,37],jm 35 38,je 39 35 0,je 40 35 1,js 11 (.alloc [(.bool false),.nil,(.int .i64 0)]),jw 3 11 39,jm 12 40] [4,9,11]
(jq [jL 42 3 9,jL 43 3 11,jc 44 195 [42,43],jm 41 44,je 45 41 0,je 46 41 1,js 13 (.alloc [(.bool false),.nil,(.int .i64 0)]),jw 3 13 45,jm 14 46] [4,13]
(jq [jL 47 3 13,jw 3 4 47] [4]
.ret)))))))⟩
def ZgX : IFn:=⟨[.cell 4 true 3,.tmp 5],
(jq [js 4 (.alloc [(.bool false),(.int .i64 0),(.int .u64 0)]),jk 5 .i64 0] [0,1,4]
(jq [jm 9 0,jm 10 1,js 11 (.bslice 1 1 [(.int .u64 0)] [(0,1,(.t 10))]),jc 12 95 [9,11],jm 8 12,je 13 8 0,je 14 8 1,js 6 (.alloc [(.int .i64 0),(.int .i64 0),(.int .u64 0)]),jw 3 6 13,jm 7 14] [1,4,6,7]
(.seq (jq [jm 15 7,ji 16 .neq 15 .i64 0] [1,4,6,7,16]
(jC 16
(jq [js 17 (.build [(.bool false),(.int .i64 0),(.int .u64 0)] []),jm 18 7,jw 3 4 17,jm 5 18] [4,5]
.ret)
.skip))
(jq [jL 19 3 6,jm 20 1,jc 21 200 [19,20],jw 3 4 21,jk 5 .i64 0] [4,5]
.ret))))⟩
def ZgV : IFn:=⟨[.tmp 4,.tmp 5],
(jq [jk 4 .u8 0,jk 5 .i64 0] [0,1]
(jq [jm 9 0,jm 10 1,js 11 (.bslice 1 1 [(.int .u64 0)] [(0,1,(.t 10))]),jc 12 95 [9,11],jm 8 12,je 13 8 0,je 14 8 1,js 6 (.alloc [(.int .i64 0),(.int .i64 0),(.int .u64 0)]),jw 3 6 13,jm 7 14] [1,6,7]
(.seq (jq [jm 15 7,ji 16 .neq 15 .i64 0] [1,6,7,16]
(jC 16
(jq [jm 17 7,jk 4 .u8 0,jm 5 17] [4,5]
.ret)
.skip))
(jq [jL 18 3 6,jm 19 1,jc 20 201 [18,19],jm 4 20,jk 5 .i64 0] [4,5]
.ret))))⟩
def ZdC : IFn:=⟨[.cell 4 true 3,.tmp 5],
(jq [js 4 (.alloc [(.bool false),.nil,(.int .i64 0)]),jk 5 .i64 0] [0,1,4]
(jq [jm 10 0,jm 11 1,jc 12 202 [10,11],jm 9 12,je 13 9 0,je 14 9 1,js 6 (.alloc [(.int .i64 0),(.int .i64 0),(.int .u64 0)]),jw 3 6 13,jm 7 14] [1,4,6,7]
(.seq (jq [jm 15 7,ji 16 .neq 15 .i64 0] [1,4,6,7,16]
(jC 16
(jq [js 17 (.build [(.bool false),.nil,(.int .i64 0)] []),jm 18 7,jw 3 4 17,jm 5 18] [4,5]
.ret)
.skip))
(jq [jL 19 3 6,jm 20 1,jc 21 200 [19,20],js 8 (.alloc [(.bool false),(.int .i64 0),(.int .u64 0)]),jw 3 8 21] [4,6,8]
(.seq (jq [jf 22 1 8,jl 23 1 22,ji 24 .gtr 23 .i64 0] [4,6,8,24]
(jC 24
(jr [jf 25 2 8,jl 26 1 25,jf 27 0 6,jl 28 1 27,js 29 (.bin .shl (.c (.int .u64 1)) (.t 28)),jb 30 .or 26 29,jf 31 2 8,jw 1 31 30] [4,6,8])
.skip))
(jq [jf 32 0 8,jl 33 1 32,jf 34 2 8,jl 35 1 34,jc 36 55 [35],jf 37 1 8,jl 38 1 37,js 39 (.mm true (.t 38) [(.c (.int .i64 1))]),ji 40 .sub 39 .i64 1,jL 41 3 6,jc 42 96 [41],jb 43 .add 40 42,jc 44 54 [33,36,43],je 45 44 0,je 46 44 1,jw 3 4 45,jm 5 46] [4,5]
.ret))))))⟩
def ZjW : IFn:=⟨[.cell 4 true 3,.tmp 5],
(jq [jx 2 3 0,jx 3 3 1,js 4 (.alloc [(.bool false),.nil,(.int .i64 0)]),jk 5 .i64 0] [2,3,4]
(.seq (jq [jL 6 3 2,jL 7 3 3,js 8 (.bslice 2 3 [(.bool false),.nil,(.int .i64 0)] [(0,3,(.t 6)),(3,3,(.t 7))]),jc 9 74 [8],js 10 (.un .not (.t 9))] [2,3,4,10]
(jC 10
(jq [js 11 (.build [(.bool false),.nil,(.int .i64 0)] []),jw 3 4 11,jk 5 .i64 2] [4,5]
.ret)
.skip))
(jq [jL 12 3 2,jL 13 3 3,jc 14 203 [12,13],je 15 14 0,je 16 14 1,jw 3 4 15,jm 5 16] [4,5]
.ret)))⟩
def Ziy : IFn:=⟨[.tmp 2,.tmp 3],
(jq [jk 2 .u64 0,jk 3 .i64 0] [0]
(jq [jm 4 0,js 5 (.call false (.f 58) [(.t 4),(.c (.bool false)),(.f 204)]),je 6 5 0,je 7 5 1,jm 2 6,jm 3 7] [2,3]
.ret))⟩
def ZhA : IFn:=⟨[.tmp 4,.tmp 5],
(jq [js 4 (.mov (.c .nil)),jk 5 .i64 0] [0,1]
(.seq (jq [jm 6 0,jm 7 1,js 8 (.bslice 2 1 [.nil] [(0,1,(.t 6)),(1,1,(.t 7))]),jc 9 106 [8],js 10 (.un .not (.t 9))] [0,1,10]
(jC 10
(jq [js 4 (.mov (.c .nil)),jk 5 .i64 2] [4,5]
.ret)
.skip))
(.seq (jq [jm 11 0,jn 12 11,ji 13 .gtr 12 .i64 0,jm 14 13,jg (jm 15 1) 14 true,jg (jn 16 15) 14 true,jg (ji 17 .gtr 16 .i64 0) 14 true,jp 18 14 17,jm 19 18,jg (jm 20 0) 19 true,jg (jn 21 20) 19 true,jg (jm 22 1) 19 true,jg (jn 23 22) 19 true,jg (jb 24 .add 21 23) 19 true,jg (ji 25 .sub 24 .i64 1) 19 true,jg (ji 26 .gtr 25 .i64 4096) 19 true,jp 27 19 26] [0,1,27]
(jC 27
(jq [js 4 (.mov (.c .nil)),jk 5 .i64 3] [4,5]
.ret)
.skip))
(jq [jm 28 0,jm 29 1,jc 30 113 [28,29],jc 31 117 [30],je 32 31 0,je 33 31 1,jm 4 32,jm 5 33] [4,5]
.ret))))⟩
def Zfx : IFn:=⟨[.cell 4 true 3],
(jq [jx 2 3 0,js 4 (.alloc [(.bool false),.nil,(.int .i64 0)])] [1,2,4]
(jq [jL 5 3 2,jc 6 205 [5],jw 3 2 6] [1,2,4]
(jq [jm 7 1,jm 8 7,jg (jf 9 1 2) 8 true,jg (jl 10 1 9) 8 true,jg (jn 11 10) 8 true,jg (ji 12 .gtr 11 .i64 0) 8 true,jp 13 8 12,jf 14 0 2,jw 1 14 13] [2,4]
(jq [jL 15 3 2,jw 3 4 15] [4]
.ret))))⟩
def ZaT : IFn:=⟨[.cell 4 true 3],
(jq [jx 2 3 0,js 4 (.alloc [(.bool false),(.int .i64 0),(.int .u64 0)])] [1,2,4]
(jq [jm 6 1,jf 7 2 2,jl 8 1 7,jb 9 .andNot 6 8,jm 5 9] [1,2,4,5]
(jq [jm 10 1,jf 11 2 2,jl 12 1 11,jb 13 .and 10 12,ji 14 .neq 13 .u64 0,jm 15 5,jf 16 0 2,jl 17 1 16,jb 18 .shr 15 17,js 19 (.cvt .i64 (.t 18)),jm 20 5,jf 21 0 2,jl 22 1 21,js 23 (.bin .shl (.c (.int .u64 1)) (.t 22)),ji 24 .sub 23 .u64 1,jb 25 .and 20 24,js 26 (.build [(.bool false),(.int .i64 0),(.int .u64 0)] [(0,1,(.t 14)),(1,1,(.t 19)),(2,1,(.t 25))]),jw 3 4 26] [4]
.ret)))⟩
def ZbE : IFn:=⟨[.tmp 4],
(jq [jx 2 3 0,jk 4 .u8 0] [1,2]
(jq [jm 6 1,jf 7 2 2,jl 8 1 7,jb 9 .andNot 6 8,jm 5 9] [2,5]
(.seq (.block 0
(jq [jm 11 5,ji 12 .eql 11 .u64 0,jm 10 12] [2,5,10]
(jC 10
(jq [jk 4 .u8 1] [4]
.ret)
(jq [jm 14 5,jf 15 0 2,jl 16 1 15,js 17 (.bin .shl (.c (.int .u64 1)) (.t 16)),jb 18 .lss 14 17,jm 13 18] [2,5,13]
(jC 13
(jq [jk 4 .u8 2] [4]
.ret)
(jq [jm 20 5,jL 21 3 2,jc 22 60 [21],jb 23 .lss 20 22,jm 19 23] [2,5,19]
(jC 19
(jq [jk 4 .u8 3] [4]
.ret)
(jq [jm 25 5,jL 26 3 2,jc 27 60 [26],jb 28 .eql 25 27,jm 24 28] [24]
(jC 24
(jq [jk 4 .u8 4] [4]
.ret)
.skip)))))))))
(jq [jk 4 .u8 5] [4]
.ret))))⟩
def ZdW : IFn:=⟨[.cell 4 true 3,.tmp 5],
(jq [js 4 (.alloc [(.int .i64 0),(.int .i64 0),(.int .u64 0)]),jk 5 .i64 0] [0,1,4]
(jq [jm 9 0,jm 10 1,js 11 (.bslice 1 1 [(.int .u64 0)] [(0,1,(.t 10))]),jc 12 95 [9,11],jm 8 12,je 13 8 0,je 14 8 1,js 6 (.alloc [(.int .i64 0),(.int .i64 0),(.int .u64 0)]),jw 3 6 13,jm 7 14] [1,4,6,7]
(.seq (jq [jm 15 7,ji 16 .eql 15 .i64 0,jm 17 16,jg (jL 18 3 6) 17 true,jg (jm 19 1) 17 true,jg (jc 20 201 [18,19]) 17 true,jg (ji 21 .geq 20 .u8 4) 17 true,jp 22 17 21] [4,6,7,22]
(jC 22
(jr [jk 7 .i64 7] [4,6,7])
.skip))
(jq [jL 23 3 6,jm 24 7,jw 3 4 23,jm 5 24] [4,5]
.ret))))⟩
def Zep : IFn:=⟨[.cell 4 true 3,.tmp 5],
(jq [jx 2 3 0,jx 3 3 1,js 4 (.alloc [(.bool false),.nil,(.int .i64 0)]),jk 5 .i64 0] [2,3,4]
(.seq (.block 0
(jq [jf 11 1 2,jl 12 1 11,jn 13 12,ji 14 .eql 13 .i64 0,jm 10 14] [2,3,4,10]
(jC 10
(jq [jL 15 3 3,jc 16 205 [15],jw 3 4 16,jk 5 .i64 0] [4,5]
.ret)
(jq [jf 18 1 3,jl 19 1 18,jn 20 19,ji 21 .eql 20 .i64 0,jm 17 21] [2,3,4,17]
(jC 17
(jq [jL 22 3 2,jc 23 205 [22],jw 3 4 23,jk 5 .i64 0] [4,5]
.ret)
.skip)))))
(.seq (jq [jf 24 2 2,jl 25 1 24,jf 26 2 3,jl 27 1 26,jb 28 .lss 25 27] [2,3,4,28]
(jC 28
(jr [jL 29 3 3,jL 30 3 2,jw 3 2 29,jw 3 3 30] [2,3,4])
.skip))
(.seq (jq [jf 31 2 2,jl 32 1 31,jf 33 2 3,jl 34 1 33,jb 35 .sub 32 34,jf 36 1 2,jl 37 1 36,jc 38 49 [37],jb 39 .add 35 38,ji 40 .gtr 39 .i64 131073] [2,3,4,40]
(jC 40
(jq [js 41 (.build [(.bool false),.nil,(.int .i64 0)] []),jw 3 4 41,jk 5 .i64 3] [4,5]
.ret)
.skip))
(jq [jf 42 2 2,jl 43 1 42,jf 44 2 3,jl 45 1 44,jb 46 .sub 43 45,jm 6 46] [2,3,4,6]
(.seq (jq [jm 47 6,jf 48 1 2,jl 49 1 48,jc 50 49 [49],jb 51 .add 47 50,ji 52 .gtr 51 .i64 131072] [2,3,4,6,52]
(jC 52
(jq [jL 53 3 2,jL 54 3 3,jm 55 6,jc 56 207 [53,54,55],je 57 56 0,je 58 56 1,jw 3 4 57,jm 5 58] [4,5]
.ret)
.skip))
(jq [jf 60 1 2,jl 61 1 60,jm 62 6,jc 63 50 [61,62],jm 59 63,je 64 59 0,je 65 59 1,je 66 59 2,jm 7 64,jm 8 65,jm 9 66] [2,3,4,7]
(jq [jf 67 0 2,jl 68 1 67,jm 69 7,jf 70 0 3,jl 71 1 70,jf 72 1 3,jl 73 1 72,jf 74 2 3,jl 75 1 74,jc 76 208 [68,69,71,73,75],je 77 76 0,je 78 76 1,jw 3 4 77,jm 5 78] [4,5]
.ret))))))))⟩
def ZcK : IFn:=⟨[.tmp 2],
(jq [jx 1 3 0,jk 2 .u64 0] [1]
(jq [jL 3 3 1,jc 4 60 [3],jf 5 0 1,jl 6 1 5,ji 7 .sub 6 .i64 1,js 8 (.bin .shl (.c (.int .u64 1)) (.t 7)),jb 9 .or 4 8,jm 2 9] [2]
.ret))⟩
def Zhy : IFn:=⟨[.cell 2 true 3],
(jq [jx 1 3 0,js 2 (.alloc [(.bool false),.nil,(.int .i64 0)])] [1,2]
(jq [jf 3 1 1,jl 4 1 3,js 5 (.app 1 4 (.c .nil) (.t 4)),jf 6 1 1,jw 1 6 5] [1,2]
(jq [jL 7 3 1,jw 3 2 7] [2]
.ret)))⟩
def ZkC : IFn:=⟨[.cell 6 true 3,.tmp 7],
(jq [jx 3 3 0,jx 4 3 1,js 6 (.alloc [(.bool false),.nil,(.int .i64 0)]),jk 7 .i64 0] [2,3,4,6]
(.seq (jq [jf 17 0 3,jl 18 1 17,jf 19 0 4,jl 20 1 19,js 21 (.eqb false (.t 18) (.t 20))] [2,3,4,6,21]
(jC 21
(jq [js 22 (.build [(.bool false),.nil,(.int .i64 0)] []),jw 3 6 22,jk 7 .i64 3] [6,7]
.ret)
.skip))
(jq [jf 24 1 3,jl 25 1 24,jm 26 2,ji 27 .sub 26 .i64 1,jc 28 50 [25,27],jm 23 28,je 29 23 0,je 30 23 1,je 31 23 2,jm 8 29,jm 9 30,jm 10 31] [3,4,6,8]
(jq [jf 33 1 4,jl 34 1 33,js 35 (.call false (.f 50) [(.t 34),(.c (.int .i64 (-1)))]),jm 32 35,je 36 32 0,je 37 32 1,je 38 32 2,jm 11 36,jm 12 37,jm 13 38] [3,4,6,8,11]
(jq [jm 40 8,jm 41 11,jc 42 103 [40,41],jm 39 42,je 43 39 0,je 44 39 1,jm 14 43,jm 15 44] [3,4,6,14,15]
(.seq (jq [jm 45 15,ji 46 .neq 45 .i64 0] [3,4,6,14,46]
(jC 46
(jq [js 47 (.build [(.bool false),.nil,(.int .i64 0)] []),jw 3 6 47,jk 7 .i64 3] [6,7]
.ret)
.skip))
(jq [jm 49 14,jm 50 14,jc 51 105 [49,50],jm 48 51,je 52 48 0,je 53 48 1,jm 16 52,jm 15 53] [3,4,6,14,15,16]
(.seq (jq [jm 54 15,ji 55 .eql 54 .i64 0] [3,4,6,14,16,55]
(jC 55
(jq [jm 57 16,js 58 (.call false (.f 55) [(.c (.int .u64 1))]),jc 59 103 [57,58],jm 56 59,je 60 56 0,je 61 56 1,jm 16 60] [3,4,6,16]
(jq [jf 62 0 3,jl 63 1 62,jm 64 16,jf 65 2 4,jl 66 1 65,jc 67 54 [63,64,66],je 68 67 0,je 69 67 1,jw 3 6 68,jm 7 69] [6,7]
.ret))
.skip))
(.seq (jq [jm 70 14,jc 71 49 [70],jm 72 14,jc 73 90 [72],ji 74 .add 73 .i64 1,jb 75 .eql 71 74] [3,4,6,14,75]
(jC 75
(jq [jm 77 14,js 78 (.call false (.f 55) [(.c (.int .u64 1))]),jc 79 103 [77,78],jm 76 79,je 80 76 0,je 81 76 1,jm 16 80] [3,4,6,14,16]
(jq [jm 83 16,jm 84 14,jc 85 105 [83,84],jm 82 85,je 86 82 0,je 87 82 1,jm 16 86] [3,4,6,16]
(jq [jf 88 0 3,jl 89 1 88,jm 90 16,jf 91 2 4,jl 92 1 91,jc 93 54 [89,90,92],je 94 93 0,je 95 93 1,jw 3 6 94,jm 7 95] [6,7]
.ret)))
.skip))
(jq [js 96 (.build [(.bool false),.nil,(.int .i64 0)] []),jw 3 6 96,jk 7 .i64 3] [6,7]
.ret))))))))))⟩
def Zeq : IFn:=⟨[.cell 10 true 3,.tmp 11],
(jq [js 10 (.alloc [(.bool false),.nil,(.int .i64 0)]),jk 11 .i64 0] [0,1,2,3,4,10]
(.seq (jq [jm 18 0,jm 19 2,js 20 (.eqb false (.t 18) (.t 19))] [0,1,2,3,4,10,20]
(jC 20
(jq [jm 22 1,jm 23 3,jc 24 105 [22,23],jm 21 24,je 25 21 0,je 26 21 1,jm 12 25,jm 13 26] [0,1,3,4,10,12,13]
(.seq (jq [jm 27 13,ji 28 .neq 27 .i64 0] [0,1,3,4,10,12,28]
(jC 28
(jq [jm 29 0,jm 30 1,jm 31 3,jm 32 4,jc 33 209 [29,30,31,32],je 34 33 0,je 35 33 1,jw 3 10 34,jm 11 35] [10,11]
.ret)
.skip))
(jq [jm 36 0,jm 37 12,jm 38 4,jc 39 54 [36,37,38],je 40 39 0,je 41 39 1,jw 3 10 40,jm 11 41] [10,11]
.ret)))
.skip))
(.seq (jq [jm 43 1,jm 44 3,jc 45 104 [43,44],jm 42 45,je 46 42 0,je 47 42 1,jm 14 46,jm 15 47] [0,1,2,3,4,10,14]
(jq [jm 48 14,ji 49 .lss 48 .i64 0] [0,1,2,3,4,10,49]
(jC 49
(jr [jm 50 2,jm 51 3,jm 52 1,jm 0 50,jm 1 51,jm 3 52] [0,1,3,4,10])
.skip)))
(jq [jm 54 1,jm 55 3,jc 56 103 [54,55],jm 53 56,je 57 53 0,je 58 53 1,jm 16 57,jm 17 58] [0,4,10,16]
(jq [jm 59 0,jm 60 16,jm 61 4,jc 62 54 [59,60,61],je 63 62 0,je 64 62 1,jw 3 10 63,jm 11 64] [10,11]
.ret)))))⟩
def Zic : IFn:=⟨[.cell 8 true 3,.tmp 9],
(jq [js 8 (.alloc [(.bool false),.nil,(.int .i64 0)]),jk 9 .i64 0] [0,1,2,3,8]
(.seq (jq [jm 18 1,js 19 (.iaddr 1 (.t 18) (.c (.int .i64 0))),jl 20 1 19,ji 21 .and 20 .u32 1,jm 22 2,js 23 (.iaddr 1 (.t 22) (.c (.int .i64 0))),jl 24 1 23,ji 25 .and 24 .u32 1,jb 26 .neq 21 25] [0,1,2,3,8,26]
(jC 26
(jq [js 27 (.build [(.bool false),.nil,(.int .i64 0)] []),jw 3 8 27,jk 9 .i64 3] [8,9]
.ret)
.skip))
(jq [jm 29 1,js 30 (.call false (.f 50) [(.t 29),(.c (.int .i64 (-1)))]),jm 28 30,je 31 28 0,je 32 28 1,je 33 28 2,jm 10 31,jm 11 32,jm 12 33] [0,1,2,3,8,10]
(jq [jm 35 2,js 36 (.call false (.f 50) [(.t 35),(.c (.int .i64 (-1)))]),jm 34 36,je 37 34 0,je 38 34 1,je 39 34 2,jm 13 37,jm 14 38,jm 15 39] [0,1,3,8,10,13]
(jq [jm 41 10,jm 42 13,jc 43 105 [41,42],jm 40 43,je 44 40 0,je 45 40 1,jm 16 44,jm 17 45] [0,1,3,8,16]
(.seq (jq [jm 46 1,js 47 (.iaddr 1 (.t 46) (.c (.int .i64 0))),jl 48 1 47,ji 49 .and 48 .u32 1,ji 50 .eql 49 .u32 1] [0,3,8,16,50]
(jC 50
(jr [jm 52 16,js 53 (.call false (.f 55) [(.c (.int .u64 1))]),jc 54 105 [52,53],jm 51 54,je 55 51 0,je 56 51 1,jm 16 55] [0,3,8,16])
.skip))
(jq [jm 57 0,jm 58 16,jm 59 3,ji 60 .add 59 .i64 1,jc 61 54 [57,58,60],je 62 61 0,je 63 61 1,jw 3 8 62,jm 9 63] [8,9]
.ret)))))))⟩
structure HasG (gdb : Nat) (T : Tbl) : Prop where
 ZiI : T 169 = some ZfA
 Zll : T 182 = some ZjX
 Zpy : T 184 = some ZjY
 ref10_Good : T 185 = some Zbf
 Zjw : T 186 = some Zcc
 ZhL : T 189 = some Zbu
 Zhs : T 191 = some Zdi
 ZeD : T 192 = some ZgX
 ZhV : T 193 = some ZgV
 ZeE : T 194 = some ZdC
 Zlk : T 195 = some ZjW
 Zmd : T 196 = some Ziy
 Zst : T 197 = some ZhA
 ZkE : T 198 = some Zfx
 word_shape_split : T 200 = some ZaT
 word_shape_class : T 201 = some ZbE
 ZkV : T 202 = some ZdW
 Zkg : T 203 = some Zep
 word_shape_none : T 204 = some ZcK
 Zln : T 205 = some Zhy
 dyad_edge : T 207 = some ZkC
 ZhH : T 208 = some Zeq
 dyad_halved : T 209 = some Zic
end Go.Cv
namespace Go.Cv
def Zeu : IFn:=⟨[.tmp 6,.tmp 7],
(jq [jx 5 2 2,jk 6 .u64 0,jk 7 .u8 0] [0,1,5]
(jq [jm 11 0,jL 12 2 5,jc 13 235 [11,12],jm 10 13,je 14 10 0,je 15 10 1,jm 8 14,jm 9 15] [0,1,5,8,9]
(.seq (jq [jm 16 9] [0,1,5,8,16]
(jC 16
(jq [jm 17 8,jm 6 17,jk 7 .u8 0] [6,7]
.ret)
.skip))
(jq [jm 18 0,jm 19 1,jm 20 0,jL 21 2 5,jc 22 236 [20,21],jc 23 19 [18,19,22],je 24 23 0,je 25 23 1,jm 6 24,jm 7 25] [6,7]
.ret))))⟩
def Zdz : IFn:=⟨[.tmp 4,.tmp 5],
(jq [jx 3 2 1,jk 4 .u64 0,jv 5 false] [0,3]
(jq [jm 7 0,jL 8 2 3,jc 9 237 [7,8],jm 6 9] [0,6]
(.seq (jq [jm 10 6,ji 11 .eql 10 .u8 3] [0,6,11]
(jC 11
(jq [jm 12 0,js 13 (.call false (.f 30) [(.t 12),(.c (.bool false))]),jm 4 13,jv 5 true] [4,5]
.ret)
.skip))
(.seq (jq [jm 14 6,ji 15 .eql 14 .u8 4] [0,15]
(jC 15
(jq [jm 16 0,jc 17 157 [16],jm 4 17,jv 5 true] [4,5]
.ret)
.skip))
(jq [jk 4 .u64 0,jv 5 false] [4,5]
.ret)))))⟩
def ZeP : IFn:=⟨[.cell 4 true 3],
(jq [jx 3 2 1,js 4 (.alloc [(.bool false),.nil,(.int .i64 0)])] [0,3,4]
(jq [jm 7 0,jf 8 0 3,jl 9 1 8,jc 10 151 [7,9],jm 11 0,jf 12 1 3,jl 13 1 12,jc 14 151 [11,13],js 5 (.alloc [(.bool false),.nil,(.int .i64 0)]),js 6 (.alloc [(.bool false),.nil,(.int .i64 0)]),jw 3 5 10,jw 3 6 14] [4,5,6]
(jq [jL 15 3 5,jL 16 3 5,jc 17 154 [15,16],jL 18 3 6,jL 19 3 6,jc 20 154 [18,19],jc 21 67 [17,20],jw 3 4 21] [4]
.ret)))⟩
def Zbd : IFn:=⟨[.tmp 4],
(jq [jx 3 2 1,jk 4 .u8 0] [0,3]
(jq [jm 7 0,jf 8 0 3,jl 9 1 8,jc 10 155 [7,9],jm 11 0,jf 12 1 3,jl 13 1 12,jc 14 155 [11,13],jm 5 10,jm 6 14] [5,6]
(.seq (jq [jm 15 5,ji 16 .eql 15 .u8 4,jm 17 16,jg (jm 18 6) 17 false,jg (ji 19 .eql 18 .u8 4) 17 false,jP 20 17 19] [5,6,20]
(jC 20
(jq [jk 4 .u8 3] [4]
.ret)
.skip))
(.seq (jq [jm 21 5,ji 22 .eql 21 .u8 5,jm 23 22,jg (jm 24 6) 23 false,jg (ji 25 .eql 24 .u8 5) 23 false,jP 26 23 25] [5,6,26]
(jC 26
(jq [jk 4 .u8 4] [4]
.ret)
.skip))
(.seq (jq [jm 27 5,ji 28 .eql 27 .u8 1,jm 29 28,jg (jm 30 6) 29 true,jg (ji 31 .eql 30 .u8 1) 29 true,jp 32 29 31] [32]
(jC 32
(jq [jk 4 .u8 1] [4]
.ret)
.skip))
(jq [jk 4 .u8 2] [4]
.ret))))))⟩
structure HasH (gdb : Nat) (T : Tbl) : Prop where
 Zol : T 227 = some Zeu
 Zmw : T 235 = some Zdz
 ZjH : T 236 = some ZeP
 ZkP : T 237 = some Zbd
end Go.Cv
namespace Go.Cv
def Zgf : IFn:=⟨[.cell 8 true 4,.tmp 9],
(jq [jx 6 2 2,jx 7 2 3,js 8 (.alloc [(.int .u64 0),(.int .u64 0),(.int .u8 0),(.int .u8 0)]),jk 9 .i64 0] [0,1,6,7,8]
(jq [jm 15 0,jm 16 1,jL 17 2 6,jL 18 2 7,jc 19 268 [15,16,17,18],jm 14 19,je 20 14 0,je 21 14 1,je 22 14 2,js 10 (.alloc [(.int .u64 0),(.int .u64 0),(.int .u8 0),(.int .u8 0)]),jw 4 10 20,jm 11 21,jm 12 22] [0,1,6,7,8,10,11,12]
(.seq (jq [jm 23 11,jm 24 23,jg (jm 25 12) 24 false,jg (ji 26 .neq 25 .i64 0) 24 false,jP 27 24 26] [0,1,6,7,8,10,12,27]
(jC 27
(jq [jL 28 4 10,jm 29 12,jw 4 8 28,jm 9 29] [8,9]
.ret)
.skip))
(jq [jm 30 0,jm 31 1,js 32 (.build [(.int .u8 0),(.int .u8 0)] [(0,1,(.t 30)),(1,1,(.t 31))]),js 13 (.alloc [(.int .u8 0),(.int .u8 0)]),jw 2 13 32] [0,6,7,8,13]
(jq [jL 33 2 13,jL 34 2 13,jm 35 0,jL 36 2 6,jc 37 271 [35,36],jm 38 0,jL 39 2 7,jc 40 271 [38,39],jc 41 270 [34,37,40],js 42 (.call false (.f 272) [(.c (.int .i64 1))]),jc 43 269 [33,41,42],jw 4 8 43,jk 9 .i64 0] [8,9]
.ret)))))⟩
def Zge : IFn:=⟨[.cell 8 true 4,.tmp 9],
(jq [jx 6 2 2,jx 7 2 3,js 8 (.alloc [(.int .u64 0),(.int .u64 0),(.int .u8 0),(.int .u8 0)]),jk 9 .i64 0] [0,1,6,7,8]
(jq [jm 18 0,jm 19 1,jL 20 2 6,jL 21 2 7,jc 22 277 [18,19,20,21],jm 17 22,je 23 17 0,je 24 17 1,je 25 17 2,js 10 (.alloc [(.int .u64 0),(.int .u64 0),(.int .u8 0),(.int .u8 0)]),jw 4 10 23,jm 11 24,jm 12 25] [0,1,6,7,8,10,11,12]
(.seq (jq [jm 26 11,jm 27 26,jg (jm 28 12) 27 false,jg (ji 29 .neq 28 .i64 0) 27 false,jP 30 27 29] [0,1,6,7,8,10,12,30]
(jC 30
(jq [jL 31 4 10,jm 32 12,jw 4 8 31,jm 9 32] [8,9]
.ret)
.skip))
(jq [jm 33 0,jm 34 1,js 35 (.build [(.int .u8 0),(.int .u8 0)] [(0,1,(.t 33)),(1,1,(.t 34))]),js 13 (.alloc [(.int .u8 0),(.int .u8 0)]),jw 2 13 35] [0,6,7,8,13]
(jq [jm 36 0,jL 37 2 7,jc 38 271 [36,37],js 14 (.alloc [(.bool false),.nil,(.int .i64 0),(.bool false),(.bool false),.nil,(.int .i64 0),(.bool false)]),jw 8 14 38] [0,6,8,13,14]
(jq [jf 40 0 14,jL 41 4 40,jf 42 0 14,jL 43 4 42,jc 44 278 [41,43],js 45 (.field true 0 3 (.t 44)),jf 46 4 14,jL 47 4 46,jf 48 4 14,jL 49 4 48,jc 50 278 [47,49],js 51 (.field true 0 3 (.t 50)),jc 52 195 [45,51],jm 39 52,je 53 39 0,je 54 39 1,js 15 (.alloc [(.bool false),.nil,(.int .i64 0)]),jw 3 15 53,jm 16 54] [0,6,8,13,14,15]
(jq [jf 55 4 14,jL 56 4 55,jc 57 279 [56],jf 58 4 14,jw 4 58 57] [0,6,8,13,14,15]
(jq [jL 59 2 13,jL 60 2 13,jm 61 0,jL 62 2 6,jc 63 271 [61,62],jL 64 8 14,jc 65 270 [60,63,64],jL 66 3 15,jc 67 269 [59,65,66],jw 4 8 67,jk 9 .i64 0] [8,9]
.ret))))))))⟩
def ZdS : IFn:=⟨[.tmp 6],
(jq [jk 6 .u64 0] [0,1,2]
(jq [jm 9 0,jm 10 1,jc 11 283 [9,10],jm 12 0,jm 13 2,jc 14 283 [12,13],jm 7 11,jm 8 14] [7,8]
(.seq (jq [jm 15 7,jm 16 8,jb 17 .lss 15 16] [7,8,17]
(jC 17
(jq [jm 18 8,jm 19 7,jb 20 .sub 18 19,js 21 (.cvt .u64 (.t 20)),jm 6 21] [6]
.ret)
.skip))
(jq [jm 22 7,jm 23 8,jb 24 .sub 22 23,js 25 (.cvt .u64 (.t 24)),jm 6 25] [6]
.ret))))⟩
def ZaL : IFn:=⟨[.cell 8 true 4,.tmp 9,.tmp 10],
(jq [jx 6 2 2,jx 7 2 3,js 8 (.alloc [(.int .u64 0),(.int .u64 0),(.int .u8 0),(.int .u8 0)]),jv 9 false,jk 10 .i64 0] [0,1,6,7,8]
(jq [jm 19 0,jm 20 1,jL 21 2 6,jL 22 2 7,js 23 (.bslice 2 2 [(.int .u64 0),(.int .u64 0)] [(0,2,(.t 21)),(2,2,(.t 22))]),jc 24 289 [19,20,23],jm 18 24,je 25 18 0,je 26 18 1,jm 11 25,jm 12 26] [0,1,6,7,8,11,12]
(.seq (jq [jm 27 12,ji 28 .neq 27 .i64 0] [0,1,6,7,8,11,12,28]
(jC 28
(jq [js 29 (.build [(.int .u64 0),(.int .u64 0),(.int .u8 0),(.int .u8 0)] []),jm 30 12,jw 4 8 29,jv 9 false,jm 10 30] [8,9,10]
.ret)
.skip))
(jq [jm 31 11,js 32 (.iaddr 1 (.t 31) (.c (.int .i64 0))),jl 33 1 32,jm 34 11,js 35 (.iaddr 1 (.t 34) (.c (.int .i64 1))),jl 36 1 35,jm 13 33,jm 14 36] [0,1,6,7,8,13,14]
(jq [jm 38 0,js 39 (.call false (.f 26) [(.t 38),(.c (.bool false))]),jm 37 39,je 40 37 0,je 41 37 1,jm 15 40,jm 16 41] [0,1,6,7,8,13,14,15]
(.seq (.block 0
(jq [jm 43 13,ji 44 .leq 43 .u8 2,jm 45 44,jg (jm 46 14) 45 true,jg (ji 47 .leq 46 .u8 2) 45 true,jp 48 45 47,jm 42 48] [0,1,6,7,8,13,14,15,42]
(jC 42
(jq [js 49 (.build [(.int .u64 0),(.int .u64 0),(.int .u8 0),(.int .u8 0)] []),jw 4 8 49,jv 9 false,jk 10 .i64 0] [8,9,10]
.ret)
(jq [jm 51 13,ji 52 .eql 51 .u8 4,jm 53 52,jg (jm 54 14) 53 false,jg (ji 55 .eql 54 .u8 4) 53 false,jP 56 53 55,jm 50 56] [0,1,6,7,8,13,14,15,50]
(jC 50
(jq [jm 57 0,js 58 (.call false (.f 290) [(.t 57),(.c (.int .u8 0))]),jw 4 8 58,jv 9 true,jk 10 .i64 0] [8,9,10]
.ret)
(jq [jm 60 13,ji 61 .eql 60 .u8 1,jm 62 61,jg (jm 63 14) 62 false,jg (ji 64 .eql 63 .u8 1) 62 false,jP 65 62 64,jm 59 65] [0,1,6,7,8,13,14,15,59]
(jC 59
(jq [jm 66 0,js 67 (.call false (.f 290) [(.t 66),(.c (.int .u8 1))]),jw 4 8 67,jv 9 true,jk 10 .i64 0] [8,9,10]
.ret)
.skip)))))))
(jq [jm 68 0,jL 69 2 6,jm 70 13,jc 71 291 [68,69,70],jm 72 0,jL 73 2 7,jm 74 14,jc 75 291 [72,73,74],jm 76 1,jc 77 292 [71,75,76],js 17 (.alloc [(.int .i64 0),(.bool false),(.int .i64 0),(.bool false)]),jw 4 17 77] [0,8,15,17]
(jq [jL 78 4 17,jm 79 0,jm 80 15,jc 81 293 [78,79,80],js 82 (.build [(.int .u64 0),(.int .u64 0),(.int .u8 0),(.int .u8 0)] [(0,2,(.t 81))]),jw 4 8 82,jv 9 true,jk 10 .i64 0] [8,9,10]
.ret))))))))⟩
def ZcD : IFn:=⟨[.cell 6 true 4],
(jq [jx 3 2 0,jx 4 8 1,jx 5 3 2,js 6 (.alloc [(.int .u64 0),(.int .u64 0),(.int .u8 0),(.int .u8 0)])] [3,4,5,6]
(jq [js 7 (.alloc [(.int .u64 0),(.int .u64 0),(.int .u8 0),(.int .u8 0)])] [3,4,5,6,7]
(jq [jL 9 2 3,jf 10 0 4,jL 11 4 10,jL 12 3 5,jc 13 294 [9,11,12],jm 8 13,je 14 8 0,je 15 8 1,jf 16 0 7,jf 17 0 16,jw 1 17 14,jf 18 2 7,jw 1 18 15] [3,4,5,6,7]
(jq [jL 20 2 3,jf 21 4 4,jL 22 4 21,jL 23 3 5,jc 24 294 [20,22,23],jm 19 24,je 25 19 0,je 26 19 1,jf 27 0 7,jf 28 1 27,jw 1 28 25,jf 29 3 7,jw 1 29 26] [6,7]
(jq [jL 30 4 7,jw 4 6 30] [6]
.ret)))))⟩
def Zck : IFn:=⟨[.cell 6 true 8],
(jq [jx 3 2 0,jx 4 8 1,jx 5 8 2,js 6 (.alloc [(.bool false),.nil,(.int .i64 0),(.bool false),(.bool false),.nil,(.int .i64 0),(.bool false)])] [3,4,5,6]
(jq [jf 7 0 4,jL 8 4 7,jf 9 0 5,jL 10 4 9,jc 11 278 [8,10],jf 12 4 4,jL 13 4 12,jf 14 4 5,jL 15 4 14,jc 16 278 [13,15],jc 17 279 [16],jf 18 1 3,jl 19 1 18,jc 20 295 [11,17,19],jf 21 0 4,jL 22 4 21,jf 23 4 5,jL 24 4 23,jc 25 278 [22,24],jf 26 4 4,jL 27 4 26,jf 28 0 5,jL 29 4 28,jc 30 278 [27,29],jf 31 1 3,jl 32 1 31,jc 33 295 [25,30,32],js 34 (.build [(.bool false),.nil,(.int .i64 0),(.bool false),(.bool false),.nil,(.int .i64 0),(.bool false)] [(0,4,(.t 20)),(4,4,(.t 33))]),jw 8 6 34] [6]
.ret))⟩
def ZdI : IFn:=⟨[.cell 4 true 8],
(jq [jx 3 2 1,js 4 (.alloc [(.bool false),.nil,(.int .i64 0),(.bool false),(.bool false),.nil,(.int .i64 0),(.bool false)])] [0,3,4]
(jq [jm 5 0,jf 6 0 3,jl 7 1 6,jc 8 296 [5,7],jm 9 0,jf 10 1 3,jl 11 1 10,jc 12 296 [9,11],js 13 (.build [(.bool false),.nil,(.int .i64 0),(.bool false),(.bool false),.nil,(.int .i64 0),(.bool false)] [(0,4,(.t 8)),(4,4,(.t 12))]),jw 8 4 13] [4]
.ret))⟩
def Zhx : IFn:=⟨[.cell 2 true 3],
(jq [js 2 (.alloc [(.bool false),.nil,(.int .i64 0)])] [0,2]
(jq [jm 6 0,js 7 (.cvt .u64 (.t 6)),jm 3 7] [0,2,3]
(.seq (jq [jm 8 0,ji 9 .lss 8 .i64 0] [0,2,3,9]
(jC 9
(jr [jm 10 3,js 11 (.un .neg (.t 10)),jm 3 11] [0,2,3])
.skip))
(jq [jm 13 0,ji 14 .lss 13 .i64 0,jm 15 3,jc 16 55 [15],js 17 (.call false (.f 54) [(.t 14),(.t 16),(.c (.int .i64 0))]),jm 12 17,je 18 12 0,je 19 12 1,js 4 (.alloc [(.bool false),.nil,(.int .i64 0)]),jw 3 4 18,jm 5 19] [2,4]
(jq [jL 20 3 4,jw 3 2 20] [2]
.ret)))))⟩
def Zax : IFn:=⟨[.cell 8 true 4,.tmp 9,.tmp 10],
(jq [jx 6 2 2,jx 7 2 3,js 8 (.alloc [(.int .u64 0),(.int .u64 0),(.int .u8 0),(.int .u8 0)]),jv 9 false,jk 10 .i64 0] [0,1,6,7,8]
(jq [jm 20 0,jm 21 1,jL 22 2 6,jL 23 2 7,js 24 (.bslice 2 2 [(.int .u64 0),(.int .u64 0)] [(0,2,(.t 22)),(2,2,(.t 23))]),jc 25 289 [20,21,24],jm 19 25,je 26 19 0,je 27 19 1,jm 11 26,jm 12 27] [0,1,6,7,8,11,12]
(.seq (jq [jm 28 12,ji 29 .neq 28 .i64 0] [0,1,6,7,8,11,12,29]
(jC 29
(jq [js 30 (.build [(.int .u64 0),(.int .u64 0),(.int .u8 0),(.int .u8 0)] []),jm 31 12,jw 4 8 30,jv 9 false,jm 10 31] [8,9,10]
.ret)
.skip))
(jq [jm 32 11,js 33 (.iaddr 1 (.t 32) (.c (.int .i64 0))),jl 34 1 33,jm 35 11,js 36 (.iaddr 1 (.t 35) (.c (.int .i64 1))),jl 37 1 36,jm 13 34,jm 14 37] [0,1,6,7,8,13,14]
(jq [jm 39 0,js 40 (.call false (.f 26) [(.t 39),(.c (.bool false))]),jm 38 40,je 41 38 0,je 42 38 1,jm 15 41,jm 16 42] [0,1,6,7,8,13,14,15]
(.seq (.block 0
(jq [jm 44 13,ji 45 .leq 44 .u8 2,jm 46 45,jg (jm 47 14) 46 true,jg (ji 48 .eql 47 .u8 2) 46 true,jp 49 46 48,jm 43 49] [0,1,6,7,8,13,14,15,43]
(jC 43
(jq [js 50 (.build [(.int .u64 0),(.int .u64 0),(.int .u8 0),(.int .u8 0)] []),jw 4 8 50,jv 9 false,jk 10 .i64 0] [8,9,10]
.ret)
(jq [jm 52 13,ji 53 .eql 52 .u8 4,jm 54 53,jg (jm 55 14) 54 false,jg (ji 56 .eql 55 .u8 4) 54 false,jP 57 54 56,jm 51 57] [0,1,6,7,8,13,14,15,51]
(jC 51
(jq [jm 58 0,js 59 (.call false (.f 290) [(.t 58),(.c (.int .u8 0))]),jw 4 8 59,jv 9 true,jk 10 .i64 0] [8,9,10]
.ret)
(jq [jm 61 13,jm 62 14,jb 63 .eql 61 62,jm 60 63] [0,1,6,7,8,13,14,15,60]
(jC 60
(jq [jm 64 0,js 65 (.call false (.f 290) [(.t 64),(.c (.int .u8 1))]),jw 4 8 65,jv 9 true,jk 10 .i64 0] [8,9,10]
.ret)
.skip)))))))
(jq [jm 66 0,jL 67 2 7,jm 68 14,jc 69 291 [66,67,68],js 17 (.alloc [(.int .i64 0),(.bool false),(.int .i64 0),(.bool false)]),jw 4 17 69] [0,1,6,8,13,14,15,17]
(.seq (jq [jm 70 14,ji 71 .eql 70 .u8 1] [0,1,6,8,13,14,15,17,71]
(jC 71
(jq [js 72 (.iaddrA 2 2 (.t 17) (.c (.int .i64 0))),jf 73 0 72,⟨none,.store 1 (.t 73) (.c (.int .i64 1)),none⟩] [0,1,6,8,13,14,15,17]
(jq [js 74 (.iaddrA 2 2 (.t 17) (.c (.int .i64 0))),jf 75 1 74,jl 76 1 75] [0,1,6,8,13,14,15,17,76]
(jC 76
(jr [js 77 (.iaddrA 2 2 (.t 17) (.c (.int .i64 0))),jf 78 0 77,⟨none,.store 1 (.t 78) (.c (.int .i64 (-1))),none⟩] [0,1,6,8,13,14,15,17])
.skip)))
.skip))
(jq [js 79 (.iaddrA 2 2 (.t 17) (.c (.int .i64 1))),jL 80 2 79,jc 81 302 [80],js 82 (.iaddrA 2 2 (.t 17) (.c (.int .i64 1))),jw 2 82 81] [0,1,6,8,13,14,15,17]
(jq [jm 83 0,jL 84 2 6,jm 85 13,jc 86 291 [83,84,85],jL 87 4 17,jm 88 1,jc 89 292 [86,87,88],js 18 (.alloc [(.int .i64 0),(.bool false),(.int .i64 0),(.bool false)]),jw 4 18 89] [0,8,13,14,15,18]
(.seq (.block 1
(jq [jm 91 14,ji 92 .eql 91 .u8 3,jm 90 92] [0,8,13,15,18,90]
(jC 90
(jq [jL 93 4 18,jm 94 0,js 95 (.call false (.f 293) [(.t 93),(.t 94),(.c (.int .u64 0))]),js 96 (.build [(.int .u64 0),(.int .u64 0),(.int .u8 0),(.int .u8 0)] [(0,2,(.t 95))]),jw 4 8 96,jv 9 true,jk 10 .i64 0] [8,9,10]
.ret)
(jq [jm 98 13,ji 99 .eql 98 .u8 3,jm 97 99] [0,8,15,18,97]
(jC 97
(jq [jL 100 4 18,jm 101 0,jm 102 15,jc 103 293 [100,101,102],js 104 (.build [(.int .u64 0),(.int .u64 0),(.int .u8 0),(.int .u8 0)] [(0,2,(.t 103))]),jw 4 8 104,jv 9 true,jk 10 .i64 0] [8,9,10]
.ret)
.skip)))))
(jq [jL 105 4 18,jm 106 0,jm 107 15,jc 108 293 [105,106,107],js 109 (.build [(.int .u64 0),(.int .u64 0),(.int .u8 0),(.int .u8 0)] [(0,2,(.t 108)),(2,1,(.c (.int .u8 2))),(3,1,(.c (.int .u8 2)))]),jw 4 8 109,jv 9 true,jk 10 .i64 0] [8,9,10]
.ret))))))))))))⟩
def ZcC : IFn:=⟨[.cell 4 true 4],
(jq [jx 2 4 0,jx 3 4 1,js 4 (.alloc [(.bool false),.nil,(.int .i64 0),(.bool false)])] [2,3,4]
(jq [jf 8 0 2,jL 9 3 8,jf 10 0 3,jL 11 3 10,jc 12 182 [9,11],jm 7 12,je 13 7 0,je 14 7 1,js 5 (.alloc [(.bool false),.nil,(.int .i64 0)]),jw 3 5 13,jm 6 14] [2,3,4,5]
(jq [jL 15 3 5,jf 16 3 2,jl 17 1 16,jf 18 3 3,jl 19 1 18,js 20 (.eqb true (.t 17) (.t 19)),js 21 (.build [(.bool false),.nil,(.int .i64 0),(.bool false)] [(0,3,(.t 15)),(3,1,(.t 20))]),jw 4 4 21] [4]
.ret)))⟩
def ZcB : IFn:=⟨[.cell 2 true 4],
(jq [jx 1 4 0,js 2 (.alloc [(.bool false),.nil,(.int .i64 0),(.bool false)])] [1,2]
(jq [jf 6 0 1,jL 7 3 6,jc 8 184 [7],jm 5 8,je 9 5 0,je 10 5 1,js 3 (.alloc [(.bool false),.nil,(.int .i64 0)]),jw 3 3 9,jm 4 10] [1,2,3]
(jq [jL 11 3 3,jf 12 3 1,jl 13 1 12,js 14 (.un .not (.t 13)),js 15 (.build [(.bool false),.nil,(.int .i64 0),(.bool false)] [(0,3,(.t 11)),(3,1,(.t 14))]),jw 4 2 15] [2]
.ret)))⟩
def ZfM : IFn:=⟨[.tmp 4],
(jq [jk 4 .i64 0] [0,1]
(jq [jm 6 1,jm 7 0,jc 8 73 [7],jb 9 .rem 6 8,js 10 (.cvt .i64 (.t 9)),jm 5 10] [0,1,5]
(.seq (jq [jm 11 0,jm 12 1,jc 13 156 [11,12],js 14 (.field false 0 1 (.t 13))] [5,14]
(jC 14
(jq [jm 15 5,js 16 (.un .neg (.t 15)),jm 4 16] [4]
.ret)
.skip))
(jq [jm 17 5,jm 4 17] [4]
.ret))))⟩
def Zev : IC :=
(jq [jb 30 .lss 29 28] [0,10,27,28,29,30]
(.seq (jC 30
.skip
(.exit 0))
(.seq (.block 1
(jq [ja 31 2 27 29,jL 32 2 31,js 12 (.alloc [(.int .u64 0),(.int .u64 0)]),jw 2 12 32] [0,10,12,27,28,29]
(jq [jm 34 0,jL 35 2 12,jc 36 189 [34,35],jm 33 36,je 37 33 0,je 38 33 1,jm 13 37,jm 14 38] [0,10,13,14,27,28,29]
(.seq (jq [jm 39 14,ji 40 .neq 39 .i64 0] [0,10,13,14,27,28,29,40]
(jC 40
(jq [jm 41 14,js 6 (.mov (.c .nil)),jm 7 41] [6,7]
.ret)
.skip))
(jr [jm 42 10,jm 43 13,js 44 (.bslice 1 1 [(.int .u8 0)] [(0,1,(.t 43))]),js 45 (.app 1 1 (.t 42) (.t 44)),jm 10 45] [0,10,27,28,29])))))
(jr [ji 46 .add 29 .i64 1,jm 29 46] [0,10,27,28,29]))))
def Zew : IC:=.loop [0,10,27,28,29] Zev
def ZeT : IFn:=⟨[.tmp 6,.tmp 7],
(jq [js 6 (.mov (.c .nil)),jk 7 .i64 0] [0,1,2]
(.seq (jq [jm 16 0,jm 17 1,js 18 (.call false (.f 8) [(.t 16),(.t 17),(.c (.bool false))]),jm 15 18,je 19 15 0,je 20 15 1,jm 8 19,jm 9 20] [0,2,9]
(jq [jm 21 9,ji 22 .neq 21 .i64 0] [0,2,9,22]
(jC 22
(jq [jm 23 9,js 6 (.mov (.c .nil)),jm 7 23] [6,7]
.ret)
.skip)))
(jq [jm 24 2,jn 25 24,js 26 (.mk 1 1 [(.int .u8 0)] (.c (.int .i64 0)) (.t 25)),jm 10 26] [0,2,10]
(.seq (jq [jm 27 2,jn 28 27,jk 29 .i64 0] [0,10,27,28,29]
(.block 0
 Zew))
(jq [jm 47 10,jm 6 47,jk 7 .i64 0] [6,7]
.ret)))))⟩
def ZeS : IFn:=⟨[.cell 4 true 4],
(jq [js 4 (.alloc [(.int .u64 0),(.int .u64 0),(.int .u8 0),(.int .u8 0)])] [0,1,4]
(jq [jm 8 0,jc 9 196 [8],jm 7 9,je 10 7 0,je 11 7 1,jm 5 10,jm 6 11] [1,4,5]
(jq [jm 12 5,jm 13 5,js 14 (.build [(.int .u64 0),(.int .u64 0)] [(0,1,(.t 12)),(1,1,(.t 13))]),jm 15 1,jm 16 1,js 17 (.build [(.int .u64 0),(.int .u64 0),(.int .u8 0),(.int .u8 0)] [(0,2,(.t 14)),(2,1,(.t 15)),(3,1,(.t 16))]),jw 4 4 17] [4]
.ret)))⟩
def ZdU : IFn:=⟨[.cell 6 true 4],
(jq [jx 4 2 1,js 6 (.alloc [(.int .i64 0),(.bool false),(.int .i64 0),(.bool false)])] [0,2,4,6]
(jq [jm 8 2,ji 9 .eql 8 .u8 3,jm 7 9] [0,4,6,7]
(jq [jm 10 0,jf 11 0 4,jl 12 1 11,jm 13 7,jc 14 307 [10,12,13],jm 15 0,jf 16 1 4,jl 17 1 16,jm 18 7,jc 19 307 [15,17,18],js 20 (.build [(.int .i64 0),(.bool false),(.int .i64 0),(.bool false)] [(0,2,(.t 14)),(2,2,(.t 19))]),jw 4 6 20] [6]
.ret)))⟩
def ZbY : IFn:=⟨[.cell 6 true 4],
(jq [jx 3 4 0,jx 4 4 1,js 6 (.alloc [(.int .i64 0),(.bool false),(.int .i64 0),(.bool false)])] [2,3,4,6]
(jq [js 7 (.iaddrA 2 2 (.t 3) (.c (.int .i64 0))),jL 8 2 7,js 9 (.iaddrA 2 2 (.t 4) (.c (.int .i64 0))),jL 10 2 9,jc 11 308 [8,10],js 12 (.iaddrA 2 2 (.t 3) (.c (.int .i64 1))),jL 13 2 12,js 14 (.iaddrA 2 2 (.t 4) (.c (.int .i64 1))),jL 15 2 14,jc 16 308 [13,15],jc 17 302 [16],jm 18 2,jc 19 309 [11,17,18],js 20 (.iaddrA 2 2 (.t 3) (.c (.int .i64 0))),jL 21 2 20,js 22 (.iaddrA 2 2 (.t 4) (.c (.int .i64 1))),jL 23 2 22,jc 24 308 [21,23],js 25 (.iaddrA 2 2 (.t 3) (.c (.int .i64 1))),jL 26 2 25,js 27 (.iaddrA 2 2 (.t 4) (.c (.int .i64 0))),jL 28 2 27,jc 29 308 [26,28],jm 30 2,jc 31 309 [24,29,30],js 32 (.build [(.int .i64 0),(.bool false),(.int .i64 0),(.bool false)] [(0,2,(.t 19)),(2,2,(.t 31))]),jw 4 6 32] [6]
.ret))⟩
def Zcg : IC :=
(jq [ji 12 .lss 11 .i64 2] [1,2,6,7,10,11,12]
(.seq (jC 12
.skip
(.exit 0))
(.seq (.block 1
(jq [jm 13 11,js 14 (.index true 2 2 (.t 10) (.t 11)),js 9 (.alloc [(.int .i64 0),(.bool false)]),jm 8 13,jw 2 9 14] [1,2,6,7,8,9,10,11]
(.seq (jq [jf 15 0 9,jl 16 1 15,ji 17 .neq 16 .i64 0] [1,2,6,7,8,9,10,11,17]
(jC 17
(jr [jm 18 8,jm 19 2,js 20 (.iaddrA 2 1 (.t 7) (.t 18)),jw 1 20 19] [1,2,6,7,8,9,10,11])
.skip))
(jq [jf 21 1 9,jl 22 1 21] [1,2,6,7,8,10,11,22]
(jC 22
(jr [jm 24 8,jm 25 1,jm 26 8,js 27 (.iaddrA 2 1 (.t 7) (.t 26)),jl 28 1 27,jc 29 310 [25,28],jm 23 29,je 30 23 0,je 31 23 1,js 32 (.iaddrA 2 1 (.t 7) (.t 24)),jw 1 32 30] [1,2,6,7,10,11])
.skip)))))
(jr [ji 33 .add 11 .i64 1,jm 11 33] [1,2,6,7,10,11]))))
def Zch : IC:=.loop [1,2,6,7,10,11] Zcg
def ZbZ : IFn:=⟨[.cell 6 true 2],
(jq [jx 3 4 0,js 6 (.alloc [(.int .u64 0),(.int .u64 0)])] [1,2,3,6]
(jq [js 7 (.alloc [(.int .u64 0),(.int .u64 0)])] [1,2,3,6,7]
(.seq (jq [jL 10 4 3,jk 11 .i64 0] [1,2,6,7,10,11]
(.block 0
 Zch))
(jq [js 34 (.iaddrA 2 1 (.t 7) (.c (.int .i64 0))),jl 35 1 34,js 36 (.iaddrA 2 1 (.t 7) (.c (.int .i64 1))),jl 37 1 36,js 38 (.build [(.int .u64 0),(.int .u64 0)] [(0,1,(.t 35)),(1,1,(.t 37))]),jw 2 6 38] [6]
.ret))))⟩
def ZbO : IFn:=⟨[.tmp 6,.tmp 7],
(jq [jx 3 2 0,jx 4 4 1,jx 5 3 2,jk 6 .u64 0,jk 7 .u8 0] [3,4,5]
(.seq (jq [jf 13 0 4,jL 14 3 13,jc 15 22 [14],ji 16 .eql 15 .i64 0] [3,4,5,16]
(jC 16
(jq [jf 18 0 3,jl 19 1 18,jf 20 3 4,jl 21 1 20,jc 22 57 [19,21],jm 17 22,je 23 17 0,je 24 17 1,jm 8 23,jm 9 24] [8]
(jq [jm 25 8,jm 6 25,jk 7 .u8 0] [6,7]
.ret))
.skip))
(jq [jf 27 0 3,jl 28 1 27,jf 29 1 3,jl 30 1 29,jf 31 0 4,jL 32 3 31,jL 33 3 5,jc 34 15 [28,30,32,33],jm 26 34,je 35 26 0,je 36 26 1,je 37 26 2,jm 10 35,jm 11 36,jm 12 37] [10,11]
(jq [jm 38 10,jm 39 11,jm 6 38,jm 7 39] [6,7]
.ret))))⟩
def Zbm : IFn:=⟨[.cell 6 true 4],
(jq [jx 3 4 0,jx 4 4 1,js 6 (.alloc [(.bool false),.nil,(.int .i64 0),(.bool false)])] [2,3,4,6]
(jq [jf 10 0 3,jL 11 3 10,jf 12 0 4,jL 13 3 12,jc 14 195 [11,13],jm 9 14,je 15 9 0,je 16 9 1,js 7 (.alloc [(.bool false),.nil,(.int .i64 0)]),jw 3 7 15,jm 8 16] [2,3,4,6,7]
(.seq (.block 0
(jq [jL 18 3 7,jc 19 22 [18],ji 20 .neq 19 .i64 0,jm 17 20] [2,3,4,6,7,17]
(jC 17
(jq [jL 21 3 7,jf 22 0 7,jl 23 1 22,js 24 (.build [(.bool false),.nil,(.int .i64 0),(.bool false)] [(0,3,(.t 21)),(3,1,(.t 23))]),jw 4 6 24] [6]
.ret)
(jq [jf 26 0 3,jL 27 3 26,jc 28 22 [27],ji 29 .eql 28 .i64 0,jm 30 29,jg (jf 31 3 3) 30 true,jg (jl 32 1 31) 30 true,jg (jf 33 3 4) 30 true,jg (jl 34 1 33) 30 true,jg (js 35 (.eqb false (.t 32) (.t 34))) 30 true,jp 36 30 35,jm 25 36] [2,3,6,7,25]
(jC 25
(jq [jL 37 3 7,jf 38 3 3,jl 39 1 38,js 40 (.build [(.bool false),.nil,(.int .i64 0),(.bool false)] [(0,3,(.t 37)),(3,1,(.t 39))]),jw 4 6 40] [6]
.ret)
.skip)))))
(jq [jL 41 3 7,jm 42 2,ji 43 .eql 42 .u8 5,js 44 (.build [(.bool false),.nil,(.int .i64 0),(.bool false)] [(0,3,(.t 41)),(3,1,(.t 43))]),jw 4 6 44] [6]
.ret))))⟩
def Zfy : IFn:=⟨[.cell 4 true 4],
(jq [js 4 (.alloc [(.bool false),.nil,(.int .i64 0),(.bool false)])] [0,1,4]
(jq [jm 10 0,jm 11 1,jc 12 194 [10,11],jm 9 12,je 13 9 0,je 14 9 1,js 5 (.alloc [(.bool false),.nil,(.int .i64 0)]),jw 3 5 13,jm 6 14] [0,1,4,5]
(jq [jm 16 0,jm 17 1,jc 18 192 [16,17],jm 15 18,je 19 15 0,je 20 15 1,js 7 (.alloc [(.bool false),(.int .i64 0),(.int .u64 0)]),jw 3 7 19,jm 8 20] [4,5,7]
(jq [jL 21 3 5,jf 22 0 7,jl 23 1 22,js 24 (.build [(.bool false),.nil,(.int .i64 0),(.bool false)] [(0,3,(.t 21)),(3,1,(.t 23))]),jw 4 4 24] [4]
.ret))))⟩
def ZbJ : IFn:=⟨[.cell 2 true 2],
(jq [jx 1 2 0,js 2 (.alloc [(.int .i64 0),(.bool false)])] [1,2]
(jq [jf 3 0 1,jl 4 1 3,js 5 (.un .neg (.t 4)),jf 6 1 1,jl 7 1 6,js 8 (.un .not (.t 7)),js 9 (.build [(.int .i64 0),(.bool false)] [(0,1,(.t 5)),(1,1,(.t 8))]),jw 2 2 9] [2]
.ret))⟩
def Zes : IFn:=⟨[.tmp 4],
(jq [jx 3 2 1,jk 4 .i64 0] [0,3]
(.seq (jq [jm 6 0,jf 7 0 3,jl 8 1 7,jc 9 312 [6,8],jm 5 9] [0,3,5]
(jq [jm 10 5,ji 11 .neq 10 .i64 0] [0,3,5,11]
(jC 11
(jq [jm 12 5,jm 4 12] [4]
.ret)
.skip)))
(jq [jm 13 0,jf 14 1 3,jl 15 1 14,jc 16 312 [13,15],jm 4 16] [4]
.ret)))⟩
def ZaX : IFn:=⟨[.cell 6 true 2],
(jq [js 6 (.alloc [(.int .i64 0),(.bool false)])] [0,1,2,6]
(jq [jm 13 0,jm 14 1,jc 15 193 [13,14],jm 12 15,je 16 12 0,je 17 12 1,jm 7 16,jm 8 17] [0,1,2,6,7]
(jq [jm 19 0,jm 20 1,jc 21 192 [19,20],jm 18 21,je 22 18 0,je 23 18 1,js 9 (.alloc [(.bool false),(.int .i64 0),(.int .u64 0)]),jw 3 9 22,jm 10 23] [2,6,7,9]
(jq [jm 24 7,ji 25 .neq 24 .u8 1,jm 11 25] [2,6,7,9,11]
(.seq (jq [jm 26 2] [6,7,9,11,26]
(jC 26
(jr [jm 27 7,ji 28 .eql 27 .u8 4,jm 11 28] [6,7,9,11])
.skip))
(.seq (jq [jm 29 7,ji 30 .eql 29 .u8 5] [6,9,11,30]
(jC 30
(jq [js 31 (.build [(.int .i64 0),(.bool false)] []),jw 2 6 31] [6]
.ret)
.skip))
(.seq (jq [jm 32 11,js 33 (.un .not (.t 32))] [6,9,33]
(jC 33
(jq [jf 34 0 9,jl 35 1 34,js 36 (.build [(.int .i64 0),(.bool false)] [(0,1,(.c (.int .i64 0))),(1,1,(.t 35))]),jw 2 6 36] [6]
.ret)
.skip))
(.seq (jq [jf 37 0 9,jl 38 1 37] [6,38]
(jC 38
(jq [js 39 (.build [(.int .i64 0),(.bool false)] [(0,1,(.c (.int .i64 (-1)))),(1,1,(.c (.bool true)))]),jw 2 6 39] [6]
.ret)
.skip))
(jq [js 40 (.build [(.int .i64 0),(.bool false)] [(0,1,(.c (.int .i64 1))),(1,1,(.c (.bool false)))]),jw 2 6 40] [6]
.ret)))))))))⟩
def ZbK : IFn:=⟨[.cell 4 true 2],
(jq [jx 2 2 0,jx 3 2 1,js 4 (.alloc [(.int .i64 0),(.bool false)])] [2,3,4]
(jq [jf 5 0 2,jl 6 1 5,jf 7 0 3,jl 8 1 7,jb 9 .mul 6 8,jf 10 1 2,jl 11 1 10,jf 12 1 3,jl 13 1 12,js 14 (.eqb true (.t 11) (.t 13)),js 15 (.build [(.int .i64 0),(.bool false)] [(0,1,(.t 9)),(1,1,(.t 14))]),jw 2 4 15] [4]
.ret))⟩
def ZaO : IFn:=⟨[.cell 6 true 2],
(jq [jx 3 2 0,jx 4 2 1,js 6 (.alloc [(.int .i64 0),(.bool false)])] [2,3,4,6]
(jq [jf 8 0 3,jl 9 1 8,jf 10 0 4,jl 11 1 10,jb 12 .add 9 11,jm 7 12] [2,3,4,6,7]
(.seq (.block 0
(jq [jm 14 7,ji 15 .neq 14 .i64 0,jm 13 15] [2,3,4,6,7,13]
(jC 13
(jq [jm 16 7,jm 17 7,ji 18 .lss 17 .i64 0,js 19 (.build [(.int .i64 0),(.bool false)] [(0,1,(.t 16)),(1,1,(.t 18))]),jw 2 6 19] [6]
.ret)
(jq [jf 21 0 3,jl 22 1 21,ji 23 .eql 22 .i64 0,jm 24 23,jg (jf 25 1 3) 24 true,jg (jl 26 1 25) 24 true,jg (jf 27 1 4) 24 true,jg (jl 28 1 27) 24 true,jg (js 29 (.eqb false (.t 26) (.t 28))) 24 true,jp 30 24 29,jm 20 30] [2,3,6,20]
(jC 20
(jq [jL 31 2 3,jw 2 6 31] [6]
.ret)
.skip)))))
(jq [jm 32 2,ji 33 .eql 32 .u8 5,js 34 (.build [(.int .i64 0),(.bool false)] [(0,1,(.c (.int .i64 0))),(1,1,(.t 33))]),jw 2 6 34] [6]
.ret))))⟩
def ZhE : IFn:=⟨[.tmp 4,.tmp 5],
(jq [jx 3 1 1,jk 4 .u64 0,jk 5 .i64 0] [0,3]
(jq [jm 6 0,jl 7 1 3,js 8 (.mkfn 315 [(.t 3)]),js 9 (.call true (.f 313) [(.t 6),(.t 7),(.t 8)]),je 10 9 0,je 11 9 1,jm 4 10,jm 5 11] [4,5]
.ret))⟩
def Zix : IFn:=⟨[.tmp 4],
(jq [jk 4 .i64 0] [0,1]
(jq [jm 8 0,jm 9 1,js 10 (.bslice 1 1 [(.int .u64 0)] [(0,1,(.t 9))]),jc 11 95 [8,10],jm 7 11,je 12 7 0,je 13 7 1,js 5 (.alloc [(.int .i64 0),(.int .i64 0),(.int .u64 0)]),jw 3 5 12,jm 6 13] [6]
(jq [jm 14 6,jm 4 14] [4]
.ret)))⟩
def ZdX : IFn:=⟨[.tmp 6,.tmp 7],
(jq [jk 6 .u64 0,jk 7 .i64 0] [0,1,2]
(jq [jm 11 0,jm 12 1,js 13 (.bslice 1 1 [(.int .u64 0)] [(0,1,(.t 12))]),jc 14 95 [11,13],jm 10 14,je 15 10 0,je 16 10 1,js 8 (.alloc [(.int .i64 0),(.int .i64 0),(.int .u64 0)]),jw 3 8 15,jm 9 16] [1,2,8,9]
(.seq (jq [jm 17 9,ji 18 .neq 17 .i64 0] [1,2,8,9,18]
(jC 18
(jq [jm 19 9,jk 6 .u64 0,jm 7 19] [6,7]
.ret)
.skip))
(.seq (jq [jL 20 3 8,jm 21 1,jc 22 201 [20,21],ji 23 .eql 22 .u8 5] [2,8,23]
(jC 23
(jq [jL 24 3 8,jc 25 204 [24],jm 6 25,jk 7 .i64 0] [6,7]
.ret)
.skip))
(jq [jm 26 2,jL 27 3 8,js 28 (.call true (.t 26) [(.t 27)]),jm 6 28,jk 7 .i64 0] [6,7]
.ret)))))⟩
def ZgW : IFn:=⟨[.tmp 3],
(jq [jx 2 3 0,jk 3 .u64 0] [1,2]
(jq [jl 4 1 1,jf 5 2 2,jl 6 1 5,jb 7 .xor 4 6,jm 3 7] [3]
.ret))⟩
structure HasJ (gdb : Nat) (T : Tbl) : Prop where
 Zlp : T 252 = some Zgf
 ZnF : T 257 = some Zge
 ZkO : T 260 = some ZdS
 ZkS : T 268 = some ZaL
 Zeb : T 269 = some ZcD
 Zdm : T 270 = some Zck
 ZcL : T 271 = some ZdI
 Zpx : T 272 = some Zhx
 ZkR : T 277 = some Zax
 Zbg : T 278 = some ZcC
 Zea : T 279 = some ZcB
 ZiO : T 283 = some ZfM
 special_open : T 289 = some ZeT
 ZdG : T 290 = some ZeS
 ZcP : T 291 = some ZdU
 ZcQ : T 292 = some ZbY
 ZbT : T 293 = some ZbZ
 Zec : T 294 = some ZbO
 ZeV : T 295 = some Zbm
 ZiF : T 296 = some Zfy
 Zcr : T 302 = some ZbJ
 ZlE : T 304 = some Zes
 ZeY : T 307 = some ZaX
 Zbl : T 308 = some ZbK
 ZcR : T 309 = some ZaO
 Znc : T 310 = some ZhE
 Zmc : T 312 = some Zix
 word_turned : T 313 = some ZdX
 word_Neg_1 : T 315 = some ZgW
end Go.Cv
namespace Go.Cv
end Go.Cv
namespace Go.Cv
def Zek : IFn:=primFn .of32
def ZgA : IFn:=primFn .b32
def Zel : IFn:=primFn .of64
def ZgB : IFn:=primFn .b64
def Zbj : IFn:=primFn .ald
def Zbs : IFn:=primFn .aadd
def Znl : IFn:=primFn .sqrt
structure HasL (gdb : Nat) (T : Tbl) : Prop where
 math_Float32frombits : T 370 = some Zek
 math_Float32bits : T 371 = some ZgA
 math_Float64frombits : T 373 = some Zel
 math_Float64bits : T 374 = some ZgB
 sync_atomic_LoadUint64 : T 389 = some Zbj
 sync_atomic_AddUint64 : T 391 = some Zbs
 math_sqrt : T 392 = some Znl
end Go.Cv
namespace Go.Cv
def Zba : IFn:=⟨[.tmp 4],
(jq [jx 3 2 1,jv 4 false] [0,3]
(jq [jm 13 0,js 14 (.call true (.f 328) [(.t 13)]),jm 12 14,je 15 12 0,je 16 12 1,jm 5 15,jm 6 16] [0,3,5,6]
(.seq (jq [jm 17 0,jc 18 27 [17],js 19 (.un .not (.t 18))] [0,3,5,6,19]
(jC 19
(jq [jm 20 5,js 21 (.eqn false (.t 20)),jm 22 21,jg (jm 23 6) 22 true,jg (ji 24 .eql 23 .i64 4) 22 true,jp 25 22 24,jm 26 25,jg (jc 27 329 []) 26 true,jp 28 26 27,jm 4 28] [4]
.ret)
.skip))
(.seq (jq [jm 29 5,js 30 (.eqn false (.t 29)),jm 31 30,jg (jm 32 6) 31 false,jg (ji 33 .neq 32 .i64 0) 31 false,jP 34 31 33] [0,3,5,34]
(jC 34
(jq [jv 4 false] [4]
.ret)
.skip))
(jq [jm 36 5,jL 37 2 3,js 38 (.call true (.f 337) [(.t 36),(.t 37)]),jm 35 38,je 39 35 0,je 40 35 1,jm 7 39,jm 8 40] [0,3,5,7,8]
(.seq (jq [jm 41 0,jL 42 2 3,js 43 (.bslice 1 2 [(.int .u64 0),(.int .u64 0)] [(0,2,(.t 42))]),jc 44 185 [41,43],jm 9 44] [0,3,5,7,8,9]
(jq [jm 45 9,ji 46 .neq 45 .i64 0] [0,3,5,7,8,9,46]
(jC 46
(jq [jm 47 7,ji 48 .eql 47 .u64 0,jm 49 48,jg (jm 50 8) 49 true,jg (jm 51 9) 49 true,jg (jb 52 .eql 50 51) 49 true,jp 53 49 52,jm 54 53,jg (jm 55 5) 54 true,jg (js 56 (.call true (.f 331) [(.t 55)])) 54 true,jg (ji 57 .eql 56 .u64 0) 54 true,jp 58 54 57,jm 59 58,jg (jc 60 329 []) 59 true,jp 61 59 60,jm 4 61] [4]
.ret)
.skip)))
(jq [jm 63 0,jL 64 2 3,js 65 (.call false (.f 227) [(.t 63),(.c (.int .u8 1)),(.t 64)]),jm 62 65,je 66 62 0,je 67 62 1,jm 10 66,jm 11 67] [0,3,5,7,8,10]
(.seq (jq [jm 68 0,jL 69 2 3,jc 70 332 [68,69],js 71 (.un .not (.t 70))] [0,5,7,8,10,71]
(jC 71
(jq [jm 72 7,jm 73 10,jb 74 .eql 72 73,jm 75 74,jg (jm 76 8) 75 true,jg (ji 77 .eql 76 .i64 0) 75 true,jp 78 75 77,jm 79 78,jg (jm 80 5) 79 true,jg (js 81 (.call true (.f 331) [(.t 80)])) 79 true,jg (ji 82 .eql 81 .u64 1) 79 true,jp 83 79 82,jm 84 83,jg (jc 85 329 []) 84 true,jp 86 84 85,jm 4 86] [4]
.ret)
.skip))
(jq [jm 87 8,ji 88 .eql 87 .i64 0,jm 89 88,jg (jm 90 5) 89 true,jg (js 91 (.call true (.f 331) [(.t 90)])) 89 true,jg (ji 92 .eql 91 .u64 0) 89 true,jp 93 89 92,jm 94 93,jg (jm 95 0) 94 true,jg (jm 96 7) 94 true,jg (jc 97 149 [95,96]) 94 true,jg (ji 98 .eql 97 .i64 0) 94 true,jp 99 94 98,jm 100 99,jg (jm 101 0) 100 true,jg (jm 102 7) 100 true,jg (jc 103 150 [101,102]) 100 true,jp 104 100 103,jm 105 104,jg (jm 106 0) 105 true,jg (jm 107 7) 105 true,jg (jc 108 156 [106,107]) 105 true,jg (js 109 (.field false 0 1 (.t 108))) 105 true,jg (js 110 (.un .not (.t 109))) 105 true,jp 111 105 110,jm 112 111,jg (jm 113 0) 112 true,jg (jm 114 7) 112 true,jg (jm 115 10) 112 true,jg (jc 116 260 [113,114,115]) 112 true,jg (ji 117 .leq 116 .u64 2) 112 true,jp 118 112 117,jm 119 118,jg (jc 120 329 []) 119 true,jp 121 119 120,jm 4 121] [4]
.ret)))))))))⟩
def Zag : IC :=
(.seq (jq [jm 59 10,jm 60 1,jn 61 60,jb 62 .lss 59 61,jm 63 62,jg (jm 64 10) 63 true,jg (ji 65 .lss 64 .i64 200) 63 true,jp 66 63 65] [0,1,5,7,9,10,66]
(jC 66
.skip
(.exit 0)))
(.seq (.block 1
(jq [jm 69 1,jm 70 10,ja 71 5 69 70,jL 72 5 71,js 11 (.alloc [(.int .i64 0),(.int .u64 0),(.int .u64 0),(.int .u64 0),(.int .u64 0)]),jw 5 11 72] [0,1,5,7,9,10,11]
(jq [jm 73 0,jf 74 1 11,jL 75 2 74,js 76 (.bslice 1 2 [(.int .u64 0),(.int .u64 0)] [(0,2,(.t 75))]),jc 77 185 [73,76],jm 12 77] [0,1,5,7,9,10,11,12]
(jq [jm 78 12,ji 79 .eql 78 .i64 0,jm 80 79,jg (jm 81 0) 80 true,jg (jf 82 1 11) 80 true,jg (jL 83 2 82) 80 true,jg (jc 84 332 [81,83]) 80 true,jp 85 80 84,jm 13 85] [0,1,5,7,9,10,11,12,13]
(jq [jk 14 .i64 0] [0,1,5,7,9,10,11,12,13]
(.seq (jq [jf 86 0 11,jl 87 1 86] [0,1,5,7,9,10,11,12,13,87]
(.block 2
(jq [ji 96 .eql 87 .i64 0,jm 95 96] [0,1,5,7,9,10,11,12,13,87,95]
(jC 95
(jr [jm 98 5,jf 99 1 11,jL 100 2 99,jf 101 3 11,jL 102 2 101,js 103 (.call true (.f 330) [(.t 98),(.t 100),(.t 102)]),jm 97 103,je 104 97 0,je 105 97 1,jm 14 105] [0,1,5,7,9,10,11,12,13,14])
(jq [ji 107 .eql 87 .i64 1,jm 106 107] [0,1,5,7,9,10,11,12,13,106]
(jC 106
(jr [jm 109 5,jf 110 1 11,jL 111 2 110,jf 112 3 11,jL 113 2 112,js 114 (.call true (.f 335) [(.t 109),(.t 111),(.t 113)]),jm 108 114,je 115 108 0,je 116 108 1,jm 14 116] [0,1,5,7,9,10,11,12,13,14])
(jr [jm 89 5,jf 90 1 11,jL 91 2 90,js 92 (.call true (.f 337) [(.t 89),(.t 91)]),jm 88 92,je 93 88 0,je 94 88 1,jm 14 94] [0,1,5,7,9,10,11,12,13,14])))))))
(.seq (jq [jf 117 0 11,jl 118 1 117,ji 119 .eql 118 .i64 0,jm 120 119,jg (jf 121 0 11) 120 false,jg (jl 122 1 121) 120 false,jg (ji 123 .eql 122 .i64 1) 120 false,jP 124 120 123] [0,1,5,7,9,10,11,12,13,14,124]
(jC 124
(jq [jm 125 0,jf 126 1 11,jL 127 2 126,jf 128 3 11,jL 129 2 128,js 130 (.bslice 2 2 [(.int .u64 0),(.int .u64 0)] [(0,2,(.t 127)),(2,2,(.t 129))]),jc 131 185 [125,130],jm 12 131] [0,1,5,7,9,10,11,12,13,14]
(jr [jm 132 12,ji 133 .eql 132 .i64 0,jm 134 133,jg (jm 135 13) 134 true,jp 136 134 135,jm 137 136,jg (jm 138 0) 137 true,jg (jf 139 3 11) 137 true,jg (jL 140 2 139) 137 true,jg (jc 141 332 [138,140]) 137 true,jp 142 137 141,jm 13 142] [0,1,5,7,9,10,12,13,14]))
.skip))
(.seq (jq [jm 143 12,ji 144 .eql 143 .i64 0,jm 145 144,jg (jm 146 13) 145 true,jg (js 147 (.un .not (.t 146))) 145 true,jp 148 145 147] [0,1,5,7,9,10,12,14,148]
(jC 148
(jr [jm 149 9,ji 150 .add 149 .u64 1,jm 9 150] [0,1,5,7,9,10,12,14])
.skip))
(jq [jm 151 14,jm 152 12,jb 153 .neq 151 152,jm 154 153,jg (jm 155 5) 154 false,jg (js 156 (.call true (.f 331) [(.t 155)])) 154 false,jg (jm 157 9) 154 false,jg (jb 158 .neq 156 157) 154 false,jP 159 154 158,jm 160 159,jg (jm 161 7) 160 false,jg (js 162 (.call true (.f 331) [(.t 161)])) 160 false,jg (ji 163 .neq 162 .u64 0) 160 false,jP 164 160 163] [0,1,5,7,9,10,164]
(jC 164
(jq [jv 4 false] [4]
.ret)
.skip))))))))))
(jr [jm 67 10,ji 68 .add 67 .i64 1,jm 10 68] [0,1,5,7,9,10])))
def Zaj : IC:=.loop [0,1,5,7,9,10] Zag
def ZbC : IFn:=⟨[.tmp 4],
(jq [jv 4 false] [0,1]
(jq [jm 16 0,js 17 (.call true (.f 328) [(.t 16)]),jm 15 17,je 18 15 0,je 19 15 1,jm 5 18,jm 6 19] [0,1,5,6]
(jq [jm 21 0,js 22 (.call true (.f 328) [(.t 21)]),jm 20 22,je 23 20 0,je 24 20 1,jm 7 23,jm 8 24] [0,1,5,6,7,8]
(.seq (jq [jm 25 0,jc 26 27 [25],js 27 (.un .not (.t 26))] [0,1,5,6,7,8,27]
(jC 27
(jq [jm 28 5,js 29 (.eqn false (.t 28)),jm 30 29,jg (jm 31 6) 30 true,jg (ji 32 .eql 31 .i64 4) 30 true,jp 33 30 32,jm 34 33,jg (jm 35 7) 34 true,jg (js 36 (.eqn false (.t 35))) 34 true,jp 37 34 36,jm 38 37,jg (jm 39 8) 38 true,jg (ji 40 .eql 39 .i64 4) 38 true,jp 41 38 40,jm 42 41,jg (jc 43 329 []) 42 true,jp 44 42 43,jm 4 44] [4]
.ret)
.skip))
(.seq (jq [jm 45 5,js 46 (.eqn false (.t 45)),jm 47 46,jg (jm 48 7) 47 false,jg (js 49 (.eqn false (.t 48))) 47 false,jP 50 47 49,jm 51 50,jg (jm 52 6) 51 false,jg (ji 53 .neq 52 .i64 0) 51 false,jP 54 51 53,jm 55 54,jg (jm 56 8) 55 false,jg (ji 57 .neq 56 .i64 0) 55 false,jP 58 55 57] [0,1,5,7,58]
(jC 58
(jq [jv 4 false] [4]
.ret)
.skip))
(jq [jk 9 .u64 0] [0,1,5,7,9]
(.seq (jq [jk 10 .i64 0] [0,1,5,7,9,10]
(.block 0
 Zaj))
(jq [jc 165 329 [],jm 4 165] [4]
.ret))))))))⟩
def ZcE : IFn:=⟨[.tmp 2,.tmp 3],
(jq [js 2 (.mov (.c .np)),jk 3 .i64 0] [0]
(.seq (jq [jm 7 0,jc 8 338 [7],jm 6 8,je 9 6 0,je 10 6 1,jm 4 9,jm 5 10] [0,5]
(jq [jm 11 5,ji 12 .neq 11 .i64 0] [0,5,12]
(jC 12
(jq [jm 13 5,js 2 (.mov (.c .np)),jm 3 13] [2,3]
.ret)
.skip)))
(jq [jm 14 0,js 15 (.build [(.int .u8 0),(.int .u64 0)] [(0,1,(.t 14))]),jx 16 2 15,jm 2 16,jk 3 .i64 0] [2,3]
.ret)))⟩
def Zfz : IFn:=⟨[.tmp 0],
(jq [jv 0 false] []
(jq [js 6 (.call true (.f 328) [(.c (.int .u8 2))]),jm 5 6,je 7 5 0,je 8 5 1,jm 1 7,jm 2 8] [1,2]
(.seq (jq [jm 9 1,js 10 (.eqn false (.t 9)),jm 11 10,jg (jm 12 2) 11 false,jg (ji 13 .neq 12 .i64 0) 11 false,jP 14 11 13] [1,14]
(jC 14
(jq [jv 0 false] [0]
.ret)
.skip))
(jq [jm 16 1,js 17 (.build [(.int .u64 0),(.int .u64 0)] [(0,1,(.c (.int .u64 9218868437227405312)))]),js 18 (.build [(.int .u64 0),(.int .u64 0)] [(0,1,(.c (.int .u64 4607182418800017408))),(1,1,(.c (.int .u64 4607182418800017408)))]),js 19 (.call true (.f 330) [(.t 16),(.t 17),(.t 18)]),jm 15 19,je 20 15 0,je 21 15 1,js 3 (.alloc [(.int .u64 0),(.int .u64 0)]),jw 2 3 20,jm 4 21] [1,3,4]
(jq [jL 22 2 3,js 23 (.build [(.int .u64 0),(.int .u64 0)] [(0,1,(.c (.int .u64 9218868437227405312))),(1,1,(.c (.int .u64 9218868437227405312)))]),js 24 (.eqs false [false,false] (.t 22) (.t 23)),jm 25 24,jg (jm 26 4) 25 true,jg (ji 27 .eql 26 .i64 0) 25 true,jp 28 25 27,jm 29 28,jg (jm 30 1) 29 true,jg (js 31 (.call true (.f 331) [(.t 30)])) 29 true,jg (ji 32 .eql 31 .u64 1) 29 true,jp 33 29 32,jm 0 33] [0]
.ret)))))⟩
def Zao : IFn:=⟨[.cell 6 true 2,.tmp 7],
(jq [jx 4 2 1,jx 5 2 2,js 6 (.alloc [(.int .u64 0),(.int .u64 0)]),jk 7 .i64 0] [0,4,5,6]
(jq [jm 8 0,jL 9 2 4,jL 10 2 5,js 11 (.build [.nf,.nf] [(0,1,(.f 361)),(1,1,(.f 362))]),js 12 (.call true (.f 360) [(.t 8),(.t 9),(.t 10),(.t 11),(.f 252)]),je 13 12 0,je 14 12 1,jw 2 6 13,jm 7 14] [6,7]
.ret))⟩
def ZaG : IFn:=⟨[.tmp 2],
(jq [jk 2 .u64 0] [0]
(.seq (jq [jm 3 0,js 4 (.eqn false (.t 3))] [0,4]
(jC 4
(jq [jk 2 .u64 0] [2]
.ret)
.skip))
(jq [jm 5 0,js 6 (.nck (.t 5)),jf 7 1 6,js 8 (.call true (.f 363) [(.t 7)]),jm 2 8] [2]
.ret)))⟩
def ZfW : IFn:=⟨[.tmp 4],
(jq [jx 3 2 1,jv 4 false] [0,3]
(jq [jm 5 0,jf 6 0 3,jl 7 1 6,jc 8 364 [5,7],jm 9 8,jg (jm 10 0) 9 true,jg (jf 11 1 3) 9 true,jg (jl 12 1 11) 9 true,jg (jc 13 364 [10,12]) 9 true,jp 14 9 13,jm 4 14] [4]
.ret))⟩
def Zan : IFn:=⟨[.cell 6 true 2,.tmp 7],
(jq [jx 4 2 1,jx 5 2 2,js 6 (.alloc [(.int .u64 0),(.int .u64 0)]),jk 7 .i64 0] [0,4,5,6]
(jq [jm 8 0,jL 9 2 4,jL 10 2 5,js 11 (.build [.nf,.nf] [(0,1,(.f 366)),(1,1,(.f 367))]),js 12 (.call true (.f 360) [(.t 8),(.t 9),(.t 10),(.t 11),(.f 257)]),je 13 12 0,je 14 12 1,jw 2 6 13,jm 7 14] [6,7]
.ret))⟩
def Zai : IFn:=⟨[.tmp 4,.tmp 5],
(jq [jx 3 2 1,jk 4 .u64 0,jk 5 .i64 0] [0,3]
(jq [jm 17 0,jL 18 2 3,js 19 (.bslice 1 2 [(.int .u64 0),(.int .u64 0)] [(0,2,(.t 18))]),js 20 (.call true (.f 368) [(.t 17),(.t 19)]),jm 16 20,je 21 16 0,je 22 16 1,jm 6 21,jm 7 22] [0,3,6,7]
(.seq (jq [jm 23 7,ji 24 .neq 23 .i64 0] [0,3,6,7,24]
(jC 24
(jq [jm 25 7,jk 4 .u64 0,jm 5 25] [4,5]
.ret)
.skip))
(.seq (jq [jm 26 6,js 27 (.un .not (.t 26))] [0,3,27]
(jC 27
(jq [jm 28 0,js 29 (.nck (.t 28)),jf 30 1 29,js 31 (.call true (.f 369) [(.t 30),(.c (.int .u64 1))])] [0,3]
(jq [jm 33 0,js 34 (.nck (.t 33)),jf 35 0 34,jl 36 1 35,jL 37 2 3,js 38 (.call false (.f 169) [(.t 36),(.c (.int .u8 1)),(.t 37)]),jm 32 38,je 39 32 0,je 40 32 1,je 41 32 2,jm 8 39,jm 9 40,jm 10 41] [8,10]
(jq [jm 42 8,jm 43 10,jm 4 42,jm 5 43] [4,5]
.ret)))
.skip))
(.seq (jq [jm 44 0,js 45 (.nck (.t 44)),jf 46 0 45,jl 47 1 46,ji 48 .eql 47 .u8 1] [3,48]
(jC 48
(jq [jf 49 0 3,jl 50 1 49,js 51 (.cvt .u32 (.t 50)),jc 52 370 [51],jf 53 1 3,jl 54 1 53,js 55 (.cvt .u32 (.t 54)),jc 56 370 [55],jm 11 52,jm 12 56] [11,12]
(jq [jm 57 11,jm 58 11,js 59 (.fbin .mul .f32 (.t 57) (.t 58)),jm 60 12,jm 61 12,js 62 (.fbin .mul .f32 (.t 60) (.t 61)),js 63 (.fbin .add .f32 (.t 59) (.t 62)),jm 13 63] [13]
(jq [jm 64 13,js 65 (.fcv .f32 .f64 (.t 64)),jc 66 372 [65],js 67 (.fcv .f64 .f32 (.t 66)),jc 68 371 [67],js 69 (.cvt .u64 (.t 68)),jm 4 69,jk 5 .i64 0] [4,5]
.ret)))
.skip))
(jq [jf 70 0 3,jl 71 1 70,jc 72 373 [71],jf 73 1 3,jl 74 1 73,jc 75 373 [74],jm 14 72,jm 15 75] [14,15]
(jq [jm 76 14,jm 77 14,js 78 (.fbin .mul .f64 (.t 76) (.t 77)),jm 79 15,jm 80 15,js 81 (.fbin .mul .f64 (.t 79) (.t 80)),js 82 (.fbin .add .f64 (.t 78) (.t 81)),jc 83 372 [82],jc 84 374 [83],jm 4 84,jk 5 .i64 0] [4,5]
.ret)))))))⟩
def ZcF : IFn:=⟨[.tmp 2,.tmp 3],
(jq [jk 2 .i64 0,jk 3 .i64 0] [0]
(.seq (jq [jm 4 0] [4]
(.block 0
(jq [ji 6 .eql 4 .u8 1,jm 5 6] [4,5]
(jC 5
(jq [jk 2 .i64 20,jk 3 .i64 0] [2,3]
.ret)
(jq [ji 8 .eql 4 .u8 2,jm 7 8] [7]
(jC 7
(jq [jk 2 .i64 200,jk 3 .i64 0] [2,3]
.ret)
.skip))))))
(jq [jk 2 .i64 0,jk 3 .i64 4] [2,3]
.ret)))⟩
def ZaW : IC :=
(jq [ji 50 .lss 49 .i64 2] [0,6,11,13,48,49,50]
(.seq (jC 50
.skip
(.exit 0))
(.seq (.block 1
(jq [js 51 (.index false 2 1 (.t 48) (.t 49)),jm 15 51] [0,6,11,13,15,48,49]
(jq [jm 53 0,jm 54 15,jc 55 192 [53,54],jm 52 55,je 56 52 0,je 57 52 1,jw 3 11 56] [0,6,11,13,48,49]
(jq [jf 58 1 11,jl 59 1 58,jm 60 13,jm 61 6,jb 62 .sub 60 61,js 63 (.mm true (.c (.int .i64 1)) [(.t 62)]),jb 64 .lss 59 63,jm 65 64,jg (jf 66 1 11) 65 false,jg (jl 67 1 66) 65 false,jg (jm 68 13) 65 false,jg (jm 69 6) 65 false,jg (jb 70 .add 68 69) 65 false,jg (jb 71 .gtr 67 70) 65 false,jP 72 65 71] [0,6,11,13,48,49,72]
(jC 72
(jq [jv 4 false,jk 5 .i64 0] [4,5]
.ret)
.skip)))))
(jr [ji 73 .add 49 .i64 1,jm 49 73] [0,6,11,13,48,49]))))
def Zjc : IC:=.loop [0,6,11,13,48,49] ZaW
def ZbB : IFn:=⟨[.tmp 4,.tmp 5],
(jq [jx 3 2 1,jv 4 false,jk 5 .i64 0] [0,3]
(jq [jm 17 0,jc 18 338 [17],jm 16 18,je 19 16 0,je 20 16 1,jm 6 19,jm 7 20] [0,3,6,7]
(.seq (jq [jm 21 7,ji 22 .neq 21 .i64 0] [0,3,6,7,22]
(jC 22
(jq [jm 23 7,jv 4 false,jm 5 23] [4,5]
.ret)
.skip))
(.seq (jq [jm 24 0,jL 25 2 3,jc 26 304 [24,25],jm 8 26] [0,3,6,8]
(jq [jm 27 8,ji 28 .neq 27 .i64 0] [0,3,6,8,28]
(jC 28
(jq [jm 29 8,jv 4 false,jm 5 29] [4,5]
.ret)
.skip)))
(jq [jm 31 0,js 32 (.call false (.f 26) [(.t 31),(.c (.bool false))]),jm 30 32,je 33 30 0,je 34 30 1,jm 9 33,jm 10 34] [0,3,6,9]
(jq [jm 36 0,jm 37 9,jc 38 192 [36,37],jm 35 38,je 39 35 0,je 40 35 1,js 11 (.alloc [(.bool false),(.int .i64 0),(.int .u64 0)]),jw 3 11 39,jm 12 40] [0,3,6,11]
(jq [jf 41 1 11,jl 42 1 41,ji 43 .quo 42 .i64 2,jm 13 43] [0,3,6,11,13]
(.seq (jq [jf 44 0 3,jl 45 1 44,jf 46 1 3,jl 47 1 46,js 48 (.build [(.int .u64 0),(.int .u64 0)] [(0,1,(.t 45)),(1,1,(.t 47))]),jk 49 .i64 0] [0,6,11,13,48,49]
(.block 0
 Zjc))
(jq [jv 4 true,jk 5 .i64 0] [4,5]
.ret)))))))))⟩
def Zde : IFn:=⟨[.tmp 2],
(jq [jk 2 .i64 0] [0]
(.seq (jq [jm 3 0,ji 4 .eql 3 .u8 1] [4]
(jC 4
(jq [jk 2 .i64 20] [2]
.ret)
.skip))
(jq [jk 2 .i64 200] [2]
.ret)))⟩
def Zak : IFn:=⟨[.cell 10 true 2,.tmp 11],
(jq [jx 6 2 1,jx 7 2 2,jx 8 2 3,js 10 (.alloc [(.int .u64 0),(.int .u64 0)]),jk 11 .i64 0] [0,4,6,7,8,10]
(jq [jm 16 0,jL 17 2 6,jL 18 2 7,js 19 (.bslice 2 2 [(.int .u64 0),(.int .u64 0)] [(0,2,(.t 17)),(2,2,(.t 18))]),js 20 (.call true (.f 368) [(.t 16),(.t 19)]),jm 15 20,je 21 15 0,je 22 15 1,jm 12 21,jm 13 22] [0,4,6,7,8,10,12,13]
(.seq (.block 0
(jq [jm 24 13,ji 25 .neq 24 .i64 0,jm 23 25] [0,4,6,7,8,10,12,13,23]
(jC 23
(jq [js 26 (.build [(.int .u64 0),(.int .u64 0)] []),jm 27 13,jw 2 10 26,jm 11 27] [10,11]
.ret)
(jq [jm 29 12,jm 28 29] [0,4,6,7,8,10,28]
(jC 28
(jq [jL 30 2 8,jm 31 0,js 32 (.nck (.t 31)),jf 33 0 32,jl 34 1 33,jL 35 2 6,jL 36 2 7,jc 37 388 [30,34,35,36],jw 2 10 37,jk 11 .i64 0] [10,11]
.ret)
.skip)))))
(jq [jm 38 0,js 39 (.nck (.t 38)),jf 40 1 39,js 41 (.call true (.f 369) [(.t 40),(.c (.int .u64 1))])] [0,4,6,7,10]
(jq [jm 43 4,jm 44 0,js 45 (.nck (.t 44)),jf 46 0 45,jl 47 1 46,jL 48 2 6,jL 49 2 7,js 50 (.call false (.t 43) [(.t 47),(.c (.int .u8 1)),(.t 48),(.t 49)]),jm 42 50,je 51 42 0,je 52 42 1,js 14 (.alloc [(.int .u64 0),(.int .u64 0),(.int .u8 0),(.int .u8 0)]),jw 4 14 51,jm 13 52] [10,13,14]
(jq [jf 53 0 14,jL 54 2 53,jm 55 13,jw 2 10 54,jm 11 55] [10,11]
.ret))))))⟩
def Zcn : IFn:=⟨[.tmp 8,.tmp 9],
(jq [js 8 (.mov (.c (.fl .f32 0))),js 9 (.mov (.c (.fl .f32 0)))] [0,1,2,3]
(jq [jm 10 0,jm 11 2,js 12 (.fbin .mul .f32 (.t 10) (.t 11)),jm 13 1,jm 14 3,js 15 (.fbin .mul .f32 (.t 13) (.t 14)),js 16 (.fbin .sub .f32 (.t 12) (.t 15)),jm 17 0,jm 18 3,js 19 (.fbin .mul .f32 (.t 17) (.t 18)),jm 20 1,jm 21 2,js 22 (.fbin .mul .f32 (.t 20) (.t 21)),js 23 (.fbin .add .f32 (.t 19) (.t 22)),jm 8 16,jm 9 23] [8,9]
.ret))⟩
def Zco : IFn:=⟨[.tmp 8,.tmp 9],
(jq [js 8 (.mov (.c (.fl .f64 0))),js 9 (.mov (.c (.fl .f64 0)))] [0,1,2,3]
(jq [jm 10 0,jm 11 2,js 12 (.fbin .mul .f64 (.t 10) (.t 11)),jm 13 1,jm 14 3,js 15 (.fbin .mul .f64 (.t 13) (.t 14)),js 16 (.fbin .sub .f64 (.t 12) (.t 15)),jm 17 0,jm 18 3,js 19 (.fbin .mul .f64 (.t 17) (.t 18)),jm 20 1,jm 21 2,js 22 (.fbin .mul .f64 (.t 20) (.t 21)),js 23 (.fbin .add .f64 (.t 19) (.t 22)),jm 8 16,jm 9 23] [8,9]
.ret))⟩
def Zay : IFn:=⟨[.tmp 2],
(jq [jk 2 .u64 0] [0]
(jq [jm 3 0,js 4 (.nck (.t 3)),jf 5 0 4,js 6 (.call true (.f 389) [(.t 5)]),jm 2 6] [2]
.ret))⟩
def ZbP : IFn:=⟨[.tmp 4],
(jq [jv 4 false] [0,1]
(jq [jm 6 0,jm 7 1,jc 8 156 [6,7],js 9 (.field false 1 1 (.t 8)),jm 10 0,jc 11 63 [10],ji 12 .quo 11 .i64 2,jb 13 .sub 9 12,jm 5 13] [0,1,5]
(jq [jm 14 0,jm 15 1,jc 16 155 [14,15],ji 17 .eql 16 .u8 3,jm 18 17,jg (jm 19 5) 18 true,jg (jm 20 0) 18 true,jg (jc 21 340 [20]) 18 true,jg (js 22 (.un .neg (.t 21))) 18 true,jg (jb 23 .geq 19 22) 18 true,jp 24 18 23,jm 25 24,jg (jm 26 5) 25 true,jg (jm 27 0) 25 true,jg (jc 28 340 [27]) 25 true,jg (jb 29 .leq 26 28) 25 true,jp 30 25 29,jm 4 30] [4]
.ret)))⟩
def Zcl : IFn:=⟨[.tmp 8,.tmp 9],
(jq [js 8 (.mov (.c (.fl .f32 0))),js 9 (.mov (.c (.fl .f32 0)))] [0,1,2,3]
(jq [jm 11 2,jm 12 2,js 13 (.fbin .mul .f32 (.t 11) (.t 12)),jm 14 3,jm 15 3,js 16 (.fbin .mul .f32 (.t 14) (.t 15)),js 17 (.fbin .add .f32 (.t 13) (.t 16)),jm 10 17] [0,1,2,3,10]
(jq [jm 18 0,jm 19 2,js 20 (.fbin .mul .f32 (.t 18) (.t 19)),jm 21 1,jm 22 3,js 23 (.fbin .mul .f32 (.t 21) (.t 22)),js 24 (.fbin .add .f32 (.t 20) (.t 23)),jm 25 10,js 26 (.fbin .quo .f32 (.t 24) (.t 25)),jm 27 1,jm 28 2,js 29 (.fbin .mul .f32 (.t 27) (.t 28)),jm 30 0,jm 31 3,js 32 (.fbin .mul .f32 (.t 30) (.t 31)),js 33 (.fbin .sub .f32 (.t 29) (.t 32)),jm 34 10,js 35 (.fbin .quo .f32 (.t 33) (.t 34)),jm 8 26,jm 9 35] [8,9]
.ret)))⟩
def Zcm : IFn:=⟨[.tmp 8,.tmp 9],
(jq [js 8 (.mov (.c (.fl .f64 0))),js 9 (.mov (.c (.fl .f64 0)))] [0,1,2,3]
(jq [jm 11 2,jm 12 2,js 13 (.fbin .mul .f64 (.t 11) (.t 12)),jm 14 3,jm 15 3,js 16 (.fbin .mul .f64 (.t 14) (.t 15)),js 17 (.fbin .add .f64 (.t 13) (.t 16)),jm 10 17] [0,1,2,3,10]
(jq [jm 18 0,jm 19 2,js 20 (.fbin .mul .f64 (.t 18) (.t 19)),jm 21 1,jm 22 3,js 23 (.fbin .mul .f64 (.t 21) (.t 22)),js 24 (.fbin .add .f64 (.t 20) (.t 23)),jm 25 10,js 26 (.fbin .quo .f64 (.t 24) (.t 25)),jm 27 1,jm 28 2,js 29 (.fbin .mul .f64 (.t 27) (.t 28)),jm 30 0,jm 31 3,js 32 (.fbin .mul .f64 (.t 30) (.t 31)),js 33 (.fbin .sub .f64 (.t 29) (.t 32)),jm 34 10,js 35 (.fbin .quo .f64 (.t 33) (.t 34)),jm 8 26,jm 9 35] [8,9]
.ret)))⟩
def ZaP : IC :=
(jq [jb 16 .lss 15 14] [0,6,13,14,15,16]
(.seq (jC 16
.skip
(.exit 0))
(.seq (.block 1
(jq [ja 17 2 13 15,jL 18 2 17,js 8 (.alloc [(.int .u64 0),(.int .u64 0)]),jw 2 8 18] [0,6,8,13,14,15]
(jq [jm 20 0,js 21 (.nck (.t 20)),jf 22 0 21,jl 23 1 22,jL 24 2 8,jc 25 339 [23,24],jm 19 25,je 26 19 0,je 27 19 1,jm 9 26,jm 10 27] [0,6,9,10,13,14,15]
(.seq (jq [jm 28 10,ji 29 .neq 28 .i64 0] [0,6,9,10,13,14,15,29]
(jC 29
(jq [jm 30 10,jv 4 false,jm 5 30] [4,5]
.ret)
.skip))
(jr [jm 31 6,jm 32 31,jg (jm 33 9) 32 true,jp 34 32 33,jm 6 34] [0,6,13,14,15])))))
(jr [ji 35 .add 15 .i64 1,jm 15 35] [0,6,13,14,15]))))
def Zas : IC:=.loop [0,6,13,14,15] ZaP
def Zah : IFn:=⟨[.tmp 4,.tmp 5],
(jq [jv 4 false,jk 5 .i64 0] [0,1]
(.seq (jq [jm 11 0,js 12 (.eqn false (.t 11))] [0,1,12]
(jC 12
(jq [jv 4 false,jk 5 .i64 1] [4,5]
.ret)
.skip))
(jq [jv 6 true] [0,1,6]
(.seq (jq [jm 13 1,jn 14 13,jk 15 .i64 0] [0,6,13,14,15]
(.block 0
 Zas))
(jq [jm 36 6,jm 4 36,jk 5 .i64 0] [4,5]
.ret)))))⟩
def Zat : IFn:=⟨[.tmp 4],
(jq [jk 4 .u64 0] [0,1]
(jq [jm 5 0,js 6 (.nck (.t 5)),jf 7 0 6,jm 8 1,js 9 (.call true (.f 391) [(.t 7),(.t 8)]),jm 4 9] [4]
.ret))⟩
def Zie : IFn:=⟨[.tmp 2],
(jq [js 2 (.mov (.c (.fl .f64 0)))] [0]
(jq [jm 3 0,jc 4 392 [3],jm 2 4] [2]
.ret))⟩
def Zfa : IFn:=⟨[.cell 8 true 2],
(jq [jx 4 2 0,jx 6 2 2,jx 7 2 3,js 8 (.alloc [(.int .u64 0),(.int .u64 0)])] [1,4,6,7,8]
(.seq (jq [jm 15 1,ji 16 .eql 15 .u8 1] [4,6,7,8,16]
(jC 16
(jq [js 9 (.mov (.f 398))] [4,6,7,8,9]
(jq [jf 18 0 4,jl 19 1 18,jm 20 9,jf 21 0 6,jl 22 1 21,js 23 (.call false (.t 20) [(.t 22)]),jm 24 9,jf 25 1 6,jl 26 1 25,js 27 (.call false (.t 24) [(.t 26)]),jm 28 9,jf 29 0 7,jl 30 1 29,js 31 (.call false (.t 28) [(.t 30)]),jm 32 9,jf 33 1 7,jl 34 1 33,js 35 (.call false (.t 32) [(.t 34)]),js 36 (.call false (.t 19) [(.t 23),(.t 27),(.t 31),(.t 35)]),jm 17 36,je 37 17 0,je 38 17 1,jm 10 37,jm 11 38] [8,10,11]
(jq [jm 39 10,jc 40 371 [39],js 41 (.cvt .u64 (.t 40)),jm 42 11,jc 43 371 [42],js 44 (.cvt .u64 (.t 43)),js 45 (.build [(.int .u64 0),(.int .u64 0)] [(0,1,(.t 41)),(1,1,(.t 44))]),jw 2 8 45] [8]
.ret)))
.skip))
(jq [js 12 (.mov (.f 373))] [4,6,7,8,12]
(jq [jf 47 1 4,jl 48 1 47,jm 49 12,jf 50 0 6,jl 51 1 50,js 52 (.call false (.t 49) [(.t 51)]),jm 53 12,jf 54 1 6,jl 55 1 54,js 56 (.call false (.t 53) [(.t 55)]),jm 57 12,jf 58 0 7,jl 59 1 58,js 60 (.call false (.t 57) [(.t 59)]),jm 61 12,jf 62 1 7,jl 63 1 62,js 64 (.call false (.t 61) [(.t 63)]),js 65 (.call false (.t 48) [(.t 52),(.t 56),(.t 60),(.t 64)]),jm 46 65,je 66 46 0,je 67 46 1,jm 13 66,jm 14 67] [8,13,14]
(jq [jm 68 13,jc 69 374 [68],jm 70 14,jc 71 374 [70],js 72 (.build [(.int .u64 0),(.int .u64 0)] [(0,1,(.t 69)),(1,1,(.t 71))]),jw 2 8 72] [8]
.ret)))))⟩
def ZeF : IFn:=⟨[.tmp 2],
(jq [js 2 (.mov (.c (.fl .f32 0)))] [0]
(jq [jm 3 0,js 4 (.cvt .u32 (.t 3)),jc 5 370 [4],jm 2 5] [2]
.ret))⟩
structure HasM (gdb : Nat) (T : Tbl) : Prop where
 Zjt : T 318 = some Zba
 ZiZ : T 320 = some ZbC
 fast_New : T 328 = some ZcE
 ZiH : T 329 = some Zfz
 fast_Engine_Mul : T 330 = some Zao
 fast_Engine_Falls : T 331 = some ZaG
 Zhb : T 332 = some ZfW
 fast_Engine_Div : T 335 = some Zan
 fast_Engine_Abs : T 337 = some Zai
 Zez : T 338 = some ZcF
 ZpJ : T 339 = some ZbB
 ZjI : T 340 = some Zde
 fast_Engine_ask : T 360 = some Zak
 fast_mul_float32 : T 361 = some Zcn
 fast_mul_float64 : T 362 = some Zco
 sync_atomic_Uint64_Load : T 363 = some Zay
 ZmX : T 364 = some ZbP
 fast_div_float32 : T 366 = some Zcl
 fast_div_float64 : T 367 = some Zcm
 fast_Engine_near : T 368 = some Zah
 sync_atomic_Uint64_Add : T 369 = some Zat
 Zlw : T 372 = some Zie
 fast_op_do : T 388 = some Zfa
 fast_op_do_1 : T 398 = some ZeF
end Go.Cv
namespace Go.Cv
end Go.Cv
set_option maxRecDepth 100000
namespace Go.Cv
def tblL (gdb : Nat) : List (Option IFn):=[none,
 none,
 none,
 none,
 none,
 none,
 none,
 none,
 some Zfj,
 none,
 some Zfh,
 none,
 some Zbr,
 none,
 some Zdx,
 some Ziw,
 some Zdy,
 none,
 some Zfk,
 some Zfi,
 none,
 some ZdA,
 some Zia,
 some ZeR,
 some ZaQ,
 some ZdV,
 some Zkd,
 some Zkc,
 none,
 none,
 some Ziu,
 some ZgO,
 some Zgn,
 some Ziv,
 some ZfL,
 some ZgS,
 some Zbz,
 some Zip,
 some ZeO,
 some Zdw,
 some ZjZ,
 none,
 some ZbG,
 some Zgd,
 some Zcx,
 some Zfe,
 some Zkb,
 some ZeQ,
 some Zdv,
 some Zje,
 some Zcu,
 some Zlc,
 some ZaI,
 some Zbe,
 some Zgc,
 some ZmM,
 some ZhF,
 some Ziz,
 some ZgY,
 some ZcI,
 some Zdj,
 none,
 some ZgP,
 some ZgQ,
 some Zgj,
 some ZdQ,
 some ZbX,
 some Zbb,
 some Zit,
 some Ziq,
 some Zis,
 some ZgT,
 some ZhD,
 some ZgR,
 some Zib,
 some Zgz,
 some ZkD,
 some Zct,
 some Zid,
 none,
 some Zgl,
 some ZhB,
 some Zfd,
 some Zgk,
 some Zfc,
 some ZgN,
 some Zhz,
 some ZdH,
 some Zcs,
 some ZhC,
 some Zjf,
 some ZgM,
 some ZgU,
 some ZdB,
 some ZfV,
 some Zdq,
 some Zdk,
 some ZcJ,
 some ZfN,
 some Zim,
 some Zdp,
 some Zin,
 some Zgm,
 some Zld,
 some Zlb,
 some Zjd,
 some Zle,
 some Zgg,
 some Zij,
 some Zka,
 none,
 some Zgi,
 some Zgw,
 some Zlf,
 some (ZaZ gdb),
 some ZeU,
 some Zlg,
 some Zih,
 some Zgx,
 some ZbA,
 some Zer,
 some Zgy,
 none,
 none,
 none,
 none,
 none,
 none,
 none,
 none,
 none,
 none,
 none,
 none,
 none,
 none,
 none,
 none,
 none,
 none,
 none,
 none,
 none,
 none,
 none,
 none,
 none,
 none,
 none,
 some Zff,
 some Zdd,
 some ZdR,
 none,
 none,
 some Zir,
 some ZfJ,
 some ZfK,
 some Zfg,
 some Zet,
 none,
 none,
 none,
 none,
 none,
 none,
 none,
 none,
 none,
 none,
 some ZfA,
 none,
 none,
 none,
 none,
 none,
 none,
 none,
 none,
 none,
 none,
 none,
 none,
 some ZjX,
 none,
 some ZjY,
 some Zbf,
 some Zcc,
 none,
 none,
 some Zbu,
 none,
 some Zdi,
 some ZgX,
 some ZgV,
 some ZdC,
 some ZjW,
 some Ziy,
 some ZhA,
 some Zfx,
 none,
 some ZaT,
 some ZbE,
 some ZdW,
 some Zep,
 some ZcK,
 some Zhy,
 none,
 some ZkC,
 some Zeq,
 some Zic,
 none,
 none,
 none,
 none,
 none,
 none,
 none,
 none,
 none,
 none,
 none,
 none,
 none,
 none,
 none,
 none,
 none,
 some Zeu,
 none,
 none,
 none,
 none,
 none,
 none,
 none,
 some Zdz,
 some ZeP,
 some Zbd,
 none,
 none,
 none,
 none,
 none,
 none,
 none,
 none,
 none,
 none,
 none,
 none,
 none,
 none,
 some Zgf,
 none,
 none,
 none,
 none,
 some Zge,
 none,
 none,
 some ZdS,
 none,
 none,
 none,
 none,
 none,
 none,
 none,
 some ZaL,
 some ZcD,
 some Zck,
 some ZdI,
 some Zhx,
 none,
 none,
 none,
 none,
 some Zax,
 some ZcC,
 some ZcB,
 none,
 none,
 none,
 some ZfM,
 none,
 none,
 none,
 none,
 none,
 some ZeT,
 some ZeS,
 some ZdU,
 some ZbY,
 some ZbZ,
 some ZbO,
 some Zbm,
 some Zfy,
 none,
 none,
 none,
 none,
 none,
 some ZbJ,
 none,
 some Zes,
 none,
 none,
 some ZaX,
 some ZbK,
 some ZaO,
 some ZhE,
 none,
 some Zix,
 some ZdX,
 none,
 some ZgW,
 none,
 none,
 some Zba,
 none,
 some ZbC,
 none,
 none,
 none,
 none,
 none,
 none,
 none,
 some ZcE,
 some Zfz,
 some Zao,
 some ZaG,
 some ZfW,
 none,
 none,
 some Zan,
 none,
 some Zai,
 some ZcF,
 some ZbB,
 some Zde,
 none,
 none,
 none,
 none,
 none,
 none,
 none,
 none,
 none,
 none,
 none,
 none,
 none,
 none,
 none,
 none,
 none,
 none,
 none,
 some Zak,
 some Zcn,
 some Zco,
 some Zay,
 some ZbP,
 none,
 some Zcl,
 some Zcm,
 some Zah,
 some Zat,
 some Zek,
 some ZgA,
 some Zie,
 some Zel,
 some ZgB,
 none,
 none,
 none,
 none,
 none,
 none,
 none,
 none,
 none,
 none,
 none,
 none,
 none,
 some Zfa,
 some Zbj,
 none,
 some Zbs,
 some Znl,
 none,
 none,
 none,
 none,
 none,
 some ZeF,
 none,
 none,
 none,
 none,
 none,
 none,
 none,
 none,
 none,
 none,
 none]
def tbl (gdb : Nat) : Tbl:=fun n => (tblL gdb).getD n none
theorem hasA (gdb : Nat) : HasA gdb (tbl gdb):=⟨rfl,rfl,rfl,rfl,rfl,rfl,rfl,rfl,rfl,rfl,rfl,rfl,rfl,rfl,rfl,rfl,rfl,rfl,rfl,rfl,rfl,rfl,rfl,rfl,rfl,rfl,rfl,rfl,rfl⟩
theorem hasB (gdb : Nat) : HasB gdb (tbl gdb):=⟨rfl,rfl,rfl,rfl,rfl,rfl,rfl,rfl,rfl,rfl,rfl,rfl⟩
theorem hasC (gdb : Nat) : HasC gdb (tbl gdb):=⟨rfl,rfl,rfl,rfl,rfl,rfl,rfl,rfl,rfl,rfl,rfl,rfl,rfl,rfl,rfl,rfl,rfl,rfl,rfl,rfl,rfl,rfl,rfl,rfl⟩
theorem hasD (gdb : Nat) : HasD gdb (tbl gdb):=⟨rfl,rfl,rfl,rfl,rfl,rfl,rfl,rfl,rfl,rfl,rfl,rfl,rfl,rfl,rfl,rfl,rfl,rfl,rfl,rfl,rfl,rfl⟩
theorem hasE (gdb : Nat) : HasE gdb (tbl gdb):=⟨rfl,rfl,rfl,rfl,rfl,rfl,rfl,rfl,rfl,rfl,rfl,rfl,rfl,rfl,rfl,rfl⟩
theorem hasF (gdb : Nat) : HasF gdb (tbl gdb):=⟨rfl,rfl,rfl,rfl,rfl,rfl,rfl,rfl⟩
theorem hasG (gdb : Nat) : HasG gdb (tbl gdb):=⟨rfl,rfl,rfl,rfl,rfl,rfl,rfl,rfl,rfl,rfl,rfl,rfl,rfl,rfl,rfl,rfl,rfl,rfl,rfl,rfl,rfl,rfl,rfl⟩
theorem hasH (gdb : Nat) : HasH gdb (tbl gdb):=⟨rfl,rfl,rfl,rfl⟩
theorem hasJ (gdb : Nat) : HasJ gdb (tbl gdb):=⟨rfl,rfl,rfl,rfl,rfl,rfl,rfl,rfl,rfl,rfl,rfl,rfl,rfl,rfl,rfl,rfl,rfl,rfl,rfl,rfl,rfl,rfl,rfl,rfl,rfl,rfl,rfl,rfl,rfl⟩
theorem hasL (gdb : Nat) : HasL gdb (tbl gdb):=⟨rfl,rfl,rfl,rfl,rfl,rfl,rfl⟩
theorem hasM (gdb : Nat) : HasM gdb (tbl gdb):=⟨rfl,rfl,rfl,rfl,rfl,rfl,rfl,rfl,rfl,rfl,rfl,rfl,rfl,rfl,rfl,rfl,rfl,rfl,rfl,rfl,rfl,rfl,rfl,rfl⟩
end Go.Cv
namespace Go.Cv
def ntz32 : List Nat:=[0,1,28,2,29,14,24,3,30,22,20,15,25,17,4,8,31,27,13,23,21,19,16,7,26,12,18,6,11,5,10,9]
def Glob (G : Nat→Option (List AV)) (g : Nat) : Prop:=G g = some (ntz32.map fun (d : Nat) => .int .u8 (d : Int))
structure Al (G : Nat→Option (List AV)) (T : Tbl) (g : Nat) : Prop where
 A : HasA g T
 B : HasB g T
 C : HasC g T
 D : HasD g T
 E : HasE g T
 F : HasF g T
 U : HasG g T
 H : HasH g T
 J : HasJ g T
 gl : Glob G g
end Go.Cv
