/-
 A part of the proof of the statements of this seat (texts that the law's own text leans on): no condition.
-/
import Derived.Test.YtnomgajekgfgaaaGreatDoorM5
import Derived.Test.YtnomgajekgfgaaaGreatDoorM1
import Derived.Test.YtnomgajekgfgaaaGreatDoorM6
set_option linter.unusedVariables false
set_option linter.unusedSimpArgs false
namespace Go.Cv
def Zgg : IC :=
(.seq (jq [jm 44 13,ji 45 .geq 44 .i64 0] [0,1,5,6,9,10,11,12,13,45]
(jC 45
.skip
(.exit 0)))
(.seq (.block 1
(jq [jm 49 0,jL 50 2 12,jL 51 2 5,js 52 (.call false (.f 252) [(.t 49),(.c (.int .u8 1)),(.t 50),(.t 51)]),jm 48 52,je 53 48 0,je 54 48 1,js 14 (.alloc [(.int .u64 0),(.int .u64 0),(.int .u8 0),(.int .u8 0)]),jw 4 14 53,jm 15 54] [0,1,5,6,9,10,11,12,13,14]
(jq [jm 56 0,jf 57 0 14,jL 58 2 57,jm 59 1,jm 60 13,ja 61 2 59 60,jL 62 2 61,js 63 (.call false (.f 262) [(.t 56),(.c (.int .u8 1)),(.t 58),(.t 62)]),jm 55 63,je 64 55 0,je 65 55 1,js 16 (.alloc [(.int .u64 0),(.int .u64 0),(.int .u8 0),(.int .u8 0)]),jw 4 16 64,jm 17 65] [0,1,5,6,9,10,11,12,13,14,16]
(jq [jf 66 0 16,jL 67 2 66,jw 2 12 67] [0,1,5,6,9,10,11,12,13,14]
(jr [jL 68 1 9,jL 69 1 9,jm 70 11,jm 71 10,jc 72 378 [69,70,71],jL 73 1 9,jL 74 1 9,jL 75 1 9,jL 76 1 9,jf 77 0 14,jL 78 2 77,jc 79 376 [76,78],jL 80 1 9,jL 81 2 12,jc 82 376 [80,81],jc 83 377 [75,79,82],jc 84 379 [74,83],js 85 (.call false (.f 377) [(.t 73),(.t 84),(.c (.int .u64 2))]),jc 86 377 [68,72,85],jm 11 86] [0,1,5,6,9,10,11,12,13])))))
(jr [jm 46 13,ji 47 .sub 46 .i64 1,jm 13 47] [0,1,5,6,9,10,11,12,13])))
def Zgh : IC:=.loop [0,1,5,6,9,10,11,12,13] Zgg
def Zeu : IFn:=⟨[.cell 6 true 3,.tmp 7],
(jq [jx 5 2 2,js 6 (.alloc [(.int .u64 0),(.int .u64 0),(.int .u64 0)]),jk 7 .i64 0] [0,1,5,6]
(.seq (jq [jm 18 0,jm 19 1,jL 20 2 5,jc 21 375 [18,19,20],jm 8 21] [0,1,5,6,8]
(jq [jm 22 8,ji 23 .neq 22 .i64 0] [0,1,5,6,8,23]
(jC 23
(jq [js 24 (.build [(.int .u64 0),(.int .u64 0),(.int .u64 0)] []),jm 25 8,jw 3 6 24,jm 7 25] [6,7]
.ret)
.skip)))
(.seq (jq [jm 26 1,jn 27 26,ji 28 .eql 27 .i64 0] [0,1,5,6,28]
(jC 28
(jq [js 29 (.build [(.int .u64 0),(.int .u64 0),(.int .u64 0)] []),jw 3 6 29,jk 7 .i64 0] [6,7]
.ret)
.skip))
(jq [jm 30 0,js 31 (.build [(.int .u8 0)] [(0,1,(.t 30))]),js 9 (.alloc [(.int .u8 0)]),jw 1 9 31] [0,1,5,6,9]
(jq [jL 32 1 9,jL 33 2 5,jc 34 376 [32,33],jm 10 34,jk 11 .u64 0] [0,1,5,6,9,10,11]
(jq [jm 35 1,jm 36 1,jn 37 36,ji 38 .sub 37 .i64 1,ja 39 2 35 38,jL 40 2 39,js 12 (.alloc [(.int .u64 0),(.int .u64 0)]),jw 2 12 40] [0,1,5,6,9,10,11,12]
(.seq (jq [jm 41 1,jn 42 41,ji 43 .sub 42 .i64 2,jm 13 43] [0,1,5,6,9,10,11,12,13]
(.block 0
 Zgh))
(.seq (jq [jm 87 0,jf 88 0 12,jl 89 1 88,jf 90 1 12,jl 91 1 90,jm 92 11,js 93 (.bslice 3 1 [(.int .u64 0)] [(0,1,(.t 89)),(1,1,(.t 91)),(2,1,(.t 92))]),jc 94 380 [87,93],js 95 (.un .not (.t 94))] [0,6,11,12,95]
(jC 95
(jr [jm 97 0,js 98 (.call false (.f 26) [(.t 97),(.c (.bool false))]),jm 96 98,je 99 96 0,je 100 96 1,jm 11 99] [6,11,12])
.skip))
(jq [jL 101 2 12,jm 102 11,js 103 (.build [(.int .u64 0),(.int .u64 0),(.int .u64 0)] [(0,2,(.t 101)),(2,1,(.t 102))]),jw 3 6 103,jk 7 .i64 0] [6,7]
.ret)))))))))⟩
def ZbM : IC :=
(.seq (jq [jm 27 8,jm 28 1,jn 29 28,jb 30 .lss 27 29] [0,1,5,8,30]
(jC 30
.skip
(.exit 0)))
(.seq (.block 1
(jq [jm 33 0,jm 34 1,jm 35 8,ja 36 2 34 35,jL 37 2 36,jc 38 250 [33,37],js 39 (.un .not (.t 38))] [0,1,5,8,39]
(jC 39
(jq [jk 6 .i64 7] [6]
.ret)
.skip)))
(jr [jm 31 8,ji 32 .add 31 .i64 1,jm 8 32] [0,1,5,8])))
def ZcI : IC:=.loop [0,1,5,8] ZbM
def Zba : IFn:=⟨[.tmp 6],
(jq [jx 5 2 2,jk 6 .i64 0] [0,1,5]
(.seq (jq [jm 9 0,jc 10 27 [9],js 11 (.un .not (.t 10))] [0,1,5,11]
(jC 11
(jq [jk 6 .i64 4] [6]
.ret)
.skip))
(.seq (jq [jm 12 1,jn 13 12,ji 14 .gtr 13 .i64 41] [0,1,5,14]
(jC 14
(jq [jk 6 .i64 3] [6]
.ret)
.skip))
(jq [jm 15 0,jm 16 1,jc 17 185 [15,16],jm 7 17] [0,1,5,7]
(.seq (jq [jm 18 7,ji 19 .eql 18 .i64 0] [0,1,5,7,19]
(jC 19
(jr [jm 20 0,jL 21 2 5,js 22 (.bslice 1 2 [(.int .u64 0),(.int .u64 0)] [(0,2,(.t 21))]),jc 23 185 [20,22],jm 7 23] [0,1,5,7])
.skip))
(.seq (jq [jm 24 7,ji 25 .neq 24 .i64 0] [0,1,5,7,25]
(jC 25
(jq [jm 26 7,jm 6 26] [6]
.ret)
.skip))
(.seq (jq [jk 8 .i64 0] [0,1,5,8]
(.block 0
 ZcI))
(.seq (jq [jm 40 0,jL 41 2 5,jc 42 250 [40,41],js 43 (.un .not (.t 42))] [43]
(jC 43
(jq [jk 6 .i64 7] [6]
.ret)
.skip))
(jq [jk 6 .i64 0] [6]
.ret)))))))))⟩
def Zdr : IC :=
(.seq (jq [jm 33 12,ji 34 .geq 33 .i64 0] [0,1,5,6,7,9,11,12,34]
(jC 34
.skip
(.exit 0)))
(.seq (.block 1
(jq [jm 37 0,jL 38 2 7,jL 39 2 5,js 40 (.call false (.f 256) [(.t 37),(.c (.int .u8 1)),(.t 38),(.t 39)]),js 41 (.field true 0 2 (.t 40)),js 13 (.alloc [(.int .u64 0),(.int .u64 0)]),jw 2 13 41] [0,1,5,6,7,9,11,12,13]
(jq [jm 42 0,jL 43 2 13,jm 44 1,jm 45 12,ja 46 2 44 45,jL 47 2 46,js 48 (.call false (.f 251) [(.t 42),(.c (.int .u8 1)),(.t 43),(.t 47)]),js 49 (.field true 0 2 (.t 48)),jw 2 7 49] [0,1,5,6,7,9,11,12,13]
(jq [jm 51 0,jm 52 11,jm 53 9,js 54 (.call false (.f 222) [(.t 51),(.c (.int .u8 4)),(.t 52),(.t 53)]),jm 50 54,je 55 50 0,je 56 50 1,jm 14 55,jm 15 56] [0,1,5,6,7,9,12,13,14]
(jr [jm 58 0,jm 59 14,jm 60 0,jL 61 2 13,jL 62 2 7,jc 63 381 [60,61,62],js 64 (.call false (.f 219) [(.t 58),(.c (.int .u8 4)),(.t 59),(.t 63)]),jm 57 64,je 65 57 0,je 66 57 1,jm 11 65] [0,1,5,6,7,9,11,12])))))
(jr [jm 35 12,ji 36 .sub 35 .i64 1,jm 12 36] [0,1,5,6,7,9,11,12])))
def Zfr : IC:=.loop [0,1,5,6,7,9,11,12] Zdr
def Zdq : IFn:=⟨[.cell 6 true 3],
(jq [jx 5 2 2,js 6 (.alloc [(.int .u64 0),(.int .u64 0),(.int .u64 0)])] [0,1,5,6]
(jq [js 7 (.alloc [(.int .u64 0),(.int .u64 0)])] [0,1,5,6,7]
(jq [jm 16 1,jn 17 16,ji 18 .sub 17 .i64 1,jm 8 18] [0,1,5,6,7,8]
(.seq (jq [jm 19 8,ji 20 .geq 19 .i64 0] [0,1,5,6,7,8,20]
(jC 20
(jr [jm 21 1,jm 22 8,ja 23 2 21 22,jL 24 2 23,jw 2 7 24] [0,1,5,6,7,8])
.skip))
(jq [jm 26 0,jL 27 2 5,js 28 (.call false (.f 227) [(.t 26),(.c (.int .u8 4)),(.t 27)]),jm 25 28,je 29 25 0,je 30 25 1,jm 9 29,jm 10 30] [0,1,5,6,7,8,9]
(jq [jk 11 .u64 0] [0,1,5,6,7,8,9,11]
(.seq (jq [jm 31 8,ji 32 .sub 31 .i64 1,jm 12 32] [0,1,5,6,7,9,11,12]
(.block 0
 Zfr))
(.seq (jq [jm 67 0,jL 68 2 7,jc 69 250 [67,68],js 70 (.un .not (.t 69)),jm 71 70,jg (jm 72 0) 71 false,jg (jm 73 11) 71 false,jg (jc 74 150 [72,73]) 71 false,jg (js 75 (.un .not (.t 74))) 71 false,jP 76 71 75] [0,6,7,11,76]
(jC 76
(jr [jm 77 0,js 78 (.call false (.f 30) [(.t 77),(.c (.bool false))]),jm 11 78] [6,7,11])
.skip))
(jq [jL 79 2 7,jm 80 11,js 81 (.build [(.int .u64 0),(.int .u64 0),(.int .u64 0)] [(0,2,(.t 79)),(2,1,(.t 80))]),jw 3 6 81] [6]
.ret)))))))))⟩
def Zcj : IC :=
(jq [jb 29 .lss 28 27] [0,7,26,27,28,29]
(.seq (jC 29
.skip
(.exit 0))
(.seq (.block 1
(jq [jm 30 28,ja 31 2 26 28,jL 32 2 31,js 9 (.alloc [(.int .u64 0),(.int .u64 0)]),jm 8 30,jw 2 9 32] [0,7,8,9,26,27,28]
(.seq (jq [jm 33 8,ji 34 .eql 33 .i64 0] [0,7,8,9,26,27,28,34]
(jC 34
(.exit 1)
.skip))
(jq [jm 36 0,jm 37 8,js 38 (.call false (.f 382) [(.t 36),(.c (.int .u8 1)),(.t 37)]),jm 35 38,je 39 35 0,je 40 35 1,je 41 35 2,jm 10 39,jm 11 40,jm 12 41] [0,7,9,10,26,27,28]
(jq [jm 43 0,jm 44 10,jf 45 0 9,jl 46 1 45,js 47 (.call false (.f 165) [(.t 43),(.c (.int .u8 1)),(.t 44),(.t 46)]),jm 42 47,je 48 42 0,je 49 42 1,je 50 42 2,jm 13 48,jm 14 49,jm 15 50] [0,7,9,10,13,26,27,28]
(jq [jm 52 0,jm 53 10,jf 54 1 9,jl 55 1 54,js 56 (.call false (.f 165) [(.t 52),(.c (.int .u8 1)),(.t 53),(.t 55)]),jm 51 56,je 57 51 0,je 58 51 1,je 59 51 2,jm 16 57,jm 17 58,jm 18 59] [0,7,13,16,26,27,28]
(jr [jm 60 7,jm 61 13,jm 62 16,js 63 (.build [(.int .u64 0),(.int .u64 0)] [(0,1,(.t 61)),(1,1,(.t 62))]),js 64 (.bslice 1 2 [(.int .u64 0),(.int .u64 0)] [(0,2,(.t 63))]),js 65 (.app 2 16 (.t 60) (.t 64)),jm 7 65] [0,7,26,27,28])))))))
(jr [ji 66 .add 28 .i64 1,jm 28 66] [0,7,26,27,28]))))
def Zck : IC:=.loop [0,7,26,27,28] Zcj
def Zdj : IFn:=⟨[.tmp 4,.tmp 5],
(jq [js 4 (.mov (.c .nil)),jk 5 .i64 0] [0,1]
(.seq (jq [jm 19 0,jm 20 1,js 21 (.build [(.int .u64 0),(.int .u64 0)] []),jc 22 375 [19,20,21],jm 6 22] [0,1,6]
(jq [jm 23 6,ji 24 .neq 23 .i64 0] [0,1,6,24]
(jC 24
(jq [jm 25 6,js 4 (.mov (.c .nil)),jm 5 25] [4,5]
.ret)
.skip)))
(jq [js 7 (.mov (.c .nil))] [0,1,7]
(.seq (jq [jm 26 1,jn 27 26,jk 28 .i64 0] [0,7,26,27,28]
(.block 0
 Zck))
(jq [jm 67 7,jm 4 67,jk 5 .i64 0] [4,5]
.ret)))))⟩
def ZcH : IC :=
(.seq (jq [jm 13 6,jm 14 1,jn 15 14,jb 16 .lss 13 15] [0,1,5,6,16]
(jC 16
.skip
(.exit 0)))
(.seq (.block 1
(jq [jm 20 0,jm 21 6,js 22 (.call false (.f 383) [(.t 20),(.c (.int .u8 1)),(.t 21)]),jm 19 22,je 23 19 0,je 24 19 1,jm 7 23,jm 8 24] [0,1,5,6,7]
(jq [jm 26 0,jm 27 7,jm 28 1,jm 29 6,ja 30 2 28 29,jf 31 0 30,jl 32 1 31,js 33 (.call false (.f 222) [(.t 26),(.c (.int .u8 1)),(.t 27),(.t 32)]),jm 25 33,je 34 25 0,je 35 25 1,jm 9 34,jm 10 35] [0,1,5,6,7,9]
(jq [jm 37 0,jm 38 7,jm 39 1,jm 40 6,ja 41 2 39 40,jf 42 1 41,jl 43 1 42,js 44 (.call false (.f 222) [(.t 37),(.c (.int .u8 1)),(.t 38),(.t 43)]),jm 36 44,je 45 36 0,je 46 36 1,jm 11 45,jm 12 46] [0,1,5,6,9,11]
(jr [jm 47 5,jm 48 9,jm 49 11,js 50 (.build [(.int .u64 0),(.int .u64 0)] [(0,1,(.t 48)),(1,1,(.t 49))]),js 51 (.bslice 1 2 [(.int .u64 0),(.int .u64 0)] [(0,2,(.t 50))]),js 52 (.app 2 16 (.t 47) (.t 51)),jm 5 52] [0,1,5,6])))))
(jr [jm 17 6,ji 18 .add 17 .i64 1,jm 6 18] [0,1,5,6])))
def Zek : IC:=.loop [0,1,5,6] ZcH
def ZdE : IFn:=⟨[.tmp 4],
(jq [js 4 (.mov (.c .nil))] [0,1]
(jq [js 5 (.mov (.c .nil))] [0,1,5]
(.seq (jq [jk 6 .i64 1] [0,1,5,6]
(.block 0
 Zek))
(jq [jm 53 5,jm 4 53] [4]
.ret))))⟩
def ZbU : IC :=
(jq [jb 30 .lss 29 28] [0,5,9,27,28,29,30]
(.seq (jC 30
.skip
(.exit 0))
(.seq (.block 1
(jq [ja 31 2 27 29,jL 32 2 31,js 11 (.alloc [(.int .u64 0),(.int .u64 0)]),jw 2 11 32] [0,5,9,11,27,28,29]
(jq [jm 34 0,jL 35 2 11,jc 36 189 [34,35],jm 33 36,je 37 33 0,je 38 33 1,jm 12 37,jm 13 38] [0,5,9,12,13,27,28,29]
(.seq (jq [jm 39 13,ji 40 .neq 39 .i64 0] [0,5,9,12,13,27,28,29,40]
(jC 40
(jq [jm 41 13,jm 6 41] [6]
.ret)
.skip))
(jr [jm 42 9,jm 43 42,jg (jm 44 12) 43 true,jg (ji 45 .leq 44 .u8 2) 43 true,jp 46 43 45,jm 9 46] [0,5,9,27,28,29])))))
(jr [ji 47 .add 29 .i64 1,jm 29 47] [0,5,9,27,28,29]))))
def ZbV : IC:=.loop [0,5,9,27,28,29] ZbU
def ZbT : IFn:=⟨[.tmp 6],
(jq [jx 5 2 2,jk 6 .i64 0] [0,1,5]
(.seq (jq [jm 17 0,jc 18 196 [17],jm 16 18,je 19 16 0,je 20 16 1,jm 7 19,jm 8 20] [0,1,5,8]
(jq [jm 21 8,ji 22 .neq 21 .i64 0] [0,1,5,8,22]
(jC 22
(jq [jm 23 8,jm 6 23] [6]
.ret)
.skip)))
(.seq (jq [jm 24 1,jn 25 24,ji 26 .gtr 25 .i64 41] [0,1,5,26]
(jC 26
(jq [jk 6 .i64 3] [6]
.ret)
.skip))
(jq [jv 9 true] [0,1,5,9]
(.seq (jq [jm 27 1,jn 28 27,jk 29 .i64 0] [0,5,9,27,28,29]
(.block 0
 ZbV))
(jq [jm 49 0,jL 50 2 5,jc 51 189 [49,50],jm 48 51,je 52 48 0,je 53 48 1,jm 14 52,jm 15 53] [9,14,15]
(.seq (.block 2
(jq [jm 55 15,ji 56 .neq 55 .i64 0,jm 54 56] [9,14,15,54]
(jC 54
(jq [jm 57 15,jm 6 57] [6]
.ret)
(jq [jm 59 9,js 60 (.un .not (.t 59)),jm 61 60,jg (jm 62 14) 61 false,jg (ji 63 .gtr 62 .u8 2) 61 false,jP 64 61 63,jm 58 64] [58]
(jC 58
(jq [jk 6 .i64 7] [6]
.ret)
.skip)))))
(jq [jk 6 .i64 0] [6]
.ret))))))))⟩
def Zhx : IFn:=⟨[.tmp 4],
(jq [jx 2 1 0,jx 3 2 1,jk 4 .u64 0] [2,3]
(jq [jf 9 0 2,jl 10 1 9,jL 11 2 3,js 12 (.call false (.f 169) [(.t 10),(.c (.int .u8 4)),(.t 11)]),jm 8 12,je 13 8 0,je 14 8 1,je 15 8 2,jm 5 13,jm 6 14,jm 7 15] [5]
(jq [jm 16 5,jm 4 16] [4]
.ret)))⟩
def Zhy : IFn:=⟨[.tmp 6],
(jq [jx 3 1 0,jk 6 .u64 0] [1,2,3]
(jq [jf 11 0 3,jl 12 1 11,jm 13 1,jm 14 2,js 15 (.call false (.f 164) [(.t 12),(.c (.int .u8 4)),(.t 13),(.t 14)]),jm 10 15,je 16 10 0,je 17 10 1,je 18 10 2,jm 7 16,jm 8 17,jm 9 18] [7]
(jq [jm 19 7,jm 6 19] [6]
.ret)))⟩
def Zhz : IFn:=⟨[.tmp 6],
(jq [jx 3 1 0,jk 6 .u64 0] [1,2,3]
(jq [jf 11 0 3,jl 12 1 11,jm 13 1,jm 14 2,js 15 (.call false (.f 165) [(.t 12),(.c (.int .u8 4)),(.t 13),(.t 14)]),jm 10 15,je 16 10 0,je 17 10 1,je 18 10 2,jm 7 16,jm 8 17,jm 9 18] [7]
(jq [jm 19 7,jm 6 19] [6]
.ret)))⟩
def Zdk : IFn:=⟨[.tmp 4],
(jq [jx 2 1 0,jk 4 .u64 0] [1,2]
(jq [jk 5 .i64 53] [1,2,5]
(.seq (jq [jf 9 0 2,jl 10 1 9,ji 11 .eql 10 .u8 1] [1,2,5,11]
(jC 11
(jr [jk 5 .i64 24] [1,2,5])
.skip))
(jq [jf 13 0 2,jl 14 1 13,jm 15 1,jm 16 5,js 17 (.un .neg (.t 16)),js 18 (.call false (.f 393) [(.t 14),(.c (.int .u8 4)),(.t 15),(.t 17)]),jm 12 18,je 19 12 0,je 20 12 1,je 21 12 2,jm 6 19,jm 7 20,jm 8 21] [6]
(jq [jm 22 6,jm 4 22] [4]
.ret)))))⟩
def ZbK : IC :=
(jq [jb 12 .lss 11 10] [0,9,10,11,12]
(.seq (jC 12
.skip
(.exit 0))
(.seq (.block 1
(jq [ja 13 1 9 11,jl 14 1 13,jm 6 14] [0,6,9,10,11]
(jq [jm 16 0,jm 17 6,jc 18 193 [16,17],jm 15 18,je 19 15 0,je 20 15 1,jm 7 19,jm 8 20] [0,7,9,10,11]
(jq [jm 21 7,ji 22 .geq 21 .u8 4] [0,9,10,11,22]
(jC 22
(jq [jv 4 false] [4]
.ret)
.skip)))))
(jr [ji 23 .add 11 .i64 1,jm 11 23] [0,9,10,11]))))
def Zhf : IC:=.loop [0,9,10,11] ZbK
def Zcy : IFn:=⟨[.tmp 4],
(jq [jv 4 false] [0,1]
(.seq (jq [jm 9 1,jn 10 9,jk 11 .i64 0] [0,9,10,11]
(.block 0
 Zhf))
(jq [jv 4 true] [4]
.ret)))⟩
def ZiY : IFn:=⟨[.tmp 6],
(jq [jx 4 2 1,jx 5 2 2,jk 6 .u64 0] [0,4,5]
(jq [jk 7 .u8 4] [0,4,5,7]
(jq [jm 19 0,jm 20 7,jL 21 2 4,jc 22 227 [19,20,21],jm 18 22,je 23 18 0,je 24 18 1,jm 8 23,jm 9 24] [0,5,7,8]
(jq [jm 26 0,jm 27 7,jL 28 2 5,jc 29 227 [26,27,28],jm 25 29,je 30 25 0,je 31 25 1,jm 10 30,jm 11 31] [0,7,8,10]
(jq [jm 33 0,jm 34 7,jm 35 8,jm 36 10,jc 37 219 [33,34,35,36],jm 32 37,je 38 32 0,je 39 32 1,jm 12 38,jm 13 39] [0,7,12]
(jq [jm 41 0,jm 42 7,jm 43 12,jm 44 0,jc 45 31 [44],js 46 (.un .neg (.t 45)),ji 47 .sub 46 .i64 1,jc 48 394 [41,42,43,47],jm 40 48,je 49 40 0,je 50 40 1,jm 14 49,jm 15 50] [0,7,14]
(jq [jm 52 0,jm 53 7,jm 54 14,js 55 (.call false (.f 219) [(.t 52),(.t 53),(.t 54),(.c (.int .u64 2))]),jm 51 55,je 56 51 0,je 57 51 1,jm 16 56,jm 17 57] [16]
(jq [jm 58 16,jm 6 58] [6]
.ret))))))))⟩
def Zge : IFn:=⟨[.tmp 6,.tmp 7,.tmp 8],
(jq [jk 6 .u64 0,jk 7 .u8 0,jk 8 .i64 0] [0,1,2]
(jq [jm 9 0,jm 10 1,jm 11 2,jc 12 272 [11],jc 13 7 [9,10,12],je 14 13 0,je 15 13 1,je 16 13 2,jm 6 14,jm 7 15,jm 8 16] [6,7,8]
.ret))⟩
def Zfl : IFn:=⟨[.tmp 6,.tmp 7],
(jq [jk 6 .u64 0,jk 7 .u8 0] [0,1,2]
(jq [jm 8 0,jm 9 1,jm 10 2,jc 11 20 [10],jc 12 12 [8,9,11],je 13 12 0,je 14 12 1,jm 6 13,jm 7 14] [6,7]
.ret))⟩
def Zde : IFn:=⟨[.tmp 8,.tmp 9,.tmp 10],
(jq [jk 8 .u64 0,jk 9 .u8 0,jk 10 .i64 0] [0,1,2,3]
(jq [jm 19 0,jm 20 1,jm 21 2,jc 22 399 [19,20,21],jm 18 22,je 23 18 0,je 24 18 1,je 25 18 2,jm 11 23,jm 12 24,jm 13 25] [0,1,2,3,11,13]
(.seq (.block 0
(jq [jm 27 13,ji 28 .neq 27 .i64 0,jm 26 28] [0,1,2,3,11,13,26]
(jC 26
(jq [jm 29 13,jk 8 .u64 0,jk 9 .u8 0,jm 10 29] [8,9,10]
.ret)
(jq [jm 31 11,ji 32 .eql 31 .u8 5,jm 30 32] [0,1,2,3,11,30]
(jC 30
(jq [jm 34 0,jc 35 196 [34],jm 33 35,je 36 33 0,je 37 33 1,jm 14 36,jm 15 37] [14]
(jq [jm 38 14,jm 8 38,jk 9 .u8 0,jk 10 .i64 0] [8,9,10]
.ret))
(jq [jm 40 11,ji 41 .eql 40 .u8 4,jm 42 41,jg (jm 43 11) 42 false,jg (ji 44 .eql 43 .u8 1) 42 false,jP 45 42 44,jm 39 45] [0,1,2,3,39]
(jC 39
(jq [jm 46 2,jm 8 46,jk 9 .u8 0,jk 10 .i64 0] [8,9,10]
.ret)
.skip)))))))
(jq [jm 48 0,jm 49 2,jc 50 194 [48,49],jm 47 50,je 51 47 0,je 52 47 1,js 16 (.alloc [(.bool false),.nil,(.int .i64 0)]),jw 3 16 51,jm 17 52] [0,1,3,16]
(jq [jL 54 3 16,jm 55 3,js 56 (.mm true (.c (.int .i64 (-16384))) [(.t 55)]),js 57 (.mm false (.c (.int .i64 16384)) [(.t 56)]),jc 58 400 [54,57],jm 53 58,je 59 53 0,je 60 53 1,jw 3 16 59] [0,1,16]
(jq [jm 61 0,jm 62 1,jL 63 3 16,jc 64 7 [61,62,63],je 65 64 0,je 66 64 1,je 67 64 2,jm 8 65,jm 9 66,jm 10 67] [8,9,10]
.ret))))))⟩
def ZcB : IFn:=⟨[.tmp 8,.tmp 9],
(jq [jk 8 .u64 0,jk 9 .u8 0] [0,1,2,3]
(jq [jm 11 0,jm 12 2,jc 13 155 [11,12],jm 10 13] [0,1,2,3,10]
(.seq (jq [jm 14 10,ji 15 .eql 14 .u8 5] [0,1,2,3,10,15]
(jC 15
(jq [jm 16 0,jc 17 157 [16],jm 8 17,jk 9 .u8 0] [8,9]
.ret)
.skip))
(.seq (jq [jm 18 10,ji 19 .eql 18 .u8 4,jm 20 19,jg (jm 21 10) 20 false,jg (ji 22 .eql 21 .u8 1) 20 false,jP 23 20 22] [0,1,2,3,23]
(jC 23
(jq [jm 24 2,jm 8 24,jk 9 .u8 0] [8,9]
.ret)
.skip))
(.seq (jq [jm 25 3,ji 26 .gtr 25 .i64 10000] [0,1,2,3,26]
(jC 26
(jr [jk 3 .i64 10000] [0,1,2,3])
.skip))
(.seq (jq [jm 27 3,ji 28 .lss 27 .i64 (-10000)] [0,1,2,3,28]
(jC 28
(jr [jk 3 .i64 (-10000)] [0,1,2,3])
.skip))
(jq [jm 29 0,jm 30 1,jm 31 0,jm 32 2,jc 33 151 [31,32],jm 34 3,jc 35 65 [33,34],jc 36 12 [29,30,35],je 37 36 0,je 38 36 1,jm 8 37,jm 9 38] [8,9]
.ret)))))))⟩
def Zkm : IFn:=⟨[.tmp 6,.tmp 7,.tmp 8],
(jq [jk 6 .u8 0,jv 7 false,jk 8 .i64 0] [0,1,2]
(.seq (jq [jm 14 0,jm 15 1,jc 16 404 [14,15],jm 9 16] [0,2,9]
(jq [jm 17 9,ji 18 .neq 17 .i64 0] [0,2,9,18]
(jC 18
(jq [jm 19 9,jk 6 .u8 0,jv 7 false,jm 8 19] [6,7,8]
.ret)
.skip)))
(jq [jm 21 0,jm 22 2,jc 23 193 [21,22],jm 20 23,je 24 20 0,je 25 20 1,jm 10 24,jm 11 25] [0,2,10,11]
(jq [jm 27 0,jm 28 2,jc 29 192 [27,28],jm 26 29,je 30 26 0,je 31 26 1,js 12 (.alloc [(.bool false),(.int .i64 0),(.int .u64 0)]),jw 3 12 30,jm 13 31] [10,11,12]
(jq [jm 32 10,jf 33 0 12,jl 34 1 33,jm 35 11,jm 6 32,jm 7 34,jm 8 35] [6,7,8]
.ret)))))⟩
def ZgD : IFn:=⟨[.cell 4 true 3,.tmp 5],
(jq [jx 2 3 0,js 4 (.alloc [(.bool false),.nil,(.int .i64 0)]),jk 5 .i64 0] [1,2,4]
(.seq (.block 0
(jq [jL 7 3 2,jc 8 48 [7],js 9 (.un .not (.t 8)),jm 6 9] [1,2,4,6]
(jC 6
(jq [js 10 (.build [(.bool false),.nil,(.int .i64 0)] []),jw 3 4 10,jk 5 .i64 2] [4,5]
.ret)
(jq [jf 12 1 2,jl 13 1 12,jn 14 13,ji 15 .eql 14 .i64 0,jm 11 15] [1,2,4,11]
(jC 11
(jq [js 16 (.build [(.bool false),.nil,(.int .i64 0)] []),jw 3 4 16,jk 5 .i64 0] [4,5]
.ret)
(jq [jm 18 1,jf 19 2 2,jl 20 1 19,js 21 (.bin .sub (.c (.int .i64 16777216)) (.t 20)),jb 22 .gtr 18 21,jm 23 22,jg (jm 24 1) 23 false,jg (jf 25 2 2) 23 false,jg (jl 26 1 25) 23 false,jg (js 27 (.bin .sub (.c (.int .i64 (-16777216))) (.t 26))) 23 false,jg (jb 28 .lss 24 27) 23 false,jP 29 23 28,jm 17 29] [1,2,4,17]
(jC 17
(jq [js 30 (.build [(.bool false),.nil,(.int .i64 0)] []),jw 3 4 30,jk 5 .i64 20] [4,5]
.ret)
.skip)))))))
(jq [jL 31 3 2,jc 32 205 [31],jw 3 2 32] [1,2,4]
(jq [jf 33 2 2,jl 34 1 33,jm 35 1,jb 36 .add 34 35,jf 37 2 2,jw 1 37 36] [2,4]
(jq [jL 38 3 2,jw 3 4 38,jk 5 .i64 0] [4,5]
.ret)))))⟩
def Zkl : IFn:=⟨[.tmp 4],
(jq [jk 4 .i64 0] [0,1]
(jq [jm 8 0,jm 9 1,js 10 (.call false (.f 8) [(.t 8),(.t 9),(.c (.bool false))]),jm 7 10,je 11 7 0,je 12 7 1,jm 5 11,jm 6 12] [6]
(jq [jm 13 6,jm 4 13] [4]
.ret)))⟩
structure HasK (gdb : Nat) (T : Tbl) : Prop where
 Ziq : T 342 = some Zeu
 Ziv : T 344 = some Zba
 ZhR : T 346 = some Zdq
 poly_Deriv : T 351 = some Zdj
 Znu : T 353 = some ZdE
 ZjY : T 375 = some ZbT
 Zir : T 376 = some Zhx
 Zis : T 377 = some Zhy
 Znp : T 378 = some Zhz
 Zlb : T 379 = some Zdk
 poly_finite : T 380 = some Zcy
 ZoY : T 381 = some ZiY
 Zly : T 382 = some Zge
 Zlg : T 383 = some Zfl
 ZjT : T 393 = some Zde
 Ziu : T 394 = some ZcB
 Zqj : T 399 = some Zkm
 ZoI : T 400 = some ZgD
 Zqi : T 404 = some Zkl
end Go.Cv
namespace Go.Cv
structure HasL (gdb : Nat) (T : Tbl) : Prop where
end Go.Cv
namespace Go.Cv
end Go.Cv
namespace Go.Cv
end Go.Cv
namespace Go.Cv
def ZbF : IC :=
(.seq (jq [jm 77 17,jm 78 10,jn 79 78,jb 80 .lss 77 79] [1,9,10,16,17,80]
(jC 80
.skip
(.exit 0)))
(.seq (.block 1
(jr [jm 83 10,jm 84 17,js 85 (.build [(.int .u64 0),(.int .u64 0)] [(0,1,(.c (.int .u64 9))),(1,1,(.c (.int .u64 9)))]),ja 86 2 83 84,jw 2 86 85] [1,9,10,16,17]))
(jr [jm 81 17,ji 82 .add 81 .i64 1,jm 17 82] [1,9,10,16,17])))
def ZbG : IC:=.loop [1,9,10,16,17] ZbF
def ZaU : IFn:=⟨[.tmp 8],
(jq [jx 6 2 2,jv 8 false] [0,1,3,6]
(jq [js 18 (.bslice 0 2 [(.int .u64 0),(.int .u64 0)] []),jm 19 1,js 20 (.app 2 16 (.t 18) (.t 19)),jm 9 20] [0,1,3,6,9]
(jq [jm 22 0,jm 23 9,jL 24 2 6,jm 25 3,js 26 (.call true (.f 354) [(.t 22),(.t 23),(.t 24),(.t 25)]),jm 21 26,je 27 21 0,je 28 21 1,je 29 21 2,jm 10 27,jm 11 28,jm 12 29] [0,1,3,6,9,10,11,12]
(.seq (jq [jm 30 0,jm 31 1,jL 32 2 6,jm 33 3,jc 34 355 [30,31,32,33],jm 13 34] [0,1,3,6,9,10,11,12,13]
(jq [jm 35 13,ji 36 .neq 35 .i64 0] [0,1,3,6,9,10,11,12,13,36]
(jC 36
(jq [jm 37 10,jn 38 37,ji 39 .eql 38 .i64 0,jm 40 39,jg (jm 41 11) 40 true,jg (ji 42 .eql 41 .i64 0) 40 true,jp 43 40 42,jm 44 43,jg (jm 45 12) 44 true,jg (jm 46 13) 44 true,jg (jb 47 .eql 45 46) 44 true,jp 48 44 47,jm 49 48,jg (jm 50 9) 49 true,jg (jm 51 1) 49 true,jg (jc 52 356 [50,51]) 49 true,jp 53 49 52,jm 54 53,jg (jc 55 357 []) 54 true,jp 56 54 55,jm 8 56] [8]
.ret)
.skip)))
(jq [jm 58 0,jm 59 1,jL 60 2 6,jm 61 3,jc 62 358 [58,59,60,61],jm 57 62,je 63 57 0,je 64 57 1,jm 14 63,jm 15 64] [1,9,10,11,12,14,15]
(jq [jm 65 10,jm 66 14,jc 67 356 [65,66],jm 68 67,jg (jm 69 11) 68 true,jg (jm 70 15) 68 true,jg (jb 71 .eql 69 70) 68 true,jp 72 68 71,jm 73 72,jg (jm 74 12) 73 true,jg (ji 75 .eql 74 .i64 0) 73 true,jp 76 73 75,jm 16 76] [1,9,10,16]
(.seq (jq [jk 17 .i64 0] [1,9,10,16,17]
(.block 0
 ZbG))
(jq [jm 87 16,jm 88 87,jg (jm 89 9) 88 true,jg (jm 90 1) 88 true,jg (jc 91 356 [89,90]) 88 true,jp 92 88 91,jm 93 92,jg (jc 94 357 []) 93 true,jp 95 93 94,jm 8 95] [8]
.ret))))))))⟩
def ZeX : IC :=
(jq [js 16 (.alloc [(.int .u64 0),(.int .u64 0)]),jw 2 16 64] [8,9,16,65]
(jr [jm 17 65] [8,9,16,17]))
def ZeY : IC :=
(.block 3
(jr [jl 66 1 8,jL 67 2 16,js 68 (.bslice 1 2 [(.int .u64 0),(.int .u64 0)] [(0,2,(.t 67))]),js 69 (.app 2 16 (.t 66) (.t 68)),jm 70 17,jw 1 8 69,jw 1 9 70] []))
def Zbf : IC :=
(jq [jb 48 .lss 47 46] [3,6,8,9,13,45,46,47,48]
(.seq (jC 48
.skip
(.exit 0))
(.seq (.block 1
(jq [ja 49 2 45 47,jL 50 2 49,js 15 (.alloc [(.int .u64 0),(.int .u64 0)]),jw 2 15 50] [3,6,8,9,13,15,45,46,47]
(jr [jf 51 3 13,jl 52 1 51,jm 53 52,jg (jL 54 4 13) 53 true,jg (jL 55 2 15) 53 true,jg (jc 56 384 [54,55]) 53 true,jp 57 53 56,jf 58 3 13,jw 1 58 57] [3,6,8,9,13,45,46,47])))
(jr [ji 59 .add 47 .i64 1,jm 47 59] [3,6,8,9,13,45,46,47]))))
def Zbg : IC:=.loop [3,6,8,9,13,45,46,47] Zbf
def Zaq : IFn:=⟨[.cell 8 false 1,.cell 9 false 1,.tmp 10],
(jq [jx 6 2 2,js 8 (.alloc [.nil]),js 9 (.alloc [(.int .i64 0)]),jk 10 .i64 0] [0,1,3,6,8,9]
(.seq (jq [jm 19 0,jm 20 1,jL 21 2 6,jc 22 342 [19,20,21],jm 18 22,je 23 18 0,je 24 18 1,js 11 (.alloc [(.int .u64 0),(.int .u64 0),(.int .u64 0)]),jw 3 11 23,jm 12 24] [0,1,3,6,8,9,12]
(jq [jm 25 12,ji 26 .neq 25 .i64 0] [0,1,3,6,8,9,12,26]
(jC 26
(jq [jm 27 12,⟨none,.store 1 (.t 8) (.c .nil),none⟩,⟨none,.store 1 (.t 9) (.c (.int .i64 0)),none⟩,jm 10 27] [8,9,10]
.ret)
.skip)))
(.seq (jq [jm 28 3,ji 29 .lss 28 .i64 0,jm 30 29,jg (jm 31 3) 30 false,jg (ji 32 .gtr 31 .i64 100) 30 false,jP 33 30 32] [0,1,3,6,8,9,33]
(jC 33
(jq [⟨none,.store 1 (.t 8) (.c .nil),none⟩,⟨none,.store 1 (.t 9) (.c (.int .i64 0)),none⟩,jk 10 .i64 2] [8,9,10]
.ret)
.skip))
(jq [jm 34 0,jm 35 1,js 36 (.build [(.int .u8 0),.nil,.nil,(.bool false)] [(0,1,(.t 34)),(1,1,(.t 35)),(3,1,(.c (.bool true)))]),js 13 (.alloc [(.int .u8 0),.nil,.nil,(.bool false)]),jw 4 13 36] [0,1,3,6,8,9,13]
(jq [jm 38 0,jm 39 1,js 40 (.call true (.f 351) [(.t 38),(.t 39)]),jm 37 40,je 41 37 0,je 42 37 1,jf 43 2 13,jw 1 43 41] [3,6,8,9,13]
(.seq (jq [jf 44 2 13,jl 45 1 44,jn 46 45,jk 47 .i64 0] [3,6,8,9,13,45,46,47]
(.block 0
 Zbg))
(.seq (jq [jL 60 4 13,jL 61 2 6,jm 62 3,js 63 (.call true (.f 385) [(.t 60),(.t 61),(.t 62)])] [8,9,63]
(.block 2
(.rangeF (.t 63) [64,65] ZeX ZeY)))
(.seq (.reg [jl 71 1 8,jl 72 1 9,jw 1 8 71,jw 1 9 72,jk 10 .i64 0] [8,9,10] [(1,2)])
.ret))))))))⟩
def Zcw : IFn:=⟨[.tmp 8],
(jq [jx 6 2 2,jk 8 .i64 0] [0,1,3,6]
(.seq (jq [jm 10 0,jm 11 1,jL 12 2 6,jc 13 344 [10,11,12],jm 9 13] [3,9]
(jq [jm 14 9,ji 15 .neq 14 .i64 0] [3,9,15]
(jC 15
(jq [jm 16 9,jm 8 16] [8]
.ret)
.skip)))
(.seq (jq [jm 17 3,ji 18 .lss 17 .i64 0,jm 19 18,jg (jm 20 3) 19 false,jg (ji 21 .gtr 20 .i64 100) 19 false,jP 22 19 21] [22]
(jC 22
(jq [jk 8 .i64 2] [8]
.ret)
.skip))
(jq [jk 8 .i64 0] [8]
.ret))))⟩
def ZeU : IC :=
(.seq (jq [jm 11 5,jm 12 0,jn 13 12,jb 14 .lss 11 13] [0,1,5,14]
(jC 14
.skip
(.exit 0)))
(.seq (.block 1
(jq [jm 17 0,jm 18 5,ja 19 2 17 18,jL 20 2 19,jm 21 1,jm 22 5,ja 23 2 21 22,jL 24 2 23,js 25 (.eqs true [false,false] (.t 20) (.t 24))] [0,1,5,25]
(jC 25
(jq [jv 4 false] [4]
.ret)
.skip)))
(jr [jm 15 5,ji 16 .add 15 .i64 1,jm 5 16] [0,1,5])))
def ZeV : IC:=.loop [0,1,5] ZeU
def ZiD : IFn:=⟨[.tmp 4],
(jq [jv 4 false] [0,1]
(.seq (jq [jm 6 0,jn 7 6,jm 8 1,jn 9 8,jb 10 .neq 7 9] [0,1,10]
(jC 10
(jq [jv 4 false] [4]
.ret)
.skip))
(.seq (jq [jk 5 .i64 0] [0,1,5]
(.block 0
 ZeV))
(jq [jv 4 true] [4]
.ret))))⟩
def Zho : IFn:=⟨[.tmp 0],
(jq [jv 0 false] []
(jq [jc 5 386 [],js 6 (.build [(.int .u64 0),(.int .u64 0)] [(0,1,(.c (.int .u64 4607182418800017408)))]),js 7 (.call false (.f 354) [(.c (.int .u8 2)),(.t 5),(.t 6),(.c (.int .i64 1))]),jm 4 7,je 8 4 0,je 9 4 1,je 10 4 2,jm 1 8,jm 2 9,jm 3 10] [1,2,3]
(jq [jm 11 1,jn 12 11,ji 13 .eql 12 .i64 2,jm 14 13,jg (jm 15 1) 14 true,jg (js 16 (.iaddr 2 (.t 15) (.c (.int .i64 1)))) 14 true,jg (jL 17 2 16) 14 true,jg (js 18 (.build [(.int .u64 0),(.int .u64 0)] [(0,1,(.c (.int .u64 4612811918334230528)))])) 14 true,jg (js 19 (.eqs false [false,false] (.t 17) (.t 18))) 14 true,jp 20 14 19,jm 21 20,jg (jm 22 2) 21 true,jg (ji 23 .eql 22 .i64 4) 21 true,jp 24 21 23,jm 25 24,jg (jm 26 3) 25 true,jg (ji 27 .eql 26 .i64 0) 25 true,jp 28 25 27,jm 0 28] [0]
.ret)))⟩
def Zaz : IC :=
(.block 1
(jq [jm 17 10,jm 18 10,jn 19 18,ji 20 .sub 19 .i64 1,ja 21 2 17 20,jL 22 2 21,js 11 (.alloc [(.int .u64 0),(.int .u64 0)]),jw 2 11 22] [0,1,3,10,11]
(jq [jm 23 0,jm 24 1,jL 25 2 11,jc 26 346 [23,24,25],js 12 (.alloc [(.int .u64 0),(.int .u64 0),(.int .u64 0)]),jw 3 12 26] [0,1,3,10,11,12]
(.seq (jq [jm 27 0,jf 28 0 12,jL 29 2 28,jc 30 250 [27,29],js 31 (.un .not (.t 30))] [0,1,3,10,11,12,31]
(jC 31
(jq [jm 32 10,jm 8 32,jk 9 .i64 2] [8,9]
.ret)
.skip))
(.seq (jq [jm 33 0,jL 34 3 12,jc 35 359 [33,34]] [0,1,3,10,11,12,35]
(jC 35
(jq [jm 36 10,jm 8 36,jk 9 .i64 1] [8,9]
.ret)
.skip))
(.seq (jq [jm 37 10,jn 38 37,jm 39 3,jb 40 .gtr 38 39] [0,1,3,10,11,12,40]
(jC 40
(jq [jm 41 10,jm 8 41,jk 9 .i64 4] [8,9]
.ret)
.skip))
(jq [jm 43 0,jm 44 1,jL 45 2 11,jf 46 0 12,jL 47 2 46,jc 48 387 [43,44,45,47],jm 42 48,je 49 42 0,je 50 42 1,js 13 (.alloc [(.int .u64 0),(.int .u64 0)]),jw 2 13 49,jm 14 50] [0,1,3,10,13,14]
(.seq (jq [jm 51 14,ji 52 .neq 51 .i64 0] [0,1,3,10,13,14,52]
(jC 52
(jq [jm 53 10,jm 54 14,jm 8 53,jm 9 54] [8,9]
.ret)
.skip))
(jr [jm 55 10,jL 56 2 13,js 57 (.bslice 1 2 [(.int .u64 0),(.int .u64 0)] [(0,2,(.t 56))]),js 58 (.app 2 16 (.t 55) (.t 57)),jm 10 58] [0,1,3,10])))))))))
def ZdF : IC:=.loop [0,1,3,10] Zaz
def Zgr : IFn:=⟨[.tmp 8,.tmp 9],
(jq [jx 6 2 2,js 8 (.mov (.c .nil)),jk 9 .i64 0] [0,1,3,6]
(jq [jL 15 2 6,js 16 (.bslice 1 2 [(.int .u64 0),(.int .u64 0)] [(0,2,(.t 15))]),jm 10 16] [0,1,3,10]
(.block 0
 ZdF)))⟩
def Zec : IFn:=⟨[.tmp 4],
(jq [jx 3 3 1,jv 4 false] [0,3]
(jq [jm 6 0,jf 7 0 3,jL 8 2 7,jf 9 2 3,jl 10 1 9,js 11 (.build [(.int .u64 0),(.int .u64 0)] [(0,1,(.t 10))]),jc 12 229 [6,8,11],jm 5 12] [5]
(jq [jm 13 5,ji 14 .eql 13 .u8 1,jm 15 14,jg (jm 16 5) 15 false,jg (ji 17 .eql 16 .u8 2) 15 false,jP 18 15 17,jm 4 18] [4]
.ret)))⟩
def Zcb : IFn:=⟨[.tmp 4],
(jq [jx 2 4 0,jx 3 2 1,jv 4 false] [2,3]
(jq [jf 8 0 2,jl 9 1 8,jL 10 2 3,jc 11 189 [9,10],jm 7 11,je 12 7 0,je 13 7 1,jm 5 12,jm 6 13] [5]
(jq [jm 14 5,ji 15 .leq 14 .u8 2,jm 4 15] [4]
.ret)))⟩
def ZcX : IFn:=⟨[.tmp 6],
(jq [jx 3 4 0,jx 4 2 1,jx 5 1 2,js 6 (.mov (.c .nf))] [3,4,5]
(jq [js 7 (.mkfn 395 [(.t 3),(.t 4),(.t 5)]),jm 6 7] [6]
.ret))⟩
def ZiC : IFn:=⟨[.tmp 0],
(jq [js 0 (.mov (.c .nil))] []
(jq [js 1 (.build [(.int .u64 0),(.int .u64 0)] [(0,1,(.c (.int .u64 13839561654909534208)))]),js 2 (.build [(.int .u64 0),(.int .u64 0)] []),js 3 (.build [(.int .u64 0),(.int .u64 0)] [(0,1,(.c (.int .u64 4607182418800017408)))]),js 4 (.bslice 3 2 [(.int .u64 0),(.int .u64 0)] [(0,2,(.t 1)),(2,2,(.t 2)),(4,2,(.t 3))]),jm 0 4] [0]
.ret))⟩
def ZbC : IC :=
(.seq (jq [jm 40 13,ji 41 .leq 40 .i64 6] [0,1,6,7,8,12,13,41]
(jC 41
.skip
(.exit 0)))
(.seq (.block 1
(jq [jm 45 0,jf 46 0 12,jl 47 1 46,jm 48 13,js 49 (.un .neg (.t 48)),js 50 (.call false (.f 394) [(.t 45),(.c (.int .u8 1)),(.t 47),(.t 49)]),jm 44 50,je 51 44 0,je 52 44 1,jm 14 51,jm 15 52] [0,1,6,7,8,12,13,14]
(jq [jm 54 0,jf 55 1 12,jl 56 1 55,jm 57 13,js 58 (.un .neg (.t 57)),js 59 (.call false (.f 394) [(.t 54),(.c (.int .u8 1)),(.t 56),(.t 58)]),jm 53 59,je 60 53 0,je 61 53 1,jm 16 60,jm 17 61] [0,1,6,7,8,12,13,14,16]
(jq [jm 62 0,jL 63 2 6,jm 64 14,jm 65 16,js 66 (.build [(.int .u64 0),(.int .u64 0)] [(0,1,(.t 64)),(1,1,(.t 65))]),js 67 (.call false (.f 264) [(.t 62),(.c (.int .u8 1)),(.t 63),(.t 66)]),js 68 (.field true 0 2 (.t 67)),js 18 (.alloc [(.int .u64 0),(.int .u64 0)]),jw 2 18 68] [0,1,6,7,8,12,13,18]
(.seq (jq [jm 69 0,jL 70 2 18,jc 71 250 [69,70],js 72 (.un .not (.t 71))] [0,1,6,7,8,12,13,18,72]
(jC 72
(.exit 1)
.skip))
(jq [jm 73 0,jm 74 1,jL 75 2 18,jc 76 346 [73,74,75],js 77 (.field true 0 2 (.t 76)),js 19 (.alloc [(.int .u64 0),(.int .u64 0)]),jw 2 19 77] [0,1,6,7,8,12,13,18,19]
(jq [jm 78 0,jL 79 2 19,jc 80 250 [78,79],jm 81 80,jg (jm 82 0) 81 true,jg (jL 83 2 19) 81 true,jg (jL 84 2 7) 81 true,jg (jc 85 229 [82,83,84]) 81 true,jg (ji 86 .eql 85 .u8 1) 81 true,jp 87 81 86] [0,1,6,7,8,12,13,18,87]
(jC 87
(jq [jL 88 2 18,jw 2 8 88,jk 9 .i64 0] [8,9]
.ret)
.skip))))))))
(jr [jm 42 13,ji 43 .add 42 .i64 1,jm 13 43] [0,1,6,7,8,12,13])))
def Zay : IC:=.loop [0,1,6,7,8,12,13] ZbC
def Zds : IFn:=⟨[.cell 8 true 2,.tmp 9],
(jq [jx 6 2 2,jx 7 2 3,js 8 (.alloc [(.int .u64 0),(.int .u64 0)]),jk 9 .i64 0] [0,1,6,7,8]
(jq [jm 21 0,jm 22 1,jL 23 2 6,jc 24 397 [21,22,23],jm 20 24,je 25 20 0,je 26 20 1,js 10 (.alloc [(.int .u64 0),(.int .u64 0)]),jw 2 10 25,jm 11 26] [0,1,6,7,8,10,11]
(.seq (jq [jm 27 11,js 28 (.un .not (.t 27))] [0,1,6,7,8,10,28]
(jC 28
(jq [jL 29 2 6,jw 2 8 29,jk 9 .i64 2] [8,9]
.ret)
.skip))
(jq [jm 30 0,jL 31 2 7,jL 32 2 10,js 33 (.call false (.f 258) [(.t 30),(.c (.int .u8 1)),(.t 31),(.t 32)]),js 34 (.field true 0 2 (.t 33)),js 12 (.alloc [(.int .u64 0),(.int .u64 0)]),jw 2 12 34] [0,1,6,7,8,12]
(.seq (jq [jm 35 0,jL 36 2 12,jc 37 250 [35,36],js 38 (.un .not (.t 37))] [0,1,6,7,8,12,38]
(jC 38
(jq [jL 39 2 6,jw 2 8 39,jk 9 .i64 2] [8,9]
.ret)
.skip))
(.seq (jq [jk 13 .i64 0] [0,1,6,7,8,12,13]
(.block 0
 Zay))
(jq [jL 89 2 6,jw 2 8 89,jk 9 .i64 3] [8,9]
.ret)))))))⟩
def ZaL : IC :=
(.seq (.block 1
(jq [jL 11 4 1,jL 12 2 2,jm 13 5,jl 14 1 3,jb 15 .eql 13 14,jc 16 396 [11,12,15],jm 10 16,je 17 10 0,je 18 10 1,js 6 (.alloc [(.int .u64 0),(.int .u64 0)]),jw 2 6 17,jm 7 18] [0,1,2,3,5,6,7]
(.seq (jq [jm 19 0,jL 20 2 2,jm 21 7,js 22 (.call true (.t 19) [(.t 20),(.t 21)]),js 23 (.un .not (.t 22)),jm 24 23,jg (jm 25 7) 24 false,jg (ji 26 .neq 25 .i64 0) 24 false,jP 27 24 26] [0,1,2,3,5,6,27]
(jC 27
.ret
.skip))
(jr [jL 28 2 6,jw 2 2 28] [0,1,2,3,5]))))
(jr [jm 8 5,ji 9 .add 8 .i64 1,jm 5 9] [0,1,2,3,5]))
def Zbs : IC:=.loop [0,1,2,3,5] ZaL
def Zcc : IFn:=⟨[],
(jq [jk 5 .i64 0] [0,1,2,3,5]
(.block 0
 Zbs))⟩
def Zbl : IFn:=⟨[.cell 6 true 2,.tmp 7],
(jq [jx 3 4 0,jx 4 2 1,js 6 (.alloc [(.int .u64 0),(.int .u64 0)]),jk 7 .i64 0] [2,3,4,6]
(jq [jL 9 4 3,jL 10 2 4,jc 11 401 [9,10],js 8 (.alloc [(.int .u64 0),(.int .u64 0),(.int .u64 0)]),jw 3 8 11] [2,3,4,6,8]
(.seq (.block 0
(jq [jL 13 4 3,jf 14 0 8,jL 15 2 14,jc 16 384 [13,15],js 17 (.un .not (.t 16)),jm 12 17] [2,3,4,6,8,12]
(jC 12
(jq [jL 18 2 4,jw 2 6 18,jk 7 .i64 2] [6,7]
.ret)
(jq [jL 20 4 3,jf 21 2 8,jl 22 1 21,js 23 (.build [(.int .u64 0),(.int .u64 0)] [(0,1,(.t 22))]),jf 24 0 8,jL 25 2 24,jc 26 402 [20,23,25],js 27 (.un .not (.t 26)),jm 19 27] [2,3,4,6,8,19]
(jC 19
(jq [jL 28 2 4,jw 2 6 28,jk 7 .i64 1] [6,7]
.ret)
(jq [jm 30 2,jm 29 30] [3,4,6,8,29]
(jC 29
(jq [jL 31 2 4,jw 2 6 31,jk 7 .i64 4] [6,7]
.ret)
.skip)))))))
(jq [jL 32 4 3,jL 33 2 4,jf 34 0 8,jL 35 2 34,jc 36 403 [32,33,35],je 37 36 0,je 38 36 1,jw 2 6 37,jm 7 38] [6,7]
.ret))))⟩
def ZdG : IFn:=⟨[.cell 6 true 2,.tmp 7],
(jq [jx 5 2 2,js 6 (.alloc [(.int .u64 0),(.int .u64 0)]),jv 7 false] [0,1,5,6]
(jq [jm 10 0,jm 11 1,jc 12 353 [10,11],jm 8 12] [0,5,6,8]
(.seq (jq [jm 13 0,jm 14 8,jL 15 2 5,jc 16 344 [13,14,15],ji 17 .neq 16 .i64 0] [0,5,6,8,17]
(jC 17
(jq [js 18 (.build [(.int .u64 0),(.int .u64 0)] []),jw 2 6 18,jv 7 false] [6,7]
.ret)
.skip))
(jq [jm 19 0,jm 20 8,jL 21 2 5,jc 22 346 [19,20,21],js 23 (.field true 0 2 (.t 22)),js 9 (.alloc [(.int .u64 0),(.int .u64 0)]),jw 2 9 23] [0,6,9]
(jq [jL 24 2 9,jm 25 0,jL 26 2 9,jc 27 237 [25,26],ji 28 .eql 27 .u8 2,jw 2 6 24,jm 7 28] [6,7]
.ret)))))⟩
def Zei : IFn:=⟨[.cell 4 true 3],
(jq [jx 2 4 0,jx 3 2 1,js 4 (.alloc [(.int .u64 0),(.int .u64 0),(.int .u64 0)])] [2,3,4]
(jq [jf 8 0 2,jl 9 1 8,jf 10 1 2,jl 11 1 10,jL 12 2 3,jc 13 342 [9,11,12],jm 7 13,je 14 7 0,je 15 7 1,js 5 (.alloc [(.int .u64 0),(.int .u64 0),(.int .u64 0)]),jw 3 5 14,jm 6 15] [4,5]
(jq [jL 16 3 5,jw 3 4 16] [4]
.ret)))⟩
def Zcd : IFn:=⟨[.tmp 6],
(jq [jx 3 4 0,jx 4 2 1,jx 5 2 2,jv 6 false] [3,4,5]
(jq [jf 10 0 3,jl 11 1 10,jL 12 2 4,jL 13 2 5,jc 14 174 [11,12,13],jm 9 14,je 15 9 0,je 16 9 1,jm 7 15,jm 8 16] [7]
(jq [jm 17 7,ji 18 .eql 17 .u8 1,jm 6 18] [6]
.ret)))⟩
def Zax : IC :=
(jq [ji 25 .lss 24 .i64 7] [3,4,5,6,8,24,25]
(.seq (jC 25
.skip
(.exit 0))
(.seq (.block 1
(jq [jm 26 24,jm 10 26] [3,4,5,6,8,10,24]
(jq [jf 28 0 3,jl 29 1 28,jL 30 2 4,jL 31 4 3,jL 32 2 8,jm 33 10,jc 34 406 [31,32,33],js 35 (.call false (.f 263) [(.t 29),(.c (.int .u8 1)),(.t 30),(.t 34)]),jm 27 35,je 36 27 0,je 37 27 1,js 11 (.alloc [(.int .u64 0),(.int .u64 0),(.int .u8 0),(.int .u8 0)]),jw 4 11 36,jm 12 37] [3,4,5,6,8,11,24]
(.seq (jq [jL 38 4 3,jf 39 0 11,jL 40 2 39,jc 41 384 [38,40],js 42 (.un .not (.t 41))] [3,4,5,6,8,11,24,42]
(jC 42
(.exit 1)
.skip))
(jq [jL 43 4 3,jf 44 0 11,jL 45 2 44,jc 46 401 [43,45],js 47 (.field true 0 2 (.t 46)),js 13 (.alloc [(.int .u64 0),(.int .u64 0)]),jw 2 13 47] [3,4,5,6,8,11,13,24]
(jq [jL 48 4 3,jL 49 2 13,jc 50 384 [48,49],jm 51 50,jg (jL 52 4 3) 51 true,jg (jL 53 2 13) 51 true,jg (jL 54 2 5) 51 true,jg (jc 55 402 [52,53,54]) 51 true,jp 56 51 55] [3,4,5,6,8,11,24,56]
(jC 56
(jq [jf 57 0 11,jL 58 2 57,jw 2 6 58,jk 7 .i64 0] [6,7]
.ret)
.skip)))))))
(jr [ji 59 .add 24 .i64 1,jm 24 59] [3,4,5,6,8,24]))))
def Zah : IC:=.loop [3,4,5,6,8,24] Zax
def Zbh : IFn:=⟨[.cell 6 true 2,.tmp 7],
(jq [jx 3 4 0,jx 4 2 1,jx 5 2 2,js 6 (.alloc [(.int .u64 0),(.int .u64 0)]),jk 7 .i64 0] [3,4,5,6]
(jq [jL 15 4 3,jL 16 2 4,jL 17 2 5,jc 18 405 [15,16,17],jm 14 18,je 19 14 0,je 20 14 1,js 8 (.alloc [(.int .u64 0),(.int .u64 0)]),jw 2 8 19,jm 9 20] [3,4,5,6,8,9]
(.seq (jq [jm 21 9,js 22 (.un .not (.t 21))] [3,4,5,6,8,22]
(jC 22
(jq [jL 23 2 4,jw 2 6 23,jk 7 .i64 2] [6,7]
.ret)
.skip))
(.seq (jq [jk 24 .i64 0] [3,4,5,6,8,24]
(.block 0
 Zah))
(jq [jL 60 2 4,jw 2 6 60,jk 7 .i64 3] [6,7]
.ret)))))⟩
def ZaH : IFn:=⟨[.cell 6 true 2,.tmp 7],
(jq [jx 3 4 0,jx 4 2 1,jx 5 2 2,js 6 (.alloc [(.int .u64 0),(.int .u64 0)]),jv 7 false] [3,4,5,6]
(.seq (jq [jf 14 3 3,jl 15 1 14,js 16 (.un .not (.t 15))] [3,4,5,6,16]
(jC 16
(jq [js 17 (.build [(.int .u64 0),(.int .u64 0)] []),jw 2 6 17,jv 7 false] [6,7]
.ret)
.skip))
(jq [jf 19 0 3,jl 20 1 19,jf 21 2 3,jl 22 1 21,jL 23 2 4,jc 24 342 [20,22,23],jm 18 24,je 25 18 0,je 26 18 1,js 8 (.alloc [(.int .u64 0),(.int .u64 0),(.int .u64 0)]),jw 3 8 25,jm 9 26] [3,5,6,8]
(.seq (jq [jf 28 0 3,jl 29 1 28,jf 30 0 8,jL 31 2 30,jc 32 189 [29,31],jm 27 32,je 33 27 0,je 34 27 1,jm 10 33,jm 11 34] [3,5,6,8,10]
(jq [jm 35 10,ji 36 .neq 35 .u8 2] [3,5,6,8,36]
(jC 36
(jq [js 37 (.build [(.int .u64 0),(.int .u64 0)] []),jw 2 6 37,jv 7 false] [6,7]
.ret)
.skip)))
(jq [jf 39 0 3,jl 40 1 39,jL 41 2 5,jf 42 0 8,jL 43 2 42,js 44 (.call false (.f 257) [(.t 40),(.c (.int .u8 1)),(.t 41),(.t 43)]),jm 38 44,je 45 38 0,je 46 38 1,js 12 (.alloc [(.int .u64 0),(.int .u64 0),(.int .u8 0),(.int .u8 0)]),jw 4 12 45,jm 13 46] [3,6,12]
(jq [jf 47 0 12,jL 48 2 47,jL 49 4 3,jf 50 0 12,jL 51 2 50,jc 52 384 [49,51],jw 2 6 48,jm 7 52] [6,7]
.ret))))))⟩
def ZcY : IFn:=⟨[.cell 6 true 2],
(jq [jx 3 4 0,jx 4 2 1,js 6 (.alloc [(.int .u64 0),(.int .u64 0)])] [2,3,4,6]
(jq [jf 14 0 3,jl 15 1 14,jf 16 0 4,jl 17 1 16,jm 18 2,js 19 (.un .neg (.t 18)),js 20 (.call false (.f 393) [(.t 15),(.c (.int .u8 1)),(.t 17),(.t 19)]),jm 13 20,je 21 13 0,je 22 13 1,je 23 13 2,jm 7 21,jm 8 22,jm 9 23] [2,3,4,6,7]
(jq [jf 25 0 3,jl 26 1 25,jf 27 1 4,jl 28 1 27,jm 29 2,js 30 (.un .neg (.t 29)),js 31 (.call false (.f 393) [(.t 26),(.c (.int .u8 1)),(.t 28),(.t 30)]),jm 24 31,je 32 24 0,je 33 24 1,je 34 24 2,jm 10 32,jm 11 33,jm 12 34] [6,7,10]
(jq [jm 35 7,jm 36 10,js 37 (.build [(.int .u64 0),(.int .u64 0)] [(0,1,(.t 35)),(1,1,(.t 36))]),jw 2 6 37] [6]
.ret))))⟩
structure HasO (gdb : Nat) (T : Tbl) : Prop where
 ZjX : T 326 = some ZaU
 polish_Polish : T 354 = some Zaq
 law28_opens : T 355 = some Zcw
 ZmA : T 356 = some ZiD
 Znj : T 357 = some Zho
 ZlX : T 358 = some Zgr
 Zjl : T 359 = some Zec
 polish_walk_finite : T 384 = some Zcb
 polish_walk_from : T 385 = some ZcX
 law28_four : T 386 = some ZiC
 Zpa : T 387 = some Zds
 polish_walk_from_1 : T 395 = some Zcc
 polish_walk_on : T 396 = some Zbl
 Znv : T 397 = some ZdG
 polish_walk_at : T 401 = some Zei
 polish_walk_nearer : T 402 = some Zcd
 polish_walk_step : T 403 = some Zbh
 polish_walk_shift : T 405 = some ZaH
 polish_walk_part : T 406 = some ZcY
end Go.Cv
set_option maxRecDepth 100000
namespace Go.Cv
def tblL (gdb : Nat) : List (Option IFn):=[none,
 none,
 none,
 none,
 none,
 none,
 none,
 some Zft,
 some ZgM,
 none,
 some ZgK,
 none,
 some Zbt,
 none,
 some ZeF,
 some ZkR,
 some ZeG,
 some ZkK,
 some ZgN,
 some ZgL,
 some ZfV,
 some ZeI,
 some Zkn,
 some Zgt,
 some ZaJ,
 some Zfy,
 some Zmr,
 some Zmo,
 none,
 none,
 some ZkI,
 some ZiQ,
 some Zih,
 some ZkJ,
 some ZhD,
 some ZiU,
 some ZbL,
 some ZkD,
 some Zgp,
 some ZeE,
 some Zml,
 some Zig,
 some ZbW,
 some ZhV,
 some Zdn,
 some ZgH,
 some Zmn,
 some Zgs,
 some ZeC,
 some Zlr,
 some Zdi,
 some ZnH,
 some ZaB,
 some Zbc,
 some ZhU,
 some Zpz,
 some ZjS,
 some ZkV,
 some ZgP,
 some ZdH,
 some Zen,
 none,
 some ZiR,
 some ZiS,
 some Zic,
 some Zfh,
 some Zcz,
 some ZaV,
 some ZkH,
 some ZkE,
 some ZkG,
 some ZiV,
 some ZjQ,
 some ZiT,
 some Zko,
 some ZiB,
 some Zng,
 some Zdh,
 some Zkq,
 some Zea,
 some Zie,
 some ZjO,
 some ZgG,
 some Zid,
 some ZgF,
 some ZiP,
 some ZjM,
 some ZeS,
 some Zdd,
 some ZjP,
 some Zls,
 some ZiO,
 some ZiZ,
 some ZeJ,
 some ZhK,
 some Zdv,
 some Zeo,
 some ZdI,
 some ZhE,
 some ZkA,
 some Zev,
 some ZkB,
 some Zif,
 some ZnI,
 some ZnG,
 some Zlq,
 some ZnJ,
 some ZhZ,
 some Zkx,
 some Zmm,
 some Zff,
 some Zib,
 some Ziy,
 some ZnK,
 some (ZaT gdb),
 some Zed,
 some ZnL,
 some Zkv,
 some Ziz,
 some ZbP,
 some ZfS,
 some ZiA,
 none,
 none,
 none,
 none,
 none,
 none,
 none,
 none,
 none,
 none,
 none,
 none,
 none,
 none,
 none,
 none,
 none,
 none,
 none,
 none,
 none,
 none,
 none,
 none,
 none,
 none,
 none,
 some ZgI,
 some Zeb,
 some Zfj,
 none,
 none,
 some ZkF,
 some ZhB,
 some ZhC,
 some ZgJ,
 some ZfU,
 none,
 none,
 none,
 none,
 none,
 some Zmp,
 some ZeK,
 some Zmq,
 none,
 none,
 some Zhp,
 none,
 none,
 some ZiX,
 some Zfi,
 some Zbq,
 none,
 some ZkT,
 some Zau,
 some ZhL,
 some Zel,
 some Zfv,
 some Zem,
 some Zmj,
 some Zdu,
 some Zmk,
 some Zcs,
 some ZcL,
 none,
 some Zfm,
 some ZaR,
 some ZhJ,
 some Zeh,
 some Zjb,
 some ZgO,
 some ZeL,
 some Zmi,
 some Zin,
 some ZjN,
 some Zhl,
 some Zdf,
 some ZaN,
 some ZbR,
 some Zfz,
 some ZfQ,
 some ZdJ,
 some ZjL,
 some ZjK,
 some Znf,
 some ZfR,
 some Zkp,
 none,
 none,
 none,
 none,
 none,
 none,
 none,
 none,
 none,
 some ZaM,
 some Zii,
 none,
 some ZcA,
 none,
 none,
 none,
 none,
 some ZfX,
 none,
 some ZcD,
 some ZkM,
 some ZkL,
 some ZiW,
 some ZkN,
 some Zfk,
 some ZeH,
 some Zgq,
 some ZaZ,
 none,
 none,
 none,
 none,
 none,
 none,
 none,
 none,
 none,
 none,
 none,
 none,
 some ZcN,
 some ZkO,
 some ZhX,
 none,
 none,
 none,
 some Zim,
 some ZhW,
 some Zil,
 none,
 none,
 none,
 some Zkr,
 some Zks,
 some ZkP,
 none,
 none,
 none,
 some ZaG,
 some ZdA,
 some ZcW,
 some ZeT,
 some ZjJ,
 some ZcC,
 some Zfp,
 some Zex,
 some Zdp,
 some Zas,
 some Zdz,
 some Zdy,
 some ZbB,
 some Zej,
 none,
 none,
 none,
 some Zhn,
 some ZeD,
 none,
 none,
 some Zgv,
 some Zgu,
 some Zfx,
 some ZcE,
 some ZcF,
 some Zci,
 some Zbk,
 some Zhm,
 some Zfn,
 some ZbX,
 some Zfo,
 some Zij,
 some Zfq,
 some Zce,
 some Zik,
 some ZfT,
 none,
 some ZkQ,
 some ZaS,
 some Zcf,
 some ZaI,
 some ZjR,
 some Zew,
 some ZkU,
 some ZfA,
 none,
 some Zja,
 none,
 none,
 none,
 none,
 none,
 none,
 none,
 none,
 none,
 none,
 some ZaU,
 none,
 none,
 none,
 none,
 none,
 none,
 none,
 none,
 none,
 none,
 none,
 none,
 none,
 none,
 none,
 some Zeu,
 none,
 some Zba,
 none,
 some Zdq,
 none,
 none,
 none,
 none,
 some Zdj,
 none,
 some ZdE,
 some Zaq,
 some Zcw,
 some ZiD,
 some Zho,
 some Zgr,
 some Zec,
 none,
 none,
 none,
 none,
 none,
 none,
 none,
 none,
 none,
 none,
 none,
 none,
 none,
 none,
 none,
 some ZbT,
 some Zhx,
 some Zhy,
 some Zhz,
 some Zdk,
 some Zcy,
 some ZiY,
 some Zge,
 some Zfl,
 some Zcb,
 some ZcX,
 some ZiC,
 some Zds,
 none,
 none,
 none,
 none,
 none,
 some Zde,
 some ZcB,
 some Zcc,
 some Zbl,
 some ZdG,
 none,
 some Zkm,
 some ZgD,
 some Zei,
 some Zcd,
 some Zbh,
 some Zkl,
 some ZaH,
 some ZcY,
 none,
 none,
 none]
def tbl (gdb : Nat) : Tbl:=fun n => (tblL gdb).getD n none
theorem hasA (gdb : Nat) : HasA gdb (tbl gdb):=⟨rfl,rfl,rfl,rfl,rfl,rfl,rfl,rfl,rfl,rfl,rfl,rfl,rfl,rfl,rfl,rfl,rfl,rfl,rfl,rfl,rfl,rfl,rfl,rfl,rfl,rfl,rfl,rfl,rfl⟩
theorem hasB (gdb : Nat) : HasB gdb (tbl gdb):=⟨rfl,rfl,rfl,rfl,rfl,rfl,rfl,rfl,rfl,rfl,rfl,rfl,rfl,rfl⟩
theorem hasC (gdb : Nat) : HasC gdb (tbl gdb):=⟨rfl,rfl,rfl,rfl,rfl,rfl,rfl,rfl,rfl,rfl,rfl,rfl,rfl,rfl,rfl,rfl,rfl,rfl,rfl,rfl,rfl,rfl,rfl,rfl,rfl,rfl⟩
theorem hasD (gdb : Nat) : HasD gdb (tbl gdb):=⟨rfl,rfl,rfl,rfl,rfl,rfl,rfl,rfl,rfl,rfl,rfl,rfl,rfl,rfl,rfl,rfl,rfl,rfl,rfl,rfl,rfl,rfl⟩
theorem hasE (gdb : Nat) : HasE gdb (tbl gdb):=⟨rfl,rfl,rfl,rfl,rfl,rfl,rfl,rfl,rfl,rfl,rfl,rfl,rfl,rfl,rfl,rfl,rfl,rfl⟩
theorem hasF (gdb : Nat) : HasF gdb (tbl gdb):=⟨rfl,rfl,rfl,rfl,rfl,rfl,rfl,rfl⟩
theorem hasG (gdb : Nat) : HasG gdb (tbl gdb):=⟨rfl,rfl,rfl,rfl,rfl,rfl,rfl,rfl,rfl,rfl,rfl,rfl,rfl,rfl,rfl,rfl,rfl,rfl,rfl,rfl,rfl,rfl,rfl,rfl,rfl,rfl,rfl,rfl,rfl,rfl,rfl,rfl,rfl,rfl,rfl,rfl,rfl,rfl,rfl,rfl⟩
theorem hasH (gdb : Nat) : HasH gdb (tbl gdb):=⟨rfl,rfl,rfl,rfl,rfl,rfl,rfl,rfl,rfl,rfl,rfl,rfl,rfl⟩
theorem hasJ (gdb : Nat) : HasJ gdb (tbl gdb):=⟨rfl,rfl,rfl,rfl,rfl,rfl,rfl,rfl,rfl,rfl,rfl,rfl,rfl,rfl,rfl,rfl,rfl,rfl,rfl,rfl,rfl,rfl,rfl,rfl,rfl,rfl,rfl,rfl,rfl,rfl,rfl,rfl,rfl,rfl,rfl,rfl,rfl,rfl,rfl,rfl,rfl,rfl,rfl,rfl,rfl,rfl,rfl,rfl,rfl,rfl⟩
theorem hasK (gdb : Nat) : HasK gdb (tbl gdb):=⟨rfl,rfl,rfl,rfl,rfl,rfl,rfl,rfl,rfl,rfl,rfl,rfl,rfl,rfl,rfl,rfl,rfl,rfl,rfl⟩
theorem hasO (gdb : Nat) : HasO gdb (tbl gdb):=⟨rfl,rfl,rfl,rfl,rfl,rfl,rfl,rfl,rfl,rfl,rfl,rfl,rfl,rfl,rfl,rfl,rfl,rfl,rfl⟩
end Go.Cv
namespace Go.Cv
def ntz32 : List Nat:=[0,1,28,2,29,14,24,3,30,22,20,15,25,17,4,8,31,27,13,23,21,19,16,7,26,12,18,6,11,5,10,9]
def Glob (G : Nat→Option (List AV)) (g : Nat) : Prop:=G g = some (ntz32.map fun (d : Nat) => .int .u8 (d : Int))
structure Al (G : Nat→Option (List AV)) (T : Tbl) (g : Nat) : Prop where
 A : HasA g T
 B : HasB g T
 C : HasC g T
 D : HasD g T
 E : HasE g T
 F : HasF g T
 U : HasG g T
 H : HasH g T
 J : HasJ g T
 gl : Glob G g
end Go.Cv
