/-
 A part of the proof of the statements of this seat (texts that the law's own text leans on): no condition.
-/
import Derived.Test.YtnomgajekgfgaaaGreatDoorM5
set_option linter.unusedVariables false
set_option linter.unusedSimpArgs false
namespace Go.Cv
def Zmp : IFn:=⟨[.tmp 8,.tmp 9,.tmp 10],
(jq [jk 8 .u64 0,jk 9 .u8 0,jk 10 .i64 0] [0,1,2,3]
(jq [jm 14 0,jm 15 1,jm 16 2,jm 17 3,js 18 (.bslice 2 1 [(.int .u64 0)] [(0,1,(.t 16)),(1,1,(.t 17))]),jc 19 176 [14,15,18],jm 13 19,je 20 13 0,je 21 13 1,jm 11 20,jm 12 21] [0,1,11,12]
(.seq (jq [jm 22 12,ji 23 .neq 22 .i64 0] [0,1,11,12,23]
(jC 23
(jq [jm 24 12,jk 8 .u64 0,jk 9 .u8 0,jm 10 24] [8,9,10]
.ret)
.skip))
(jq [jm 25 0,jm 26 1,js 27 (.build [(.int .u8 0),(.int .u8 0)] [(0,1,(.t 25)),(1,1,(.t 26))]),jm 28 11,js 29 (.iaddr 5 (.t 28) (.c (.int .i64 0))),jL 30 5 29,jm 31 11,js 32 (.iaddr 5 (.t 31) (.c (.int .i64 1))),jL 33 5 32,jc 34 177 [27,30,33],je 35 34 0,je 36 34 1,je 37 34 2,jm 8 35,jm 9 36,jm 10 37] [8,9,10]
.ret))))⟩
def ZeK : IFn:=⟨[.tmp 8,.tmp 9,.tmp 10],
(jq [jk 8 .u64 0,jk 9 .u8 0,jk 10 .i64 0] [0,1,2,3]
(jq [jm 20 0,jm 21 1,jm 22 2,jm 23 3,js 24 (.bslice 2 1 [(.int .u64 0)] [(0,1,(.t 22)),(1,1,(.t 23))]),jc 25 176 [20,21,24],jm 19 25,je 26 19 0,je 27 19 1,jm 11 26,jm 12 27] [0,1,11,12]
(.seq (jq [jm 28 12,ji 29 .neq 28 .i64 0] [0,1,11,12,29]
(jC 29
(jq [jm 30 12,jk 8 .u64 0,jk 9 .u8 0,jm 10 30] [8,9,10]
.ret)
.skip))
(.seq (.reg [jm 31 0,jm 32 1,js 33 (.build [(.int .u8 0),(.int .u8 0)] [(0,1,(.t 31)),(1,1,(.t 32))]),jm 34 11,js 35 (.iaddr 5 (.t 34) (.c (.int .i64 0))),jL 36 5 35,jm 37 11,js 38 (.iaddr 5 (.t 37) (.c (.int .i64 1))),jL 39 5 38,js 13 (.alloc [(.int .u8 0),(.int .u8 0)]),js 14 (.alloc [(.int .u8 0),(.bool false),(.bool false),.nil,(.int .i64 0)]),js 15 (.alloc [(.int .u8 0),(.bool false),(.bool false),.nil,(.int .i64 0)]),jw 2 13 33,jw 5 14 36,jw 5 15 39] [11,13,14,15] [(5,12),(8,12),(8,13)])
(jq [jf 40 1 14,jl 41 1 40,jf 42 1 15,jl 43 1 42,js 44 (.eqb true (.t 41) (.t 43)),jm 16 44] [11,13,14,15,16]
(.seq (.block 0
(jq [jm 46 11,js 47 (.call false (.f 178) [(.c (.int .u8 5)),(.t 46)]),jm 45 47] [11,13,14,15,16,45]
(jC 45
(jq [jL 48 2 13,js 49 (.call false (.f 179) [(.t 48),(.c (.int .u8 0))]),je 50 49 0,je 51 49 1,je 52 49 2,jm 8 50,jm 9 51,jm 10 52] [8,9,10]
.ret)
(jq [jm 54 11,js 55 (.call false (.f 178) [(.c (.int .u8 4)),(.t 54)]),jm 56 55,jg (jm 57 11) 56 true,jg (js 58 (.call false (.f 178) [(.c (.int .u8 1)),(.t 57)])) 56 true,jp 59 56 58,jm 53 59] [11,13,14,15,16,53]
(jC 53
(jq [jL 60 2 13,js 61 (.call false (.f 179) [(.t 60),(.c (.int .u8 1))]),je 62 61 0,je 63 61 1,je 64 61 2,jm 8 62,jm 9 63,jm 10 64] [8,9,10]
.ret)
(jq [jm 66 11,js 67 (.call false (.f 178) [(.c (.int .u8 4)),(.t 66)]),jm 65 67] [11,13,14,15,16,65]
(jC 65
(jq [jL 68 2 13,jm 69 16,js 70 (.call false (.f 180) [(.t 68),(.t 69),(.c (.int .u8 0))]),je 71 70 0,je 72 70 1,je 73 70 2,jm 8 71,jm 9 72,jm 10 73] [8,9,10]
.ret)
(jq [jm 75 11,js 76 (.call false (.f 178) [(.c (.int .u8 1)),(.t 75)]),jm 74 76] [13,14,15,16,74]
(jC 74
(jq [jL 77 2 13,jm 78 16,jc 79 181 [77,78],je 80 79 0,je 81 79 1,je 82 79 2,jm 8 80,jm 9 81,jm 10 82] [8,9,10]
.ret)
.skip)))))))))
(jq [jf 84 2 14,jL 85 3 84,jf 86 2 15,jL 87 3 86,jc 88 182 [85,87],jm 83 88,je 89 83 0,je 90 83 1,js 17 (.alloc [(.bool false),.nil,(.int .i64 0)]),jw 3 17 89,jm 18 90] [13,17]
(jq [jL 91 2 13,jL 92 3 17,jc 93 183 [91,92],je 94 93 0,je 95 93 1,je 96 93 2,jm 8 94,jm 9 95,jm 10 96] [8,9,10]
.ret))))))))⟩
def Zmq : IFn:=⟨[.tmp 8,.tmp 9,.tmp 10],
(jq [jk 8 .u64 0,jk 9 .u8 0,jk 10 .i64 0] [0,1,2,3]
(jq [jm 15 0,jm 16 1,jm 17 2,jm 18 3,js 19 (.bslice 2 1 [(.int .u64 0)] [(0,1,(.t 17)),(1,1,(.t 18))]),jc 20 176 [15,16,19],jm 14 20,je 21 14 0,je 22 14 1,jm 11 21,jm 12 22] [0,1,11,12]
(.seq (jq [jm 23 12,ji 24 .neq 23 .i64 0] [0,1,11,12,24]
(jC 24
(jq [jm 25 12,jk 8 .u64 0,jk 9 .u8 0,jm 10 25] [8,9,10]
.ret)
.skip))
(jq [jm 26 11,js 27 (.iaddr 5 (.t 26) (.c (.int .i64 1))),jL 28 5 27,js 13 (.alloc [(.int .u8 0),(.bool false),(.bool false),.nil,(.int .i64 0)]),jw 5 13 28] [0,1,11,13]
(jq [jf 29 1 13,jl 30 1 29,js 31 (.un .not (.t 30)),jf 32 1 13,jw 1 32 31] [0,1,11,13]
(jq [jf 34 2 13,jL 35 3 34,jc 36 184 [35],jm 33 36,je 37 33 0,je 38 33 1,jf 39 2 13,jw 3 39 37] [0,1,11,13]
(jq [jm 40 0,jm 41 1,js 42 (.build [(.int .u8 0),(.int .u8 0)] [(0,1,(.t 40)),(1,1,(.t 41))]),jm 43 11,js 44 (.iaddr 5 (.t 43) (.c (.int .i64 0))),jL 45 5 44,jL 46 5 13,jc 47 177 [42,45,46],je 48 47 0,je 49 47 1,je 50 47 2,jm 8 48,jm 9 49,jm 10 50] [8,9,10]
.ret)))))))⟩
def Zhp : IFn:=⟨[.tmp 6,.tmp 7,.tmp 8],
(jq [jx 5 2 2,jk 6 .u64 0,jk 7 .u8 0,jk 8 .i64 0] [0,1,5]
(jq [jm 9 0,jm 10 1,jL 11 2 5,js 12 (.call false (.f 186) [(.t 9),(.t 10),(.t 11),(.f 18)]),je 13 12 0,je 14 12 1,je 15 12 2,jm 6 13,jm 7 14,jm 8 15] [6,7,8]
.ret))⟩
def ZiX : IFn:=⟨[.cell 4 true 2],
(jq [jx 3 2 1,js 4 (.alloc [(.int .u64 0),(.int .u64 0)])] [0,3,4]
(jq [jm 5 0,jf 6 0 3,jl 7 1 6,jc 8 173 [5,7],jm 9 0,jf 10 1 3,jl 11 1 10,jc 12 188 [9,11],js 13 (.build [(.int .u64 0),(.int .u64 0)] [(0,1,(.t 8)),(1,1,(.t 12))]),jw 2 4 13] [4]
.ret))⟩
def Zfi : IFn:=⟨[.tmp 4],
(jq [jk 4 .u64 0] [0,1]
(.seq (jq [jm 5 0,jm 6 1,jc 7 155 [5,6],ji 8 .eql 7 .u8 5] [0,1,8]
(jC 8
(jq [jm 9 0,jc 10 157 [9],jm 4 10] [4]
.ret)
.skip))
(jq [jm 11 1,jm 4 11] [4]
.ret)))⟩
def Zbq : IFn:=⟨[.tmp 6,.tmp 7],
(jq [jx 4 2 1,jx 5 2 2,jk 6 .u8 0,jk 7 .i64 0] [0,4,5]
(jq [jm 14 0,jL 15 2 4,jc 16 189 [14,15],jm 13 16,je 17 13 0,je 18 13 1,jm 8 17,jm 9 18] [0,4,5,8,9]
(.seq (jq [jm 19 9,ji 20 .neq 19 .i64 0] [0,4,5,8,9,20]
(jC 20
(jq [jm 21 9,jk 6 .u8 0,jm 7 21] [6,7]
.ret)
.skip))
(jq [jm 23 0,jL 24 2 5,jc 25 189 [23,24],jm 22 25,je 26 22 0,je 27 22 1,jm 10 26,jm 9 27] [0,4,5,8,9,10]
(.seq (.block 0
(jq [jm 29 9,ji 30 .neq 29 .i64 0,jm 28 30] [0,4,5,8,9,10,28]
(jC 28
(jq [jm 31 9,jk 6 .u8 0,jm 7 31] [6,7]
.ret)
(jq [jm 33 8,ji 34 .eql 33 .u8 4,jm 35 34,jg (jm 36 10) 35 false,jg (ji 37 .eql 36 .u8 4) 35 false,jP 38 35 37,jm 32 38] [0,4,5,8,10,32]
(jC 32
(jq [jk 6 .u8 4,jk 7 .i64 0] [6,7]
.ret)
(jq [jm 40 8,ji 41 .eql 40 .u8 3,jm 42 41,jg (jm 43 10) 42 true,jg (ji 44 .eql 43 .u8 3) 42 true,jp 45 42 44,jm 39 45] [0,4,5,8,10,39]
(jC 39
(jq [jk 6 .u8 2,jk 7 .i64 0] [6,7]
.ret)
(jq [jm 47 8,ji 48 .eql 47 .u8 3,jm 46 48] [0,4,5,10,46]
(jC 46
(jq [jk 6 .u8 3,jk 7 .i64 0] [6,7]
.ret)
(jq [jm 50 10,ji 51 .eql 50 .u8 3,jm 49 51] [0,4,5,49]
(jC 49
(jq [jk 6 .u8 1,jk 7 .i64 0] [6,7]
.ret)
.skip)))))))))))
(jq [jm 53 0,jL 54 2 4,jc 55 191 [53,54],jm 56 0,jL 57 2 5,jc 58 191 [56,57],jc 59 190 [55,58],jm 52 59,je 60 52 0,je 61 52 1,jm 11 60,jm 12 61] [11]
(jq [jm 62 11,js 63 (.cvt .u8 (.t 62)),js 64 (.bin .add (.c (.int .u8 2)) (.t 63)),jm 6 64,jk 7 .i64 0] [6,7]
.ret)))))))⟩
def Zjx : IC :=
(jq [jb 34 .lss 33 32] [0,10,31,32,33,34]
(.seq (jC 34
.skip
(.exit 0))
(.seq (.block 1
(jq [ja 35 1 31 33,jl 36 1 35,jm 12 36] [0,10,12,31,32,33]
(jq [jm 38 0,jm 39 12,jc 40 192 [38,39],jm 37 40,je 41 37 0,je 42 37 1,js 13 (.alloc [(.bool false),(.int .i64 0),(.int .u64 0)]),jw 3 13 41,jm 14 42] [0,10,12,13,14,31,32,33]
(.seq (jq [jm 43 14,ji 44 .neq 43 .i64 0] [0,10,12,13,14,31,32,33,44]
(jC 44
(jq [jm 45 14,js 6 (.mov (.c .nil)),jm 7 45] [6,7]
.ret)
.skip))
(jq [jm 47 0,jm 48 12,jc 49 193 [47,48],jm 46 49,je 50 46 0,je 51 46 1,jm 15 50,jm 16 51] [0,10,12,13,15,31,32,33]
(jq [jm 53 0,jm 54 12,jc 55 194 [53,54],jm 52 55,je 56 52 0,je 57 52 1,js 17 (.alloc [(.bool false),.nil,(.int .i64 0)]),jw 3 17 56,jm 18 57] [0,10,13,15,17,31,32,33]
(jr [jm 58 10,jm 59 15,jf 60 0 13,jl 61 1 60,jL 62 3 17,js 63 (.build [(.int .u8 0),(.bool false),(.bool false),.nil,(.int .i64 0)] [(0,1,(.t 59)),(1,1,(.t 61)),(2,3,(.t 62))]),js 64 (.bslice 1 5 [(.int .u8 0),(.bool false),(.bool false),.nil,(.int .i64 0)] [(0,5,(.t 63))]),js 65 (.app 5 48 (.t 58) (.t 64)),jm 10 65] [0,10,31,32,33])))))))
(jr [ji 66 .add 33 .i64 1,jm 33 66] [0,10,31,32,33]))))
def Zjy : IC:=.loop [0,10,31,32,33] Zjx
def ZkT : IFn:=⟨[.tmp 6,.tmp 7],
(jq [js 6 (.mov (.c .nil)),jk 7 .i64 0] [0,1,2]
(.seq (jq [jm 20 0,jm 21 1,js 22 (.call false (.f 8) [(.t 20),(.t 21),(.c (.bool false))]),jm 19 22,je 23 19 0,je 24 19 1,jm 8 23,jm 9 24] [0,2,9]
(jq [jm 25 9,ji 26 .neq 25 .i64 0] [0,2,9,26]
(jC 26
(jq [jm 27 9,js 6 (.mov (.c .nil)),jm 7 27] [6,7]
.ret)
.skip)))
(jq [jm 28 2,jn 29 28,js 30 (.mk 5 48 [(.int .u8 0),(.bool false),(.bool false),.nil,(.int .i64 0)] (.c (.int .i64 0)) (.t 29)),jm 10 30] [0,2,10]
(.seq (jq [jm 31 2,jn 32 31,jk 33 .i64 0] [0,10,31,32,33]
(.block 0
 Zjy))
(jq [jm 67 10,jm 6 67,jk 7 .i64 0] [6,7]
.ret)))))⟩
def Zau : IFn:=⟨[.tmp 6,.tmp 7,.tmp 8],
(jq [jx 3 2 0,jx 4 5 1,jx 5 5 2,jk 6 .u64 0,jk 7 .u8 0,jk 8 .i64 0] [3,4,5]
(.seq (.block 0
(jq [jL 12 5 4,jL 13 5 5,js 14 (.bslice 2 5 [(.int .u8 0),(.bool false),(.bool false),.nil,(.int .i64 0)] [(0,5,(.t 12)),(5,5,(.t 13))]),js 15 (.call false (.f 178) [(.c (.int .u8 5)),(.t 14)]),jm 11 15] [3,4,5,11]
(jC 11
(jq [jL 16 2 3,js 17 (.call false (.f 179) [(.t 16),(.c (.int .u8 0))]),je 18 17 0,je 19 17 1,je 20 17 2,jm 6 18,jm 7 19,jm 8 20] [6,7,8]
.ret)
(jq [jf 22 0 4,jl 23 1 22,ji 24 .eql 23 .u8 4,jm 25 24,jg (jf 26 0 5) 25 true,jg (jl 27 1 26) 25 true,jg (ji 28 .eql 27 .u8 4) 25 true,jp 29 25 28,jm 30 29,jg (jf 31 1 4) 30 true,jg (jl 32 1 31) 30 true,jg (jf 33 1 5) 30 true,jg (jl 34 1 33) 30 true,jg (js 35 (.eqb true (.t 32) (.t 34))) 30 true,jp 36 30 35,jm 21 36] [3,4,5,21]
(jC 21
(jq [jL 37 2 3,js 38 (.call false (.f 179) [(.t 37),(.c (.int .u8 1))]),je 39 38 0,je 40 38 1,je 41 38 2,jm 6 39,jm 7 40,jm 8 41] [6,7,8]
.ret)
(jq [jf 43 0 4,jl 44 1 43,ji 45 .eql 44 .u8 4,jm 42 45] [3,4,5,42]
(jC 42
(jq [jL 46 2 3,jf 47 1 4,jl 48 1 47,js 49 (.call false (.f 180) [(.t 46),(.t 48),(.c (.int .u8 0))]),je 50 49 0,je 51 49 1,je 52 49 2,jm 6 50,jm 7 51,jm 8 52] [6,7,8]
.ret)
(jq [jf 54 0 5,jl 55 1 54,ji 56 .eql 55 .u8 4,jm 53 56] [3,4,5,53]
(jC 53
(jq [jL 57 2 3,jf 58 1 5,jl 59 1 58,js 60 (.call false (.f 180) [(.t 57),(.t 59),(.c (.int .u8 0))]),je 61 60 0,je 62 60 1,je 63 60 2,jm 6 61,jm 7 62,jm 8 63] [6,7,8]
.ret)
(jq [jf 65 0 4,jl 66 1 65,ji 67 .eql 66 .u8 1,jm 68 67,jg (jf 69 0 5) 68 true,jg (jl 70 1 69) 68 true,jg (ji 71 .eql 70 .u8 1) 68 true,jp 72 68 71,jm 73 72,jg (jf 74 1 4) 73 true,jg (jl 75 1 74) 73 true,jg (jf 76 1 5) 73 true,jg (jl 77 1 76) 73 true,jg (js 78 (.eqb false (.t 75) (.t 77))) 73 true,jp 79 73 78,jm 64 79] [3,4,5,64]
(jC 64
(jq [jL 80 2 3,jf 81 1 4,jl 82 1 81,jc 83 181 [80,82],je 84 83 0,je 85 83 1,je 86 83 2,jm 6 84,jm 7 85,jm 8 86] [6,7,8]
.ret)
.skip)))))))))))
(jq [jf 88 2 4,jL 89 3 88,jf 90 2 5,jL 91 3 90,jc 92 195 [89,91],jm 87 92,je 93 87 0,je 94 87 1,js 9 (.alloc [(.bool false),.nil,(.int .i64 0)]),jw 3 9 93,jm 10 94] [3,9]
(jq [jL 95 2 3,jL 96 3 9,jc 97 183 [95,96],je 98 97 0,je 99 97 1,je 100 97 2,jm 6 98,jm 7 99,jm 8 100] [6,7,8]
.ret))))⟩
def Zfw : IC :=
(jq [jb 10 .lss 9 8] [0,7,8,9,10]
(.seq (jC 10
.skip
(.exit 0))
(.seq (.block 1
(jq [ja 11 5 7 9,jL 12 5 11,js 6 (.alloc [(.int .u8 0),(.bool false),(.bool false),.nil,(.int .i64 0)]),jw 5 6 12] [0,6,7,8,9]
(jq [jf 13 0 6,jl 14 1 13,jm 15 0,jb 16 .eql 14 15] [0,7,8,9,16]
(jC 16
(jq [jv 4 true] [4]
.ret)
.skip))))
(jr [ji 17 .add 9 .i64 1,jm 9 17] [0,7,8,9]))))
def ZkS : IC:=.loop [0,7,8,9] Zfw
def ZhL : IFn:=⟨[.tmp 4],
(jq [jv 4 false] [0,1]
(.seq (jq [jm 7 1,jn 8 7,jk 9 .i64 0] [0,7,8,9]
(.block 0
 ZkS))
(jq [jv 4 false] [4]
.ret)))⟩
def Zel : IFn:=⟨[.tmp 4,.tmp 5,.tmp 6],
(jq [jx 2 2 0,jk 4 .u64 0,jk 5 .u8 0,jk 6 .i64 0] [1,2]
(jq [jf 10 0 2,jl 11 1 10,jc 12 196 [11],jm 9 12,je 13 9 0,je 14 9 1,jm 7 13,jm 8 14] [1,7,8]
(jq [jm 15 7,jm 16 1,jm 17 8,jm 4 15,jm 5 16,jm 6 17] [4,5,6]
.ret)))⟩
def Zfv : IFn:=⟨[.tmp 6,.tmp 7,.tmp 8],
(jq [jx 3 2 0,jk 6 .u64 0,jk 7 .u8 0,jk 8 .i64 0] [1,2,3]
(jq [jf 12 0 3,jl 13 1 12,jm 14 1,jc 15 26 [13,14],jm 11 15,je 16 11 0,je 17 11 1,jm 9 16,jm 10 17] [2,9,10]
(jq [jm 18 9,jm 19 2,jm 20 10,jm 6 18,jm 7 19,jm 8 20] [6,7,8]
.ret)))⟩
def Zem : IFn:=⟨[.tmp 4,.tmp 5,.tmp 6],
(jq [jx 2 2 0,jk 4 .u64 0,jk 5 .u8 0,jk 6 .i64 0] [1,2]
(jq [jf 10 0 2,jl 11 1 10,jm 12 1,jc 13 57 [11,12],jm 9 13,je 14 9 0,je 15 9 1,jm 7 14,jm 8 15] [7,8]
(jq [jm 16 7,jm 17 8,jm 4 16,jk 5 .u8 0,jm 6 17] [4,5,6]
.ret)))⟩
def Zmj : IFn:=⟨[.cell 4 true 3,.tmp 5],
(jq [jx 2 3 0,jx 3 3 1,js 4 (.alloc [(.bool false),.nil,(.int .i64 0)]),jk 5 .i64 0] [2,3,4]
(.seq (jq [jL 8 3 2,jL 9 3 3,js 10 (.bslice 2 3 [(.bool false),.nil,(.int .i64 0)] [(0,3,(.t 8)),(3,3,(.t 9))]),jc 11 74 [10],js 12 (.un .not (.t 11))] [2,3,4,12]
(jC 12
(jq [js 13 (.build [(.bool false),.nil,(.int .i64 0)] []),jw 3 4 13,jk 5 .i64 2] [4,5]
.ret)
.skip))
(jq [jf 15 1 2,jl 16 1 15,jf 17 1 3,jl 18 1 17,jc 19 197 [16,18],jm 14 19,je 20 14 0,je 21 14 1,jm 6 20,jm 7 21] [2,3,4,6,7]
(.seq (jq [jm 22 7,ji 23 .neq 22 .i64 0] [2,3,4,6,7,23]
(jC 23
(jq [js 24 (.build [(.bool false),.nil,(.int .i64 0)] []),jm 25 7,jw 3 4 24,jm 5 25] [4,5]
.ret)
.skip))
(jq [jf 26 0 2,jl 27 1 26,jf 28 0 3,jl 29 1 28,js 30 (.eqb true (.t 27) (.t 29)),jm 31 6,jf 32 2 2,jl 33 1 32,jf 34 2 3,jl 35 1 34,jb 36 .add 33 35,jc 37 54 [30,31,36],je 38 37 0,je 39 37 1,jw 3 4 38,jm 5 39] [4,5]
.ret)))))⟩
def Zdu : IFn:=⟨[.tmp 4,.tmp 5,.tmp 6],
(jq [jx 2 2 0,jx 3 3 1,jk 4 .u64 0,jk 5 .u8 0,jk 6 .i64 0] [2,3]
(.seq (jq [jL 7 3 3,jc 8 22 [7],ji 9 .eql 8 .i64 0] [2,3,9]
(jC 9
(jq [jL 10 2 2,jf 11 1 2,jl 12 1 11,ji 13 .eql 12 .u8 5,jc 14 181 [10,13],je 15 14 0,je 16 14 1,je 17 14 2,jm 4 15,jm 5 16,jm 6 17] [4,5,6]
.ret)
.skip))
(jq [jf 18 0 2,jl 19 1 18,jf 20 1 2,jl 21 1 20,jL 22 3 3,jc 23 7 [19,21,22],je 24 23 0,je 25 23 1,je 26 23 2,jm 4 24,jm 5 25,jm 6 26] [4,5,6]
.ret)))⟩
def Zmk : IFn:=⟨[.cell 2 true 3,.tmp 3],
(jq [jx 1 3 0,js 2 (.alloc [(.bool false),.nil,(.int .i64 0)]),jk 3 .i64 0] [1,2]
(.seq (jq [jL 4 3 1,jc 5 48 [4],js 6 (.un .not (.t 5))] [1,2,6]
(jC 6
(jq [js 7 (.build [(.bool false),.nil,(.int .i64 0)] []),jw 3 2 7,jk 3 .i64 2] [2,3]
.ret)
.skip))
(jq [jL 8 3 1,jf 9 0 1,jl 10 1 9,js 11 (.un .not (.t 10)),jc 12 198 [8,11],jw 3 2 12,jk 3 .i64 0] [2,3]
.ret)))⟩
def ZaF : IC :=
(.seq (jq [jm 9 5,jm 10 1,jn 11 10,jb 12 .lss 9 11] [0,1,5,12]
(jC 12
.skip
(.exit 0)))
(.seq (.block 1
(jq [jm 15 0,jm 16 1,jm 17 5,ja 18 2 16 17,jf 19 0 18,jl 20 1 19,jc 21 149 [15,20],ji 22 .neq 21 .i64 0,jm 23 22,jg (jm 24 0) 23 false,jg (jm 25 1) 23 false,jg (jm 26 5) 23 false,jg (ja 27 2 25 26) 23 false,jg (jf 28 1 27) 23 false,jg (jl 29 1 28) 23 false,jg (jc 30 149 [24,29]) 23 false,jg (ji 31 .neq 30 .i64 0) 23 false,jP 32 23 31] [0,1,5,32]
(jC 32
(jq [jk 4 .i64 6] [4]
.ret)
.skip)))
(jr [jm 13 5,ji 14 .add 13 .i64 1,jm 5 14] [0,1,5])))
def Zdo : IC:=.loop [0,1,5] ZaF
def Zcs : IFn:=⟨[.tmp 4],
(jq [jk 4 .i64 0] [0,1]
(.seq (jq [jm 6 0,jc 7 27 [6],js 8 (.un .not (.t 7))] [0,1,8]
(jC 8
(jq [jk 4 .i64 4] [4]
.ret)
.skip))
(.seq (jq [jk 5 .i64 0] [0,1,5]
(.block 0
 Zdo))
(jq [jk 4 .i64 0] [4]
.ret))))⟩
def ZcL : IFn:=⟨[.tmp 8,.tmp 9,.tmp 10],
(jq [jx 6 2 2,jk 8 .u64 0,jk 9 .u8 0,jk 10 .i64 0] [0,1,3,6]
(.seq (jq [jm 20 0,jm 21 1,js 22 (.call false (.f 8) [(.t 20),(.t 21),(.c (.bool false))]),jm 19 22,je 23 19 0,je 24 19 1,jm 11 23,jm 12 24] [0,1,3,6,12]
(jq [jm 25 12,ji 26 .neq 25 .i64 0] [0,1,3,6,12,26]
(jC 26
(jq [jm 27 12,jk 8 .u64 0,jk 9 .u8 0,jm 10 27] [8,9,10]
.ret)
.skip)))
(jq [jm 29 0,jL 30 2 6,jc 31 189 [29,30],jm 28 31,je 32 28 0,je 33 28 1,jm 13 32,jm 14 33] [0,1,3,6,13,14]
(.seq (.block 0
(jq [jm 35 14,ji 36 .neq 35 .i64 0,jm 34 36] [0,1,3,6,13,14,34]
(jC 34
(jq [jm 37 14,jk 8 .u64 0,jk 9 .u8 0,jm 10 37] [8,9,10]
.ret)
(jq [jm 39 13,ji 40 .eql 39 .u8 3,jm 38 40] [0,1,3,6,13,38]
(jC 38
(jq [jm 42 0,js 43 (.call false (.f 26) [(.t 42),(.c (.bool false))]),jm 41 43,je 44 41 0,je 45 41 1,jm 15 44,jm 16 45] [15]
(jq [jm 46 15,jm 8 46,jk 9 .u8 0,jk 10 .i64 0] [8,9,10]
.ret))
(jq [jm 48 13,ji 49 .eql 48 .u8 4,jm 47 49] [0,1,3,6,47]
(jC 47
(jq [jm 51 0,jc 52 196 [51],jm 50 52,je 53 50 0,je 54 50 1,jm 17 53,jm 18 54] [17]
(jq [jm 55 17,jm 8 55,jk 9 .u8 0,jk 10 .i64 0] [8,9,10]
.ret))
.skip)))))))
(jq [jm 56 3,jm 57 0,jm 58 1,jm 59 0,jL 60 2 6,jc 61 191 [59,60],js 62 (.call false (.t 56) [(.t 57),(.t 58),(.t 61)]),je 63 62 0,je 64 62 1,je 65 62 2,jm 8 63,jm 9 64,jm 10 65] [8,9,10]
.ret)))))⟩
def Zfm : IFn:=⟨[.tmp 4],
(jq [jk 4 .u64 0] [0,1]
(.seq (jq [jm 5 0,jm 6 1,jc 7 155 [5,6],ji 8 .eql 7 .u8 5] [0,1,8]
(jC 8
(jq [jm 9 0,jc 10 157 [9],jm 4 10] [4]
.ret)
.skip))
(jq [jm 11 0,jm 12 1,jm 13 0,jm 14 1,jc 15 156 [13,14],js 16 (.field false 0 1 (.t 15)),js 17 (.un .not (.t 16)),jc 18 38 [11,12,17],jm 4 18] [4]
.ret)))⟩
def ZaR : IFn:=⟨[.tmp 4,.tmp 5],
(jq [jx 3 2 1,jk 4 .u8 0,jk 5 .i64 0] [0,3]
(jq [jm 10 0,jf 11 0 3,jl 12 1 11,jc 13 193 [10,12],jm 9 13,je 14 9 0,je 15 9 1,jm 6 14,jm 7 15] [0,3,6,7]
(.seq (jq [jm 16 7,ji 17 .neq 16 .i64 0] [0,3,6,7,17]
(jC 17
(jq [jm 18 7,jk 4 .u8 0,jm 5 18] [4,5]
.ret)
.skip))
(jq [jm 20 0,jf 21 1 3,jl 22 1 21,jc 23 193 [20,22],jm 19 23,je 24 19 0,je 25 19 1,jm 8 24,jm 7 25] [6,7,8]
(.seq (.block 0
(jq [jm 27 7,ji 28 .neq 27 .i64 0,jm 26 28] [6,7,8,26]
(jC 26
(jq [jm 29 7,jk 4 .u8 0,jm 5 29] [4,5]
.ret)
(jq [jm 31 6,ji 32 .eql 31 .u8 4,jm 33 32,jg (jm 34 8) 33 false,jg (ji 35 .eql 34 .u8 4) 33 false,jP 36 33 35,jm 30 36] [6,8,30]
(jC 30
(jq [jk 4 .u8 3,jk 5 .i64 0] [4,5]
.ret)
(jq [jm 38 6,ji 39 .eql 38 .u8 5,jm 40 39,jg (jm 41 8) 40 false,jg (ji 42 .eql 41 .u8 5) 40 false,jP 43 40 42,jm 37 43] [6,8,37]
(jC 37
(jq [jk 4 .u8 4,jk 5 .i64 0] [4,5]
.ret)
(jq [jm 45 6,ji 46 .eql 45 .u8 1,jm 47 46,jg (jm 48 8) 47 true,jg (ji 49 .eql 48 .u8 1) 47 true,jp 50 47 49,jm 44 50] [44]
(jC 44
(jq [jk 4 .u8 1,jk 5 .i64 0] [4,5]
.ret)
.skip)))))))))
(jq [jk 4 .u8 2,jk 5 .i64 0] [4,5]
.ret))))))⟩
def ZhJ : IFn:=⟨[.tmp 4,.tmp 5],
(jq [jx 2 3 0,jx 3 3 1,jk 4 .i64 0,jk 5 .i64 0] [2,3]
(.seq (jq [jL 8 3 2,jL 9 3 3,js 10 (.bslice 2 3 [(.bool false),.nil,(.int .i64 0)] [(0,3,(.t 8)),(3,3,(.t 9))]),jc 11 74 [10],js 12 (.un .not (.t 11))] [2,3,12]
(jC 12
(jq [jk 4 .i64 0,jk 5 .i64 2] [4,5]
.ret)
.skip))
(jq [jL 13 3 2,jc 14 22 [13],jL 15 3 3,jc 16 22 [15],jm 6 14,jm 7 16] [2,3,6,7]
(.seq (.block 0
(jq [jm 18 6,jm 19 7,jb 20 .lss 18 19,jm 17 20] [2,3,6,7,17]
(jC 17
(jq [jk 4 .i64 (-1),jk 5 .i64 0] [4,5]
.ret)
(jq [jm 22 6,jm 23 7,jb 24 .gtr 22 23,jm 21 24] [2,3,6,21]
(jC 21
(jq [jk 4 .i64 1,jk 5 .i64 0] [4,5]
.ret)
.skip)))))
(jq [jm 25 6,jL 26 3 2,jL 27 3 3,jc 28 199 [26,27],jb 29 .mul 25 28,jm 4 29,jk 5 .i64 0] [4,5]
.ret)))))⟩
def Zeh : IFn:=⟨[.cell 4 true 3],
(jq [jx 3 2 1,js 4 (.alloc [(.bool false),.nil,(.int .i64 0)])] [0,3,4]
(jq [jm 16 0,jf 17 0 3,jl 18 1 17,jc 19 194 [16,18],jm 15 19,je 20 15 0,je 21 15 1,js 5 (.alloc [(.bool false),.nil,(.int .i64 0)]),jw 3 5 20,jm 6 21] [0,3,4,5]
(jq [jm 23 0,jf 24 1 3,jl 25 1 24,jc 26 194 [23,25],jm 22 26,je 27 22 0,je 28 22 1,js 7 (.alloc [(.bool false),.nil,(.int .i64 0)]),jw 3 7 27,jm 8 28] [4,5,7]
(jq [jL 30 3 5,jL 31 3 5,jc 32 182 [30,31],jm 29 32,je 33 29 0,je 34 29 1,js 9 (.alloc [(.bool false),.nil,(.int .i64 0)]),jw 3 9 33,jm 10 34] [4,7,9]
(jq [jL 36 3 7,jL 37 3 7,jc 38 182 [36,37],jm 35 38,je 39 35 0,je 40 35 1,js 11 (.alloc [(.bool false),.nil,(.int .i64 0)]),jw 3 11 39,jm 12 40] [4,9,11]
(jq [jL 42 3 9,jL 43 3 11,jc 44 195 [42,43],jm 41 44,je 45 41 0,je 46 41 1,js 13 (.alloc [(.bool false),.nil,(.int .i64 0)]),jw 3 13 45,jm 14 46] [4,13]
(jq [jL 47 3 13,jw 3 4 47] [4]
.ret)))))))⟩
def Zjb : IFn:=⟨[.cell 4 true 3,.tmp 5],
(jq [js 4 (.alloc [(.bool false),(.int .i64 0),(.int .u64 0)]),jk 5 .i64 0] [0,1,4]
(jq [jm 9 0,jm 10 1,js 11 (.bslice 1 1 [(.int .u64 0)] [(0,1,(.t 10))]),jc 12 95 [9,11],jm 8 12,je 13 8 0,je 14 8 1,js 6 (.alloc [(.int .i64 0),(.int .i64 0),(.int .u64 0)]),jw 3 6 13,jm 7 14] [1,4,6,7]
(.seq (jq [jm 15 7,ji 16 .neq 15 .i64 0] [1,4,6,7,16]
(jC 16
(jq [js 17 (.build [(.bool false),(.int .i64 0),(.int .u64 0)] []),jm 18 7,jw 3 4 17,jm 5 18] [4,5]
.ret)
.skip))
(jq [jL 19 3 6,jm 20 1,jc 21 200 [19,20],jw 3 4 21,jk 5 .i64 0] [4,5]
.ret))))⟩
def ZgO : IFn:=⟨[.tmp 4,.tmp 5],
(jq [jk 4 .u8 0,jk 5 .i64 0] [0,1]
(jq [jm 9 0,jm 10 1,js 11 (.bslice 1 1 [(.int .u64 0)] [(0,1,(.t 10))]),jc 12 95 [9,11],jm 8 12,je 13 8 0,je 14 8 1,js 6 (.alloc [(.int .i64 0),(.int .i64 0),(.int .u64 0)]),jw 3 6 13,jm 7 14] [1,6,7]
(.seq (jq [jm 15 7,ji 16 .neq 15 .i64 0] [1,6,7,16]
(jC 16
(jq [jm 17 7,jk 4 .u8 0,jm 5 17] [4,5]
.ret)
.skip))
(jq [jL 18 3 6,jm 19 1,jc 20 201 [18,19],jm 4 20,jk 5 .i64 0] [4,5]
.ret))))⟩
def ZeL : IFn:=⟨[.cell 4 true 3,.tmp 5],
(jq [js 4 (.alloc [(.bool false),.nil,(.int .i64 0)]),jk 5 .i64 0] [0,1,4]
(jq [jm 10 0,jm 11 1,jc 12 202 [10,11],jm 9 12,je 13 9 0,je 14 9 1,js 6 (.alloc [(.int .i64 0),(.int .i64 0),(.int .u64 0)]),jw 3 6 13,jm 7 14] [1,4,6,7]
(.seq (jq [jm 15 7,ji 16 .neq 15 .i64 0] [1,4,6,7,16]
(jC 16
(jq [js 17 (.build [(.bool false),.nil,(.int .i64 0)] []),jm 18 7,jw 3 4 17,jm 5 18] [4,5]
.ret)
.skip))
(jq [jL 19 3 6,jm 20 1,jc 21 200 [19,20],js 8 (.alloc [(.bool false),(.int .i64 0),(.int .u64 0)]),jw 3 8 21] [4,6,8]
(.seq (jq [jf 22 1 8,jl 23 1 22,ji 24 .gtr 23 .i64 0] [4,6,8,24]
(jC 24
(jr [jf 25 2 8,jl 26 1 25,jf 27 0 6,jl 28 1 27,js 29 (.bin .shl (.c (.int .u64 1)) (.t 28)),jb 30 .or 26 29,jf 31 2 8,jw 1 31 30] [4,6,8])
.skip))
(jq [jf 32 0 8,jl 33 1 32,jf 34 2 8,jl 35 1 34,jc 36 55 [35],jf 37 1 8,jl 38 1 37,js 39 (.mm true (.t 38) [(.c (.int .i64 1))]),ji 40 .sub 39 .i64 1,jL 41 3 6,jc 42 96 [41],jb 43 .add 40 42,jc 44 54 [33,36,43],je 45 44 0,je 46 44 1,jw 3 4 45,jm 5 46] [4,5]
.ret))))))⟩
def Zmi : IFn:=⟨[.cell 4 true 3,.tmp 5],
(jq [jx 2 3 0,jx 3 3 1,js 4 (.alloc [(.bool false),.nil,(.int .i64 0)]),jk 5 .i64 0] [2,3,4]
(.seq (jq [jL 6 3 2,jL 7 3 3,js 8 (.bslice 2 3 [(.bool false),.nil,(.int .i64 0)] [(0,3,(.t 6)),(3,3,(.t 7))]),jc 9 74 [8],js 10 (.un .not (.t 9))] [2,3,4,10]
(jC 10
(jq [js 11 (.build [(.bool false),.nil,(.int .i64 0)] []),jw 3 4 11,jk 5 .i64 2] [4,5]
.ret)
.skip))
(jq [jL 12 3 2,jL 13 3 3,jc 14 203 [12,13],je 15 14 0,je 16 14 1,jw 3 4 15,jm 5 16] [4,5]
.ret)))⟩
def Zin : IFn:=⟨[.tmp 2,.tmp 3],
(jq [jk 2 .u64 0,jk 3 .i64 0] [0]
(jq [jm 4 0,js 5 (.call false (.f 58) [(.t 4),(.c (.bool false)),(.f 204)]),je 6 5 0,je 7 5 1,jm 2 6,jm 3 7] [2,3]
.ret))⟩
def ZjN : IFn:=⟨[.tmp 4,.tmp 5],
(jq [js 4 (.mov (.c .nil)),jk 5 .i64 0] [0,1]
(.seq (jq [jm 6 0,jm 7 1,js 8 (.bslice 2 1 [.nil] [(0,1,(.t 6)),(1,1,(.t 7))]),jc 9 106 [8],js 10 (.un .not (.t 9))] [0,1,10]
(jC 10
(jq [js 4 (.mov (.c .nil)),jk 5 .i64 2] [4,5]
.ret)
.skip))
(.seq (jq [jm 11 0,jn 12 11,ji 13 .gtr 12 .i64 0,jm 14 13,jg (jm 15 1) 14 true,jg (jn 16 15) 14 true,jg (ji 17 .gtr 16 .i64 0) 14 true,jp 18 14 17,jm 19 18,jg (jm 20 0) 19 true,jg (jn 21 20) 19 true,jg (jm 22 1) 19 true,jg (jn 23 22) 19 true,jg (jb 24 .add 21 23) 19 true,jg (ji 25 .sub 24 .i64 1) 19 true,jg (ji 26 .gtr 25 .i64 4096) 19 true,jp 27 19 26] [0,1,27]
(jC 27
(jq [js 4 (.mov (.c .nil)),jk 5 .i64 3] [4,5]
.ret)
.skip))
(jq [jm 28 0,jm 29 1,jc 30 113 [28,29],jc 31 117 [30],je 32 31 0,je 33 31 1,jm 4 32,jm 5 33] [4,5]
.ret))))⟩
def Zhl : IFn:=⟨[.cell 4 true 3],
(jq [jx 2 3 0,js 4 (.alloc [(.bool false),.nil,(.int .i64 0)])] [1,2,4]
(jq [jL 5 3 2,jc 6 205 [5],jw 3 2 6] [1,2,4]
(jq [jm 7 1,jm 8 7,jg (jf 9 1 2) 8 true,jg (jl 10 1 9) 8 true,jg (jn 11 10) 8 true,jg (ji 12 .gtr 11 .i64 0) 8 true,jp 13 8 12,jf 14 0 2,jw 1 14 13] [2,4]
(jq [jL 15 3 2,jw 3 4 15] [4]
.ret))))⟩
def Zdf : IFn:=⟨[.tmp 4],
(jq [jx 2 3 0,jx 3 3 1,jk 4 .i64 0] [2,3]
(.seq (.block 0
(jq [jL 11 3 2,jc 12 206 [11],jL 13 3 3,jc 14 206 [13],jb 15 .lss 12 14,jm 10 15] [2,3,10]
(jC 10
(jq [jk 4 .i64 (-1)] [4]
.ret)
(jq [jL 17 3 2,jc 18 206 [17],jL 19 3 3,jc 20 206 [19],jb 21 .gtr 18 20,jm 16 21] [2,3,16]
(jC 16
(jq [jk 4 .i64 1] [4]
.ret)
.skip)))))
(jq [jf 22 1 2,jl 23 1 22,jf 24 1 3,jl 25 1 24,jm 5 23,jm 6 25] [5,6]
(.seq (jq [jm 26 5,jc 27 49 [26],jm 28 6,jc 29 49 [28],jb 30 .sub 27 29,jm 7 30] [5,6,7]
(jq [jm 31 7,ji 32 .gtr 31 .i64 0] [5,6,7,32]
(jC 32
(jr [jm 34 6,jm 35 7,jc 36 50 [34,35],jm 33 36,je 37 33 0,je 38 33 1,je 39 33 2,jm 6 37] [5,6])
(jr [jm 41 5,jm 42 7,js 43 (.un .neg (.t 42)),jc 44 50 [41,43],jm 40 44,je 45 40 0,je 46 40 1,je 47 40 2,jm 5 45] [5,6]))))
(jq [jm 49 5,jm 50 6,jc 51 104 [49,50],jm 48 51,je 52 48 0,je 53 48 1,jm 8 52,jm 9 53] [8]
(jq [jm 54 8,jm 4 54] [4]
.ret))))))⟩
def ZaN : IFn:=⟨[.cell 4 true 3],
(jq [jx 2 3 0,js 4 (.alloc [(.bool false),(.int .i64 0),(.int .u64 0)])] [1,2,4]
(jq [jm 6 1,jf 7 2 2,jl 8 1 7,jb 9 .andNot 6 8,jm 5 9] [1,2,4,5]
(jq [jm 10 1,jf 11 2 2,jl 12 1 11,jb 13 .and 10 12,ji 14 .neq 13 .u64 0,jm 15 5,jf 16 0 2,jl 17 1 16,jb 18 .shr 15 17,js 19 (.cvt .i64 (.t 18)),jm 20 5,jf 21 0 2,jl 22 1 21,js 23 (.bin .shl (.c (.int .u64 1)) (.t 22)),ji 24 .sub 23 .u64 1,jb 25 .and 20 24,js 26 (.build [(.bool false),(.int .i64 0),(.int .u64 0)] [(0,1,(.t 14)),(1,1,(.t 19)),(2,1,(.t 25))]),jw 3 4 26] [4]
.ret)))⟩
def ZbR : IFn:=⟨[.tmp 4],
(jq [jx 2 3 0,jk 4 .u8 0] [1,2]
(jq [jm 6 1,jf 7 2 2,jl 8 1 7,jb 9 .andNot 6 8,jm 5 9] [2,5]
(.seq (.block 0
(jq [jm 11 5,ji 12 .eql 11 .u64 0,jm 10 12] [2,5,10]
(jC 10
(jq [jk 4 .u8 1] [4]
.ret)
(jq [jm 14 5,jf 15 0 2,jl 16 1 15,js 17 (.bin .shl (.c (.int .u64 1)) (.t 16)),jb 18 .lss 14 17,jm 13 18] [2,5,13]
(jC 13
(jq [jk 4 .u8 2] [4]
.ret)
(jq [jm 20 5,jL 21 3 2,jc 22 60 [21],jb 23 .lss 20 22,jm 19 23] [2,5,19]
(jC 19
(jq [jk 4 .u8 3] [4]
.ret)
(jq [jm 25 5,jL 26 3 2,jc 27 60 [26],jb 28 .eql 25 27,jm 24 28] [24]
(jC 24
(jq [jk 4 .u8 4] [4]
.ret)
.skip)))))))))
(jq [jk 4 .u8 5] [4]
.ret))))⟩
def Zfz : IFn:=⟨[.cell 4 true 3,.tmp 5],
(jq [js 4 (.alloc [(.int .i64 0),(.int .i64 0),(.int .u64 0)]),jk 5 .i64 0] [0,1,4]
(jq [jm 9 0,jm 10 1,js 11 (.bslice 1 1 [(.int .u64 0)] [(0,1,(.t 10))]),jc 12 95 [9,11],jm 8 12,je 13 8 0,je 14 8 1,js 6 (.alloc [(.int .i64 0),(.int .i64 0),(.int .u64 0)]),jw 3 6 13,jm 7 14] [1,4,6,7]
(.seq (jq [jm 15 7,ji 16 .eql 15 .i64 0,jm 17 16,jg (jL 18 3 6) 17 true,jg (jm 19 1) 17 true,jg (jc 20 201 [18,19]) 17 true,jg (ji 21 .geq 20 .u8 4) 17 true,jp 22 17 21] [4,6,7,22]
(jC 22
(jr [jk 7 .i64 7] [4,6,7])
.skip))
(jq [jL 23 3 6,jm 24 7,jw 3 4 23,jm 5 24] [4,5]
.ret))))⟩
def ZfQ : IFn:=⟨[.cell 4 true 3,.tmp 5],
(jq [jx 2 3 0,jx 3 3 1,js 4 (.alloc [(.bool false),.nil,(.int .i64 0)]),jk 5 .i64 0] [2,3,4]
(.seq (.block 0
(jq [jf 11 1 2,jl 12 1 11,jn 13 12,ji 14 .eql 13 .i64 0,jm 10 14] [2,3,4,10]
(jC 10
(jq [jL 15 3 3,jc 16 205 [15],jw 3 4 16,jk 5 .i64 0] [4,5]
.ret)
(jq [jf 18 1 3,jl 19 1 18,jn 20 19,ji 21 .eql 20 .i64 0,jm 17 21] [2,3,4,17]
(jC 17
(jq [jL 22 3 2,jc 23 205 [22],jw 3 4 23,jk 5 .i64 0] [4,5]
.ret)
.skip)))))
(.seq (jq [jf 24 2 2,jl 25 1 24,jf 26 2 3,jl 27 1 26,jb 28 .lss 25 27] [2,3,4,28]
(jC 28
(jr [jL 29 3 3,jL 30 3 2,jw 3 2 29,jw 3 3 30] [2,3,4])
.skip))
(.seq (jq [jf 31 2 2,jl 32 1 31,jf 33 2 3,jl 34 1 33,jb 35 .sub 32 34,jf 36 1 2,jl 37 1 36,jc 38 49 [37],jb 39 .add 35 38,ji 40 .gtr 39 .i64 131073] [2,3,4,40]
(jC 40
(jq [js 41 (.build [(.bool false),.nil,(.int .i64 0)] []),jw 3 4 41,jk 5 .i64 3] [4,5]
.ret)
.skip))
(jq [jf 42 2 2,jl 43 1 42,jf 44 2 3,jl 45 1 44,jb 46 .sub 43 45,jm 6 46] [2,3,4,6]
(.seq (jq [jm 47 6,jf 48 1 2,jl 49 1 48,jc 50 49 [49],jb 51 .add 47 50,ji 52 .gtr 51 .i64 131072] [2,3,4,6,52]
(jC 52
(jq [jL 53 3 2,jL 54 3 3,jm 55 6,jc 56 207 [53,54,55],je 57 56 0,je 58 56 1,jw 3 4 57,jm 5 58] [4,5]
.ret)
.skip))
(jq [jf 60 1 2,jl 61 1 60,jm 62 6,jc 63 50 [61,62],jm 59 63,je 64 59 0,je 65 59 1,je 66 59 2,jm 7 64,jm 8 65,jm 9 66] [2,3,4,7]
(jq [jf 67 0 2,jl 68 1 67,jm 69 7,jf 70 0 3,jl 71 1 70,jf 72 1 3,jl 73 1 72,jf 74 2 3,jl 75 1 74,jc 76 208 [68,69,71,73,75],je 77 76 0,je 78 76 1,jw 3 4 77,jm 5 78] [4,5]
.ret))))))))⟩
def ZdJ : IFn:=⟨[.tmp 2],
(jq [jx 1 3 0,jk 2 .u64 0] [1]
(jq [jL 3 3 1,jc 4 60 [3],jf 5 0 1,jl 6 1 5,ji 7 .sub 6 .i64 1,js 8 (.bin .shl (.c (.int .u64 1)) (.t 7)),jb 9 .or 4 8,jm 2 9] [2]
.ret))⟩
def ZjL : IFn:=⟨[.cell 2 true 3],
(jq [jx 1 3 0,js 2 (.alloc [(.bool false),.nil,(.int .i64 0)])] [1,2]
(jq [jf 3 1 1,jl 4 1 3,js 5 (.app 1 4 (.c .nil) (.t 4)),jf 6 1 1,jw 1 6 5] [1,2]
(jq [jL 7 3 1,jw 3 2 7] [2]
.ret)))⟩
def ZjK : IFn:=⟨[.tmp 2],
(jq [jx 1 3 0,jk 2 .i64 0] [1]
(.seq (jq [jL 3 3 1,jc 4 48 [3],js 5 (.un .not (.t 4)),jm 6 5,jg (jf 7 1 1) 6 false,jg (jl 8 1 7) 6 false,jg (jn 9 8) 6 false,jg (ji 10 .eql 9 .i64 0) 6 false,jP 11 6 10] [1,11]
(jC 11
(jq [jk 2 .i64 0] [2]
.ret)
.skip))
(jq [jf 12 2 1,jl 13 1 12,jf 14 1 1,jl 15 1 14,jc 16 49 [15],jb 17 .add 13 16,jm 2 17] [2]
.ret)))⟩
def Znf : IFn:=⟨[.cell 6 true 3,.tmp 7],
(jq [jx 3 3 0,jx 4 3 1,js 6 (.alloc [(.bool false),.nil,(.int .i64 0)]),jk 7 .i64 0] [2,3,4,6]
(.seq (jq [jf 17 0 3,jl 18 1 17,jf 19 0 4,jl 20 1 19,js 21 (.eqb false (.t 18) (.t 20))] [2,3,4,6,21]
(jC 21
(jq [js 22 (.build [(.bool false),.nil,(.int .i64 0)] []),jw 3 6 22,jk 7 .i64 3] [6,7]
.ret)
.skip))
(jq [jf 24 1 3,jl 25 1 24,jm 26 2,ji 27 .sub 26 .i64 1,jc 28 50 [25,27],jm 23 28,je 29 23 0,je 30 23 1,je 31 23 2,jm 8 29,jm 9 30,jm 10 31] [3,4,6,8]
(jq [jf 33 1 4,jl 34 1 33,js 35 (.call false (.f 50) [(.t 34),(.c (.int .i64 (-1)))]),jm 32 35,je 36 32 0,je 37 32 1,je 38 32 2,jm 11 36,jm 12 37,jm 13 38] [3,4,6,8,11]
(jq [jm 40 8,jm 41 11,jc 42 103 [40,41],jm 39 42,je 43 39 0,je 44 39 1,jm 14 43,jm 15 44] [3,4,6,14,15]
(.seq (jq [jm 45 15,ji 46 .neq 45 .i64 0] [3,4,6,14,46]
(jC 46
(jq [js 47 (.build [(.bool false),.nil,(.int .i64 0)] []),jw 3 6 47,jk 7 .i64 3] [6,7]
.ret)
.skip))
(jq [jm 49 14,jm 50 14,jc 51 105 [49,50],jm 48 51,je 52 48 0,je 53 48 1,jm 16 52,jm 15 53] [3,4,6,14,15,16]
(.seq (jq [jm 54 15,ji 55 .eql 54 .i64 0] [3,4,6,14,16,55]
(jC 55
(jq [jm 57 16,js 58 (.call false (.f 55) [(.c (.int .u64 1))]),jc 59 103 [57,58],jm 56 59,je 60 56 0,je 61 56 1,jm 16 60] [3,4,6,16]
(jq [jf 62 0 3,jl 63 1 62,jm 64 16,jf 65 2 4,jl 66 1 65,jc 67 54 [63,64,66],je 68 67 0,je 69 67 1,jw 3 6 68,jm 7 69] [6,7]
.ret))
.skip))
(.seq (jq [jm 70 14,jc 71 49 [70],jm 72 14,jc 73 90 [72],ji 74 .add 73 .i64 1,jb 75 .eql 71 74] [3,4,6,14,75]
(jC 75
(jq [jm 77 14,js 78 (.call false (.f 55) [(.c (.int .u64 1))]),jc 79 103 [77,78],jm 76 79,je 80 76 0,je 81 76 1,jm 16 80] [3,4,6,14,16]
(jq [jm 83 16,jm 84 14,jc 85 105 [83,84],jm 82 85,je 86 82 0,je 87 82 1,jm 16 86] [3,4,6,16]
(jq [jf 88 0 3,jl 89 1 88,jm 90 16,jf 91 2 4,jl 92 1 91,jc 93 54 [89,90,92],je 94 93 0,je 95 93 1,jw 3 6 94,jm 7 95] [6,7]
.ret)))
.skip))
(jq [js 96 (.build [(.bool false),.nil,(.int .i64 0)] []),jw 3 6 96,jk 7 .i64 3] [6,7]
.ret))))))))))⟩
def ZfR : IFn:=⟨[.cell 10 true 3,.tmp 11],
(jq [js 10 (.alloc [(.bool false),.nil,(.int .i64 0)]),jk 11 .i64 0] [0,1,2,3,4,10]
(.seq (jq [jm 18 0,jm 19 2,js 20 (.eqb false (.t 18) (.t 19))] [0,1,2,3,4,10,20]
(jC 20
(jq [jm 22 1,jm 23 3,jc 24 105 [22,23],jm 21 24,je 25 21 0,je 26 21 1,jm 12 25,jm 13 26] [0,1,3,4,10,12,13]
(.seq (jq [jm 27 13,ji 28 .neq 27 .i64 0] [0,1,3,4,10,12,28]
(jC 28
(jq [jm 29 0,jm 30 1,jm 31 3,jm 32 4,jc 33 209 [29,30,31,32],je 34 33 0,je 35 33 1,jw 3 10 34,jm 11 35] [10,11]
.ret)
.skip))
(jq [jm 36 0,jm 37 12,jm 38 4,jc 39 54 [36,37,38],je 40 39 0,je 41 39 1,jw 3 10 40,jm 11 41] [10,11]
.ret)))
.skip))
(.seq (jq [jm 43 1,jm 44 3,jc 45 104 [43,44],jm 42 45,je 46 42 0,je 47 42 1,jm 14 46,jm 15 47] [0,1,2,3,4,10,14]
(jq [jm 48 14,ji 49 .lss 48 .i64 0] [0,1,2,3,4,10,49]
(jC 49
(jr [jm 50 2,jm 51 3,jm 52 1,jm 0 50,jm 1 51,jm 3 52] [0,1,3,4,10])
.skip)))
(jq [jm 54 1,jm 55 3,jc 56 103 [54,55],jm 53 56,je 57 53 0,je 58 53 1,jm 16 57,jm 17 58] [0,4,10,16]
(jq [jm 59 0,jm 60 16,jm 61 4,jc 62 54 [59,60,61],je 63 62 0,je 64 62 1,jw 3 10 63,jm 11 64] [10,11]
.ret)))))⟩
def Zkp : IFn:=⟨[.cell 8 true 3,.tmp 9],
(jq [js 8 (.alloc [(.bool false),.nil,(.int .i64 0)]),jk 9 .i64 0] [0,1,2,3,8]
(.seq (jq [jm 18 1,js 19 (.iaddr 1 (.t 18) (.c (.int .i64 0))),jl 20 1 19,ji 21 .and 20 .u32 1,jm 22 2,js 23 (.iaddr 1 (.t 22) (.c (.int .i64 0))),jl 24 1 23,ji 25 .and 24 .u32 1,jb 26 .neq 21 25] [0,1,2,3,8,26]
(jC 26
(jq [js 27 (.build [(.bool false),.nil,(.int .i64 0)] []),jw 3 8 27,jk 9 .i64 3] [8,9]
.ret)
.skip))
(jq [jm 29 1,js 30 (.call false (.f 50) [(.t 29),(.c (.int .i64 (-1)))]),jm 28 30,je 31 28 0,je 32 28 1,je 33 28 2,jm 10 31,jm 11 32,jm 12 33] [0,1,2,3,8,10]
(jq [jm 35 2,js 36 (.call false (.f 50) [(.t 35),(.c (.int .i64 (-1)))]),jm 34 36,je 37 34 0,je 38 34 1,je 39 34 2,jm 13 37,jm 14 38,jm 15 39] [0,1,3,8,10,13]
(jq [jm 41 10,jm 42 13,jc 43 105 [41,42],jm 40 43,je 44 40 0,je 45 40 1,jm 16 44,jm 17 45] [0,1,3,8,16]
(.seq (jq [jm 46 1,js 47 (.iaddr 1 (.t 46) (.c (.int .i64 0))),jl 48 1 47,ji 49 .and 48 .u32 1,ji 50 .eql 49 .u32 1] [0,3,8,16,50]
(jC 50
(jr [jm 52 16,js 53 (.call false (.f 55) [(.c (.int .u64 1))]),jc 54 105 [52,53],jm 51 54,je 55 51 0,je 56 51 1,jm 16 55] [0,3,8,16])
.skip))
(jq [jm 57 0,jm 58 16,jm 59 3,ji 60 .add 59 .i64 1,jc 61 54 [57,58,60],je 62 61 0,je 63 61 1,jw 3 8 62,jm 9 63] [8,9]
.ret)))))))⟩
structure HasG (gdb : Nat) (T : Tbl) : Prop where
 Zox : T 164 = some Zmp
 Zoy : T 165 = some ZeK
 ZpQ : T 166 = some Zmq
 Znm : T 169 = some Zhp
 ZoW : T 172 = some ZiX
 Zns : T 173 = some Zfi
 Znn : T 174 = some Zbq
 soft_open : T 176 = some ZkT
 soft_desk_add : T 177 = some Zau
 soft_has : T 178 = some ZhL
 soft_desk_none : T 179 = some Zel
 soft_desk_inf : T 180 = some Zfv
 soft_desk_zero : T 181 = some Zem
 Zmu : T 182 = some Zmj
 soft_desk_sum : T 183 = some Zdu
 ZpC : T 184 = some Zmk
 ref10_Good : T 185 = some Zcs
 ZlK : T 186 = some ZcL
 Znt : T 188 = some Zfm
 ZbN : T 189 = some ZaR
 Zsv : T 190 = some ZhJ
 Zee : T 191 = some Zeh
 Zgc : T 192 = some Zjb
 Zby : T 193 = some ZgO
 ZcR : T 194 = some ZeL
 Zmt : T 195 = some Zmi
 Zhc : T 196 = some Zin
 Zvr : T 197 = some ZjN
 Zni : T 198 = some Zhl
 ZoJ : T 199 = some Zdf
 word_shape_split : T 200 = some ZaN
 word_shape_class : T 201 = some ZbR
 ZnC : T 202 = some Zfz
 Zmv : T 203 = some ZfQ
 word_shape_none : T 204 = some ZdJ
 Zmx : T 205 = some ZjL
 ZpD : T 206 = some ZjK
 dyad_edge : T 207 = some Znf
 ZjV : T 208 = some ZfR
 dyad_halved : T 209 = some Zkp
end Go.Cv
namespace Go.Cv
def ZaM : IFn:=⟨[.tmp 8,.tmp 9],
(jq [jk 8 .u64 0,jk 9 .u8 0] [0,1,2,3]
(.seq (jq [jm 11 0,jm 12 2,jc 13 230 [11,12],jm 14 13,jg (jm 15 0) 14 false,jg (jm 16 3) 14 false,jg (jc 17 230 [15,16]) 14 false,jP 18 14 17] [0,1,2,3,18]
(jC 18
(jq [jm 19 0,jc 20 157 [19],jm 8 20,jk 9 .u8 0] [8,9]
.ret)
.skip))
(.seq (jq [jm 21 0,jm 22 2,jc 23 231 [21,22],jm 24 23,jg (jm 25 0) 24 true,jg (jm 26 3) 24 true,jg (jc 27 231 [25,26]) 24 true,jp 28 24 27] [0,1,2,3,28]
(jC 28
(.seq (jq [jm 29 2,jm 30 3,jb 31 .eql 29 30] [0,2,31]
(jC 31
(jq [jm 32 2,jm 8 32,jk 9 .u8 0] [8,9]
.ret)
.skip))
(jq [jm 33 0,jc 34 157 [33],jm 8 34,jk 9 .u8 1] [8,9]
.ret))
.skip))
(.seq (jq [jm 35 0,jm 36 2,jc 37 231 [35,36]] [0,1,2,3,37]
(jC 37
(jq [jm 38 2,jm 8 38,jk 9 .u8 0] [8,9]
.ret)
.skip))
(.seq (jq [jm 39 0,jm 40 3,jc 41 231 [39,40]] [0,1,2,3,41]
(jC 41
(jq [jm 42 3,jm 8 42,jk 9 .u8 0] [8,9]
.ret)
.skip))
(.seq (jq [jm 43 0,jm 44 2,jc 45 232 [43,44],jm 46 45,jg (jm 47 2) 46 true,jg (jm 48 3) 46 true,jg (jb 49 .eql 47 48) 46 true,jp 50 46 49] [0,1,2,3,50]
(jC 50
(jq [jm 51 2,jm 8 51,jk 9 .u8 0] [8,9]
.ret)
.skip))
(jq [jm 52 0,jm 53 2,jc 54 151 [52,53],jm 55 0,jm 56 3,jc 57 151 [55,56],jc 58 67 [54,57],js 10 (.alloc [(.bool false),.nil,(.int .i64 0)]),jw 3 10 58] [0,1,10]
(.seq (jq [jL 59 3 10,jc 60 16 [59],ji 61 .eql 60 .i64 0] [0,1,10,61]
(jC 61
(jq [jm 62 0,jm 63 1,jc 64 234 [62,63],jm 8 64,jk 9 .u8 0] [8,9]
.ret)
.skip))
(jq [jm 65 0,jm 66 1,jL 67 3 10,jc 68 12 [65,66,67],je 69 68 0,je 70 68 1,jm 8 69,jm 9 70] [8,9]
.ret)))))))))⟩
def Zii : IFn:=⟨[.tmp 8,.tmp 9],
(jq [jk 8 .u64 0,jk 9 .u8 0] [0,1,2,3]
(.seq (jq [jm 10 0,jm 11 3,jc 12 230 [10,11],js 13 (.un .not (.t 12))] [0,1,2,3,13]
(jC 13
(jr [jm 14 0,jm 15 3,jm 16 0,jm 17 3,jc 18 233 [16,17],js 19 (.un .not (.t 18)),jc 20 38 [14,15,19],jm 3 20] [0,1,2,3])
.skip))
(jq [jm 21 0,jm 22 1,jm 23 2,jm 24 3,jc 25 219 [21,22,23,24],je 26 25 0,je 27 25 1,jm 8 26,jm 9 27] [8,9]
.ret)))⟩
def ZcA : IFn:=⟨[.tmp 8,.tmp 9],
(jq [jk 8 .u64 0,jk 9 .u8 0] [0,1,2,3]
(.seq (jq [jm 11 0,jm 12 2,jc 13 230 [11,12],jm 14 13,jg (jm 15 0) 14 false,jg (jm 16 3) 14 false,jg (jc 17 230 [15,16]) 14 false,jP 18 14 17] [0,1,2,3,18]
(jC 18
(jq [jm 19 0,jc 20 157 [19],jm 8 20,jk 9 .u8 0] [8,9]
.ret)
.skip))
(.seq (jq [jm 21 0,jm 22 2,jc 23 231 [21,22],jm 24 23,jg (jm 25 0) 24 true,jg (jm 26 3) 24 true,jg (jc 27 232 [25,26]) 24 true,jp 28 24 27,jm 29 28,jg (jm 30 0) 29 false,jg (jm 31 2) 29 false,jg (jc 32 232 [30,31]) 29 false,jg (jm 33 32) 29 false,jg (jm 34 0) 33 true,jg (jm 35 3) 33 true,jg (jc 36 231 [34,35]) 33 true,jg (jp 37 33 36) 29 false,jP 38 29 37] [0,1,2,3,38]
(jC 38
(jq [jm 39 0,jc 40 157 [39],jm 8 40,jk 9 .u8 1] [8,9]
.ret)
.skip))
(jq [jm 41 0,jm 42 2,jc 43 233 [41,42],jm 44 0,jm 45 3,jc 46 233 [44,45],js 47 (.eqb true (.t 43) (.t 46)),jm 10 47] [0,1,2,3,10]
(.seq (jq [jm 48 0,jm 49 2,jc 50 231 [48,49],jm 51 50,jg (jm 52 0) 51 false,jg (jm 53 3) 51 false,jg (jc 54 231 [52,53]) 51 false,jP 55 51 54] [0,1,2,3,10,55]
(jC 55
(jq [jm 56 0,jm 57 10,jc 58 30 [56,57],jm 8 58,jk 9 .u8 0] [8,9]
.ret)
.skip))
(.seq (jq [jm 59 0,jm 60 2,jc 61 232 [59,60],jm 62 61,jg (jm 63 0) 62 false,jg (jm 64 3) 62 false,jg (jc 65 232 [63,64]) 62 false,jP 66 62 65] [0,1,2,3,10,66]
(jC 66
(jq [jm 67 0,jm 68 10,js 69 (.call false (.f 38) [(.t 67),(.c (.int .u64 0)),(.t 68)]),jm 8 69,jk 9 .u8 0] [8,9]
.ret)
.skip))
(jq [jm 70 0,jm 71 1,jm 72 0,jm 73 2,jc 74 151 [72,73],jm 75 0,jm 76 3,jc 77 151 [75,76],jc 78 154 [74,77],jc 79 12 [70,71,78],je 80 79 0,je 81 79 1,jm 8 80,jm 9 81] [8,9]
.ret)))))))⟩
def ZfX : IFn:=⟨[.tmp 6,.tmp 7],
(jq [jx 5 2 2,jk 6 .u64 0,jk 7 .u8 0] [0,1,5]
(jq [jm 11 0,jL 12 2 5,jc 13 235 [11,12],jm 10 13,je 14 10 0,je 15 10 1,jm 8 14,jm 9 15] [0,1,5,8,9]
(.seq (jq [jm 16 9] [0,1,5,8,16]
(jC 16
(jq [jm 17 8,jm 6 17,jk 7 .u8 0] [6,7]
.ret)
.skip))
(jq [jm 18 0,jm 19 1,jm 20 0,jL 21 2 5,jc 22 236 [20,21],jc 23 19 [18,19,22],je 24 23 0,je 25 23 1,jm 6 24,jm 7 25] [6,7]
.ret))))⟩
def ZcD : IFn:=⟨[.tmp 6],
(jq [jx 4 2 1,jx 5 2 2,jk 6 .u8 0] [0,4,5]
(jq [jm 10 0,jL 11 2 4,jc 12 237 [10,11],jm 13 0,jL 14 2 5,jc 15 237 [13,14],jm 7 12,jm 8 15] [0,4,5,7,8]
(.seq (jq [jm 16 7,ji 17 .eql 16 .u8 4,jm 18 17,jg (jm 19 8) 18 false,jg (ji 20 .eql 19 .u8 4) 18 false,jP 21 18 20] [0,4,5,7,8,21]
(jC 21
(jq [jk 6 .u8 4] [6]
.ret)
.skip))
(.seq (jq [jm 22 7,ji 23 .eql 22 .u8 3,jm 24 23,jg (jm 25 8) 24 true,jg (ji 26 .eql 25 .u8 3) 24 true,jp 27 24 26] [0,4,5,7,8,27]
(jC 27
(jq [jk 6 .u8 2] [6]
.ret)
.skip))
(.seq (jq [jm 28 7,ji 29 .eql 28 .u8 3] [0,4,5,8,29]
(jC 29
(jq [jk 6 .u8 3] [6]
.ret)
.skip))
(.seq (jq [jm 30 8,ji 31 .eql 30 .u8 3] [0,4,5,31]
(jC 31
(jq [jk 6 .u8 1] [6]
.ret)
.skip))
(jq [jm 32 0,jL 33 2 4,jc 34 236 [32,33],jm 35 0,jL 36 2 5,jc 37 236 [35,36],jc 38 69 [34,37],jm 9 38] [9]
(.seq (jq [jm 39 9,ji 40 .lss 39 .i64 0] [9,40]
(jC 40
(jq [jk 6 .u8 1] [6]
.ret)
.skip))
(.seq (jq [jm 41 9,ji 42 .gtr 41 .i64 0] [42]
(jC 42
(jq [jk 6 .u8 3] [6]
.ret)
.skip))
(jq [jk 6 .u8 2] [6]
.ret))))))))))⟩
def ZkM : IFn:=⟨[.tmp 4],
(jq [jv 4 false] [0,1]
(jq [jm 5 0,jm 6 1,jc 7 155 [5,6],ji 8 .eql 7 .u8 5,jm 4 8] [4]
.ret))⟩
def ZkL : IFn:=⟨[.tmp 4],
(jq [jv 4 false] [0,1]
(jq [jm 5 0,jm 6 1,jc 7 155 [5,6],ji 8 .eql 7 .u8 4,jm 4 8] [4]
.ret))⟩
def ZiW : IFn:=⟨[.tmp 4],
(jq [jv 4 false] [0,1]
(jq [jm 5 0,jm 6 1,jc 7 155 [5,6],ji 8 .eql 7 .u8 1,jm 4 8] [4]
.ret))⟩
def ZkN : IFn:=⟨[.tmp 4],
(jq [jv 4 false] [0,1]
(jq [jm 5 1,jm 6 0,jc 7 73 [6],jb 8 .geq 5 7,jm 4 8] [4]
.ret))⟩
def Zfk : IFn:=⟨[.tmp 4],
(jq [jk 4 .u64 0] [0,1]
(jq [jm 5 0,jm 6 1,ji 7 .eql 6 .u8 5,js 8 (.call false (.f 38) [(.t 5),(.c (.int .u64 0)),(.t 7)]),jm 4 8] [4]
.ret))⟩
def ZeH : IFn:=⟨[.tmp 4,.tmp 5],
(jq [jx 3 2 1,jk 4 .u64 0,jv 5 false] [0,3]
(jq [jm 7 0,jL 8 2 3,jc 9 237 [7,8],jm 6 9] [0,6]
(.seq (jq [jm 10 6,ji 11 .eql 10 .u8 3] [0,6,11]
(jC 11
(jq [jm 12 0,js 13 (.call false (.f 30) [(.t 12),(.c (.bool false))]),jm 4 13,jv 5 true] [4,5]
.ret)
.skip))
(.seq (jq [jm 14 6,ji 15 .eql 14 .u8 4] [0,15]
(jC 15
(jq [jm 16 0,jc 17 157 [16],jm 4 17,jv 5 true] [4,5]
.ret)
.skip))
(jq [jk 4 .u64 0,jv 5 false] [4,5]
.ret)))))⟩
def Zgq : IFn:=⟨[.cell 4 true 3],
(jq [jx 3 2 1,js 4 (.alloc [(.bool false),.nil,(.int .i64 0)])] [0,3,4]
(jq [jm 7 0,jf 8 0 3,jl 9 1 8,jc 10 151 [7,9],jm 11 0,jf 12 1 3,jl 13 1 12,jc 14 151 [11,13],js 5 (.alloc [(.bool false),.nil,(.int .i64 0)]),js 6 (.alloc [(.bool false),.nil,(.int .i64 0)]),jw 3 5 10,jw 3 6 14] [4,5,6]
(jq [jL 15 3 5,jL 16 3 5,jc 17 154 [15,16],jL 18 3 6,jL 19 3 6,jc 20 154 [18,19],jc 21 67 [17,20],jw 3 4 21] [4]
.ret)))⟩
def ZaZ : IFn:=⟨[.tmp 4],
(jq [jx 3 2 1,jk 4 .u8 0] [0,3]
(jq [jm 7 0,jf 8 0 3,jl 9 1 8,jc 10 155 [7,9],jm 11 0,jf 12 1 3,jl 13 1 12,jc 14 155 [11,13],jm 5 10,jm 6 14] [5,6]
(.seq (jq [jm 15 5,ji 16 .eql 15 .u8 4,jm 17 16,jg (jm 18 6) 17 false,jg (ji 19 .eql 18 .u8 4) 17 false,jP 20 17 19] [5,6,20]
(jC 20
(jq [jk 4 .u8 3] [4]
.ret)
.skip))
(.seq (jq [jm 21 5,ji 22 .eql 21 .u8 5,jm 23 22,jg (jm 24 6) 23 false,jg (ji 25 .eql 24 .u8 5) 23 false,jP 26 23 25] [5,6,26]
(jC 26
(jq [jk 4 .u8 4] [4]
.ret)
.skip))
(.seq (jq [jm 27 5,ji 28 .eql 27 .u8 1,jm 29 28,jg (jm 30 6) 29 true,jg (ji 31 .eql 30 .u8 1) 29 true,jp 32 29 31] [32]
(jC 32
(jq [jk 4 .u8 1] [4]
.ret)
.skip))
(jq [jk 4 .u8 2] [4]
.ret))))))⟩
structure HasH (gdb : Nat) (T : Tbl) : Prop where
 Zeg : T 219 = some ZaM
 ZlS : T 220 = some Zii
 ZfJ : T 222 = some ZcA
 ZlV : T 227 = some ZfX
 Zoo : T 229 = some ZcD
 Zke : T 230 = some ZkM
 ZlT : T 231 = some ZkL
 ZmH : T 232 = some ZiW
 ZlU : T 233 = some ZkN
 Zlf : T 234 = some Zfk
 ZoX : T 235 = some ZeH
 ZgV : T 236 = some Zgq
 ZbE : T 237 = some ZaZ
end Go.Cv
namespace Go.Cv
def ZcN : IFn:=⟨[.tmp 4],
(jq [jx 3 2 1,jv 4 false] [0,3]
(jq [jm 5 0,jf 6 0 3,jl 7 1 6,jc 8 150 [5,7],jm 9 8,jg (jm 10 0) 9 true,jg (jf 11 1 3) 9 true,jg (jl 12 1 11) 9 true,jg (jc 13 150 [10,12]) 9 true,jp 14 9 13,jm 4 14] [4]
.ret))⟩
def ZkO : IFn:=⟨[.cell 8 true 4],
(jq [jx 6 2 2,jx 7 2 3,js 8 (.alloc [(.int .u64 0),(.int .u64 0),(.int .u8 0),(.int .u8 0)])] [0,1,6,7,8]
(jq [jm 14 0,jm 15 1,jf 16 0 6,jl 17 1 16,jf 18 0 7,jl 19 1 18,jc 20 219 [14,15,17,19],jm 13 20,je 21 13 0,je 22 13 1,jm 9 21,jm 10 22] [0,1,6,7,8,9,10]
(jq [jm 24 0,jm 25 1,jf 26 1 6,jl 27 1 26,jf 28 1 7,jl 29 1 28,jc 30 219 [24,25,27,29],jm 23 30,je 31 23 0,je 32 23 1,jm 11 31,jm 12 32] [8,9,10,11,12]
(jq [jm 33 9,jm 34 11,js 35 (.build [(.int .u64 0),(.int .u64 0)] [(0,1,(.t 33)),(1,1,(.t 34))]),jm 36 10,jm 37 12,js 38 (.build [(.int .u64 0),(.int .u64 0),(.int .u8 0),(.int .u8 0)] [(0,2,(.t 35)),(2,1,(.t 36)),(3,1,(.t 37))]),jw 4 8 38] [8]
.ret))))⟩
def ZhX : IFn:=⟨[.cell 8 true 4,.tmp 9],
(jq [jx 6 2 2,jx 7 2 3,js 8 (.alloc [(.int .u64 0),(.int .u64 0),(.int .u8 0),(.int .u8 0)]),jk 9 .i64 0] [0,1,6,7,8]
(jq [jm 15 0,jm 16 1,jL 17 2 6,jL 18 2 7,jc 19 268 [15,16,17,18],jm 14 19,je 20 14 0,je 21 14 1,je 22 14 2,js 10 (.alloc [(.int .u64 0),(.int .u64 0),(.int .u8 0),(.int .u8 0)]),jw 4 10 20,jm 11 21,jm 12 22] [0,1,6,7,8,10,11,12]
(.seq (jq [jm 23 11,jm 24 23,jg (jm 25 12) 24 false,jg (ji 26 .neq 25 .i64 0) 24 false,jP 27 24 26] [0,1,6,7,8,10,12,27]
(jC 27
(jq [jL 28 4 10,jm 29 12,jw 4 8 28,jm 9 29] [8,9]
.ret)
.skip))
(jq [jm 30 0,jm 31 1,js 32 (.build [(.int .u8 0),(.int .u8 0)] [(0,1,(.t 30)),(1,1,(.t 31))]),js 13 (.alloc [(.int .u8 0),(.int .u8 0)]),jw 2 13 32] [0,6,7,8,13]
(jq [jL 33 2 13,jL 34 2 13,jm 35 0,jL 36 2 6,jc 37 271 [35,36],jm 38 0,jL 39 2 7,jc 40 271 [38,39],jc 41 270 [34,37,40],js 42 (.call false (.f 272) [(.c (.int .i64 1))]),jc 43 269 [33,41,42],jw 4 8 43,jk 9 .i64 0] [8,9]
.ret)))))⟩
def Zim : IFn:=⟨[.cell 8 true 4],
(jq [jx 6 2 2,jx 7 2 3,js 8 (.alloc [(.int .u64 0),(.int .u64 0),(.int .u8 0),(.int .u8 0)])] [0,1,6,7,8]
(jq [jm 23 0,jm 24 1,jL 25 2 6,jL 26 2 7,jc 27 273 [23,24,25,26],jm 22 27,je 28 22 0,je 29 22 1,js 9 (.alloc [(.int .u64 0),(.int .u64 0),(.int .u8 0),(.int .u8 0)]),jw 4 9 28,jm 10 29] [0,1,6,7,8,9,10]
(.seq (jq [jm 30 10] [0,1,6,7,8,9,30]
(jC 30
(jq [jL 31 4 9,jw 4 8 31] [8]
.ret)
.skip))
(jq [jm 33 0,jL 34 2 6,jL 35 2 7,jc 36 274 [33,34,35],jm 32 36,je 37 32 0,je 38 32 1,js 11 (.alloc [(.bool false),.nil,(.int .i64 0),(.bool false),(.bool false),.nil,(.int .i64 0),(.bool false)]),js 12 (.alloc [(.bool false),.nil,(.int .i64 0),(.bool false),(.bool false),.nil,(.int .i64 0),(.bool false)]),jw 8 11 37,jw 8 12 38] [0,1,8,11,12]
(jq [js 39 (.call false (.f 20) [(.c (.int .i64 1))]),js 13 (.alloc [(.bool false),.nil,(.int .i64 0)]),jw 3 13 39] [0,1,8,11,12,13]
(jq [jm 41 1,js 42 (.iaddrA 2 4 (.t 11) (.c (.int .i64 0))),jL 43 4 42,js 44 (.iaddrA 2 4 (.t 11) (.c (.int .i64 1))),jL 45 4 44,js 46 (.bslice 2 4 [(.bool false),.nil,(.int .i64 0),(.bool false)] [(0,4,(.t 43)),(4,4,(.t 45))]),jc 47 275 [41,46],jm 40 47,je 48 40 0,je 49 40 1,js 14 (.alloc [(.bool false),.nil,(.int .i64 0)]),jw 3 14 48,jm 15 49] [0,1,8,12,13,14,15]
(jq [jm 51 1,js 52 (.iaddrA 2 4 (.t 12) (.c (.int .i64 0))),jL 53 4 52,js 54 (.iaddrA 2 4 (.t 12) (.c (.int .i64 1))),jL 55 4 54,js 56 (.bslice 2 4 [(.bool false),.nil,(.int .i64 0),(.bool false)] [(0,4,(.t 53)),(4,4,(.t 55))]),jc 57 275 [51,56],jm 50 57,je 58 50 0,je 59 50 1,js 16 (.alloc [(.bool false),.nil,(.int .i64 0)]),jw 3 16 58,jm 17 59] [0,1,8,13,14,15,16,17]
(jq [jm 61 0,jm 62 1,jL 63 3 14,jm 64 15,jL 65 3 13,jc 66 276 [61,62,63,64,65],jm 60 66,je 67 60 0,je 68 60 1,jm 18 67,jm 19 68] [0,1,8,13,16,17,18,19]
(jq [jm 70 0,jm 71 1,jL 72 3 16,jm 73 17,jL 74 3 13,jc 75 276 [70,71,72,73,74],jm 69 75,je 76 69 0,je 77 69 1,jm 20 76,jm 21 77] [8,18,19,20,21]
(jq [jm 78 18,jm 79 20,js 80 (.build [(.int .u64 0),(.int .u64 0)] [(0,1,(.t 78)),(1,1,(.t 79))]),jm 81 19,jm 82 21,js 83 (.build [(.int .u64 0),(.int .u64 0),(.int .u8 0),(.int .u8 0)] [(0,2,(.t 80)),(2,1,(.t 81)),(3,1,(.t 82))]),jw 4 8 83] [8]
.ret))))))))))⟩
def ZhW : IFn:=⟨[.cell 8 true 4,.tmp 9],
(jq [jx 6 2 2,jx 7 2 3,js 8 (.alloc [(.int .u64 0),(.int .u64 0),(.int .u8 0),(.int .u8 0)]),jk 9 .i64 0] [0,1,6,7,8]
(jq [jm 18 0,jm 19 1,jL 20 2 6,jL 21 2 7,jc 22 277 [18,19,20,21],jm 17 22,je 23 17 0,je 24 17 1,je 25 17 2,js 10 (.alloc [(.int .u64 0),(.int .u64 0),(.int .u8 0),(.int .u8 0)]),jw 4 10 23,jm 11 24,jm 12 25] [0,1,6,7,8,10,11,12]
(.seq (jq [jm 26 11,jm 27 26,jg (jm 28 12) 27 false,jg (ji 29 .neq 28 .i64 0) 27 false,jP 30 27 29] [0,1,6,7,8,10,12,30]
(jC 30
(jq [jL 31 4 10,jm 32 12,jw 4 8 31,jm 9 32] [8,9]
.ret)
.skip))
(jq [jm 33 0,jm 34 1,js 35 (.build [(.int .u8 0),(.int .u8 0)] [(0,1,(.t 33)),(1,1,(.t 34))]),js 13 (.alloc [(.int .u8 0),(.int .u8 0)]),jw 2 13 35] [0,6,7,8,13]
(jq [jm 36 0,jL 37 2 7,jc 38 271 [36,37],js 14 (.alloc [(.bool false),.nil,(.int .i64 0),(.bool false),(.bool false),.nil,(.int .i64 0),(.bool false)]),jw 8 14 38] [0,6,8,13,14]
(jq [jf 40 0 14,jL 41 4 40,jf 42 0 14,jL 43 4 42,jc 44 278 [41,43],js 45 (.field true 0 3 (.t 44)),jf 46 4 14,jL 47 4 46,jf 48 4 14,jL 49 4 48,jc 50 278 [47,49],js 51 (.field true 0 3 (.t 50)),jc 52 195 [45,51],jm 39 52,je 53 39 0,je 54 39 1,js 15 (.alloc [(.bool false),.nil,(.int .i64 0)]),jw 3 15 53,jm 16 54] [0,6,8,13,14,15]
(jq [jf 55 4 14,jL 56 4 55,jc 57 279 [56],jf 58 4 14,jw 4 58 57] [0,6,8,13,14,15]
(jq [jL 59 2 13,jL 60 2 13,jm 61 0,jL 62 2 6,jc 63 271 [61,62],jL 64 8 14,jc 65 270 [60,63,64],jL 66 3 15,jc 67 269 [59,65,66],jw 4 8 67,jk 9 .i64 0] [8,9]
.ret))))))))⟩
def Zil : IFn:=⟨[.cell 8 true 4],
(jq [jx 6 2 2,jx 7 2 3,js 8 (.alloc [(.int .u64 0),(.int .u64 0),(.int .u8 0),(.int .u8 0)])] [0,1,6,7,8]
(jq [jm 23 0,jm 24 1,jL 25 2 6,jL 26 2 7,jc 27 280 [23,24,25,26],jm 22 27,je 28 22 0,je 29 22 1,js 9 (.alloc [(.int .u64 0),(.int .u64 0),(.int .u8 0),(.int .u8 0)]),jw 4 9 28,jm 10 29] [0,1,6,7,8,9,10]
(.seq (jq [jm 30 10] [0,1,6,7,8,9,30]
(jC 30
(jq [jL 31 4 9,jw 4 8 31] [8]
.ret)
.skip))
(jq [jm 33 0,jL 34 2 6,jL 35 2 7,jc 36 281 [33,34,35],jm 32 36,je 37 32 0,je 38 32 1,je 39 32 2,js 11 (.alloc [(.bool false),.nil,(.int .i64 0),(.bool false),(.bool false),.nil,(.int .i64 0),(.bool false)]),js 12 (.alloc [(.bool false),.nil,(.int .i64 0),(.bool false),(.bool false),.nil,(.int .i64 0),(.bool false)]),js 13 (.alloc [(.bool false),.nil,(.int .i64 0)]),jw 8 11 37,jw 8 12 38,jw 3 13 39] [0,1,8,11,12,13]
(jq [jm 41 1,js 42 (.iaddrA 2 4 (.t 11) (.c (.int .i64 0))),jL 43 4 42,js 44 (.iaddrA 2 4 (.t 11) (.c (.int .i64 1))),jL 45 4 44,js 46 (.bslice 2 4 [(.bool false),.nil,(.int .i64 0),(.bool false)] [(0,4,(.t 43)),(4,4,(.t 45))]),jc 47 275 [41,46],jm 40 47,je 48 40 0,je 49 40 1,js 14 (.alloc [(.bool false),.nil,(.int .i64 0)]),jw 3 14 48,jm 15 49] [0,1,8,12,13,14,15]
(jq [jm 51 1,js 52 (.iaddrA 2 4 (.t 12) (.c (.int .i64 0))),jL 53 4 52,js 54 (.iaddrA 2 4 (.t 12) (.c (.int .i64 1))),jL 55 4 54,js 56 (.bslice 2 4 [(.bool false),.nil,(.int .i64 0),(.bool false)] [(0,4,(.t 53)),(4,4,(.t 55))]),jc 57 275 [51,56],jm 50 57,je 58 50 0,je 59 50 1,js 16 (.alloc [(.bool false),.nil,(.int .i64 0)]),jw 3 16 58,jm 17 59] [0,1,8,13,14,15,16,17]
(jq [jm 61 0,jm 62 1,jL 63 3 14,jm 64 15,jL 65 3 13,jc 66 276 [61,62,63,64,65],jm 60 66,je 67 60 0,je 68 60 1,jm 18 67,jm 19 68] [0,1,8,13,16,17,18,19]
(jq [jm 70 0,jm 71 1,jL 72 3 16,jm 73 17,jL 74 3 13,jc 75 276 [70,71,72,73,74],jm 69 75,je 76 69 0,je 77 69 1,jm 20 76,jm 21 77] [8,18,19,20,21]
(jq [jm 78 18,jm 79 20,js 80 (.build [(.int .u64 0),(.int .u64 0)] [(0,1,(.t 78)),(1,1,(.t 79))]),jm 81 19,jm 82 21,js 83 (.build [(.int .u64 0),(.int .u64 0),(.int .u8 0),(.int .u8 0)] [(0,2,(.t 80)),(2,1,(.t 81)),(3,1,(.t 82))]),jw 4 8 83] [8]
.ret)))))))))⟩
def Zkr : IFn:=⟨[.cell 8 true 4,.tmp 9],
(jq [jx 6 2 2,jx 7 2 3,js 8 (.alloc [(.int .u64 0),(.int .u64 0),(.int .u8 0),(.int .u8 0)]),jk 9 .i64 0] [0,1,6,7,8]
(jq [jm 10 0,jm 11 1,jL 12 2 6,jL 13 2 7,js 14 (.call false (.f 285) [(.t 10),(.t 11),(.t 12),(.t 13),(.f 164)]),je 15 14 0,je 16 14 1,jw 4 8 15,jm 9 16] [8,9]
.ret))⟩
def Zks : IFn:=⟨[.cell 8 true 4,.tmp 9],
(jq [jx 6 2 2,jx 7 2 3,js 8 (.alloc [(.int .u64 0),(.int .u64 0),(.int .u8 0),(.int .u8 0)]),jk 9 .i64 0] [0,1,6,7,8]
(jq [jm 10 0,jm 11 1,jL 12 2 6,jL 13 2 7,js 14 (.call false (.f 285) [(.t 10),(.t 11),(.t 12),(.t 13),(.f 166)]),je 15 14 0,je 16 14 1,jw 4 8 15,jm 9 16] [8,9]
.ret))⟩
def ZkP : IFn:=⟨[.cell 8 true 4],
(jq [jx 6 2 2,jx 7 2 3,js 8 (.alloc [(.int .u64 0),(.int .u64 0),(.int .u8 0),(.int .u8 0)])] [0,1,6,7,8]
(jq [jm 14 0,jm 15 1,jf 16 0 6,jl 17 1 16,jf 18 0 7,jl 19 1 18,jc 20 220 [14,15,17,19],jm 13 20,je 21 13 0,je 22 13 1,jm 9 21,jm 10 22] [0,1,6,7,8,9,10]
(jq [jm 24 0,jm 25 1,jf 26 1 6,jl 27 1 26,jf 28 1 7,jl 29 1 28,jc 30 220 [24,25,27,29],jm 23 30,je 31 23 0,je 32 23 1,jm 11 31,jm 12 32] [8,9,10,11,12]
(jq [jm 33 9,jm 34 11,js 35 (.build [(.int .u64 0),(.int .u64 0)] [(0,1,(.t 33)),(1,1,(.t 34))]),jm 36 10,jm 37 12,js 38 (.build [(.int .u64 0),(.int .u64 0),(.int .u8 0),(.int .u8 0)] [(0,2,(.t 35)),(2,1,(.t 36)),(3,1,(.t 37))]),jw 4 8 38] [8]
.ret))))⟩
def ZaG : IFn:=⟨[.cell 8 true 4,.tmp 9,.tmp 10],
(jq [jx 6 2 2,jx 7 2 3,js 8 (.alloc [(.int .u64 0),(.int .u64 0),(.int .u8 0),(.int .u8 0)]),jv 9 false,jk 10 .i64 0] [0,1,6,7,8]
(jq [jm 19 0,jm 20 1,jL 21 2 6,jL 22 2 7,js 23 (.bslice 2 2 [(.int .u64 0),(.int .u64 0)] [(0,2,(.t 21)),(2,2,(.t 22))]),jc 24 289 [19,20,23],jm 18 24,je 25 18 0,je 26 18 1,jm 11 25,jm 12 26] [0,1,6,7,8,11,12]
(.seq (jq [jm 27 12,ji 28 .neq 27 .i64 0] [0,1,6,7,8,11,12,28]
(jC 28
(jq [js 29 (.build [(.int .u64 0),(.int .u64 0),(.int .u8 0),(.int .u8 0)] []),jm 30 12,jw 4 8 29,jv 9 false,jm 10 30] [8,9,10]
.ret)
.skip))
(jq [jm 31 11,js 32 (.iaddr 1 (.t 31) (.c (.int .i64 0))),jl 33 1 32,jm 34 11,js 35 (.iaddr 1 (.t 34) (.c (.int .i64 1))),jl 36 1 35,jm 13 33,jm 14 36] [0,1,6,7,8,13,14]
(jq [jm 38 0,js 39 (.call false (.f 26) [(.t 38),(.c (.bool false))]),jm 37 39,je 40 37 0,je 41 37 1,jm 15 40,jm 16 41] [0,1,6,7,8,13,14,15]
(.seq (.block 0
(jq [jm 43 13,ji 44 .leq 43 .u8 2,jm 45 44,jg (jm 46 14) 45 true,jg (ji 47 .leq 46 .u8 2) 45 true,jp 48 45 47,jm 42 48] [0,1,6,7,8,13,14,15,42]
(jC 42
(jq [js 49 (.build [(.int .u64 0),(.int .u64 0),(.int .u8 0),(.int .u8 0)] []),jw 4 8 49,jv 9 false,jk 10 .i64 0] [8,9,10]
.ret)
(jq [jm 51 13,ji 52 .eql 51 .u8 4,jm 53 52,jg (jm 54 14) 53 false,jg (ji 55 .eql 54 .u8 4) 53 false,jP 56 53 55,jm 50 56] [0,1,6,7,8,13,14,15,50]
(jC 50
(jq [jm 57 0,js 58 (.call false (.f 290) [(.t 57),(.c (.int .u8 0))]),jw 4 8 58,jv 9 true,jk 10 .i64 0] [8,9,10]
.ret)
(jq [jm 60 13,ji 61 .eql 60 .u8 1,jm 62 61,jg (jm 63 14) 62 false,jg (ji 64 .eql 63 .u8 1) 62 false,jP 65 62 64,jm 59 65] [0,1,6,7,8,13,14,15,59]
(jC 59
(jq [jm 66 0,js 67 (.call false (.f 290) [(.t 66),(.c (.int .u8 1))]),jw 4 8 67,jv 9 true,jk 10 .i64 0] [8,9,10]
.ret)
.skip)))))))
(jq [jm 68 0,jL 69 2 6,jm 70 13,jc 71 291 [68,69,70],jm 72 0,jL 73 2 7,jm 74 14,jc 75 291 [72,73,74],jm 76 1,jc 77 292 [71,75,76],js 17 (.alloc [(.int .i64 0),(.bool false),(.int .i64 0),(.bool false)]),jw 4 17 77] [0,8,15,17]
(jq [jL 78 4 17,jm 79 0,jm 80 15,jc 81 293 [78,79,80],js 82 (.build [(.int .u64 0),(.int .u64 0),(.int .u8 0),(.int .u8 0)] [(0,2,(.t 81))]),jw 4 8 82,jv 9 true,jk 10 .i64 0] [8,9,10]
.ret))))))))⟩
def ZdA : IFn:=⟨[.cell 6 true 4],
(jq [jx 3 2 0,jx 4 8 1,jx 5 3 2,js 6 (.alloc [(.int .u64 0),(.int .u64 0),(.int .u8 0),(.int .u8 0)])] [3,4,5,6]
(jq [js 7 (.alloc [(.int .u64 0),(.int .u64 0),(.int .u8 0),(.int .u8 0)])] [3,4,5,6,7]
(jq [jL 9 2 3,jf 10 0 4,jL 11 4 10,jL 12 3 5,jc 13 294 [9,11,12],jm 8 13,je 14 8 0,je 15 8 1,jf 16 0 7,jf 17 0 16,jw 1 17 14,jf 18 2 7,jw 1 18 15] [3,4,5,6,7]
(jq [jL 20 2 3,jf 21 4 4,jL 22 4 21,jL 23 3 5,jc 24 294 [20,22,23],jm 19 24,je 25 19 0,je 26 19 1,jf 27 0 7,jf 28 1 27,jw 1 28 25,jf 29 3 7,jw 1 29 26] [6,7]
(jq [jL 30 4 7,jw 4 6 30] [6]
.ret)))))⟩
def ZcW : IFn:=⟨[.cell 6 true 8],
(jq [jx 3 2 0,jx 4 8 1,jx 5 8 2,js 6 (.alloc [(.bool false),.nil,(.int .i64 0),(.bool false),(.bool false),.nil,(.int .i64 0),(.bool false)])] [3,4,5,6]
(jq [jf 7 0 4,jL 8 4 7,jf 9 0 5,jL 10 4 9,jc 11 278 [8,10],jf 12 4 4,jL 13 4 12,jf 14 4 5,jL 15 4 14,jc 16 278 [13,15],jc 17 279 [16],jf 18 1 3,jl 19 1 18,jc 20 295 [11,17,19],jf 21 0 4,jL 22 4 21,jf 23 4 5,jL 24 4 23,jc 25 278 [22,24],jf 26 4 4,jL 27 4 26,jf 28 0 5,jL 29 4 28,jc 30 278 [27,29],jf 31 1 3,jl 32 1 31,jc 33 295 [25,30,32],js 34 (.build [(.bool false),.nil,(.int .i64 0),(.bool false),(.bool false),.nil,(.int .i64 0),(.bool false)] [(0,4,(.t 20)),(4,4,(.t 33))]),jw 8 6 34] [6]
.ret))⟩
def ZeT : IFn:=⟨[.cell 4 true 8],
(jq [jx 3 2 1,js 4 (.alloc [(.bool false),.nil,(.int .i64 0),(.bool false),(.bool false),.nil,(.int .i64 0),(.bool false)])] [0,3,4]
(jq [jm 5 0,jf 6 0 3,jl 7 1 6,jc 8 296 [5,7],jm 9 0,jf 10 1 3,jl 11 1 10,jc 12 296 [9,11],js 13 (.build [(.bool false),.nil,(.int .i64 0),(.bool false),(.bool false),.nil,(.int .i64 0),(.bool false)] [(0,4,(.t 8)),(4,4,(.t 12))]),jw 8 4 13] [4]
.ret))⟩
def ZjJ : IFn:=⟨[.cell 2 true 3],
(jq [js 2 (.alloc [(.bool false),.nil,(.int .i64 0)])] [0,2]
(jq [jm 6 0,js 7 (.cvt .u64 (.t 6)),jm 3 7] [0,2,3]
(.seq (jq [jm 8 0,ji 9 .lss 8 .i64 0] [0,2,3,9]
(jC 9
(jr [jm 10 3,js 11 (.un .neg (.t 10)),jm 3 11] [0,2,3])
.skip))
(jq [jm 13 0,ji 14 .lss 13 .i64 0,jm 15 3,jc 16 55 [15],js 17 (.call false (.f 54) [(.t 14),(.t 16),(.c (.int .i64 0))]),jm 12 17,je 18 12 0,je 19 12 1,js 4 (.alloc [(.bool false),.nil,(.int .i64 0)]),jw 3 4 18,jm 5 19] [2,4]
(jq [jL 20 3 4,jw 3 2 20] [2]
.ret)))))⟩
def ZcC : IFn:=⟨[.cell 8 true 4,.tmp 9],
(jq [jx 6 2 2,jx 7 2 3,js 8 (.alloc [(.int .u64 0),(.int .u64 0),(.int .u8 0),(.int .u8 0)]),jv 9 false] [0,1,6,7,8]
(jq [jm 12 0,jL 13 2 6,jc 14 237 [12,13],jm 15 0,jL 16 2 7,jc 17 237 [15,16],jm 10 14,jm 11 17] [0,1,6,7,8,10,11]
(.seq (jq [jm 18 0,jL 19 2 6,jc 20 250 [18,19],jm 21 20,jg (jm 22 0) 21 true,jg (jL 23 2 7) 21 true,jg (jc 24 250 [22,23]) 21 true,jp 25 21 24] [0,1,6,7,8,10,11,25]
(jC 25
(jq [js 26 (.build [(.int .u64 0),(.int .u64 0),(.int .u8 0),(.int .u8 0)] []),jw 4 8 26,jv 9 false] [8,9]
.ret)
.skip))
(.seq (jq [jm 27 10,ji 28 .eql 27 .u8 4,jm 29 28,jg (jm 30 11) 29 false,jg (ji 31 .eql 30 .u8 4) 29 false,jP 32 29 31] [0,1,6,7,8,10,11,32]
(jC 32
(jq [jm 33 0,js 34 (.call false (.f 297) [(.t 33),(.c (.int .u8 0))]),jw 4 8 34,jv 9 true] [8,9]
.ret)
.skip))
(.seq (jq [jm 35 10,ji 36 .eql 35 .u8 1,jm 37 36,jg (jm 38 11) 37 false,jg (ji 39 .eql 38 .u8 1) 37 false,jP 40 37 39] [0,1,6,7,8,40]
(jC 40
(jq [jm 41 0,js 42 (.call false (.f 297) [(.t 41),(.c (.int .u8 1))]),jw 4 8 42,jv 9 true] [8,9]
.ret)
.skip))
(jq [jm 43 0,jm 44 0,jm 45 1,jm 46 0,jL 47 2 6,jc 48 300 [46,47],jm 49 0,jL 50 2 7,jc 51 300 [49,50],jc 52 299 [44,45,48,51],jm 53 0,js 54 (.call false (.f 30) [(.t 53),(.c (.bool false))]),jc 55 298 [43,52,54],js 56 (.build [(.int .u64 0),(.int .u64 0),(.int .u8 0),(.int .u8 0)] [(0,2,(.t 55))]),jw 4 8 56,jv 9 true] [8,9]
.ret))))))⟩
def Zfp : IFn:=⟨[.cell 6 true 8,.cell 7 true 8],
(jq [jx 4 2 1,jx 5 2 2,js 6 (.alloc [(.bool false),.nil,(.int .i64 0),(.bool false),(.bool false),.nil,(.int .i64 0),(.bool false)]),js 7 (.alloc [(.bool false),.nil,(.int .i64 0),(.bool false),(.bool false),.nil,(.int .i64 0),(.bool false)])] [0,4,5,6,7]
(jq [jm 8 0,jf 9 0 4,jl 10 1 9,jf 11 0 5,jl 12 1 11,js 13 (.call false (.f 301) [(.t 8),(.t 10),(.t 12),(.c (.bool false))]),jm 14 0,jf 15 1 4,jl 16 1 15,jf 17 1 5,jl 18 1 17,js 19 (.call false (.f 301) [(.t 14),(.t 16),(.t 18),(.c (.bool true))]),js 20 (.build [(.bool false),.nil,(.int .i64 0),(.bool false),(.bool false),.nil,(.int .i64 0),(.bool false)] [(0,4,(.t 13)),(4,4,(.t 19))]),jm 21 0,jf 22 0 4,jl 23 1 22,jf 24 1 5,jl 25 1 24,js 26 (.call false (.f 301) [(.t 21),(.t 23),(.t 25),(.c (.bool false))]),jm 27 0,jf 28 1 4,jl 29 1 28,jf 30 0 5,jl 31 1 30,js 32 (.call false (.f 301) [(.t 27),(.t 29),(.t 31),(.c (.bool false))]),js 33 (.build [(.bool false),.nil,(.int .i64 0),(.bool false),(.bool false),.nil,(.int .i64 0),(.bool false)] [(0,4,(.t 26)),(4,4,(.t 32))]),jw 8 6 20,jw 8 7 33] [6,7]
.ret))⟩
def ZcO : IC :=
(.seq (jq [jm 9 8,jm 10 1,jn 11 10,jb 12 .lss 9 11] [0,1,4,6,7,8,12]
(jC 12
.skip
(.exit 0)))
(.seq (.block 1
(jq [jL 15 3 6,jm 16 1,jm 17 8,ja 18 4 16 17,jf 19 0 18,jL 20 3 19,jc 21 67 [15,20],jw 3 6 21] [0,1,4,6,7,8]
(jr [jm 22 7,jm 23 22,jg (jm 24 1) 23 true,jg (jm 25 8) 23 true,jg (ja 26 4 24 25) 23 true,jg (jf 27 0 26) 23 true,jg (jL 28 3 27) 23 true,jg (jc 29 16 [28]) 23 true,jg (ji 30 .eql 29 .i64 0) 23 true,jp 31 23 30,jm 32 31,jg (jm 33 1) 32 true,jg (jm 34 8) 32 true,jg (ja 35 4 33 34) 32 true,jg (jf 36 3 35) 32 true,jg (jl 37 1 36) 32 true,jg (jm 38 1) 32 true,jg (js 39 (.iaddr 4 (.t 38) (.c (.int .i64 0)))) 32 true,jg (jf 40 3 39) 32 true,jg (jl 41 1 40) 32 true,jg (js 42 (.eqb false (.t 37) (.t 41))) 32 true,jp 43 32 42,jm 7 43] [0,1,4,6,7,8])))
(jr [jm 13 8,ji 14 .add 13 .i64 1,jm 8 14] [0,1,4,6,7,8])))
def Zjw : IC:=.loop [0,1,4,6,7,8] ZcO
def Zex : IFn:=⟨[.cell 4 true 3,.tmp 5],
(jq [js 4 (.alloc [(.bool false),.nil,(.int .i64 0)]),jv 5 false] [0,1,4]
(jq [js 6 (.alloc [(.bool false),.nil,(.int .i64 0)])] [0,1,4,6]
(jq [jv 7 true] [0,1,4,6,7]
(.seq (jq [jk 8 .i64 0] [0,1,4,6,7,8]
(.block 0
 Zjw))
(.seq (jq [jm 44 7] [0,1,4,6,44]
(jC 44
(.seq (.reg [jL 45 3 6,jm 46 1,js 47 (.iaddr 4 (.t 46) (.c (.int .i64 0))),jf 48 3 47,jl 49 1 48,jw 3 4 45,jm 5 49] [4,5] [(4,5)])
.ret)
.skip))
(jq [jL 50 3 6,jm 51 0,ji 52 .eql 51 .u8 5,jw 3 4 50,jm 5 52] [4,5]
.ret))))))⟩
def Zdp : IFn:=⟨[.tmp 10,.tmp 11],
(jq [jx 7 3 2,jx 9 3 4,jk 10 .u64 0,jk 11 .u8 0] [0,1,3,7,9]
(.seq (jq [jL 12 3 7,jc 13 16 [12],ji 14 .eql 13 .i64 0] [0,1,3,7,9,14]
(jC 14
(jq [jm 15 0,jm 16 3,js 17 (.call false (.f 38) [(.t 15),(.c (.int .u64 0)),(.t 16)]),jm 10 17,jk 11 .u8 0] [10,11]
.ret)
.skip))
(jq [jm 18 0,jm 19 1,jL 20 3 7,jL 21 3 9,jc 22 17 [18,19,20,21],je 23 22 0,je 24 22 1,jm 10 23,jm 11 24] [10,11]
.ret)))⟩
def Zas : IFn:=⟨[.cell 8 true 4,.tmp 9,.tmp 10],
(jq [jx 6 2 2,jx 7 2 3,js 8 (.alloc [(.int .u64 0),(.int .u64 0),(.int .u8 0),(.int .u8 0)]),jv 9 false,jk 10 .i64 0] [0,1,6,7,8]
(jq [jm 20 0,jm 21 1,jL 22 2 6,jL 23 2 7,js 24 (.bslice 2 2 [(.int .u64 0),(.int .u64 0)] [(0,2,(.t 22)),(2,2,(.t 23))]),jc 25 289 [20,21,24],jm 19 25,je 26 19 0,je 27 19 1,jm 11 26,jm 12 27] [0,1,6,7,8,11,12]
(.seq (jq [jm 28 12,ji 29 .neq 28 .i64 0] [0,1,6,7,8,11,12,29]
(jC 29
(jq [js 30 (.build [(.int .u64 0),(.int .u64 0),(.int .u8 0),(.int .u8 0)] []),jm 31 12,jw 4 8 30,jv 9 false,jm 10 31] [8,9,10]
.ret)
.skip))
(jq [jm 32 11,js 33 (.iaddr 1 (.t 32) (.c (.int .i64 0))),jl 34 1 33,jm 35 11,js 36 (.iaddr 1 (.t 35) (.c (.int .i64 1))),jl 37 1 36,jm 13 34,jm 14 37] [0,1,6,7,8,13,14]
(jq [jm 39 0,js 40 (.call false (.f 26) [(.t 39),(.c (.bool false))]),jm 38 40,je 41 38 0,je 42 38 1,jm 15 41,jm 16 42] [0,1,6,7,8,13,14,15]
(.seq (.block 0
(jq [jm 44 13,ji 45 .leq 44 .u8 2,jm 46 45,jg (jm 47 14) 46 true,jg (ji 48 .eql 47 .u8 2) 46 true,jp 49 46 48,jm 43 49] [0,1,6,7,8,13,14,15,43]
(jC 43
(jq [js 50 (.build [(.int .u64 0),(.int .u64 0),(.int .u8 0),(.int .u8 0)] []),jw 4 8 50,jv 9 false,jk 10 .i64 0] [8,9,10]
.ret)
(jq [jm 52 13,ji 53 .eql 52 .u8 4,jm 54 53,jg (jm 55 14) 54 false,jg (ji 56 .eql 55 .u8 4) 54 false,jP 57 54 56,jm 51 57] [0,1,6,7,8,13,14,15,51]
(jC 51
(jq [jm 58 0,js 59 (.call false (.f 290) [(.t 58),(.c (.int .u8 0))]),jw 4 8 59,jv 9 true,jk 10 .i64 0] [8,9,10]
.ret)
(jq [jm 61 13,jm 62 14,jb 63 .eql 61 62,jm 60 63] [0,1,6,7,8,13,14,15,60]
(jC 60
(jq [jm 64 0,js 65 (.call false (.f 290) [(.t 64),(.c (.int .u8 1))]),jw 4 8 65,jv 9 true,jk 10 .i64 0] [8,9,10]
.ret)
.skip)))))))
(jq [jm 66 0,jL 67 2 7,jm 68 14,jc 69 291 [66,67,68],js 17 (.alloc [(.int .i64 0),(.bool false),(.int .i64 0),(.bool false)]),jw 4 17 69] [0,1,6,8,13,14,15,17]
(.seq (jq [jm 70 14,ji 71 .eql 70 .u8 1] [0,1,6,8,13,14,15,17,71]
(jC 71
(jq [js 72 (.iaddrA 2 2 (.t 17) (.c (.int .i64 0))),jf 73 0 72,⟨none,.store 1 (.t 73) (.c (.int .i64 1)),none⟩] [0,1,6,8,13,14,15,17]
(jq [js 74 (.iaddrA 2 2 (.t 17) (.c (.int .i64 0))),jf 75 1 74,jl 76 1 75] [0,1,6,8,13,14,15,17,76]
(jC 76
(jr [js 77 (.iaddrA 2 2 (.t 17) (.c (.int .i64 0))),jf 78 0 77,⟨none,.store 1 (.t 78) (.c (.int .i64 (-1))),none⟩] [0,1,6,8,13,14,15,17])
.skip)))
.skip))
(jq [js 79 (.iaddrA 2 2 (.t 17) (.c (.int .i64 1))),jL 80 2 79,jc 81 302 [80],js 82 (.iaddrA 2 2 (.t 17) (.c (.int .i64 1))),jw 2 82 81] [0,1,6,8,13,14,15,17]
(jq [jm 83 0,jL 84 2 6,jm 85 13,jc 86 291 [83,84,85],jL 87 4 17,jm 88 1,jc 89 292 [86,87,88],js 18 (.alloc [(.int .i64 0),(.bool false),(.int .i64 0),(.bool false)]),jw 4 18 89] [0,8,13,14,15,18]
(.seq (.block 1
(jq [jm 91 14,ji 92 .eql 91 .u8 3,jm 90 92] [0,8,13,15,18,90]
(jC 90
(jq [jL 93 4 18,jm 94 0,js 95 (.call false (.f 293) [(.t 93),(.t 94),(.c (.int .u64 0))]),js 96 (.build [(.int .u64 0),(.int .u64 0),(.int .u8 0),(.int .u8 0)] [(0,2,(.t 95))]),jw 4 8 96,jv 9 true,jk 10 .i64 0] [8,9,10]
.ret)
(jq [jm 98 13,ji 99 .eql 98 .u8 3,jm 97 99] [0,8,15,18,97]
(jC 97
(jq [jL 100 4 18,jm 101 0,jm 102 15,jc 103 293 [100,101,102],js 104 (.build [(.int .u64 0),(.int .u64 0),(.int .u8 0),(.int .u8 0)] [(0,2,(.t 103))]),jw 4 8 104,jv 9 true,jk 10 .i64 0] [8,9,10]
.ret)
.skip)))))
(jq [jL 105 4 18,jm 106 0,jm 107 15,jc 108 293 [105,106,107],js 109 (.build [(.int .u64 0),(.int .u64 0),(.int .u8 0),(.int .u8 0)] [(0,2,(.t 108)),(2,1,(.c (.int .u8 2))),(3,1,(.c (.int .u8 2)))]),jw 4 8 109,jv 9 true,jk 10 .i64 0] [8,9,10]
.ret))))))))))))⟩
def Zdz : IFn:=⟨[.cell 4 true 4],
(jq [jx 2 4 0,jx 3 4 1,js 4 (.alloc [(.bool false),.nil,(.int .i64 0),(.bool false)])] [2,3,4]
(jq [jf 8 0 2,jL 9 3 8,jf 10 0 3,jL 11 3 10,jc 12 182 [9,11],jm 7 12,je 13 7 0,je 14 7 1,js 5 (.alloc [(.bool false),.nil,(.int .i64 0)]),jw 3 5 13,jm 6 14] [2,3,4,5]
(jq [jL 15 3 5,jf 16 3 2,jl 17 1 16,jf 18 3 3,jl 19 1 18,js 20 (.eqb true (.t 17) (.t 19)),js 21 (.build [(.bool false),.nil,(.int .i64 0),(.bool false)] [(0,3,(.t 15)),(3,1,(.t 20))]),jw 4 4 21] [4]
.ret)))⟩
def Zdy : IFn:=⟨[.cell 2 true 4],
(jq [jx 1 4 0,js 2 (.alloc [(.bool false),.nil,(.int .i64 0),(.bool false)])] [1,2]
(jq [jf 6 0 1,jL 7 3 6,jc 8 184 [7],jm 5 8,je 9 5 0,je 10 5 1,js 3 (.alloc [(.bool false),.nil,(.int .i64 0)]),jw 3 3 9,jm 4 10] [1,2,3]
(jq [jL 11 3 3,jf 12 3 1,jl 13 1 12,js 14 (.un .not (.t 13)),js 15 (.build [(.bool false),.nil,(.int .i64 0),(.bool false)] [(0,3,(.t 11)),(3,1,(.t 14))]),jw 4 2 15] [2]
.ret)))⟩
def ZbB : IFn:=⟨[.cell 8 true 4,.tmp 9],
(jq [jx 6 2 2,jx 7 2 3,js 8 (.alloc [(.int .u64 0),(.int .u64 0),(.int .u8 0),(.int .u8 0)]),jv 9 false] [0,1,6,7,8]
(jq [jm 15 0,jL 16 2 6,jc 17 237 [15,16],jm 18 0,jL 19 2 7,jc 20 237 [18,19],jm 10 17,jm 11 20] [0,1,6,7,8,10,11]
(.seq (jq [jm 21 0,jL 22 2 6,jc 23 250 [21,22],jm 24 23,jg (jm 25 11) 24 true,jg (ji 26 .eql 25 .u8 2) 24 true,jp 27 24 26] [0,1,6,7,8,10,11,27]
(jC 27
(jq [js 28 (.build [(.int .u64 0),(.int .u64 0),(.int .u8 0),(.int .u8 0)] []),jw 4 8 28,jv 9 false] [8,9]
.ret)
.skip))
(.seq (jq [jm 29 10,ji 30 .eql 29 .u8 4,jm 31 30,jg (jm 32 11) 31 false,jg (ji 33 .eql 32 .u8 4) 31 false,jP 34 31 33] [0,1,6,7,8,10,11,34]
(jC 34
(jq [jm 35 0,js 36 (.call false (.f 297) [(.t 35),(.c (.int .u8 0))]),jw 4 8 36,jv 9 true] [8,9]
.ret)
.skip))
(.seq (jq [jm 37 10,jm 38 11,jb 39 .eql 37 38,jm 40 39,jg (jm 41 10) 40 true,jg (ji 42 .neq 41 .u8 2) 40 true,jp 43 40 42] [0,1,6,7,8,10,11,43]
(jC 43
(jq [jm 44 0,js 45 (.call false (.f 297) [(.t 44),(.c (.int .u8 1))]),jw 4 8 45,jv 9 true] [8,9]
.ret)
.skip))
(jq [jm 46 0,jL 47 2 7,jc 48 300 [46,47],js 12 (.alloc [(.int .u64 0),(.int .u64 0)]),jw 2 12 48] [0,1,6,7,8,10,11,12]
(.seq (jq [jm 49 11,ji 50 .eql 49 .u8 1] [0,1,6,7,8,10,11,12,50]
(jC 50
(jr [jm 51 0,jm 52 0,jf 53 0 7,jl 54 1 53,jc 55 156 [52,54],js 56 (.field false 0 1 (.t 55)),jc 57 303 [51,56],jf 58 0 12,jw 1 58 57] [0,1,6,8,10,11,12])
.skip))
(jq [jm 59 0,jm 60 1,jm 61 0,jL 62 2 6,jc 63 300 [61,62],jm 64 0,jL 65 2 12,jc 66 172 [64,65],jc 67 299 [59,60,63,66],js 13 (.alloc [(.int .u64 0),(.int .u64 0)]),jw 2 13 67] [0,8,10,11,13]
(.seq (jq [jm 68 11,ji 69 .eql 68 .u8 3] [0,8,10,13,69]
(jC 69
(jq [jm 70 0,jL 71 2 13,js 72 (.call false (.f 298) [(.t 70),(.t 71),(.c (.int .u64 0))]),js 73 (.build [(.int .u64 0),(.int .u64 0),(.int .u8 0),(.int .u8 0)] [(0,2,(.t 72))]),jw 4 8 73,jv 9 true] [8,9]
.ret)
.skip))
(jq [jm 74 0,jL 75 2 13,jm 76 0,js 77 (.call false (.f 30) [(.t 76),(.c (.bool false))]),jc 78 298 [74,75,77],js 79 (.build [(.int .u64 0),(.int .u64 0),(.int .u8 0),(.int .u8 0)] [(0,2,(.t 78))]),js 14 (.alloc [(.int .u64 0),(.int .u64 0),(.int .u8 0),(.int .u8 0)]),jw 4 14 79] [8,10,14]
(.seq (jq [jm 80 10,ji 81 .neq 80 .u8 3] [8,14,81]
(jC 81
(jq [jf 82 2 14,⟨none,.store 1 (.t 82) (.c (.int .u8 2)),none⟩] [8,14]
(jr [jf 83 3 14,⟨none,.store 1 (.t 83) (.c (.int .u8 2)),none⟩] [8,14]))
.skip))
(jq [jL 84 4 14,jw 4 8 84,jv 9 true] [8,9]
.ret))))))))))))⟩
def Zej : IFn:=⟨[.cell 6 true 8,.cell 7 true 8,.cell 8 true 3],
(jq [jx 4 2 1,jx 5 2 2,js 6 (.alloc [(.bool false),.nil,(.int .i64 0),(.bool false),(.bool false),.nil,(.int .i64 0),(.bool false)]),js 7 (.alloc [(.bool false),.nil,(.int .i64 0),(.bool false),(.bool false),.nil,(.int .i64 0),(.bool false)]),js 8 (.alloc [(.bool false),.nil,(.int .i64 0)])] [0,4,5,6,7,8]
(jq [jm 11 0,jf 12 0 5,jl 13 1 12,jc 14 151 [11,13],jm 15 0,jf 16 1 5,jl 17 1 16,jc 18 151 [15,17],js 9 (.alloc [(.bool false),.nil,(.int .i64 0)]),js 10 (.alloc [(.bool false),.nil,(.int .i64 0)]),jw 3 9 14,jw 3 10 18] [0,4,5,6,7,8,9,10]
(jq [jm 19 0,jf 20 0 4,jl 21 1 20,jf 22 0 5,jl 23 1 22,js 24 (.call false (.f 301) [(.t 19),(.t 21),(.t 23),(.c (.bool false))]),jm 25 0,jf 26 1 4,jl 27 1 26,jf 28 1 5,jl 29 1 28,js 30 (.call false (.f 301) [(.t 25),(.t 27),(.t 29),(.c (.bool false))]),js 31 (.build [(.bool false),.nil,(.int .i64 0),(.bool false),(.bool false),.nil,(.int .i64 0),(.bool false)] [(0,4,(.t 24)),(4,4,(.t 30))]),jm 32 0,jf 33 1 4,jl 34 1 33,jf 35 0 5,jl 36 1 35,js 37 (.call false (.f 301) [(.t 32),(.t 34),(.t 36),(.c (.bool false))]),jm 38 0,jf 39 0 4,jl 40 1 39,jf 41 1 5,jl 42 1 41,js 43 (.call false (.f 301) [(.t 38),(.t 40),(.t 42),(.c (.bool true))]),js 44 (.build [(.bool false),.nil,(.int .i64 0),(.bool false),(.bool false),.nil,(.int .i64 0),(.bool false)] [(0,4,(.t 37)),(4,4,(.t 43))]),jL 45 3 9,jL 46 3 9,jc 47 154 [45,46],jL 48 3 10,jL 49 3 10,jc 50 154 [48,49],jc 51 67 [47,50],jw 8 6 31,jw 8 7 44,jw 3 8 51] [6,7,8]
.ret)))⟩
def Zhn : IFn:=⟨[.cell 10 true 4,.tmp 11],
(jq [jx 7 2 2,jx 8 2 3,js 10 (.alloc [(.int .u64 0),(.int .u64 0),(.int .u8 0),(.int .u8 0)]),jk 11 .i64 0] [0,1,4,7,8,10]
(.seq (jq [jm 14 0,jm 15 1,jL 16 2 7,jL 17 2 8,js 18 (.bslice 2 2 [(.int .u64 0),(.int .u64 0)] [(0,2,(.t 16)),(2,2,(.t 17))]),jc 19 286 [14,15,18],jm 12 19] [0,1,4,7,8,10,12]
(jq [jm 20 12,ji 21 .neq 20 .i64 0] [0,1,4,7,8,10,12,21]
(jC 21
(jq [js 22 (.build [(.int .u64 0),(.int .u64 0),(.int .u8 0),(.int .u8 0)] []),jm 23 12,jw 4 10 22,jm 11 23] [10,11]
.ret)
.skip)))
(jq [js 13 (.alloc [(.int .u64 0),(.int .u64 0),(.int .u8 0),(.int .u8 0)])] [0,1,4,7,8,10,13]
(jq [jm 25 4,jm 26 0,jm 27 1,jf 28 0 7,jl 29 1 28,jf 30 0 8,jl 31 1 30,js 32 (.call false (.t 25) [(.t 26),(.t 27),(.t 29),(.t 31)]),jm 24 32,je 33 24 0,je 34 24 1,je 35 24 2,jf 36 0 13,jf 37 0 36,jw 1 37 33,jf 38 2 13,jw 1 38 34] [0,1,4,7,8,10,13]
(jq [jm 40 4,jm 41 0,jm 42 1,jf 43 1 7,jl 44 1 43,jf 45 1 8,jl 46 1 45,js 47 (.call false (.t 40) [(.t 41),(.t 42),(.t 44),(.t 46)]),jm 39 47,je 48 39 0,je 49 39 1,je 50 39 2,jf 51 0 13,jf 52 1 51,jw 1 52 48,jf 53 3 13,jw 1 53 49] [10,13]
(jq [jL 54 4 13,jw 4 10 54,jk 11 .i64 0] [10,11]
.ret))))))⟩
def Zdg : IC :=
(jq [jb 24 .lss 23 22] [0,21,22,23,24]
(.seq (jC 24
.skip
(.exit 0))
(.seq (.block 1
(jq [ja 25 2 21 23,jL 26 2 25,js 10 (.alloc [(.int .u64 0),(.int .u64 0)]),jw 2 10 26] [0,10,21,22,23]
(jq [jm 27 0,jL 28 2 10,jc 29 304 [27,28],jm 11 29] [0,11,21,22,23]
(jq [jm 30 11,ji 31 .neq 30 .i64 0] [0,11,21,22,23,31]
(jC 31
(jq [jm 32 11,jm 6 32] [6]
.ret)
.skip)))))
(jr [ji 33 .add 23 .i64 1,jm 23 33] [0,21,22,23]))))
def ZhY : IC:=.loop [0,21,22,23] Zdg
def ZeD : IFn:=⟨[.tmp 6],
(jq [jk 6 .i64 0] [0,1,2]
(.seq (jq [jm 13 0,jm 14 1,js 15 (.call false (.f 8) [(.t 13),(.t 14),(.c (.bool false))]),jm 12 15,je 16 12 0,je 17 12 1,jm 7 16,jm 8 17] [0,2,8]
(jq [jm 18 8,ji 19 .neq 18 .i64 0] [0,2,8,19]
(jC 19
(jq [jm 20 8,jm 6 20] [6]
.ret)
.skip)))
(.seq (jq [jm 21 2,jn 22 21,jk 23 .i64 0] [0,21,22,23]
(.block 0
 ZhY))
(jq [jk 6 .i64 0] [6]
.ret))))⟩
def ZfY : IC :=
(jq [jb 30 .lss 29 28] [0,10,27,28,29,30]
(.seq (jC 30
.skip
(.exit 0))
(.seq (.block 1
(jq [ja 31 2 27 29,jL 32 2 31,js 12 (.alloc [(.int .u64 0),(.int .u64 0)]),jw 2 12 32] [0,10,12,27,28,29]
(jq [jm 34 0,jL 35 2 12,jc 36 189 [34,35],jm 33 36,je 37 33 0,je 38 33 1,jm 13 37,jm 14 38] [0,10,13,14,27,28,29]
(.seq (jq [jm 39 14,ji 40 .neq 39 .i64 0] [0,10,13,14,27,28,29,40]
(jC 40
(jq [jm 41 14,js 6 (.mov (.c .nil)),jm 7 41] [6,7]
.ret)
.skip))
(jr [jm 42 10,jm 43 13,js 44 (.bslice 1 1 [(.int .u8 0)] [(0,1,(.t 43))]),js 45 (.app 1 1 (.t 42) (.t 44)),jm 10 45] [0,10,27,28,29])))))
(jr [ji 46 .add 29 .i64 1,jm 29 46] [0,10,27,28,29]))))
def ZfZ : IC:=.loop [0,10,27,28,29] ZfY
def Zgv : IFn:=⟨[.tmp 6,.tmp 7],
(jq [js 6 (.mov (.c .nil)),jk 7 .i64 0] [0,1,2]
(.seq (jq [jm 16 0,jm 17 1,js 18 (.call false (.f 8) [(.t 16),(.t 17),(.c (.bool false))]),jm 15 18,je 19 15 0,je 20 15 1,jm 8 19,jm 9 20] [0,2,9]
(jq [jm 21 9,ji 22 .neq 21 .i64 0] [0,2,9,22]
(jC 22
(jq [jm 23 9,js 6 (.mov (.c .nil)),jm 7 23] [6,7]
.ret)
.skip)))
(jq [jm 24 2,jn 25 24,js 26 (.mk 1 1 [(.int .u8 0)] (.c (.int .i64 0)) (.t 25)),jm 10 26] [0,2,10]
(.seq (jq [jm 27 2,jn 28 27,jk 29 .i64 0] [0,10,27,28,29]
(.block 0
 ZfZ))
(jq [jm 47 10,jm 6 47,jk 7 .i64 0] [6,7]
.ret)))))⟩
def Zgu : IFn:=⟨[.cell 4 true 4],
(jq [js 4 (.alloc [(.int .u64 0),(.int .u64 0),(.int .u8 0),(.int .u8 0)])] [0,1,4]
(jq [jm 8 0,jc 9 196 [8],jm 7 9,je 10 7 0,je 11 7 1,jm 5 10,jm 6 11] [1,4,5]
(jq [jm 12 5,jm 13 5,js 14 (.build [(.int .u64 0),(.int .u64 0)] [(0,1,(.t 12)),(1,1,(.t 13))]),jm 15 1,jm 16 1,js 17 (.build [(.int .u64 0),(.int .u64 0),(.int .u8 0),(.int .u8 0)] [(0,2,(.t 14)),(2,1,(.t 15)),(3,1,(.t 16))]),jw 4 4 17] [4]
.ret)))⟩
def Zfx : IFn:=⟨[.cell 6 true 4],
(jq [jx 4 2 1,js 6 (.alloc [(.int .i64 0),(.bool false),(.int .i64 0),(.bool false)])] [0,2,4,6]
(jq [jm 8 2,ji 9 .eql 8 .u8 3,jm 7 9] [0,4,6,7]
(jq [jm 10 0,jf 11 0 4,jl 12 1 11,jm 13 7,jc 14 307 [10,12,13],jm 15 0,jf 16 1 4,jl 17 1 16,jm 18 7,jc 19 307 [15,17,18],js 20 (.build [(.int .i64 0),(.bool false),(.int .i64 0),(.bool false)] [(0,2,(.t 14)),(2,2,(.t 19))]),jw 4 6 20] [6]
.ret)))⟩
def ZcE : IFn:=⟨[.cell 6 true 4],
(jq [jx 3 4 0,jx 4 4 1,js 6 (.alloc [(.int .i64 0),(.bool false),(.int .i64 0),(.bool false)])] [2,3,4,6]
(jq [js 7 (.iaddrA 2 2 (.t 3) (.c (.int .i64 0))),jL 8 2 7,js 9 (.iaddrA 2 2 (.t 4) (.c (.int .i64 0))),jL 10 2 9,jc 11 308 [8,10],js 12 (.iaddrA 2 2 (.t 3) (.c (.int .i64 1))),jL 13 2 12,js 14 (.iaddrA 2 2 (.t 4) (.c (.int .i64 1))),jL 15 2 14,jc 16 308 [13,15],jc 17 302 [16],jm 18 2,jc 19 309 [11,17,18],js 20 (.iaddrA 2 2 (.t 3) (.c (.int .i64 0))),jL 21 2 20,js 22 (.iaddrA 2 2 (.t 4) (.c (.int .i64 1))),jL 23 2 22,jc 24 308 [21,23],js 25 (.iaddrA 2 2 (.t 3) (.c (.int .i64 1))),jL 26 2 25,js 27 (.iaddrA 2 2 (.t 4) (.c (.int .i64 0))),jL 28 2 27,jc 29 308 [26,28],jm 30 2,jc 31 309 [24,29,30],js 32 (.build [(.int .i64 0),(.bool false),(.int .i64 0),(.bool false)] [(0,2,(.t 19)),(2,2,(.t 31))]),jw 4 6 32] [6]
.ret))⟩
def ZcS : IC :=
(jq [ji 12 .lss 11 .i64 2] [1,2,6,7,10,11,12]
(.seq (jC 12
.skip
(.exit 0))
(.seq (.block 1
(jq [jm 13 11,js 14 (.index true 2 2 (.t 10) (.t 11)),js 9 (.alloc [(.int .i64 0),(.bool false)]),jm 8 13,jw 2 9 14] [1,2,6,7,8,9,10,11]
(.seq (jq [jf 15 0 9,jl 16 1 15,ji 17 .neq 16 .i64 0] [1,2,6,7,8,9,10,11,17]
(jC 17
(jr [jm 18 8,jm 19 2,js 20 (.iaddrA 2 1 (.t 7) (.t 18)),jw 1 20 19] [1,2,6,7,8,9,10,11])
.skip))
(jq [jf 21 1 9,jl 22 1 21] [1,2,6,7,8,10,11,22]
(jC 22
(jr [jm 24 8,jm 25 1,jm 26 8,js 27 (.iaddrA 2 1 (.t 7) (.t 26)),jl 28 1 27,jc 29 310 [25,28],jm 23 29,je 30 23 0,je 31 23 1,js 32 (.iaddrA 2 1 (.t 7) (.t 24)),jw 1 32 30] [1,2,6,7,10,11])
.skip)))))
(jr [ji 33 .add 11 .i64 1,jm 11 33] [1,2,6,7,10,11]))))
def ZcT : IC:=.loop [1,2,6,7,10,11] ZcS
def ZcF : IFn:=⟨[.cell 6 true 2],
(jq [jx 3 4 0,js 6 (.alloc [(.int .u64 0),(.int .u64 0)])] [1,2,3,6]
(jq [js 7 (.alloc [(.int .u64 0),(.int .u64 0)])] [1,2,3,6,7]
(.seq (jq [jL 10 4 3,jk 11 .i64 0] [1,2,6,7,10,11]
(.block 0
 ZcT))
(jq [js 34 (.iaddrA 2 1 (.t 7) (.c (.int .i64 0))),jl 35 1 34,js 36 (.iaddrA 2 1 (.t 7) (.c (.int .i64 1))),jl 37 1 36,js 38 (.build [(.int .u64 0),(.int .u64 0)] [(0,1,(.t 35)),(1,1,(.t 37))]),jw 2 6 38] [6]
.ret))))⟩
def Zci : IFn:=⟨[.tmp 6,.tmp 7],
(jq [jx 3 2 0,jx 4 4 1,jx 5 3 2,jk 6 .u64 0,jk 7 .u8 0] [3,4,5]
(.seq (jq [jf 13 0 4,jL 14 3 13,jc 15 22 [14],ji 16 .eql 15 .i64 0] [3,4,5,16]
(jC 16
(jq [jf 18 0 3,jl 19 1 18,jf 20 3 4,jl 21 1 20,jc 22 57 [19,21],jm 17 22,je 23 17 0,je 24 17 1,jm 8 23,jm 9 24] [8]
(jq [jm 25 8,jm 6 25,jk 7 .u8 0] [6,7]
.ret))
.skip))
(jq [jf 27 0 3,jl 28 1 27,jf 29 1 3,jl 30 1 29,jf 31 0 4,jL 32 3 31,jL 33 3 5,jc 34 15 [28,30,32,33],jm 26 34,je 35 26 0,je 36 26 1,je 37 26 2,jm 10 35,jm 11 36,jm 12 37] [10,11]
(jq [jm 38 10,jm 39 11,jm 6 38,jm 7 39] [6,7]
.ret))))⟩
def Zbk : IFn:=⟨[.cell 6 true 4],
(jq [jx 3 4 0,jx 4 4 1,js 6 (.alloc [(.bool false),.nil,(.int .i64 0),(.bool false)])] [2,3,4,6]
(jq [jf 10 0 3,jL 11 3 10,jf 12 0 4,jL 13 3 12,jc 14 195 [11,13],jm 9 14,je 15 9 0,je 16 9 1,js 7 (.alloc [(.bool false),.nil,(.int .i64 0)]),jw 3 7 15,jm 8 16] [2,3,4,6,7]
(.seq (.block 0
(jq [jL 18 3 7,jc 19 22 [18],ji 20 .neq 19 .i64 0,jm 17 20] [2,3,4,6,7,17]
(jC 17
(jq [jL 21 3 7,jf 22 0 7,jl 23 1 22,js 24 (.build [(.bool false),.nil,(.int .i64 0),(.bool false)] [(0,3,(.t 21)),(3,1,(.t 23))]),jw 4 6 24] [6]
.ret)
(jq [jf 26 0 3,jL 27 3 26,jc 28 22 [27],ji 29 .eql 28 .i64 0,jm 30 29,jg (jf 31 3 3) 30 true,jg (jl 32 1 31) 30 true,jg (jf 33 3 4) 30 true,jg (jl 34 1 33) 30 true,jg (js 35 (.eqb false (.t 32) (.t 34))) 30 true,jp 36 30 35,jm 25 36] [2,3,6,7,25]
(jC 25
(jq [jL 37 3 7,jf 38 3 3,jl 39 1 38,js 40 (.build [(.bool false),.nil,(.int .i64 0),(.bool false)] [(0,3,(.t 37)),(3,1,(.t 39))]),jw 4 6 40] [6]
.ret)
.skip)))))
(jq [jL 41 3 7,jm 42 2,ji 43 .eql 42 .u8 5,js 44 (.build [(.bool false),.nil,(.int .i64 0),(.bool false)] [(0,3,(.t 41)),(3,1,(.t 43))]),jw 4 6 44] [6]
.ret))))⟩
def Zhm : IFn:=⟨[.cell 4 true 4],
(jq [js 4 (.alloc [(.bool false),.nil,(.int .i64 0),(.bool false)])] [0,1,4]
(jq [jm 10 0,jm 11 1,jc 12 194 [10,11],jm 9 12,je 13 9 0,je 14 9 1,js 5 (.alloc [(.bool false),.nil,(.int .i64 0)]),jw 3 5 13,jm 6 14] [0,1,4,5]
(jq [jm 16 0,jm 17 1,jc 18 192 [16,17],jm 15 18,je 19 15 0,je 20 15 1,js 7 (.alloc [(.bool false),(.int .i64 0),(.int .u64 0)]),jw 3 7 19,jm 8 20] [4,5,7]
(jq [jL 21 3 5,jf 22 0 7,jl 23 1 22,js 24 (.build [(.bool false),.nil,(.int .i64 0),(.bool false)] [(0,3,(.t 21)),(3,1,(.t 23))]),jw 4 4 24] [4]
.ret))))⟩
def Zfn : IFn:=⟨[.cell 4 true 4],
(jq [js 4 (.alloc [(.int .u64 0),(.int .u64 0),(.int .u8 0),(.int .u8 0)])] [0,1,4]
(jq [jm 5 0,jc 6 157 [5],jm 7 0,jc 8 157 [7],js 9 (.build [(.int .u64 0),(.int .u64 0)] [(0,1,(.t 6)),(1,1,(.t 8))]),jm 10 1,jm 11 1,js 12 (.build [(.int .u64 0),(.int .u64 0),(.int .u8 0),(.int .u8 0)] [(0,2,(.t 9)),(2,1,(.t 10)),(3,1,(.t 11))]),jw 4 4 12] [4]
.ret))⟩
def Zbw : IC :=
(.seq (jq [jm 14 8,ji 15 .lss 14 .i64 2] [0,2,6,7,8,15]
(jC 15
.skip
(.exit 0)))
(.seq (.block 1
(jq [jm 18 0,jm 19 7,jm 20 8,ja 21 1 19 20,jl 22 1 21,jc 23 155 [18,22],ji 24 .neq 23 .u8 1] [0,2,6,7,8,24]
(jC 24
(jr [jm 25 7,jm 26 8,jm 27 0,jm 28 2,jm 29 0,jm 30 7,jm 31 8,ja 32 1 30 31,jl 33 1 32,jc 34 156 [29,33],js 35 (.field false 0 1 (.t 34)),jc 36 38 [27,28,35],ja 37 1 25 26,jw 1 37 36] [0,2,6,7,8])
.skip)))
(jr [jm 16 8,ji 17 .add 16 .i64 1,jm 8 17] [0,2,6,7,8])))
def ZfW : IC:=.loop [0,2,6,7,8] Zbw
def ZbX : IFn:=⟨[.cell 6 true 2],
(jq [jx 4 2 1,js 6 (.alloc [(.int .u64 0),(.int .u64 0)])] [0,2,4,6]
(jq [jf 9 0 4,jl 10 1 9,jf 11 1 4,jl 12 1 11,js 13 (.bslice 2 1 [(.int .u64 0)] [(0,1,(.t 10)),(1,1,(.t 12))]),jm 7 13] [0,2,6,7]
(.seq (jq [jk 8 .i64 0] [0,2,6,7,8]
(.block 0
 ZfW))
(jq [jm 38 7,js 39 (.iaddr 1 (.t 38) (.c (.int .i64 0))),jl 40 1 39,jm 41 7,js 42 (.iaddr 1 (.t 41) (.c (.int .i64 1))),jl 43 1 42,js 44 (.build [(.int .u64 0),(.int .u64 0)] [(0,1,(.t 40)),(1,1,(.t 43))]),jw 2 6 44] [6]
.ret))))⟩
def Zfo : IFn:=⟨[.cell 8 true 2],
(jq [jx 6 2 2,jx 7 2 3,js 8 (.alloc [(.int .u64 0),(.int .u64 0)])] [0,1,6,7,8]
(jq [jm 22 0,jm 23 1,jf 24 0 6,jl 25 1 24,jf 26 0 7,jl 27 1 26,jc 28 222 [22,23,25,27],jm 21 28,je 29 21 0,je 30 21 1,jm 9 29,jm 10 30] [0,1,6,7,8,9]
(jq [jm 32 0,jm 33 1,jf 34 1 6,jl 35 1 34,jf 36 1 7,jl 37 1 36,jc 38 222 [32,33,35,37],jm 31 38,je 39 31 0,je 40 31 1,jm 11 39,jm 12 40] [0,1,6,7,8,9,11]
(jq [jm 42 0,jm 43 1,jf 44 0 6,jl 45 1 44,jf 46 1 7,jl 47 1 46,jc 48 222 [42,43,45,47],jm 41 48,je 49 41 0,je 50 41 1,jm 13 49,jm 14 50] [0,1,6,7,8,9,11,13]
(jq [jm 52 0,jm 53 1,jf 54 1 6,jl 55 1 54,jf 56 0 7,jl 57 1 56,jc 58 222 [52,53,55,57],jm 51 58,je 59 51 0,je 60 51 1,jm 15 59,jm 16 60] [0,1,8,9,11,13,15]
(jq [jm 62 0,jm 63 1,jm 64 9,jm 65 11,jc 66 220 [62,63,64,65],jm 61 66,je 67 61 0,je 68 61 1,jm 17 67,jm 18 68] [0,1,8,13,15,17]
(jq [jm 70 0,jm 71 1,jm 72 13,jm 73 15,jc 74 219 [70,71,72,73],jm 69 74,je 75 69 0,je 76 69 1,jm 19 75,jm 20 76] [8,17,19]
(jq [jm 77 17,jm 78 19,js 79 (.build [(.int .u64 0),(.int .u64 0)] [(0,1,(.t 77)),(1,1,(.t 78))]),jw 2 8 79] [8]
.ret))))))))⟩
def Zij : IFn:=⟨[.cell 4 true 2],
(jq [jx 3 2 1,js 4 (.alloc [(.int .u64 0),(.int .u64 0)])] [0,3,4]
(.seq (jq [jm 5 0,jL 6 2 3,jc 7 237 [5,6],ji 8 .eql 7 .u8 3] [0,3,4,8]
(jC 8
(jq [jm 9 0,jf 10 0 3,jl 11 1 10,jm 12 0,jf 13 0 3,jl 14 1 13,jc 15 155 [12,14],ji 16 .eql 15 .u8 4,jc 17 311 [9,11,16],jm 18 0,jf 19 1 3,jl 20 1 19,jm 21 0,jf 22 1 3,jl 23 1 22,jc 24 155 [21,23],ji 25 .eql 24 .u8 4,jc 26 311 [18,20,25],js 27 (.build [(.int .u64 0),(.int .u64 0)] [(0,1,(.t 17)),(1,1,(.t 26))]),jw 2 4 27] [4]
.ret)
.skip))
(jq [jm 28 0,jf 29 0 3,jl 30 1 29,jm 31 0,jf 32 0 3,jl 33 1 32,jc 34 155 [31,33],ji 35 .neq 34 .u8 1,jc 36 311 [28,30,35],jm 37 0,jf 38 1 3,jl 39 1 38,jm 40 0,jf 41 1 3,jl 42 1 41,jc 43 155 [40,42],ji 44 .neq 43 .u8 1,jc 45 311 [37,39,44],js 46 (.build [(.int .u64 0),(.int .u64 0)] [(0,1,(.t 36)),(1,1,(.t 45))]),jw 2 4 46] [4]
.ret)))⟩
def Zfq : IFn:=⟨[.cell 8 true 4],
(jq [js 8 (.alloc [(.bool false),.nil,(.int .i64 0),(.bool false)])] [0,1,2,3,8]
(jq [jm 10 0,jm 11 1,jc 12 151 [10,11],jm 13 0,jm 14 2,jc 15 151 [13,14],jc 16 154 [12,15],js 9 (.alloc [(.bool false),.nil,(.int .i64 0)]),jw 3 9 16] [0,1,2,3,8,9]
(.seq (jq [jm 17 3] [0,1,2,3,8,9,17]
(jC 17
(jr [jL 18 3 9,jc 19 102 [18],jw 3 9 19] [0,1,2,3,8,9])
.skip))
(jq [jL 20 3 9,jm 21 0,jm 22 1,jc 23 306 [21,22],jm 24 0,jm 25 2,jc 26 306 [24,25],js 27 (.eqb true (.t 23) (.t 26)),jm 28 3,js 29 (.eqb true (.t 27) (.t 28)),js 30 (.build [(.bool false),.nil,(.int .i64 0),(.bool false)] [(0,3,(.t 20)),(3,1,(.t 29))]),jw 4 8 30] [8]
.ret))))⟩
def Zce : IFn:=⟨[.cell 2 true 2],
(jq [jx 1 2 0,js 2 (.alloc [(.int .i64 0),(.bool false)])] [1,2]
(jq [jf 3 0 1,jl 4 1 3,js 5 (.un .neg (.t 4)),jf 6 1 1,jl 7 1 6,js 8 (.un .not (.t 7)),js 9 (.build [(.int .i64 0),(.bool false)] [(0,1,(.t 5)),(1,1,(.t 8))]),jw 2 2 9] [2]
.ret))⟩
def Zik : IFn:=⟨[.tmp 4],
(jq [jk 4 .u64 0] [0,1]
(jq [jm 5 0,jm 6 1,jm 7 0,jc 8 63 [7],ji 9 .quo 8 .i64 2,js 10 (.build [(.bool false),(.int .i64 0),(.int .u64 0)] [(0,1,(.t 6)),(1,1,(.t 9))]),jc 11 62 [5,10],jm 4 11] [4]
.ret))⟩
def ZfT : IFn:=⟨[.tmp 4],
(jq [jx 3 2 1,jk 4 .i64 0] [0,3]
(.seq (jq [jm 6 0,jf 7 0 3,jl 8 1 7,jc 9 312 [6,8],jm 5 9] [0,3,5]
(jq [jm 10 5,ji 11 .neq 10 .i64 0] [0,3,5,11]
(jC 11
(jq [jm 12 5,jm 4 12] [4]
.ret)
.skip)))
(jq [jm 13 0,jf 14 1 3,jl 15 1 14,jc 16 312 [13,15],jm 4 16] [4]
.ret)))⟩
def ZkQ : IFn:=⟨[.tmp 4],
(jq [jv 4 false] [0,1]
(jq [jm 5 0,jm 6 1,jc 7 156 [5,6],js 8 (.field false 0 1 (.t 7)),jm 4 8] [4]
.ret))⟩
def ZaS : IFn:=⟨[.cell 6 true 2],
(jq [js 6 (.alloc [(.int .i64 0),(.bool false)])] [0,1,2,6]
(jq [jm 13 0,jm 14 1,jc 15 193 [13,14],jm 12 15,je 16 12 0,je 17 12 1,jm 7 16,jm 8 17] [0,1,2,6,7]
(jq [jm 19 0,jm 20 1,jc 21 192 [19,20],jm 18 21,je 22 18 0,je 23 18 1,js 9 (.alloc [(.bool false),(.int .i64 0),(.int .u64 0)]),jw 3 9 22,jm 10 23] [2,6,7,9]
(jq [jm 24 7,ji 25 .neq 24 .u8 1,jm 11 25] [2,6,7,9,11]
(.seq (jq [jm 26 2] [6,7,9,11,26]
(jC 26
(jr [jm 27 7,ji 28 .eql 27 .u8 4,jm 11 28] [6,7,9,11])
.skip))
(.seq (jq [jm 29 7,ji 30 .eql 29 .u8 5] [6,9,11,30]
(jC 30
(jq [js 31 (.build [(.int .i64 0),(.bool false)] []),jw 2 6 31] [6]
.ret)
.skip))
(.seq (jq [jm 32 11,js 33 (.un .not (.t 32))] [6,9,33]
(jC 33
(jq [jf 34 0 9,jl 35 1 34,js 36 (.build [(.int .i64 0),(.bool false)] [(0,1,(.c (.int .i64 0))),(1,1,(.t 35))]),jw 2 6 36] [6]
.ret)
.skip))
(.seq (jq [jf 37 0 9,jl 38 1 37] [6,38]
(jC 38
(jq [js 39 (.build [(.int .i64 0),(.bool false)] [(0,1,(.c (.int .i64 (-1)))),(1,1,(.c (.bool true)))]),jw 2 6 39] [6]
.ret)
.skip))
(jq [js 40 (.build [(.int .i64 0),(.bool false)] [(0,1,(.c (.int .i64 1))),(1,1,(.c (.bool false)))]),jw 2 6 40] [6]
.ret)))))))))⟩
def Zcf : IFn:=⟨[.cell 4 true 2],
(jq [jx 2 2 0,jx 3 2 1,js 4 (.alloc [(.int .i64 0),(.bool false)])] [2,3,4]
(jq [jf 5 0 2,jl 6 1 5,jf 7 0 3,jl 8 1 7,jb 9 .mul 6 8,jf 10 1 2,jl 11 1 10,jf 12 1 3,jl 13 1 12,js 14 (.eqb true (.t 11) (.t 13)),js 15 (.build [(.int .i64 0),(.bool false)] [(0,1,(.t 9)),(1,1,(.t 14))]),jw 2 4 15] [4]
.ret))⟩
def ZaI : IFn:=⟨[.cell 6 true 2],
(jq [jx 3 2 0,jx 4 2 1,js 6 (.alloc [(.int .i64 0),(.bool false)])] [2,3,4,6]
(jq [jf 8 0 3,jl 9 1 8,jf 10 0 4,jl 11 1 10,jb 12 .add 9 11,jm 7 12] [2,3,4,6,7]
(.seq (.block 0
(jq [jm 14 7,ji 15 .neq 14 .i64 0,jm 13 15] [2,3,4,6,7,13]
(jC 13
(jq [jm 16 7,jm 17 7,ji 18 .lss 17 .i64 0,js 19 (.build [(.int .i64 0),(.bool false)] [(0,1,(.t 16)),(1,1,(.t 18))]),jw 2 6 19] [6]
.ret)
(jq [jf 21 0 3,jl 22 1 21,ji 23 .eql 22 .i64 0,jm 24 23,jg (jf 25 1 3) 24 true,jg (jl 26 1 25) 24 true,jg (jf 27 1 4) 24 true,jg (jl 28 1 27) 24 true,jg (js 29 (.eqb false (.t 26) (.t 28))) 24 true,jp 30 24 29,jm 20 30] [2,3,6,20]
(jC 20
(jq [jL 31 2 3,jw 2 6 31] [6]
.ret)
.skip)))))
(jq [jm 32 2,ji 33 .eql 32 .u8 5,js 34 (.build [(.int .i64 0),(.bool false)] [(0,1,(.c (.int .i64 0))),(1,1,(.t 33))]),jw 2 6 34] [6]
.ret))))⟩
def ZjR : IFn:=⟨[.tmp 4,.tmp 5],
(jq [jx 3 1 1,jk 4 .u64 0,jk 5 .i64 0] [0,3]
(jq [jm 6 0,jl 7 1 3,js 8 (.mkfn 315 [(.t 3)]),js 9 (.call true (.f 313) [(.t 6),(.t 7),(.t 8)]),je 10 9 0,je 11 9 1,jm 4 10,jm 5 11] [4,5]
.ret))⟩
def Zew : IFn:=⟨[.tmp 6],
(jq [jk 6 .u64 0] [0,1,2]
(jq [jm 8 0,jm 9 1,jc 10 155 [8,9],ji 11 .neq 10 .u8 5,jm 12 11,jg (jm 13 0) 12 true,jg (jm 14 1) 12 true,jg (jc 15 156 [13,14]) 12 true,jg (js 16 (.field false 0 1 (.t 15))) 12 true,jp 17 12 16,jm 7 17] [0,2,7]
(.seq (jq [jm 18 2] [0,7,18]
(jC 18
(jq [jm 19 0,jm 20 7,jc 21 303 [19,20],jm 6 21] [6]
.ret)
.skip))
(jq [jm 22 0,jm 23 7,js 24 (.call false (.f 38) [(.t 22),(.c (.int .u64 0)),(.t 23)]),jm 6 24] [6]
.ret))))⟩
def ZkU : IFn:=⟨[.tmp 4],
(jq [jk 4 .i64 0] [0,1]
(jq [jm 8 0,jm 9 1,js 10 (.bslice 1 1 [(.int .u64 0)] [(0,1,(.t 9))]),jc 11 95 [8,10],jm 7 11,je 12 7 0,je 13 7 1,js 5 (.alloc [(.int .i64 0),(.int .i64 0),(.int .u64 0)]),jw 3 5 12,jm 6 13] [6]
(jq [jm 14 6,jm 4 14] [4]
.ret)))⟩
def ZfA : IFn:=⟨[.tmp 6,.tmp 7],
(jq [jk 6 .u64 0,jk 7 .i64 0] [0,1,2]
(jq [jm 11 0,jm 12 1,js 13 (.bslice 1 1 [(.int .u64 0)] [(0,1,(.t 12))]),jc 14 95 [11,13],jm 10 14,je 15 10 0,je 16 10 1,js 8 (.alloc [(.int .i64 0),(.int .i64 0),(.int .u64 0)]),jw 3 8 15,jm 9 16] [1,2,8,9]
(.seq (jq [jm 17 9,ji 18 .neq 17 .i64 0] [1,2,8,9,18]
(jC 18
(jq [jm 19 9,jk 6 .u64 0,jm 7 19] [6,7]
.ret)
.skip))
(.seq (jq [jL 20 3 8,jm 21 1,jc 22 201 [20,21],ji 23 .eql 22 .u8 5] [2,8,23]
(jC 23
(jq [jL 24 3 8,jc 25 204 [24],jm 6 25,jk 7 .i64 0] [6,7]
.ret)
.skip))
(jq [jm 26 2,jL 27 3 8,js 28 (.call true (.t 26) [(.t 27)]),jm 6 28,jk 7 .i64 0] [6,7]
.ret)))))⟩
def Zja : IFn:=⟨[.tmp 3],
(jq [jx 2 3 0,jk 3 .u64 0] [1,2]
(jq [jl 4 1 1,jf 5 2 2,jl 6 1 5,jb 7 .xor 4 6,jm 3 7] [3]
.ret))⟩
structure HasJ (gdb : Nat) (T : Tbl) : Prop where
 ZaC : T 250 = some ZcN
 Zrb : T 251 = some ZkO
 Zqv : T 252 = some ZhX
 Zrd : T 256 = some Zim
 Zqu : T 257 = some ZhW
 Zrc : T 258 = some Zil
 Zqt : T 262 = some Zkr
 Zqw : T 263 = some Zks
 Zre : T 264 = some ZkP
 Znz : T 268 = some ZaG
 ZfD : T 269 = some ZdA
 Zep : T 270 = some ZcW
 ZdL : T 271 = some ZeT
 ZpB : T 272 = some ZjJ
 Zra : T 273 = some ZcC
 Zlh : T 274 = some Zfp
 ref12_Sum : T 275 = some Zex
 ZdR : T 276 = some Zdp
 Zny : T 277 = some Zas
 Zbd : T 278 = some Zdz
 ZfC : T 279 = some Zdy
 ZqZ : T 280 = some ZbB
 ZjD : T 281 = some Zej
 exact_parts : T 285 = some Zhn
 exact_open : T 286 = some ZeD
 special_open : T 289 = some Zgv
 ZeP : T 290 = some Zgu
 ZdS : T 291 = some Zfx
 ZdT : T 292 = some ZcE
 Zcq : T 293 = some ZcF
 ZfE : T 294 = some Zci
 Zgw : T 295 = some Zbk
 ZkZ : T 296 = some Zhm
 ZdQ : T 297 = some Zfn
 Zjk : T 298 = some ZbX
 ZhF : T 299 = some Zfo
 Zkf : T 300 = some Zij
 Zca : T 301 = some Zfq
 Zdb : T 302 = some Zce
 Zom : T 303 = some Zik
 Zob : T 304 = some ZfT
 Zon : T 306 = some ZkQ
 ZgC : T 307 = some ZaS
 Zbj : T 308 = some Zcf
 ZdU : T 309 = some ZaI
 ZpU : T 310 = some ZjR
 Zkg : T 311 = some Zew
 ZoE : T 312 = some ZkU
 word_turned : T 313 = some ZfA
 word_Neg_1 : T 315 = some Zja
end Go.Cv
