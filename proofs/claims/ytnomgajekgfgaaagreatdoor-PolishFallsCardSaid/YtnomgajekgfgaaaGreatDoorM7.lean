/-
 A part of the proof of the statements of this seat (texts that the law's own text leans on): no condition.
-/
import Derived.Test.YtnomgajekgfgaaaGreatDoorM5
import Derived.Test.YtnomgajekgfgaaaGreatDoorM6
set_option linter.unusedVariables false
set_option linter.unusedSimpArgs false
namespace Go.Cv
def Zby : IC :=
(.seq (jq [jm 85 15,jm 86 9,jn 87 86,jb 88 .lss 85 87] [0,1,3,9,10,12,13,15,88]
(jC 88
.skip
(.exit 0)))
(.seq (.block 1
(jq [jm 91 0,jm 92 9,jm 93 15,ja 94 2 92 93,jL 95 2 94,jc 96 250 [91,95],js 97 (.un .not (.t 96)),jm 98 97,jg (jm 99 0) 98 false,jg (jm 100 0) 98 false,jg (jm 101 1) 98 false,jg (jm 102 9) 98 false,jg (jm 103 15) 98 false,jg (ja 104 2 102 103) 98 false,jg (jL 105 2 104) 98 false,jg (jc 106 346 [100,101,105]) 98 false,jg (js 107 (.field true 0 2 (.t 106))) 98 false,jg (jm 108 0) 98 false,jg (jm 109 1) 98 false,jg (jm 110 9) 98 false,jg (jm 111 15) 98 false,jg (ji 112 .sub 111 .i64 1) 98 false,jg (ja 113 2 110 112) 98 false,jg (jL 114 2 113) 98 false,jg (jc 115 346 [108,109,114]) 98 false,jg (js 116 (.field true 0 2 (.t 115))) 98 false,jg (jc 117 229 [99,107,116]) 98 false,jg (ji 118 .neq 117 .u8 1) 98 false,jP 119 98 118] [0,1,3,9,10,12,13,15,119]
(jC 119
(jq [jv 8 false] [8]
.ret)
.skip)))
(jr [jm 89 15,ji 90 .add 89 .i64 1,jm 15 90] [0,1,3,9,10,12,13,15])))
def Zbz : IC:=.loop [0,1,3,9,10,12,13,15] Zby
def Zag : IFn:=⟨[.tmp 8],
(jq [jx 6 2 2,jv 8 false] [0,1,3,6]
(.seq (jq [jm 18 0,jm 19 1,jL 20 2 6,jm 21 3,jc 22 355 [18,19,20,21],ji 23 .neq 22 .i64 0] [0,1,3,6,23]
(jC 23
(jq [jc 24 357 [],jm 8 24] [8]
.ret)
.skip))
(jq [jm 26 0,jm 27 1,jL 28 2 6,jm 29 3,jc 30 354 [26,27,28,29],jm 25 30,je 31 25 0,je 32 25 1,je 33 25 2,jm 9 31,jm 10 32,jm 11 33] [0,1,3,6,9,10,11]
(jq [jm 35 0,jm 36 1,jL 37 2 6,jm 38 3,ji 39 .quo 38 .i64 2,jc 40 354 [35,36,37,39],jm 34 40,je 41 34 0,je 42 34 1,je 43 34 2,jm 12 41,jm 13 42,jm 14 43] [0,1,3,6,9,10,11,12,13,14]
(.seq (jq [jm 44 11,ji 45 .neq 44 .i64 0,jm 46 45,jg (jm 47 14) 46 false,jg (ji 48 .neq 47 .i64 0) 46 false,jP 49 46 48,jm 50 49,jg (jm 51 9) 50 false,jg (jn 52 51) 50 false,jg (ji 53 .eql 52 .i64 0) 50 false,jP 54 50 53,jm 55 54,jg (jm 56 9) 55 false,jg (js 57 (.iaddr 2 (.t 56) (.c (.int .i64 0)))) 55 false,jg (jL 58 2 57) 55 false,jg (jL 59 2 6) 55 false,jg (js 60 (.eqs true [false,false] (.t 58) (.t 59))) 55 false,jP 61 55 60,jm 62 61,jg (jm 63 9) 62 false,jg (jn 64 63) 62 false,jg (jm 65 3) 62 false,jg (ji 66 .add 65 .i64 1) 62 false,jg (jb 67 .gtr 64 66) 62 false,jP 68 62 67,jm 69 68,jg (jm 70 12) 69 false,jg (jn 71 70) 69 false,jg (jm 72 9) 69 false,jg (jn 73 72) 69 false,jg (jb 74 .gtr 71 73) 69 false,jP 75 69 74,jm 76 75,jg (jm 77 12) 76 false,jg (jm 78 9) 76 false,jg (jm 79 12) 76 false,jg (jn 80 79) 76 false,jg (js 81 (.slice 2 (.t 78) none (some (.t 80)))) 76 false,jg (jc 82 356 [77,81]) 76 false,jg (js 83 (.un .not (.t 82))) 76 false,jP 84 76 83] [0,1,3,9,10,12,13,84]
(jC 84
(jq [jv 8 false] [8]
.ret)
.skip))
(.seq (jq [jk 15 .i64 1] [0,1,3,9,10,12,13,15]
(.block 0
 Zbz))
(jq [jm 120 0,jm 121 1,jm 122 9,jm 123 9,jn 124 123,ji 125 .sub 124 .i64 1,ja 126 2 122 125,jL 127 2 126,jc 128 346 [120,121,127],js 16 (.alloc [(.int .u64 0),(.int .u64 0),(.int .u64 0)]),jw 3 16 128] [0,3,9,10,12,13,16]
(jq [jm 129 0,jf 130 0 16,jL 131 2 130,jc 132 250 [129,131],jm 133 132,jg (jm 134 0) 133 true,jg (jL 135 3 16) 133 true,jg (jc 136 359 [134,135]) 133 true,jp 137 133 136,jm 17 137] [3,9,10,12,13,17]
(.seq (jq [jm 138 10,ji 139 .eql 138 .i64 4,jm 140 139,jg (jm 141 9) 140 true,jg (jn 142 141) 140 true,jg (jm 143 3) 140 true,jg (ji 144 .add 143 .i64 1) 140 true,jg (jb 145 .neq 142 144) 140 true,jp 146 140 145,jm 147 146,jg (jm 148 10) 147 false,jg (ji 149 .eql 148 .i64 1) 147 false,jg (jm 150 17) 147 false,jg (js 151 (.eqb true (.t 149) (.t 150))) 147 false,jP 152 147 151,jm 153 152,jg (jm 154 13) 153 false,jg (ji 155 .neq 154 .i64 4) 153 false,jg (jm 156 155) 153 false,jg (jm 157 13) 156 true,jg (jm 158 10) 156 true,jg (jb 159 .neq 157 158) 156 true,jg (jm 160 159) 156 true,jg (jm 161 12) 160 false,jg (jn 162 161) 160 false,jg (jm 163 9) 160 false,jg (jn 164 163) 160 false,jg (jb 165 .neq 162 164) 160 false,jg (jP 166 160 165) 156 true,jg (jp 167 156 166) 153 false,jP 168 153 167] [10,168]
(jC 168
(jq [jv 8 false] [8]
.ret)
.skip))
(jq [jm 169 10,ji 170 .geq 169 .i64 1,jm 171 170,jg (jm 172 10) 171 true,jg (ji 173 .leq 172 .i64 4) 171 true,jp 174 171 173,jm 175 174,jg (jc 176 357 []) 175 true,jp 177 175 176,jm 8 177] [8]
.ret))))))))))⟩
def ZeE : IC :=
(jq [js 16 (.alloc [(.int .u64 0),(.int .u64 0)]),jw 2 16 64] [8,9,16,65]
(jr [jm 17 65] [8,9,16,17]))
def ZeF : IC :=
(.block 3
(jr [jl 66 1 8,jL 67 2 16,js 68 (.bslice 1 2 [(.int .u64 0),(.int .u64 0)] [(0,2,(.t 67))]),js 69 (.app 2 16 (.t 66) (.t 68)),jm 70 17,jw 1 8 69,jw 1 9 70] []))
def ZaX : IC :=
(jq [jb 48 .lss 47 46] [3,6,8,9,13,45,46,47,48]
(.seq (jC 48
.skip
(.exit 0))
(.seq (.block 1
(jq [ja 49 2 45 47,jL 50 2 49,js 15 (.alloc [(.int .u64 0),(.int .u64 0)]),jw 2 15 50] [3,6,8,9,13,15,45,46,47]
(jr [jf 51 3 13,jl 52 1 51,jm 53 52,jg (jL 54 4 13) 53 true,jg (jL 55 2 15) 53 true,jg (jc 56 384 [54,55]) 53 true,jp 57 53 56,jf 58 3 13,jw 1 58 57] [3,6,8,9,13,45,46,47])))
(jr [ji 59 .add 47 .i64 1,jm 47 59] [3,6,8,9,13,45,46,47]))))
def ZaY : IC:=.loop [3,6,8,9,13,45,46,47] ZaX
def Zca : IFn:=⟨[.cell 8 false 1,.cell 9 false 1,.tmp 10],
(jq [jx 6 2 2,js 8 (.alloc [.nil]),js 9 (.alloc [(.int .i64 0)]),jk 10 .i64 0] [0,1,3,6,8,9]
(.seq (jq [jm 19 0,jm 20 1,jL 21 2 6,jc 22 342 [19,20,21],jm 18 22,je 23 18 0,je 24 18 1,js 11 (.alloc [(.int .u64 0),(.int .u64 0),(.int .u64 0)]),jw 3 11 23,jm 12 24] [0,1,3,6,8,9,12]
(jq [jm 25 12,ji 26 .neq 25 .i64 0] [0,1,3,6,8,9,12,26]
(jC 26
(jq [jm 27 12,⟨none,.store 1 (.t 8) (.c .nil),none⟩,⟨none,.store 1 (.t 9) (.c (.int .i64 0)),none⟩,jm 10 27] [8,9,10]
.ret)
.skip)))
(.seq (jq [jm 28 3,ji 29 .lss 28 .i64 0,jm 30 29,jg (jm 31 3) 30 false,jg (ji 32 .gtr 31 .i64 100) 30 false,jP 33 30 32] [0,1,3,6,8,9,33]
(jC 33
(jq [⟨none,.store 1 (.t 8) (.c .nil),none⟩,⟨none,.store 1 (.t 9) (.c (.int .i64 0)),none⟩,jk 10 .i64 2] [8,9,10]
.ret)
.skip))
(jq [jm 34 0,jm 35 1,js 36 (.build [(.int .u8 0),.nil,.nil,(.bool false)] [(0,1,(.t 34)),(1,1,(.t 35)),(3,1,(.c (.bool true)))]),js 13 (.alloc [(.int .u8 0),.nil,.nil,(.bool false)]),jw 4 13 36] [0,1,3,6,8,9,13]
(jq [jm 38 0,jm 39 1,js 40 (.call true (.f 351) [(.t 38),(.t 39)]),jm 37 40,je 41 37 0,je 42 37 1,jf 43 2 13,jw 1 43 41] [3,6,8,9,13]
(.seq (jq [jf 44 2 13,jl 45 1 44,jn 46 45,jk 47 .i64 0] [3,6,8,9,13,45,46,47]
(.block 0
 ZaY))
(.seq (jq [jL 60 4 13,jL 61 2 6,jm 62 3,js 63 (.call true (.f 385) [(.t 60),(.t 61),(.t 62)])] [8,9,63]
(.block 2
(.rangeF (.t 63) [64,65] ZeE ZeF)))
(.seq (.reg [jl 71 1 8,jl 72 1 9,jw 1 8 71,jw 1 9 72,jk 10 .i64 0] [8,9,10] [(1,2)])
.ret))))))))⟩
def Zcp : IFn:=⟨[.tmp 8],
(jq [jx 6 2 2,jk 8 .i64 0] [0,1,3,6]
(.seq (jq [jm 10 0,jm 11 1,jL 12 2 6,jc 13 344 [10,11,12],jm 9 13] [3,9]
(jq [jm 14 9,ji 15 .neq 14 .i64 0] [3,9,15]
(jC 15
(jq [jm 16 9,jm 8 16] [8]
.ret)
.skip)))
(.seq (jq [jm 17 3,ji 18 .lss 17 .i64 0,jm 19 18,jg (jm 20 3) 19 false,jg (ji 21 .gtr 20 .i64 100) 19 false,jP 22 19 21] [22]
(jC 22
(jq [jk 8 .i64 2] [8]
.ret)
.skip))
(jq [jk 8 .i64 0] [8]
.ret))))⟩
def ZeB : IC :=
(.seq (jq [jm 11 5,jm 12 0,jn 13 12,jb 14 .lss 11 13] [0,1,5,14]
(jC 14
.skip
(.exit 0)))
(.seq (.block 1
(jq [jm 17 0,jm 18 5,ja 19 2 17 18,jL 20 2 19,jm 21 1,jm 22 5,ja 23 2 21 22,jL 24 2 23,js 25 (.eqs true [false,false] (.t 20) (.t 24))] [0,1,5,25]
(jC 25
(jq [jv 4 false] [4]
.ret)
.skip)))
(jr [jm 15 5,ji 16 .add 15 .i64 1,jm 5 16] [0,1,5])))
def ZeC : IC:=.loop [0,1,5] ZeB
def Zih : IFn:=⟨[.tmp 4],
(jq [jv 4 false] [0,1]
(.seq (jq [jm 6 0,jn 7 6,jm 8 1,jn 9 8,jb 10 .neq 7 9] [0,1,10]
(jC 10
(jq [jv 4 false] [4]
.ret)
.skip))
(.seq (jq [jk 5 .i64 0] [0,1,5]
(.block 0
 ZeC))
(jq [jv 4 true] [4]
.ret))))⟩
def ZgT : IFn:=⟨[.tmp 0],
(jq [jv 0 false] []
(jq [jc 5 386 [],js 6 (.build [(.int .u64 0),(.int .u64 0)] [(0,1,(.c (.int .u64 4607182418800017408)))]),js 7 (.call false (.f 354) [(.c (.int .u8 2)),(.t 5),(.t 6),(.c (.int .i64 1))]),jm 4 7,je 8 4 0,je 9 4 1,je 10 4 2,jm 1 8,jm 2 9,jm 3 10] [1,2,3]
(jq [jm 11 1,jn 12 11,ji 13 .eql 12 .i64 2,jm 14 13,jg (jm 15 1) 14 true,jg (js 16 (.iaddr 2 (.t 15) (.c (.int .i64 1)))) 14 true,jg (jL 17 2 16) 14 true,jg (js 18 (.build [(.int .u64 0),(.int .u64 0)] [(0,1,(.c (.int .u64 4612811918334230528)))])) 14 true,jg (js 19 (.eqs false [false,false] (.t 17) (.t 18))) 14 true,jp 20 14 19,jm 21 20,jg (jm 22 2) 21 true,jg (ji 23 .eql 22 .i64 4) 21 true,jp 24 21 23,jm 25 24,jg (jm 26 3) 25 true,jg (ji 27 .eql 26 .i64 0) 25 true,jp 28 25 27,jm 0 28] [0]
.ret)))⟩
def ZdN : IFn:=⟨[.tmp 4],
(jq [jx 3 3 1,jv 4 false] [0,3]
(jq [jm 6 0,jf 7 0 3,jL 8 2 7,jf 9 2 3,jl 10 1 9,js 11 (.build [(.int .u64 0),(.int .u64 0)] [(0,1,(.t 10))]),jc 12 229 [6,8,11],jm 5 12] [5]
(jq [jm 13 5,ji 14 .eql 13 .u8 1,jm 15 14,jg (jm 16 5) 15 false,jg (ji 17 .eql 16 .u8 2) 15 false,jP 18 15 17,jm 4 18] [4]
.ret)))⟩
def ZbS : IFn:=⟨[.tmp 4],
(jq [jx 2 4 0,jx 3 2 1,jv 4 false] [2,3]
(jq [jf 8 0 2,jl 9 1 8,jL 10 2 3,jc 11 189 [9,10],jm 7 11,je 12 7 0,je 13 7 1,jm 5 12,jm 6 13] [5]
(jq [jm 14 5,ji 15 .leq 14 .u8 2,jm 4 15] [4]
.ret)))⟩
def ZcP : IFn:=⟨[.tmp 6],
(jq [jx 3 4 0,jx 4 2 1,jx 5 1 2,js 6 (.mov (.c .nf))] [3,4,5]
(jq [js 7 (.mkfn 395 [(.t 3),(.t 4),(.t 5)]),jm 6 7] [6]
.ret))⟩
def Zig : IFn:=⟨[.tmp 0],
(jq [js 0 (.mov (.c .nil))] []
(jq [js 1 (.build [(.int .u64 0),(.int .u64 0)] [(0,1,(.c (.int .u64 13839561654909534208)))]),js 2 (.build [(.int .u64 0),(.int .u64 0)] []),js 3 (.build [(.int .u64 0),(.int .u64 0)] [(0,1,(.c (.int .u64 4607182418800017408)))]),js 4 (.bslice 3 2 [(.int .u64 0),(.int .u64 0)] [(0,2,(.t 1)),(2,2,(.t 2)),(4,2,(.t 3))]),jm 0 4] [0]
.ret))⟩
def ZaH : IC :=
(.seq (.block 1
(jq [jL 11 4 1,jL 12 2 2,jm 13 5,jl 14 1 3,jb 15 .eql 13 14,jc 16 396 [11,12,15],jm 10 16,je 17 10 0,je 18 10 1,js 6 (.alloc [(.int .u64 0),(.int .u64 0)]),jw 2 6 17,jm 7 18] [0,1,2,3,5,6,7]
(.seq (jq [jm 19 0,jL 20 2 2,jm 21 7,js 22 (.call true (.t 19) [(.t 20),(.t 21)]),js 23 (.un .not (.t 22)),jm 24 23,jg (jm 25 7) 24 false,jg (ji 26 .neq 25 .i64 0) 24 false,jP 27 24 26] [0,1,2,3,5,6,27]
(jC 27
.ret
.skip))
(jr [jL 28 2 6,jw 2 2 28] [0,1,2,3,5]))))
(jr [jm 8 5,ji 9 .add 8 .i64 1,jm 5 9] [0,1,2,3,5]))
def Zbk : IC:=.loop [0,1,2,3,5] ZaH
def ZbT : IFn:=⟨[],
(jq [jk 5 .i64 0] [0,1,2,3,5]
(.block 0
 Zbk))⟩
def Zbd : IFn:=⟨[.cell 6 true 2,.tmp 7],
(jq [jx 3 4 0,jx 4 2 1,js 6 (.alloc [(.int .u64 0),(.int .u64 0)]),jk 7 .i64 0] [2,3,4,6]
(jq [jL 9 4 3,jL 10 2 4,jc 11 401 [9,10],js 8 (.alloc [(.int .u64 0),(.int .u64 0),(.int .u64 0)]),jw 3 8 11] [2,3,4,6,8]
(.seq (.block 0
(jq [jL 13 4 3,jf 14 0 8,jL 15 2 14,jc 16 384 [13,15],js 17 (.un .not (.t 16)),jm 12 17] [2,3,4,6,8,12]
(jC 12
(jq [jL 18 2 4,jw 2 6 18,jk 7 .i64 2] [6,7]
.ret)
(jq [jL 20 4 3,jf 21 2 8,jl 22 1 21,js 23 (.build [(.int .u64 0),(.int .u64 0)] [(0,1,(.t 22))]),jf 24 0 8,jL 25 2 24,jc 26 402 [20,23,25],js 27 (.un .not (.t 26)),jm 19 27] [2,3,4,6,8,19]
(jC 19
(jq [jL 28 2 4,jw 2 6 28,jk 7 .i64 1] [6,7]
.ret)
(jq [jm 30 2,jm 29 30] [3,4,6,8,29]
(jC 29
(jq [jL 31 2 4,jw 2 6 31,jk 7 .i64 4] [6,7]
.ret)
.skip)))))))
(jq [jL 32 4 3,jL 33 2 4,jf 34 0 8,jL 35 2 34,jc 36 403 [32,33,35],je 37 36 0,je 38 36 1,jw 2 6 37,jm 7 38] [6,7]
.ret))))⟩
def ZdT : IFn:=⟨[.cell 4 true 3],
(jq [jx 2 4 0,jx 3 2 1,js 4 (.alloc [(.int .u64 0),(.int .u64 0),(.int .u64 0)])] [2,3,4]
(jq [jf 8 0 2,jl 9 1 8,jf 10 1 2,jl 11 1 10,jL 12 2 3,jc 13 342 [9,11,12],jm 7 13,je 14 7 0,je 15 7 1,js 5 (.alloc [(.int .u64 0),(.int .u64 0),(.int .u64 0)]),jw 3 5 14,jm 6 15] [4,5]
(jq [jL 16 3 5,jw 3 4 16] [4]
.ret)))⟩
def ZbU : IFn:=⟨[.tmp 6],
(jq [jx 3 4 0,jx 4 2 1,jx 5 2 2,jv 6 false] [3,4,5]
(jq [jf 10 0 3,jl 11 1 10,jL 12 2 4,jL 13 2 5,jc 14 174 [11,12,13],jm 9 14,je 15 9 0,je 16 9 1,jm 7 15,jm 8 16] [7]
(jq [jm 17 7,ji 18 .eql 17 .u8 1,jm 6 18] [6]
.ret)))⟩
def Zax : IC :=
(jq [ji 25 .lss 24 .i64 7] [3,4,5,6,8,24,25]
(.seq (jC 25
.skip
(.exit 0))
(.seq (.block 1
(jq [jm 26 24,jm 10 26] [3,4,5,6,8,10,24]
(jq [jf 28 0 3,jl 29 1 28,jL 30 2 4,jL 31 4 3,jL 32 2 8,jm 33 10,jc 34 406 [31,32,33],js 35 (.call false (.f 263) [(.t 29),(.c (.int .u8 1)),(.t 30),(.t 34)]),jm 27 35,je 36 27 0,je 37 27 1,js 11 (.alloc [(.int .u64 0),(.int .u64 0),(.int .u8 0),(.int .u8 0)]),jw 4 11 36,jm 12 37] [3,4,5,6,8,11,24]
(.seq (jq [jL 38 4 3,jf 39 0 11,jL 40 2 39,jc 41 384 [38,40],js 42 (.un .not (.t 41))] [3,4,5,6,8,11,24,42]
(jC 42
(.exit 1)
.skip))
(jq [jL 43 4 3,jf 44 0 11,jL 45 2 44,jc 46 401 [43,45],js 47 (.field true 0 2 (.t 46)),js 13 (.alloc [(.int .u64 0),(.int .u64 0)]),jw 2 13 47] [3,4,5,6,8,11,13,24]
(jq [jL 48 4 3,jL 49 2 13,jc 50 384 [48,49],jm 51 50,jg (jL 52 4 3) 51 true,jg (jL 53 2 13) 51 true,jg (jL 54 2 5) 51 true,jg (jc 55 402 [52,53,54]) 51 true,jp 56 51 55] [3,4,5,6,8,11,24,56]
(jC 56
(jq [jf 57 0 11,jL 58 2 57,jw 2 6 58,jk 7 .i64 0] [6,7]
.ret)
.skip)))))))
(jr [ji 59 .add 24 .i64 1,jm 24 59] [3,4,5,6,8,24]))))
def Zai : IC:=.loop [3,4,5,6,8,24] Zax
def ZaZ : IFn:=⟨[.cell 6 true 2,.tmp 7],
(jq [jx 3 4 0,jx 4 2 1,jx 5 2 2,js 6 (.alloc [(.int .u64 0),(.int .u64 0)]),jk 7 .i64 0] [3,4,5,6]
(jq [jL 15 4 3,jL 16 2 4,jL 17 2 5,jc 18 405 [15,16,17],jm 14 18,je 19 14 0,je 20 14 1,js 8 (.alloc [(.int .u64 0),(.int .u64 0)]),jw 2 8 19,jm 9 20] [3,4,5,6,8,9]
(.seq (jq [jm 21 9,js 22 (.un .not (.t 21))] [3,4,5,6,8,22]
(jC 22
(jq [jL 23 2 4,jw 2 6 23,jk 7 .i64 2] [6,7]
.ret)
.skip))
(.seq (jq [jk 24 .i64 0] [3,4,5,6,8,24]
(.block 0
 Zai))
(jq [jL 60 2 4,jw 2 6 60,jk 7 .i64 3] [6,7]
.ret)))))⟩
def ZaD : IFn:=⟨[.cell 6 true 2,.tmp 7],
(jq [jx 3 4 0,jx 4 2 1,jx 5 2 2,js 6 (.alloc [(.int .u64 0),(.int .u64 0)]),jv 7 false] [3,4,5,6]
(.seq (jq [jf 14 3 3,jl 15 1 14,js 16 (.un .not (.t 15))] [3,4,5,6,16]
(jC 16
(jq [js 17 (.build [(.int .u64 0),(.int .u64 0)] []),jw 2 6 17,jv 7 false] [6,7]
.ret)
.skip))
(jq [jf 19 0 3,jl 20 1 19,jf 21 2 3,jl 22 1 21,jL 23 2 4,jc 24 342 [20,22,23],jm 18 24,je 25 18 0,je 26 18 1,js 8 (.alloc [(.int .u64 0),(.int .u64 0),(.int .u64 0)]),jw 3 8 25,jm 9 26] [3,5,6,8]
(.seq (jq [jf 28 0 3,jl 29 1 28,jf 30 0 8,jL 31 2 30,jc 32 189 [29,31],jm 27 32,je 33 27 0,je 34 27 1,jm 10 33,jm 11 34] [3,5,6,8,10]
(jq [jm 35 10,ji 36 .neq 35 .u8 2] [3,5,6,8,36]
(jC 36
(jq [js 37 (.build [(.int .u64 0),(.int .u64 0)] []),jw 2 6 37,jv 7 false] [6,7]
.ret)
.skip)))
(jq [jf 39 0 3,jl 40 1 39,jL 41 2 5,jf 42 0 8,jL 43 2 42,js 44 (.call false (.f 257) [(.t 40),(.c (.int .u8 1)),(.t 41),(.t 43)]),jm 38 44,je 45 38 0,je 46 38 1,js 12 (.alloc [(.int .u64 0),(.int .u64 0),(.int .u8 0),(.int .u8 0)]),jw 4 12 45,jm 13 46] [3,6,12]
(jq [jf 47 0 12,jL 48 2 47,jL 49 4 3,jf 50 0 12,jL 51 2 50,jc 52 384 [49,51],jw 2 6 48,jm 7 52] [6,7]
.ret))))))⟩
def ZcQ : IFn:=⟨[.cell 6 true 2],
(jq [jx 3 4 0,jx 4 2 1,js 6 (.alloc [(.int .u64 0),(.int .u64 0)])] [2,3,4,6]
(jq [jf 14 0 3,jl 15 1 14,jf 16 0 4,jl 17 1 16,jm 18 2,js 19 (.un .neg (.t 18)),js 20 (.call false (.f 393) [(.t 15),(.c (.int .u8 1)),(.t 17),(.t 19)]),jm 13 20,je 21 13 0,je 22 13 1,je 23 13 2,jm 7 21,jm 8 22,jm 9 23] [2,3,4,6,7]
(jq [jf 25 0 3,jl 26 1 25,jf 27 1 4,jl 28 1 27,jm 29 2,js 30 (.un .neg (.t 29)),js 31 (.call false (.f 393) [(.t 26),(.c (.int .u8 1)),(.t 28),(.t 30)]),jm 24 31,je 32 24 0,je 33 24 1,je 34 24 2,jm 10 32,jm 11 33,jm 12 34] [6,7,10]
(jq [jm 35 7,jm 36 10,js 37 (.build [(.int .u64 0),(.int .u64 0)] [(0,1,(.t 35)),(1,1,(.t 36))]),jw 2 6 37] [6]
.ret))))⟩
structure HasO (gdb : Nat) (T : Tbl) : Prop where
 Zjw : T 327 = some Zag
 polish_Polish : T 354 = some Zca
 law28_opens : T 355 = some Zcp
 Zoa : T 356 = some Zih
 ZmE : T 357 = some ZgT
 Zly : T 359 = some ZdN
 polish_walk_finite : T 384 = some ZbS
 polish_walk_from : T 385 = some ZcP
 law28_four : T 386 = some Zig
 polish_walk_from_1 : T 395 = some ZbT
 polish_walk_on : T 396 = some Zbd
 polish_walk_at : T 401 = some ZdT
 polish_walk_nearer : T 402 = some ZbU
 polish_walk_step : T 403 = some ZaZ
 polish_walk_shift : T 405 = some ZaD
 polish_walk_part : T 406 = some ZcQ
end Go.Cv
set_option maxRecDepth 100000
namespace Go.Cv
def tblL (gdb : Nat) : List (Option IFn):=[none,
 none,
 none,
 none,
 none,
 none,
 none,
 some ZeW,
 some Zgt,
 none,
 some Zgr,
 none,
 some Zbl,
 none,
 some Zen,
 some Zkq,
 some Zeo,
 some Zkk,
 some Zgu,
 some Zgs,
 some ZfB,
 some Zeq,
 some ZjN,
 some Zga,
 some ZaF,
 some Zfb,
 some ZlQ,
 some ZlN,
 none,
 none,
 some Zki,
 some Ziu,
 some ZhM,
 some Zkj,
 some Zhi,
 some Ziy,
 some ZbD,
 some Zkd,
 some ZfX,
 some Zem,
 some ZlK,
 some ZhL,
 some ZbP,
 some ZhA,
 some Zdf,
 some Zgo,
 some ZlM,
 some ZfZ,
 some Zek,
 some ZkR,
 some Zda,
 some ZmY,
 some Zay,
 some ZaV,
 some Zhz,
 some ZoL,
 some Zjr,
 some Zku,
 some Zgw,
 some Zdv,
 some ZdW,
 none,
 some Ziv,
 some Ziw,
 some ZhH,
 some ZeO,
 some Zcs,
 some ZaQ,
 some Zkh,
 some Zke,
 some Zkg,
 some Ziz,
 some Zjp,
 some Zix,
 some ZjO,
 some Zif,
 some ZmB,
 some ZcZ,
 some ZjQ,
 some ZdL,
 some ZhJ,
 some Zjn,
 some Zgn,
 some ZhI,
 some Zgm,
 some Zit,
 some Zjl,
 some Zez,
 some ZcV,
 some Zjo,
 some ZkS,
 some Zis,
 some ZiC,
 some Zer,
 some Zhr,
 some Zdm,
 some ZdX,
 some Zdw,
 some Zhj,
 some Zka,
 some Zec,
 some Zkb,
 some ZhK,
 some ZmZ,
 some ZmX,
 some ZkQ,
 some Zna,
 some ZhE,
 some ZjX,
 some ZlL,
 some ZeM,
 some ZhG,
 some Zic,
 some Znb,
 some (ZaP gdb),
 some ZdO,
 some Znc,
 some ZjV,
 some Zid,
 some ZbH,
 some Zfx,
 some Zie,
 none,
 none,
 none,
 none,
 none,
 none,
 none,
 none,
 none,
 none,
 none,
 none,
 none,
 none,
 none,
 none,
 none,
 none,
 none,
 none,
 none,
 none,
 none,
 none,
 none,
 none,
 none,
 some Zgp,
 some ZdM,
 some ZeP,
 none,
 none,
 some Zkf,
 some Zhg,
 some Zhh,
 some Zgq,
 some ZfA,
 none,
 none,
 none,
 none,
 none,
 some ZlO,
 some Zes,
 some ZlP,
 none,
 none,
 some ZgU,
 none,
 none,
 none,
 none,
 some Zbi,
 none,
 some Zks,
 some Zau,
 some Zhs,
 some ZdU,
 some ZeY,
 some ZdV,
 some ZlI,
 some Zdl,
 some ZlJ,
 some Zcl,
 some ZcD,
 none,
 none,
 some ZaN,
 some Zhq,
 some ZdS,
 some ZiE,
 some Zgv,
 some Zet,
 some ZlH,
 some ZhR,
 some Zjm,
 some ZgQ,
 some ZcX,
 some ZaJ,
 some ZbJ,
 some Zfc,
 some Zfv,
 some Zdx,
 some Zjk,
 some Zjj,
 some ZmA,
 some Zfw,
 some ZjP,
 none,
 none,
 none,
 none,
 none,
 none,
 none,
 none,
 none,
 some ZaI,
 some ZhN,
 none,
 some Zct,
 none,
 none,
 none,
 none,
 some ZfD,
 none,
 some Zcw,
 some Zkm,
 some Zkl,
 some ZiA,
 some Zkn,
 some ZeQ,
 some Zep,
 some ZfY,
 some ZaS,
 none,
 none,
 none,
 none,
 none,
 none,
 none,
 none,
 none,
 none,
 none,
 none,
 some ZcF,
 some Zko,
 some ZhC,
 none,
 none,
 none,
 some ZhQ,
 some ZhB,
 none,
 none,
 none,
 none,
 some ZjR,
 some ZjS,
 none,
 none,
 none,
 none,
 some ZaC,
 some Zdr,
 some ZcO,
 some ZeA,
 some Zji,
 some Zcv,
 some ZeT,
 some Zee,
 some Zdh,
 some Zas,
 some Zdq,
 some Zdp,
 none,
 none,
 none,
 none,
 none,
 some ZgS,
 some Zel,
 none,
 none,
 some Zgc,
 some Zgb,
 some Zfa,
 some Zcx,
 some Zcy,
 some ZbZ,
 some Zbc,
 some ZgR,
 some ZeR,
 some ZbQ,
 some ZeS,
 some ZhO,
 some ZeU,
 some ZbV,
 some ZhP,
 some Zfy,
 none,
 some Zkp,
 some ZaO,
 some ZbW,
 some ZaE,
 some Zjq,
 some Zed,
 some Zkt,
 some Zfd,
 none,
 some ZiD,
 none,
 none,
 none,
 none,
 none,
 none,
 none,
 none,
 none,
 none,
 none,
 some Zag,
 none,
 none,
 none,
 none,
 none,
 none,
 none,
 none,
 none,
 none,
 none,
 none,
 none,
 none,
 some Zfz,
 none,
 some ZaT,
 none,
 some Zdi,
 none,
 none,
 none,
 none,
 some Zdb,
 none,
 none,
 some Zca,
 some Zcp,
 some Zih,
 some ZgT,
 none,
 some ZdN,
 none,
 none,
 none,
 none,
 none,
 none,
 none,
 none,
 none,
 none,
 none,
 none,
 none,
 none,
 none,
 some ZbM,
 some Zhc,
 some Zhd,
 some Zhe,
 some Zdc,
 some Zcr,
 some ZiB,
 some ZfM,
 none,
 some ZbS,
 some ZcP,
 some Zig,
 none,
 none,
 none,
 none,
 none,
 none,
 some ZcW,
 some Zcu,
 some ZbT,
 some Zbd,
 none,
 none,
 some ZjM,
 some Zgk,
 some ZdT,
 some ZbU,
 some ZaZ,
 some ZjL,
 some ZaD,
 some ZcQ,
 none,
 none,
 none]
def tbl (gdb : Nat) : Tbl:=fun n => (tblL gdb).getD n none
theorem hasA (gdb : Nat) : HasA gdb (tbl gdb):=⟨rfl,rfl,rfl,rfl,rfl,rfl,rfl,rfl,rfl,rfl,rfl,rfl,rfl,rfl,rfl,rfl,rfl,rfl,rfl,rfl,rfl,rfl,rfl,rfl,rfl,rfl,rfl,rfl,rfl⟩
theorem hasB (gdb : Nat) : HasB gdb (tbl gdb):=⟨rfl,rfl,rfl,rfl,rfl,rfl,rfl,rfl,rfl,rfl,rfl,rfl,rfl,rfl⟩
theorem hasC (gdb : Nat) : HasC gdb (tbl gdb):=⟨rfl,rfl,rfl,rfl,rfl,rfl,rfl,rfl,rfl,rfl,rfl,rfl,rfl,rfl,rfl,rfl,rfl,rfl,rfl,rfl,rfl,rfl,rfl,rfl,rfl,rfl⟩
theorem hasD (gdb : Nat) : HasD gdb (tbl gdb):=⟨rfl,rfl,rfl,rfl,rfl,rfl,rfl,rfl,rfl,rfl,rfl,rfl,rfl,rfl,rfl,rfl,rfl,rfl,rfl,rfl,rfl,rfl⟩
theorem hasE (gdb : Nat) : HasE gdb (tbl gdb):=⟨rfl,rfl,rfl,rfl,rfl,rfl,rfl,rfl,rfl,rfl,rfl,rfl,rfl,rfl,rfl,rfl,rfl,rfl⟩
theorem hasF (gdb : Nat) : HasF gdb (tbl gdb):=⟨rfl,rfl,rfl,rfl,rfl,rfl,rfl,rfl⟩
theorem hasG (gdb : Nat) : HasG gdb (tbl gdb):=⟨rfl,rfl,rfl,rfl,rfl,rfl,rfl,rfl,rfl,rfl,rfl,rfl,rfl,rfl,rfl,rfl,rfl,rfl,rfl,rfl,rfl,rfl,rfl,rfl,rfl,rfl,rfl,rfl,rfl,rfl,rfl,rfl,rfl,rfl,rfl,rfl,rfl⟩
theorem hasH (gdb : Nat) : HasH gdb (tbl gdb):=⟨rfl,rfl,rfl,rfl,rfl,rfl,rfl,rfl,rfl,rfl,rfl,rfl,rfl⟩
theorem hasJ (gdb : Nat) : HasJ gdb (tbl gdb):=⟨rfl,rfl,rfl,rfl,rfl,rfl,rfl,rfl,rfl,rfl,rfl,rfl,rfl,rfl,rfl,rfl,rfl,rfl,rfl,rfl,rfl,rfl,rfl,rfl,rfl,rfl,rfl,rfl,rfl,rfl,rfl,rfl,rfl,rfl,rfl,rfl,rfl,rfl,rfl,rfl,rfl,rfl,rfl,rfl,rfl,rfl⟩
theorem hasK (gdb : Nat) : HasK gdb (tbl gdb):=⟨rfl,rfl,rfl,rfl,rfl,rfl,rfl,rfl,rfl,rfl,rfl,rfl,rfl,rfl,rfl,rfl,rfl⟩
theorem hasO (gdb : Nat) : HasO gdb (tbl gdb):=⟨rfl,rfl,rfl,rfl,rfl,rfl,rfl,rfl,rfl,rfl,rfl,rfl,rfl,rfl,rfl,rfl⟩
end Go.Cv
namespace Go.Cv
def ntz32 : List Nat:=[0,1,28,2,29,14,24,3,30,22,20,15,25,17,4,8,31,27,13,23,21,19,16,7,26,12,18,6,11,5,10,9]
def Glob (G : Nat→Option (List AV)) (g : Nat) : Prop:=G g = some (ntz32.map fun (d : Nat) => .int .u8 (d : Int))
structure Al (G : Nat→Option (List AV)) (T : Tbl) (g : Nat) : Prop where
 A : HasA g T
 B : HasB g T
 C : HasC g T
 D : HasD g T
 E : HasE g T
 F : HasF g T
 U : HasG g T
 H : HasH g T
 J : HasJ g T
 gl : Glob G g
end Go.Cv
